/- Layer 14: paths, the program's and the reference's. -/
import Derived.Test.YtjlbgjodfikplaaGreatY0
set_option linter.unusedVariables false
set_option linter.unusedSimpArgs false
namespace Go.Ab
attribute [local go_sem] evParts_nil evParts_cons consP_some buildQ_some bldC_some mksQ_some mksC_some fillAll_nil fillAll_cons chop_zero chop_succ rep_zero rep_succ List.flatten_cons List.flatten_nil boxQ_c boxC_eq avCells_ptr List.append_nil List.all_nil List.all_cons Bool.true_and Bool.and_true isOne_int isOne_bool isOne_str isOne_nils isOne_own isOne_ptr isOne_slv lay_nil0 lay_cons0 lay_nil lay_succ List.drop_zero List.take_succ_cons List.take_zero List.drop_succ_cons List.getElem?_cons_zero List.getElem?_cons_succ List.take_nil List.drop_nil List.nil_append List.cons_append a_skip a_exit a_ret a_seq a_block a_cond a_reg thn_norm thn_exit thn_ret blk_norm blk_ret blk_exit rg_some cnd_true cnd_false ops_nil ops_g stepQ_quiet stepQ_makes stepW_some stepW_none stepG_tt stepG_tf stepG_ft stepG_ff stepG_ttN stepG_tfN stepG_ftN stepG_ffN stepG_skip stepG_skipN qv_s ev_t ev_c bin_add bin_sub bin_mul bin_lss bin_leq bin_gtr bin_geq bin_eql bin_neq viewOld_get add_next put_next add_row add_map put_get kl_row kl_none kl_map ops_mv ops_pick ops_new0 ops_new1 ops_new2 ops_box0 ops_box1 ops_box2 ops_build ops_mks0 ops_mks1 ops_mks2 ops_bin ops_un ops_len0 ops_len1 ops_len2 ops_call0 ops_call1 ops_call2 ops_fld ops_ixa ops_ext ops_app0 ops_app1 ops_app2 ops_mm ops_ixr ops_conv ops_convs ops_nilc ops_ixs ops_ixg ops_mkf ops_bb ops_nq ops_eqs ops_ld0 ops_ld1 ops_ld2 ops_st ops_calli pickQ_true pickQ_false ldRow_one ldQ_ref ldQ_ptr cut_false cut_true binQ_some unQ_some un_not un_neg fldQ_ptr fldQ_ref extQ_tup evs_nil evs_cons consO_some lenQ_slv lenQ_ro lenQ_own lenQ_nils lenQ_str stQ_ptr stR_one avCells_agg avCells_int avCells_bool avCells_str avCells_slv avCells_own avCells_nils get_set List.length_cons List.length_nil Res_some Res_thn Res_blk seqP_norm seqP_exit seqP_ret blkP_norm blkP_exit blkP_ret rndP_norm rndP_exit rndP_ret Fin_norm Fin_ret Fin_exit rvV_ptr rvC_one evRV_t evRV_c evRVs_nil evRVs_cons ofL_nil ofL_cons tupOf_one tupOf_two exP if_true if_false not_false_eq_true not_true_eq_false decide_true decide_false Option.isSome_some eq_self and_self and_true true_and and_false false_and Nat.zero_add Nat.add_zero decide_eq_true_eq decide_eq_false_iff_not ne_eq Bool.false_eq_true Bool.true_eq_false reduceCtorEq Nat.reduceLT Nat.reduceEqDiff Nat.reduceAdd Nat.reduceSub Nat.reduceMul Nat.reduceLeDiff get_lf List.length_map mapF_nil mapF_cons mapC_some callQ_fn callR_some callS_cint callS_cbool callS_cstr frz_own frzR_row frzE_some frz_aggC frzA_some frz_int frz_bool frz_str frz_ro frz_nils frz_ref frz_slv view_get view_next viewOld_next eqsQ_agg eqC_some eqK_nil eqK_cons andO_some eq1_int eq1_bool eq1_str bbQ_some mmQ_some mm_nil mm_max mm_min convQ_some mkfQ_some convsQ_some nilcQ_ptr nilcQ_ref bin_quo bin_rem Int.reduceEq Int.reduceNe Int.reduceNeg flatA_agg flatA_int flatA_bool flatA_str flatA_nils flatA_ro flatA_slv flat_int flat_bool flat_str flat_nils flat_ro flat_slv num_int num_bool num_str all_mem_cons all_mem_nil export_flat export_tup callS_nums callS_flat callS_tup Bool.not_true Bool.not_false Bool.and_false Bool.false_and Bool.or_true Bool.true_or Bool.or_false Bool.false_or Bool.not_eq_true Bool.not_eq_false Bool.not_not Bool.not_eq_eq_eq_not Bool.not_eq_true' E0_next E0_get eq_add_one add_one_eq add_eq_add lt_add_self add_lt_add Nat.add_assoc ops_mkv mkvQ_some mkvC_some stv_int stv_bool stv_str stv_nils stv_ro stv_slv isOne_ro ops_slr0 ops_slr1 slrA_ptr slrA_ref frz_ptrC frzPt_one frzPc_some slrQ_some slrP_all stepQ_seal sealC_get slO_row slO_none slO_map seal_next callS_tupC callS_aggC callS_exC callT_nil callT_no callT_yes adp_ex adp_agg adp_tup adpL_nil adpL_cons adK_some adJ_some adA_some adT_some adp_int adp_bool adp_str adp_nils adp_ro adp_slv hasRo_int hasRo_bool hasRo_str hasRo_nils hasRo_ro hasRo_agg hasRo_tup hasRo_ex List.any_nil List.any_cons bin_seq bin_sne appQ_some appR_e_nils appR_e_own appR_cons appN_nils appN_own appO_row elems_ro elems_nils elems_own elO_row view_topD add_top0D add_top1D seal_tops E0_tops put_tops nqQ_slv List.not_mem_nil or_false or_true true_or false_or List.mem_cons frz_fnC frzFn_some nqQ_ro nqQ_nils List.map_nil List.map_cons expF_some xpt_own xpO_row xpO2_some xpt_agg xpt_tup xpA_some xpT_some xptL_nil xptL_cons xpC_some xpt_int xpt_bool xpt_str xpt_nils xpt_ro xpt_slv mapF2_cells nodup_one nodup_nil take_all take_all_map List.contains_nil Nat.le_refl mapF2_pts
variable {prim : Nat → List AV → Option AV}
set_option maxRecDepth 10000
theorem F131 : F.get 131 = some c131 := by rfl
theorem F93 : F.get 93 = some c93 := by rfl
theorem F90 : F.get 90 = some c90 := by rfl
def ndOf (o : Option Nd) : Nd := o.getD ⟨0, 0, 0⟩
def Nd.pt (n : Nd) : Pt := ⟨n.x, n.y⟩
theorem findNV_eq (o : Option Nd) : findNV o = .tup [.agg [.int .i64 (ndOf o).id, .int .i64 (ndOf o).x, .int .i64 (ndOf o).y], .bool o.isSome] := by
  cases o <;> rfl
def lineL (x y : Nd) (via : List Pt) : List Pt := x.pt :: (via ++ [y.pt])
theorem le_maxL {n : Nat} (h : n ≤ 1099511627776) : n ≤ maxL := h
theorem fit16 {n : Nat} (h : n ≤ 1073741824) : (1 + n) * 16 ≤ maxL ∧ (1 + n + 1) * 16 ≤ maxL := ⟨le_maxL (by omega), le_maxL (by omega)⟩
theorem fit16' {n : Nat} (h : n + 1 ≤ 1073741824) : (n + 2) * 16 ≤ maxL ∧ (n + 3) * 16 ≤ maxL := ⟨le_maxL (by omega), le_maxL (by omega)⟩
theorem export_tup2 {h : AH} {k id i n k' : Nat} {es : List (List AV)} {cls : Nat} {b : AV} (hg : h.get id = some (.row k' es cls false)) (hn : i + n ≤ es.length) (hf : ∀ e ∈ es, ∀ c ∈ e, Flat c) (hb : Flat b) :
    export1 (.tup [.own k id i n, b], h) = some (.tup [.ex k ((es.drop i).take n), b]) := by
  rw [export_eq, xpt_tup, xptL_cons, xpt_ownRow (f := 2) hg hn hf, xptL_cons, xpt_flat hb, xptL_nil]
  rfl
theorem export_all2 {h : AH} {k id n k' : Nat} {es : List (List AV)} {cls : Nat} {b : AV} (hg : h.get id = some (.row k' es cls false)) (hn : n = es.length) (hf : ∀ e ∈ es, ∀ c ∈ e, Flat c) (hb : Flat b) :
    export1 (.tup [.own k id 0 n, b], h) = some (.tup [.ex k es, b]) := by
  rw [export_tup2 hg (by omega) hf hb, List.drop_zero, hn, List.take_length]
theorem export_all1 {h : AH} {k id n k' : Nat} {es : List (List AV)} {cls : Nat} (hg : h.get id = some (.row k' es cls false)) (hn : n = es.length) (hf : ∀ e ∈ es, ∀ c ∈ e, Flat c) :
    export1 (.own k id 0 n, h) = some (.ex k es) := by
  rw [export_ownRow hg (by omega) hf, List.drop_zero, hn, List.take_length]
theorem line131 (s : Sv) (a : Ar) (hl : s.nodes.length ≤ maxLen) (hv : a.via.length ≤ 1073741824) :
    (om prim F).p 131 [.agg s.plan, .agg a.av] = some (.tup [.ex 2 ((lineL (ndOf (findN s a.fr)) (ndOf (findN s a.to)) a.via).map Pt.av), .bool ((findN s a.fr).isSome && (findN s a.to).isSome)]) := by
  refine call_of F131 rfl ?_
  have h1 := node64 (prim := prim) s a.fr hl
  have h2 := node64 (prim := prim) s a.to hl
  rw [findNV_eq] at h1 h2
  generalize findN s a.fr = o1 at h1 ⊢
  generalize findN s a.to = o2 at h2 ⊢
  generalize hx : ndOf o1 = x at h1 ⊢
  generalize hy : ndOf o2 = y at h2 ⊢
  generalize o1.isSome = b1 at h1 ⊢
  generalize o2.isSome = b2 at h2 ⊢
  clear hx hy
  simp only [Sv.plan] at h1 h2
  cases hvia : a.via with
  | nil =>
    have m1 : 32 ≤ maxL := by decide
    cases hvn : a.vn with
    | true =>
      unfold c131
      repeat' (first | done | (simp -implicitDefEqProofs only [↓reduceIte, go_sem, *, Ar.av, Sv.plan, slv_nil]) | ((first | rw [stepG_split] | rw [cnd_split] | rw [pickQ_split]); split))
      · exact export_tup2 (k' := 2) (cls := 4) (es := (lineL x y []).map Pt.av) (by simp only [↓reduceIte, go_sem]; rfl) (by simp [lineL]) (pts_flat _) trivial
      · exact export_tup2 (k' := 2) (cls := 4) (es := (lineL x y []).map Pt.av) (by simp only [↓reduceIte, go_sem]; rfl) (by simp [lineL]) (pts_flat _) trivial
    | false =>
      unfold c131
      repeat' (first | done | (simp -implicitDefEqProofs only [↓reduceIte, go_sem, *, Ar.av, Sv.plan, slv_mt]) | ((first | rw [stepG_split] | rw [cnd_split] | rw [pickQ_split]); split))
      · exact export_tup2 (k' := 2) (cls := 4) (es := (lineL x y []).map Pt.av) (by simp only [↓reduceIte, go_sem]; rfl) (by simp [lineL]) (pts_flat _) trivial
      · exact export_tup2 (k' := 2) (cls := 4) (es := (lineL x y []).map Pt.av) (by simp only [↓reduceIte, go_sem]; rfl) (by simp [lineL]) (pts_flat _) trivial
  | cons z zs =>
    rw [hvia] at hv; simp only [List.length_cons] at hv
    obtain ⟨m2, m3⟩ := fit16' hv
    have m4 : 1 + (zs.length + 1) = zs.length + 2 := Nat.add_comm ..
    have m5 : 1 + (zs.length + 2) = zs.length + 3 := Nat.add_comm ..
    unfold c131
    repeat' (first | done | (simp -implicitDefEqProofs only [↓reduceIte, go_sem, *, Ar.av, Sv.plan, slv_cons]) | ((first | rw [stepG_split] | rw [cnd_split] | rw [pickQ_split]); split))
    all_goals
      refine export_all2 (k' := 2) (cls := 4) (es := (lineL x y (z :: zs)).map Pt.av) ?_ ?_ (pts_flat _) trivial
      · simp only [lineL, List.map_cons, List.cons_append, List.map_append, List.map_nil, Nd.pt, Pt.av]
        simp only [↓reduceIte, go_sem]
      · simp [lineL]
def pathL (s : Sv) (id : Int) : Option (List Pt) := match findA s id with
  | some a => if (findN s a.fr).isSome && (findN s a.to).isSome then some (lineL (ndOf (findN s a.fr)) (ndOf (findN s a.to)) a.via) else none
  | none => none
def pathV : Option (List Pt) → AV
  | some l => .tup [.ex 2 (l.map Pt.av), .int .i64 0]
  | none => .tup [.nils, .int .i64 7]
theorem anyRo_pts (n : Nat) (l : List Pt) : ((l.map Pt.av).any fun e => e.any (hasRo (n + 1))) = false := by
  rw [List.any_eq_false]
  intro e he
  obtain ⟨p, _, rfl⟩ := List.mem_map.1 he
  simp [Pt.av, hasRo]
theorem anyRo_cells (n : Nat) (l : List Int) : ((l.map cell).any fun e => e.any (hasRo (n + 1))) = false := by
  rw [List.any_eq_false]
  intro e he
  obtain ⟨p, _, rfl⟩ := List.mem_map.1 he
  simp [cell, hasRo]
attribute [local go_sem] anyRo_pts anyRo_cells
structure OkS (s : Sv) : Prop where
  nl : s.nodes.length ≤ maxLen
  al : s.arcs.length ≤ maxLen
  tl : s.feats.length ≤ maxLen
  vl : ∀ a ∈ s.arcs, a.via.length ≤ 1073741824
  pl : ∀ f ∈ s.feats, f.parts.length ≤ 1073741824
theorem path93 (s : Sv) (id : Int) (ok : OkS s) : (om prim F).p 93 [.agg s.plan, .int .i64 id] = some (pathV (pathL s id)) := by
  refine call_of F93 rfl ?_
  have h := arc134 (prim := prim) s id ok.al ok.vl
  unfold pathL
  cases hf : findA s id with
  | none =>
    rw [hf] at h
    simp only [refAV, noArc, Sv.plan] at h
    unfold c93
    repeat' (first | done | (simp -implicitDefEqProofs only [↓reduceIte, go_sem, *, Sv.plan, pathV, export_eq]) | ((first | rw [stepG_split] | rw [cnd_split] | rw [pickQ_split]); split))
  | some a =>
    rw [hf] at h
    have hm : a ∈ s.arcs := List.mem_of_find?_eq_some hf
    have h2 := line131 (prim := prim) s { a with vn := false } ok.nl (ok.vl a hm)
    simp only [refAV, arcV, Sv.plan] at h
    simp only
    have hs : ∀ l, slv false 2 l = .ro 2 l := fun l => by simp [slv]
    simp only [Ar.av, Sv.plan, hs] at h2
    generalize lineL (ndOf (findN s a.fr)) (ndOf (findN s a.to)) a.via = ll at h2 ⊢
    generalize (findN s a.fr).isSome = b1 at h2 ⊢
    generalize (findN s a.to).isSome = b2 at h2 ⊢
    clear hs
    have hl1 : (a.via.map Pt.av).length = a.via.length := List.length_map _
    have hl2 : (ll.map Pt.av).length = ll.length := List.length_map _
    cases b1 <;> cases b2 <;> simp only [Bool.and_true, Bool.and_false, Bool.true_and, Bool.false_and, if_true, if_false, Bool.false_eq_true] at h2 ⊢ <;> unfold c93
    all_goals repeat' (first | done | (simp -implicitDefEqProofs only [↓reduceIte, go_sem, *, Sv.plan, pathV, export_eq]) | ((first | rw [stepG_split] | rw [cnd_split] | rw [pickQ_split]); split))
end Go.Ab
namespace Go.Ab
attribute [local go_sem] evParts_nil evParts_cons consP_some buildQ_some bldC_some mksQ_some mksC_some fillAll_nil fillAll_cons chop_zero chop_succ rep_zero rep_succ List.flatten_cons List.flatten_nil boxQ_c boxC_eq avCells_ptr List.append_nil List.all_nil List.all_cons Bool.true_and Bool.and_true isOne_int isOne_bool isOne_str isOne_nils isOne_own isOne_ptr isOne_slv lay_nil0 lay_cons0 lay_nil lay_succ List.drop_zero List.take_succ_cons List.take_zero List.drop_succ_cons List.getElem?_cons_zero List.getElem?_cons_succ List.take_nil List.drop_nil List.nil_append List.cons_append a_skip a_exit a_ret a_seq a_block a_cond a_reg thn_norm thn_exit thn_ret blk_norm blk_ret blk_exit rg_some cnd_true cnd_false ops_nil ops_g stepQ_quiet stepQ_makes stepW_some stepW_none stepG_tt stepG_tf stepG_ft stepG_ff stepG_ttN stepG_tfN stepG_ftN stepG_ffN stepG_skip stepG_skipN qv_s ev_t ev_c bin_add bin_sub bin_mul bin_lss bin_leq bin_gtr bin_geq bin_eql bin_neq viewOld_get add_next put_next add_row add_map put_get kl_row kl_none kl_map ops_mv ops_pick ops_new0 ops_new1 ops_new2 ops_box0 ops_box1 ops_box2 ops_build ops_mks0 ops_mks1 ops_mks2 ops_bin ops_un ops_len0 ops_len1 ops_len2 ops_call0 ops_call1 ops_call2 ops_fld ops_ixa ops_ext ops_app0 ops_app1 ops_app2 ops_mm ops_ixr ops_conv ops_convs ops_nilc ops_ixs ops_ixg ops_mkf ops_bb ops_nq ops_eqs ops_ld0 ops_ld1 ops_ld2 ops_st ops_calli pickQ_true pickQ_false ldRow_one ldQ_ref ldQ_ptr cut_false cut_true binQ_some unQ_some un_not un_neg fldQ_ptr fldQ_ref extQ_tup evs_nil evs_cons consO_some lenQ_slv lenQ_ro lenQ_own lenQ_nils lenQ_str stQ_ptr stR_one avCells_agg avCells_int avCells_bool avCells_str avCells_slv avCells_own avCells_nils get_set List.length_cons List.length_nil Res_some Res_thn Res_blk seqP_norm seqP_exit seqP_ret blkP_norm blkP_exit blkP_ret rndP_norm rndP_exit rndP_ret Fin_norm Fin_ret Fin_exit rvV_ptr rvC_one evRV_t evRV_c evRVs_nil evRVs_cons ofL_nil ofL_cons tupOf_one tupOf_two exP if_true if_false not_false_eq_true not_true_eq_false decide_true decide_false Option.isSome_some eq_self and_self and_true true_and and_false false_and Nat.zero_add Nat.add_zero decide_eq_true_eq decide_eq_false_iff_not ne_eq Bool.false_eq_true Bool.true_eq_false reduceCtorEq Nat.reduceLT Nat.reduceEqDiff Nat.reduceAdd Nat.reduceSub Nat.reduceMul Nat.reduceLeDiff get_lf List.length_map mapF_nil mapF_cons mapC_some callQ_fn callR_some callS_cint callS_cbool callS_cstr frz_own frzR_row frzE_some frz_aggC frzA_some frz_int frz_bool frz_str frz_ro frz_nils frz_ref frz_slv view_get view_next viewOld_next eqsQ_agg eqC_some eqK_nil eqK_cons andO_some eq1_int eq1_bool eq1_str bbQ_some mmQ_some mm_nil mm_max mm_min convQ_some mkfQ_some convsQ_some nilcQ_ptr nilcQ_ref bin_quo bin_rem Int.reduceEq Int.reduceNe Int.reduceNeg flatA_agg flatA_int flatA_bool flatA_str flatA_nils flatA_ro flatA_slv flat_int flat_bool flat_str flat_nils flat_ro flat_slv num_int num_bool num_str all_mem_cons all_mem_nil export_flat export_tup callS_nums callS_flat callS_tup Bool.not_true Bool.not_false Bool.and_false Bool.false_and Bool.or_true Bool.true_or Bool.or_false Bool.false_or Bool.not_eq_true Bool.not_eq_false Bool.not_not Bool.not_eq_eq_eq_not Bool.not_eq_true' E0_next E0_get eq_add_one add_one_eq add_eq_add lt_add_self add_lt_add Nat.add_assoc ops_mkv mkvQ_some mkvC_some stv_int stv_bool stv_str stv_nils stv_ro stv_slv isOne_ro ops_slr0 ops_slr1 slrA_ptr slrA_ref frz_ptrC frzPt_one frzPc_some slrQ_some slrP_all stepQ_seal sealC_get slO_row slO_none slO_map seal_next callS_tupC callS_aggC callS_exC callT_nil callT_no callT_yes adp_ex adp_agg adp_tup adpL_nil adpL_cons adK_some adJ_some adA_some adT_some adp_int adp_bool adp_str adp_nils adp_ro adp_slv hasRo_int hasRo_bool hasRo_str hasRo_nils hasRo_ro hasRo_agg hasRo_tup hasRo_ex List.any_nil List.any_cons bin_seq bin_sne appQ_some appR_e_nils appR_e_own appR_cons appN_nils appN_own appO_row elems_ro elems_nils elems_own elO_row view_topD add_top0D add_top1D seal_tops E0_tops put_tops nqQ_slv List.not_mem_nil or_false or_true true_or false_or List.mem_cons frz_fnC frzFn_some nqQ_ro nqQ_nils List.map_nil List.map_cons expF_some xpt_own xpO_row xpO2_some xpt_agg xpt_tup xpA_some xpT_some xptL_nil xptL_cons xpC_some xpt_int xpt_bool xpt_str xpt_nils xpt_ro xpt_slv mapF2_cells nodup_one nodup_nil take_all take_all_map List.contains_nil Nat.le_refl mapF2_pts anyRo_pts anyRo_cells
variable {prim : Nat → List AV → Option AV}
set_option maxRecDepth 10000
theorem path90 (s : Sv) (id : Int) (ok : OkS s) : (om prim F).p 90 [.agg s.plan, .int .i64 id] = some (pathV (pathL s id)) := by
  refine call_of F90 rfl ?_
  have h := arc109 (prim := prim) s id ok.al ok.vl
  unfold pathL
  cases hf : findA s id with
  | none =>
    rw [hf] at h
    have h1 := node33 (prim := prim) s 0 ok.nl
    rw [findNV_eq] at h1
    simp only [findAV, noArc, Sv.plan] at h h1
    generalize (findN s 0).isSome = b1 at h1 ⊢
    generalize ndOf (findN s 0) = x at h1 ⊢
    unfold c90
    repeat' (first | done | (simp -implicitDefEqProofs only [↓reduceIte, go_sem, *, Sv.plan, pathV, export_eq]) | ((first | rw [stepG_split] | rw [cnd_split] | rw [pickQ_split]); split))
  | some a =>
    rw [hf] at h
    have hm : a ∈ s.arcs := List.mem_of_find?_eq_some hf
    have hv := ok.vl a hm
    have h1 := node33 (prim := prim) s a.fr ok.nl
    have h2 := node33 (prim := prim) s a.to ok.nl
    rw [findNV_eq] at h1 h2
    simp only [findAV, arcV, Sv.plan] at h h1 h2
    simp only
    generalize ndOf (findN s a.fr) = x at h1 ⊢
    generalize ndOf (findN s a.to) = y at h2 ⊢
    generalize (findN s a.fr).isSome = b1 at h1 ⊢
    generalize (findN s a.to).isSome = b2 at h2 ⊢
    clear hf hm ok
    have m0 : 16 ≤ maxL := by decide
    have m1 : 32 ≤ maxL := by decide
    cases hvia : a.via with
    | nil =>
      rw [hvia] at h
      cases hvn : a.vn with
      | true =>
        rw [hvn, List.map_nil, exs_nil] at h
        cases b1 <;> cases b2 <;> simp only [Bool.and_true, Bool.and_false, Bool.true_and, Bool.false_and, if_true, if_false, Bool.false_eq_true] <;> unfold c90
        all_goals repeat' (first | done | (simp -implicitDefEqProofs only [↓reduceIte, go_sem, *, Sv.plan, pathV, export_eq]) | ((first | rw [stepG_split] | rw [cnd_split] | rw [pickQ_split]); split))
        all_goals rfl
      | false =>
        rw [hvn, List.map_nil, exs_mt] at h
        cases b1 <;> cases b2 <;> simp only [Bool.and_true, Bool.and_false, Bool.true_and, Bool.false_and, if_true, if_false, Bool.false_eq_true] <;> unfold c90
        all_goals repeat' (first | done | (simp -implicitDefEqProofs only [↓reduceIte, go_sem, *, Sv.plan, pathV, export_eq]) | ((first | rw [stepG_split] | rw [cnd_split] | rw [pickQ_split]); split))
        all_goals rfl
    | cons z zs =>
      rw [hvia, List.map_cons, exs_cons] at h
      rw [hvia] at hv; simp only [List.length_cons] at hv
      obtain ⟨m2, m3⟩ := fit16' hv
      have m4 : 1 + (zs.length + 1) = zs.length + 2 := Nat.add_comm ..
      have m5 : 1 + (zs.length + 2) = zs.length + 3 := Nat.add_comm ..
      cases b1 <;> cases b2 <;> simp only [Bool.and_true, Bool.and_false, Bool.true_and, Bool.false_and, if_true, if_false, Bool.false_eq_true] <;> unfold c90
      · repeat' (first | done | (simp -implicitDefEqProofs only [↓reduceIte, go_sem, *, Sv.plan, pathV, export_eq]) | ((first | rw [stepG_split] | rw [cnd_split] | rw [pickQ_split]); split))
      · repeat' (first | done | (simp -implicitDefEqProofs only [↓reduceIte, go_sem, *, Sv.plan, pathV, export_eq]) | ((first | rw [stepG_split] | rw [cnd_split] | rw [pickQ_split]); split))
      · repeat' (first | done | (simp -implicitDefEqProofs only [↓reduceIte, go_sem, *, Sv.plan, pathV, export_eq]) | ((first | rw [stepG_split] | rw [cnd_split] | rw [pickQ_split]); split))
      · repeat' (first | done | (simp -implicitDefEqProofs only [↓reduceIte, go_sem, *, Sv.plan, pathV]) | ((first | rw [stepG_split] | rw [cnd_split] | rw [pickQ_split]); split))
        refine export_all2 (k' := 2) (cls := 6) (es := (lineL x y (z :: zs)).map Pt.av) ?_ ?_ (pts_flat _) trivial
        · simp only [lineL, List.map_cons, List.cons_append, List.map_append, List.map_nil, Nd.pt, Pt.av]
          simp only [↓reduceIte, go_sem]
        · simp [lineL]
end Go.Ab
namespace Go.Ab
attribute [local go_sem] evParts_nil evParts_cons consP_some buildQ_some bldC_some mksQ_some mksC_some fillAll_nil fillAll_cons chop_zero chop_succ rep_zero rep_succ List.flatten_cons List.flatten_nil boxQ_c boxC_eq avCells_ptr List.append_nil List.all_nil List.all_cons Bool.true_and Bool.and_true isOne_int isOne_bool isOne_str isOne_nils isOne_own isOne_ptr isOne_slv lay_nil0 lay_cons0 lay_nil lay_succ List.drop_zero List.take_succ_cons List.take_zero List.drop_succ_cons List.getElem?_cons_zero List.getElem?_cons_succ List.take_nil List.drop_nil List.nil_append List.cons_append a_skip a_exit a_ret a_seq a_block a_cond a_reg thn_norm thn_exit thn_ret blk_norm blk_ret blk_exit rg_some cnd_true cnd_false ops_nil ops_g stepQ_quiet stepQ_makes stepW_some stepW_none stepG_tt stepG_tf stepG_ft stepG_ff stepG_ttN stepG_tfN stepG_ftN stepG_ffN stepG_skip stepG_skipN qv_s ev_t ev_c bin_add bin_sub bin_mul bin_lss bin_leq bin_gtr bin_geq bin_eql bin_neq viewOld_get add_next put_next add_row add_map put_get kl_row kl_none kl_map ops_mv ops_pick ops_new0 ops_new1 ops_new2 ops_box0 ops_box1 ops_box2 ops_build ops_mks0 ops_mks1 ops_mks2 ops_bin ops_un ops_len0 ops_len1 ops_len2 ops_call0 ops_call1 ops_call2 ops_fld ops_ixa ops_ext ops_app0 ops_app1 ops_app2 ops_mm ops_ixr ops_conv ops_convs ops_nilc ops_ixs ops_ixg ops_mkf ops_bb ops_nq ops_eqs ops_ld0 ops_ld1 ops_ld2 ops_st ops_calli pickQ_true pickQ_false ldRow_one ldQ_ref ldQ_ptr cut_false cut_true binQ_some unQ_some un_not un_neg fldQ_ptr fldQ_ref extQ_tup evs_nil evs_cons consO_some lenQ_slv lenQ_ro lenQ_own lenQ_nils lenQ_str stQ_ptr stR_one avCells_agg avCells_int avCells_bool avCells_str avCells_slv avCells_own avCells_nils get_set List.length_cons List.length_nil Res_some Res_thn Res_blk seqP_norm seqP_exit seqP_ret blkP_norm blkP_exit blkP_ret rndP_norm rndP_exit rndP_ret Fin_norm Fin_ret Fin_exit rvV_ptr rvC_one evRV_t evRV_c evRVs_nil evRVs_cons ofL_nil ofL_cons tupOf_one tupOf_two exP if_true if_false not_false_eq_true not_true_eq_false decide_true decide_false Option.isSome_some eq_self and_self and_true true_and and_false false_and Nat.zero_add Nat.add_zero decide_eq_true_eq decide_eq_false_iff_not ne_eq Bool.false_eq_true Bool.true_eq_false reduceCtorEq Nat.reduceLT Nat.reduceEqDiff Nat.reduceAdd Nat.reduceSub Nat.reduceMul Nat.reduceLeDiff get_lf List.length_map mapF_nil mapF_cons mapC_some callQ_fn callR_some callS_cint callS_cbool callS_cstr frz_own frzR_row frzE_some frz_aggC frzA_some frz_int frz_bool frz_str frz_ro frz_nils frz_ref frz_slv view_get view_next viewOld_next eqsQ_agg eqC_some eqK_nil eqK_cons andO_some eq1_int eq1_bool eq1_str bbQ_some mmQ_some mm_nil mm_max mm_min convQ_some mkfQ_some convsQ_some nilcQ_ptr nilcQ_ref bin_quo bin_rem Int.reduceEq Int.reduceNe Int.reduceNeg flatA_agg flatA_int flatA_bool flatA_str flatA_nils flatA_ro flatA_slv flat_int flat_bool flat_str flat_nils flat_ro flat_slv num_int num_bool num_str all_mem_cons all_mem_nil export_flat export_tup callS_nums callS_flat callS_tup Bool.not_true Bool.not_false Bool.and_false Bool.false_and Bool.or_true Bool.true_or Bool.or_false Bool.false_or Bool.not_eq_true Bool.not_eq_false Bool.not_not Bool.not_eq_eq_eq_not Bool.not_eq_true' E0_next E0_get eq_add_one add_one_eq add_eq_add lt_add_self add_lt_add Nat.add_assoc ops_mkv mkvQ_some mkvC_some stv_int stv_bool stv_str stv_nils stv_ro stv_slv isOne_ro ops_slr0 ops_slr1 slrA_ptr slrA_ref frz_ptrC frzPt_one frzPc_some slrQ_some slrP_all stepQ_seal sealC_get slO_row slO_none slO_map seal_next callS_tupC callS_aggC callS_exC callT_nil callT_no callT_yes adp_ex adp_agg adp_tup adpL_nil adpL_cons adK_some adJ_some adA_some adT_some adp_int adp_bool adp_str adp_nils adp_ro adp_slv hasRo_int hasRo_bool hasRo_str hasRo_nils hasRo_ro hasRo_agg hasRo_tup hasRo_ex List.any_nil List.any_cons bin_seq bin_sne appQ_some appR_e_nils appR_e_own appR_cons appN_nils appN_own appO_row elems_ro elems_nils elems_own elO_row view_topD add_top0D add_top1D seal_tops E0_tops put_tops nqQ_slv List.not_mem_nil or_false or_true true_or false_or List.mem_cons frz_fnC frzFn_some nqQ_ro nqQ_nils List.map_nil List.map_cons expF_some xpt_own xpO_row xpO2_some xpt_agg xpt_tup xpA_some xpT_some xptL_nil xptL_cons xpC_some xpt_int xpt_bool xpt_str xpt_nils xpt_ro xpt_slv mapF2_cells nodup_one nodup_nil take_all take_all_map List.contains_nil Nat.le_refl mapF2_pts anyRo_pts anyRo_cells
variable {prim : Nat → List AV → Option AV}
set_option maxRecDepth 10000
theorem F83 : F.get 83 = some c83 := by rfl
theorem F53 : F.get 53 = some c53 := by rfl
def nodePts (s : Sv) (id : Int) : List Pt := match findN s id with | some n => [n.pt] | none => []
/-- The list gathered so far: nil, or a row on top. -/
def Acc (v : Option AV) (h : AH) (l : List Pt) : Prop :=
  (l = [] ∧ v = some .nils) ∨ ∃ j c, j + 2 < h.next ∧ c < h.next ∧ v = some (.own 2 (j + 2) 0 l.length) ∧ h.get (j + 2) = some (.row 2 (l.map Pt.av) c false) ∧ (j + 2) ∈ h.tops ∧ 0 < l.length
theorem ne_facts {j m : Nat} (h : j < m) : ¬ j = m ∧ ¬ j = m + 1 ∧ ¬ j = m + 2 ∧ ¬ m = j ∧ ¬ m + 1 = j ∧ ¬ m + 2 = j := by omega
def L83a : C := match c83.body with | .seq _ (.seq (.seq _ (.cond _ (.seq a _) _)) _) => loopOf a | _ => .skip
def I83a (s : Sv) (f : Ft) (i : Nat) (st : St) : Prop :=
  (∃ m, st.h.next = m + 2) ∧ st.t.get 2 = some (.ptr 0 0 0) ∧ st.h.get 0 = some (.row 4 [s.av] 0 false) ∧ st.t.get 19 = some (slv f.pn 1 (f.parts.map cell)) ∧ st.t.get 20 = some (.int .i64 f.parts.length) ∧ st.t.get 21 = some (.int .i64 i) ∧
  Acc (st.t.get 4) st.h ((f.parts.take i).flatMap (nodePts s))
def Q83 (l : List Pt) (k : Nat) : Ex → St → Prop
  | .exit i, st => i = k ∧ Acc (st.t.get 4) st.h l
  | _, _ => False
theorem flat_len1 (s : Sv) (l : List Int) : (l.flatMap (nodePts s)).length ≤ l.length := by
  induction l with
  | nil => simp
  | cons x r ih =>
    rw [List.flatMap_cons, List.length_append, List.length_cons]
    have : (nodePts s x).length ≤ 1 := by unfold nodePts; split <;> simp
    omega
theorem flat_succ {α β : Type} {l : List α} {g : α → List β} {i : Nat} {x : α} (hx : l[i]? = some x) : (l.take (i + 1)).flatMap g = (l.take i).flatMap g ++ g x := by
  rw [List.take_add_one, hx, List.flatMap_append]; simp
theorem fit_one {n : Nat} (h : n ≤ 1073741824) : (n + 1) * 16 ≤ maxL := le_maxL (by omega)
theorem round83a (s : Sv) (f : Ft) (ok : OkS s) (hl : f.parts.length ≤ 1073741824) (i : Nat) (st : St) (hi : i ≤ f.parts.length) (hI : I83a s f i st) :
    Res ((om prim F).a L83a st) (rndP (fun s' => i < f.parts.length ∧ I83a s f (i + 1) s') (Q83 (f.parts.flatMap (nodePts s)) 0)) := by
  obtain ⟨t, h⟩ := st
  obtain ⟨⟨m, nx⟩, g2, r2, g19, g20, g21, acc⟩ := hI
  simp only at nx g2 r2 g19 g20 g21 acc
  by_cases hlt : i < f.parts.length
  · have hx : f.parts[i]? = some f.parts[i] := List.getElem?_eq_getElem hlt
    generalize f.parts[i] = x at hx
    have hxm : (f.parts.map cell)[i]? = some (cell x) := by simp [hx]
    have hil : (i : Int) < f.parts.length := by omega
    have hw := wrap_succ hlt (show f.parts.length ≤ maxLen by simp only [maxLen]; omega)
    have h1 := node33 (prim := prim) s x ok.nl
    have hfl := flat_succ (g := nodePts s) hx
    have hle := flat_len1 s (f.parts.take i)
    rw [List.length_take] at hle
    have hle2 : ((f.parts.take i).flatMap (nodePts s)).length ≤ 1073741824 := by omega
    clear hle
    rw [findNV_eq] at h1
    simp only [Sv.av] at r2
    simp only [Sv.plan] at h1
    generalize hL : (f.parts.take i).flatMap (nodePts s) = L at acc hfl hle2
    have m0 : 16 ≤ maxL := by decide
    cases hn : findN s x with
    | none =>
      have hnp : nodePts s x = [] := by unfold nodePts; rw [hn]
      rw [hn] at h1
      rw [hnp, List.append_nil] at hfl
      simp only [ndOf, Option.getD, Option.isSome] at h1
      clear hn hnp ok hle2 m0
      rcases acc with ⟨rfl, g4⟩ | ⟨j, c, hj, hcl, g4, row, top, ne⟩
      · unfold L83a loopOf c83
        repeat' (first | done | (simp -implicitDefEqProofs only [↓reduceIte, go_sem, *, ixaQ_slv hxm, cell, Sv.av, I83a, Acc]) | ((first | rw [stepG_split] | rw [cnd_split] | rw [pickQ_split]); split))
        exact ⟨_, rfl⟩
      · rw [nx] at hj hcl
        obtain ⟨n1, n2, n3, n4, n5, n6⟩ := ne_facts (Nat.lt_of_add_lt_add_right hj)
        obtain ⟨c1, c2, c3, c4, c5, c6⟩ := ne_facts hcl
        unfold L83a loopOf c83
        repeat' (first | done | (simp -implicitDefEqProofs only [↓reduceIte, go_sem, *, ixaQ_slv hxm, cell, Sv.av, I83a, Acc]) | ((first | rw [stepG_split] | rw [cnd_split] | rw [pickQ_split]); split))
        refine ⟨⟨_, rfl⟩, .inr ⟨j, c, by omega, by omega, rfl, ?_, .inr top⟩⟩
        simp only [↓reduceIte, go_sem, *]
    | some n =>
      have hnp : nodePts s x = [n.pt] := by unfold nodePts; rw [hn]
      rw [hn] at h1
      rw [hnp] at hfl
      simp only [ndOf, Option.getD, Option.isSome] at h1
      clear hn hnp ok
      rcases acc with ⟨rfl, g4⟩ | ⟨j, c, hj, hcl, g4, row, top, ne⟩
      · unfold L83a loopOf c83
        repeat' (first | done | (simp -implicitDefEqProofs only [↓reduceIte, go_sem, *, ixaQ_slv hxm, cell, Sv.av, I83a, Acc]) | ((first | rw [stepG_split] | rw [cnd_split] | rw [pickQ_split]); split))
        clear m0
        exact ⟨⟨_, rfl⟩, m + 2, m + 4, by omega, by omega, rfl, by rw [if_pos rfl]; rfl, .inl rfl⟩
      · rw [nx] at hj hcl
        obtain ⟨n1, n2, n3, n4, n5, n6⟩ := ne_facts (Nat.lt_of_add_lt_add_right hj)
        obtain ⟨c1, c2, c3, c4, c5, c6⟩ := ne_facts hcl
        have m2 := fit_one hle2
        have hLl : (L.map Pt.av).length = L.length := List.length_map _
        unfold L83a loopOf c83
        repeat' (first | done | (simp -implicitDefEqProofs only [↓reduceIte, go_sem, *, ixaQ_slv hxm, cell, Sv.av, I83a, Acc]) | ((first | rw [stepG_split] | rw [cnd_split] | rw [pickQ_split]); split))
        clear m0 m2
        exact ⟨⟨_, rfl⟩, .inr ⟨m + 2, c, by omega, by omega, by rw [List.length_append]; rfl, by rw [if_pos rfl, List.map_append]; rfl, .inl rfl, by simp⟩⟩
  · have : i = f.parts.length := by omega
    subst this
    rw [List.take_length] at acc
    unfold L83a loopOf c83
    repeat' (first | done | (simp -implicitDefEqProofs only [↓reduceIte, go_sem, *, Q83, Int.lt_irrefl]) | ((first | rw [stepG_split] | rw [cnd_split] | rw [pickQ_split]); split))
def hasA (f : Ft) (a : Ar) : Bool := if shape f.kind = 3 then hasI f.parts a.lf || hasI f.parts a.rt else hasI f.parts a.id
def pathP (s : Sv) (id : Int) : List Pt := match pathL s id with | some l => l | none => []
def arcPts (s : Sv) (f : Ft) (a : Ar) : List Pt := if hasA f a = true then pathP s a.id else []
structure OkB (s : Sv) : Prop where
  ok : OkS s
  al : s.arcs.length ≤ 1000
  vl : ∀ a ∈ s.arcs, a.via.length ≤ 1000
theorem path_cons {s : Sv} {id : Int} {l : List Pt} (ok : OkB s) (h : pathL s id = some l) : ∃ p r, l = p :: r ∧ r.length ≤ 1001 := by
  unfold pathL at h
  cases hf : findA s id with
  | none => rw [hf] at h; simp at h
  | some a =>
    rw [hf] at h
    have hv := ok.vl a (List.mem_of_find?_eq_some hf)
    simp only at h
    split at h
    · rw [Option.some.injEq] at h
      subst h
      exact ⟨_, _, rfl, by simp; omega⟩
    · cases h
theorem arcPts_len {s : Sv} (f : Ft) (a : Ar) (ok : OkB s) : (arcPts s f a).length ≤ 1002 := by
  unfold arcPts pathP
  split
  · cases h : pathL s a.id with
    | none => simp
    | some l => obtain ⟨p, r, rfl, h2⟩ := path_cons ok h; simp; omega
  · simp
theorem flat_len2 {s : Sv} (f : Ft) (ok : OkB s) (l : List Ar) : (l.flatMap (arcPts s f)).length ≤ l.length * 1002 := by
  induction l with
  | nil => simp
  | cons x r ih =>
    rw [List.flatMap_cons, List.length_append, List.length_cons]
    have := arcPts_len f x ok
    omega
def L83b : C := match c83.body with | .seq _ (.seq _ (.seq a _)) => loopOf a | _ => .skip
def I83b (s : Sv) (f : Ft) (i : Nat) (st : St) : Prop :=
  (∃ m, st.h.next = m + 2) ∧ st.t.get 2 = some (.ptr 0 0 0) ∧ st.h.get 0 = some (.row 4 [s.av] 0 false) ∧ st.t.get 3 = some (.ptr 1 0 0) ∧ st.h.get 1 = some (.row 5 [f.av] 1 false) ∧ st.t.get 42 = some (slv s.an 6 (s.arcs.map Ar.av)) ∧ st.t.get 43 = some (.int .i64 s.arcs.length) ∧ st.t.get 44 = some (.int .i64 i) ∧
  Acc (st.t.get 4) st.h ((s.arcs.take i).flatMap (arcPts s f))
theorem fit_two {n r : Nat} (h : n ≤ 1100000) (h2 : r ≤ 1001) : (n + (r + 1)) * 16 ≤ maxL ∧ (r + 1) * 16 ≤ maxL := ⟨le_maxL (by omega), le_maxL (by omega)⟩
theorem round83b (s : Sv) (f : Ft) (ok : OkB s) (hl : f.parts.length ≤ 1073741824) (i : Nat) (st : St) (hi : i ≤ s.arcs.length) (hI : I83b s f i st) :
    Res ((om prim F).a L83b st) (rndP (fun s' => i < s.arcs.length ∧ I83b s f (i + 1) s') (Q83 (s.arcs.flatMap (arcPts s f)) 2)) := by
  obtain ⟨t, h⟩ := st
  obtain ⟨⟨m, nx⟩, g2, r2, g3, r3, g42, g43, g44, acc⟩ := hI
  simp only at nx g2 r2 g3 r3 g42 g43 g44 acc
  by_cases hlt : i < s.arcs.length
  · have hx : s.arcs[i]? = some s.arcs[i] := List.getElem?_eq_getElem hlt
    generalize s.arcs[i] = x at hx
    have hxm : (s.arcs.map Ar.av)[i]? = some x.av := by simp [hx]
    have hil : (i : Int) < s.arcs.length := by omega
    have hw := wrap_succ hlt ok.ok.al
    have h1 := path90 (prim := prim) s x.id ok.ok
    have hpl : f.parts.length ≤ maxLen := by simp only [maxLen]; omega
    have k1 := contains84 (prim := prim) f.pn f.parts x.id hpl
    have k2 := contains84 (prim := prim) f.pn f.parts x.lf hpl
    have k3 := contains84 (prim := prim) f.pn f.parts x.rt hpl
    have k4 := shape32 (prim := prim) f.kind
    have hfl := flat_succ (g := arcPts s f) hx
    have hle := flat_len2 f ok (s.arcs.take i)
    rw [List.length_take] at hle
    have hle2 : ((s.arcs.take i).flatMap (arcPts s f)).length ≤ 1100000 := by have := ok.al; omega
    clear hle hpl
    simp only [Sv.av] at r2
    simp only [Ft.av] at r3
    simp only [Sv.plan] at h1
    generalize hL : (s.arcs.take i).flatMap (arcPts s f) = L at acc hfl hle2
    have hA : hasA f x = if shape f.kind = 3 then hasI f.parts x.lf || hasI f.parts x.rt else hasI f.parts x.id := rfl
    generalize hasI f.parts x.id = b1 at k1 hA
    generalize hasI f.parts x.lf = b2 at k2 hA
    generalize hasI f.parts x.rt = b3 at k3 hA
    have hcase : (decide (shape f.kind = 3) = true ∧ (b2 = true ∨ b2 = false ∧ b3 = true)) ∧ hasA f x = true ∨ (decide (shape f.kind = 3) = true ∧ (b2 = false ∧ b3 = false)) ∧ hasA f x = false ∨ (decide (shape f.kind = 3) = false ∧ b1 = true) ∧ hasA f x = true ∨ (decide (shape f.kind = 3) = false ∧ b1 = false) ∧ hasA f x = false := by
      rw [hA]
      by_cases h3 : shape f.kind = 3
      · simp only [h3, decide_true, if_true]; cases b2 <;> cases b3 <;> simp
      · simp only [h3, decide_false, if_false]; cases b1 <;> simp
    clear hA
    have hNo : hasA f x = false → arcPts s f x = [] := fun h => by unfold arcPts; rw [h]; rfl
    have hYes : hasA f x = true → arcPts s f x = pathP s x.id := fun h => by unfold arcPts; rw [h]; rfl
    have hpc := fun l h => path_cons (l := l) ok h (id := x.id)
    clear ok
    rcases hcase with ⟨⟨q1, q2⟩, q3⟩ | ⟨⟨q1, q2, q4⟩, q3⟩ | ⟨⟨q1, q2⟩, q3⟩ | ⟨⟨q1, q2⟩, q3⟩
    · rcases q2 with q2 | ⟨q2, q4⟩
      · clear hNo
        rw [hYes q3, pathP] at hfl
        clear hYes q3
        cases hp : pathL s x.id with
        | none =>
          rw [hp] at h1 hfl
          simp only [pathV, List.append_nil] at h1 hfl
          clear hpc hp hle2
          rcases acc with ⟨rfl, g4⟩ | ⟨j, c, hj, hcl, g4, row, top, ne⟩
          · unfold L83b loopOf c83
            repeat' (first | done | (simp -implicitDefEqProofs only [↓reduceIte, go_sem, *, ixaQ_slv hxm, Ar.av, Sv.av, Ft.av, I83b, Acc]) | ((first | rw [stepG_split] | rw [cnd_split] | rw [pickQ_split]); split))
            all_goals exact ⟨_, rfl⟩
          · rw [nx] at hj hcl
            obtain ⟨n1, n2, n3, n4, n5, n6⟩ := ne_facts (Nat.lt_of_add_lt_add_right hj)
            obtain ⟨c1, c2, c3, c4, c5, c6⟩ := ne_facts hcl
            unfold L83b loopOf c83
            repeat' (first | done | (simp -implicitDefEqProofs only [↓reduceIte, go_sem, *, ixaQ_slv hxm, Ar.av, Sv.av, Ft.av, I83b, Acc]) | ((first | rw [stepG_split] | rw [cnd_split] | rw [pickQ_split]); split))
            all_goals (refine ⟨⟨_, rfl⟩, .inr ⟨j, c, by omega, by omega, rfl, ?_, .inr top⟩⟩; simp only [↓reduceIte, go_sem, *])
        | some l =>
          obtain ⟨p, r, rfl, hr⟩ := hpc l hp
          rw [hp] at h1 hfl
          simp only [pathV, List.map_cons] at h1 hfl
          clear hpc hp
          obtain ⟨m2, m3⟩ := fit_two hle2 hr
          clear hle2
          have hrl : (r.map Pt.av).length = r.length := List.length_map _
          have hLl : (L.map Pt.av).length = L.length := List.length_map _
          rcases acc with ⟨rfl, g4⟩ | ⟨j, c, hj, hcl, g4, row, top, ne⟩
          · unfold L83b loopOf c83
            repeat' (first | done | (simp -implicitDefEqProofs only [↓reduceIte, go_sem, *, ixaQ_slv hxm, Ar.av, Sv.av, Ft.av, I83b, Acc]) | ((first | rw [stepG_split] | rw [cnd_split] | rw [pickQ_split]); split))
            clear m2 m3
            all_goals exact ⟨⟨_, rfl⟩, m + 2, m + 4, by omega, by omega, rfl, by rw [if_pos rfl], .inl rfl, by simp⟩
          · rw [nx] at hj hcl
            obtain ⟨n1, n2, n3, n4, n5, n6⟩ := ne_facts (Nat.lt_of_add_lt_add_right hj)
            obtain ⟨c1, c2, c3, c4, c5, c6⟩ := ne_facts hcl
            unfold L83b loopOf c83
            repeat' (first | done | (simp -implicitDefEqProofs only [↓reduceIte, go_sem, *, ixaQ_slv hxm, Ar.av, Sv.av, Ft.av, I83b, Acc]) | ((first | rw [stepG_split] | rw [cnd_split] | rw [pickQ_split]); split))
            clear m2 m3
            all_goals exact ⟨⟨_, rfl⟩, .inr ⟨m + 2, c, by omega, by omega, by rw [List.length_append]; rfl, by rw [if_pos rfl, List.map_append]; rfl, .inl rfl, by rw [List.length_append, List.length_cons]; omega⟩⟩
      · clear hNo
        rw [hYes q3, pathP] at hfl
        clear hYes q3
        cases hp : pathL s x.id with
        | none =>
          rw [hp] at h1 hfl
          simp only [pathV, List.append_nil] at h1 hfl
          clear hpc hp hle2
          rcases acc with ⟨rfl, g4⟩ | ⟨j, c, hj, hcl, g4, row, top, ne⟩
          · unfold L83b loopOf c83
            repeat' (first | done | (simp -implicitDefEqProofs only [↓reduceIte, go_sem, *, ixaQ_slv hxm, Ar.av, Sv.av, Ft.av, I83b, Acc]) | ((first | rw [stepG_split] | rw [cnd_split] | rw [pickQ_split]); split))
            all_goals exact ⟨_, rfl⟩
          · rw [nx] at hj hcl
            obtain ⟨n1, n2, n3, n4, n5, n6⟩ := ne_facts (Nat.lt_of_add_lt_add_right hj)
            obtain ⟨c1, c2, c3, c4, c5, c6⟩ := ne_facts hcl
            unfold L83b loopOf c83
            repeat' (first | done | (simp -implicitDefEqProofs only [↓reduceIte, go_sem, *, ixaQ_slv hxm, Ar.av, Sv.av, Ft.av, I83b, Acc]) | ((first | rw [stepG_split] | rw [cnd_split] | rw [pickQ_split]); split))
            all_goals (refine ⟨⟨_, rfl⟩, .inr ⟨j, c, by omega, by omega, rfl, ?_, .inr top⟩⟩; simp only [↓reduceIte, go_sem, *])
        | some l =>
          obtain ⟨p, r, rfl, hr⟩ := hpc l hp
          rw [hp] at h1 hfl
          simp only [pathV, List.map_cons] at h1 hfl
          clear hpc hp
          obtain ⟨m2, m3⟩ := fit_two hle2 hr
          clear hle2
          have hrl : (r.map Pt.av).length = r.length := List.length_map _
          have hLl : (L.map Pt.av).length = L.length := List.length_map _
          rcases acc with ⟨rfl, g4⟩ | ⟨j, c, hj, hcl, g4, row, top, ne⟩
          · unfold L83b loopOf c83
            repeat' (first | done | (simp -implicitDefEqProofs only [↓reduceIte, go_sem, *, ixaQ_slv hxm, Ar.av, Sv.av, Ft.av, I83b, Acc]) | ((first | rw [stepG_split] | rw [cnd_split] | rw [pickQ_split]); split))
            clear m2 m3
            all_goals exact ⟨⟨_, rfl⟩, m + 2, m + 4, by omega, by omega, rfl, by rw [if_pos rfl], .inl rfl, by simp⟩
          · rw [nx] at hj hcl
            obtain ⟨n1, n2, n3, n4, n5, n6⟩ := ne_facts (Nat.lt_of_add_lt_add_right hj)
            obtain ⟨c1, c2, c3, c4, c5, c6⟩ := ne_facts hcl
            unfold L83b loopOf c83
            repeat' (first | done | (simp -implicitDefEqProofs only [↓reduceIte, go_sem, *, ixaQ_slv hxm, Ar.av, Sv.av, Ft.av, I83b, Acc]) | ((first | rw [stepG_split] | rw [cnd_split] | rw [pickQ_split]); split))
            clear m2 m3
            all_goals exact ⟨⟨_, rfl⟩, .inr ⟨m + 2, c, by omega, by omega, by rw [List.length_append]; rfl, by rw [if_pos rfl, List.map_append]; rfl, .inl rfl, by rw [List.length_append, List.length_cons]; omega⟩⟩
    · clear hYes hpc h1
      rw [hNo q3, List.append_nil] at hfl
      clear hNo q3 hle2
      rcases acc with ⟨rfl, g4⟩ | ⟨j, c, hj, hcl, g4, row, top, ne⟩
      · unfold L83b loopOf c83
        repeat' (first | done | (simp -implicitDefEqProofs only [↓reduceIte, go_sem, *, ixaQ_slv hxm, Ar.av, Sv.av, Ft.av, I83b, Acc]) | ((first | rw [stepG_split] | rw [cnd_split] | rw [pickQ_split]); split))
        all_goals exact ⟨_, rfl⟩
      · rw [nx] at hj hcl
        obtain ⟨n1, n2, n3, n4, n5, n6⟩ := ne_facts (Nat.lt_of_add_lt_add_right hj)
        obtain ⟨c1, c2, c3, c4, c5, c6⟩ := ne_facts hcl
        unfold L83b loopOf c83
        repeat' (first | done | (simp -implicitDefEqProofs only [↓reduceIte, go_sem, *, ixaQ_slv hxm, Ar.av, Sv.av, Ft.av, I83b, Acc]) | ((first | rw [stepG_split] | rw [cnd_split] | rw [pickQ_split]); split))
        all_goals (refine ⟨⟨_, rfl⟩, .inr ⟨j, c, by omega, by omega, rfl, ?_, .inr top⟩⟩; simp only [↓reduceIte, go_sem, *])
    · clear hNo
      rw [hYes q3, pathP] at hfl
      clear hYes q3
      cases hp : pathL s x.id with
      | none =>
        rw [hp] at h1 hfl
        simp only [pathV, List.append_nil] at h1 hfl
        clear hpc hp hle2
        rcases acc with ⟨rfl, g4⟩ | ⟨j, c, hj, hcl, g4, row, top, ne⟩
        · unfold L83b loopOf c83
          repeat' (first | done | (simp -implicitDefEqProofs only [↓reduceIte, go_sem, *, ixaQ_slv hxm, Ar.av, Sv.av, Ft.av, I83b, Acc]) | ((first | rw [stepG_split] | rw [cnd_split] | rw [pickQ_split]); split))
          all_goals exact ⟨_, rfl⟩
        · rw [nx] at hj hcl
          obtain ⟨n1, n2, n3, n4, n5, n6⟩ := ne_facts (Nat.lt_of_add_lt_add_right hj)
          obtain ⟨c1, c2, c3, c4, c5, c6⟩ := ne_facts hcl
          unfold L83b loopOf c83
          repeat' (first | done | (simp -implicitDefEqProofs only [↓reduceIte, go_sem, *, ixaQ_slv hxm, Ar.av, Sv.av, Ft.av, I83b, Acc]) | ((first | rw [stepG_split] | rw [cnd_split] | rw [pickQ_split]); split))
          all_goals (refine ⟨⟨_, rfl⟩, .inr ⟨j, c, by omega, by omega, rfl, ?_, .inr top⟩⟩; simp only [↓reduceIte, go_sem, *])
      | some l =>
        obtain ⟨p, r, rfl, hr⟩ := hpc l hp
        rw [hp] at h1 hfl
        simp only [pathV, List.map_cons] at h1 hfl
        clear hpc hp
        obtain ⟨m2, m3⟩ := fit_two hle2 hr
        clear hle2
        have hrl : (r.map Pt.av).length = r.length := List.length_map _
        have hLl : (L.map Pt.av).length = L.length := List.length_map _
        rcases acc with ⟨rfl, g4⟩ | ⟨j, c, hj, hcl, g4, row, top, ne⟩
        · unfold L83b loopOf c83
          repeat' (first | done | (simp -implicitDefEqProofs only [↓reduceIte, go_sem, *, ixaQ_slv hxm, Ar.av, Sv.av, Ft.av, I83b, Acc]) | ((first | rw [stepG_split] | rw [cnd_split] | rw [pickQ_split]); split))
          clear m2 m3
          all_goals exact ⟨⟨_, rfl⟩, m + 2, m + 4, by omega, by omega, rfl, by rw [if_pos rfl], .inl rfl, by simp⟩
        · rw [nx] at hj hcl
          obtain ⟨n1, n2, n3, n4, n5, n6⟩ := ne_facts (Nat.lt_of_add_lt_add_right hj)
          obtain ⟨c1, c2, c3, c4, c5, c6⟩ := ne_facts hcl
          unfold L83b loopOf c83
          repeat' (first | done | (simp -implicitDefEqProofs only [↓reduceIte, go_sem, *, ixaQ_slv hxm, Ar.av, Sv.av, Ft.av, I83b, Acc]) | ((first | rw [stepG_split] | rw [cnd_split] | rw [pickQ_split]); split))
          clear m2 m3
          all_goals exact ⟨⟨_, rfl⟩, .inr ⟨m + 2, c, by omega, by omega, by rw [List.length_append]; rfl, by rw [if_pos rfl, List.map_append]; rfl, .inl rfl, by rw [List.length_append, List.length_cons]; omega⟩⟩
    · clear hYes hpc h1
      rw [hNo q3, List.append_nil] at hfl
      clear hNo q3 hle2
      rcases acc with ⟨rfl, g4⟩ | ⟨j, c, hj, hcl, g4, row, top, ne⟩
      · unfold L83b loopOf c83
        repeat' (first | done | (simp -implicitDefEqProofs only [↓reduceIte, go_sem, *, ixaQ_slv hxm, Ar.av, Sv.av, Ft.av, I83b, Acc]) | ((first | rw [stepG_split] | rw [cnd_split] | rw [pickQ_split]); split))
        all_goals exact ⟨_, rfl⟩
      · rw [nx] at hj hcl
        obtain ⟨n1, n2, n3, n4, n5, n6⟩ := ne_facts (Nat.lt_of_add_lt_add_right hj)
        obtain ⟨c1, c2, c3, c4, c5, c6⟩ := ne_facts hcl
        unfold L83b loopOf c83
        repeat' (first | done | (simp -implicitDefEqProofs only [↓reduceIte, go_sem, *, ixaQ_slv hxm, Ar.av, Sv.av, Ft.av, I83b, Acc]) | ((first | rw [stepG_split] | rw [cnd_split] | rw [pickQ_split]); split))
        all_goals (refine ⟨⟨_, rfl⟩, .inr ⟨j, c, by omega, by omega, rfl, ?_, .inr top⟩⟩; simp only [↓reduceIte, go_sem, *])
  · have : i = s.arcs.length := by omega
    subst this
    rw [List.take_length] at acc
    clear ok
    unfold L83b loopOf c83
    repeat' (first | done | (simp -implicitDefEqProofs only [↓reduceIte, go_sem, *, Q83, Int.lt_irrefl]) | ((first | rw [stepG_split] | rw [cnd_split] | rw [pickQ_split]); split))
end Go.Ab
namespace Go.Ab
attribute [local go_sem] evParts_nil evParts_cons consP_some buildQ_some bldC_some mksQ_some mksC_some fillAll_nil fillAll_cons chop_zero chop_succ rep_zero rep_succ List.flatten_cons List.flatten_nil boxQ_c boxC_eq avCells_ptr List.append_nil List.all_nil List.all_cons Bool.true_and Bool.and_true isOne_int isOne_bool isOne_str isOne_nils isOne_own isOne_ptr isOne_slv lay_nil0 lay_cons0 lay_nil lay_succ List.drop_zero List.take_succ_cons List.take_zero List.drop_succ_cons List.getElem?_cons_zero List.getElem?_cons_succ List.take_nil List.drop_nil List.nil_append List.cons_append a_skip a_exit a_ret a_seq a_block a_cond a_reg thn_norm thn_exit thn_ret blk_norm blk_ret blk_exit rg_some cnd_true cnd_false ops_nil ops_g stepQ_quiet stepQ_makes stepW_some stepW_none stepG_tt stepG_tf stepG_ft stepG_ff stepG_ttN stepG_tfN stepG_ftN stepG_ffN stepG_skip stepG_skipN qv_s ev_t ev_c bin_add bin_sub bin_mul bin_lss bin_leq bin_gtr bin_geq bin_eql bin_neq viewOld_get add_next put_next add_row add_map put_get kl_row kl_none kl_map ops_mv ops_pick ops_new0 ops_new1 ops_new2 ops_box0 ops_box1 ops_box2 ops_build ops_mks0 ops_mks1 ops_mks2 ops_bin ops_un ops_len0 ops_len1 ops_len2 ops_call0 ops_call1 ops_call2 ops_fld ops_ixa ops_ext ops_app0 ops_app1 ops_app2 ops_mm ops_ixr ops_conv ops_convs ops_nilc ops_ixs ops_ixg ops_mkf ops_bb ops_nq ops_eqs ops_ld0 ops_ld1 ops_ld2 ops_st ops_calli pickQ_true pickQ_false ldRow_one ldQ_ref ldQ_ptr cut_false cut_true binQ_some unQ_some un_not un_neg fldQ_ptr fldQ_ref extQ_tup evs_nil evs_cons consO_some lenQ_slv lenQ_ro lenQ_own lenQ_nils lenQ_str stQ_ptr stR_one avCells_agg avCells_int avCells_bool avCells_str avCells_slv avCells_own avCells_nils get_set List.length_cons List.length_nil Res_some Res_thn Res_blk seqP_norm seqP_exit seqP_ret blkP_norm blkP_exit blkP_ret rndP_norm rndP_exit rndP_ret Fin_norm Fin_ret Fin_exit rvV_ptr rvC_one evRV_t evRV_c evRVs_nil evRVs_cons ofL_nil ofL_cons tupOf_one tupOf_two exP if_true if_false not_false_eq_true not_true_eq_false decide_true decide_false Option.isSome_some eq_self and_self and_true true_and and_false false_and Nat.zero_add Nat.add_zero decide_eq_true_eq decide_eq_false_iff_not ne_eq Bool.false_eq_true Bool.true_eq_false reduceCtorEq Nat.reduceLT Nat.reduceEqDiff Nat.reduceAdd Nat.reduceSub Nat.reduceMul Nat.reduceLeDiff get_lf List.length_map mapF_nil mapF_cons mapC_some callQ_fn callR_some callS_cint callS_cbool callS_cstr frz_own frzR_row frzE_some frz_aggC frzA_some frz_int frz_bool frz_str frz_ro frz_nils frz_ref frz_slv view_get view_next viewOld_next eqsQ_agg eqC_some eqK_nil eqK_cons andO_some eq1_int eq1_bool eq1_str bbQ_some mmQ_some mm_nil mm_max mm_min convQ_some mkfQ_some convsQ_some nilcQ_ptr nilcQ_ref bin_quo bin_rem Int.reduceEq Int.reduceNe Int.reduceNeg flatA_agg flatA_int flatA_bool flatA_str flatA_nils flatA_ro flatA_slv flat_int flat_bool flat_str flat_nils flat_ro flat_slv num_int num_bool num_str all_mem_cons all_mem_nil export_flat export_tup callS_nums callS_flat callS_tup Bool.not_true Bool.not_false Bool.and_false Bool.false_and Bool.or_true Bool.true_or Bool.or_false Bool.false_or Bool.not_eq_true Bool.not_eq_false Bool.not_not Bool.not_eq_eq_eq_not Bool.not_eq_true' E0_next E0_get eq_add_one add_one_eq add_eq_add lt_add_self add_lt_add Nat.add_assoc ops_mkv mkvQ_some mkvC_some stv_int stv_bool stv_str stv_nils stv_ro stv_slv isOne_ro ops_slr0 ops_slr1 slrA_ptr slrA_ref frz_ptrC frzPt_one frzPc_some slrQ_some slrP_all stepQ_seal sealC_get slO_row slO_none slO_map seal_next callS_tupC callS_aggC callS_exC callT_nil callT_no callT_yes adp_ex adp_agg adp_tup adpL_nil adpL_cons adK_some adJ_some adA_some adT_some adp_int adp_bool adp_str adp_nils adp_ro adp_slv hasRo_int hasRo_bool hasRo_str hasRo_nils hasRo_ro hasRo_agg hasRo_tup hasRo_ex List.any_nil List.any_cons bin_seq bin_sne appQ_some appR_e_nils appR_e_own appR_cons appN_nils appN_own appO_row elems_ro elems_nils elems_own elO_row view_topD add_top0D add_top1D seal_tops E0_tops put_tops nqQ_slv List.not_mem_nil or_false or_true true_or false_or List.mem_cons frz_fnC frzFn_some nqQ_ro nqQ_nils List.map_nil List.map_cons expF_some xpt_own xpO_row xpO2_some xpt_agg xpt_tup xpA_some xpT_some xptL_nil xptL_cons xpC_some xpt_int xpt_bool xpt_str xpt_nils xpt_ro xpt_slv mapF2_cells nodup_one nodup_nil take_all take_all_map List.contains_nil Nat.le_refl mapF2_pts anyRo_pts anyRo_cells
variable {prim : Nat → List AV → Option AV}
set_option maxRecDepth 10000
def ptsOf (s : Sv) (f : Ft) : List Pt := if shape f.kind = 1 then f.parts.flatMap (nodePts s) else s.arcs.flatMap (arcPts s f)
theorem export_acc {v : AV} {h : AH} {l : List Pt} (ha : Acc (some v) h l) : export1 (v, h) = some (exs true 2 (l.map Pt.av)) := by
  rcases ha with ⟨rfl, e⟩ | ⟨j, c, _, _, e, row, _, ne⟩
  · rw [Option.some.injEq] at e
    subst e
    rw [List.map_nil, exs_nil]; rfl
  · rw [Option.some.injEq] at e
    subst e
    cases l with
    | nil => cases ne
    | cons p r =>
      rw [List.map_cons, exs_cons]
      exact export_all1 row (by simp) (pts_flat (p :: r))
theorem acc_some {o : Option AV} {h : AH} {l : List Pt} (ha : Acc o h l) : ∃ v, o = some v := by
  rcases ha with ⟨_, e⟩ | ⟨j, c, _, _, e, _, _, _⟩ <;> exact ⟨_, e⟩
theorem points83 (s : Sv) (f : Ft) (ok : OkB s) (hl : f.parts.length ≤ 1073741824) : (om prim F).p 83 [.agg s.av, .agg f.av] = some (exs true 2 ((ptsOf s f).map Pt.av)) := by
  refine call_of F83 rfl ?_
  have k4 := shape32 (prim := prim) f.kind
  by_cases h1 : shape f.kind = 1
  · have hd : decide (shape f.kind = 1) = true := decide_eq_true h1
    have e : ptsOf s f = f.parts.flatMap (nodePts s) := by unfold ptsOf; rw [if_pos h1]
    rw [e]
    clear h1 e
    unfold c83
    simp only [↓reduceIte, go_sem, *, Sv.av, Ft.av]
    refine (loop_up f.parts.length (I83a s f) (round83a s f ok.ok hl) 0 _ (Nat.zero_le _) (by simp only [↓reduceIte, go_sem, I83a, Sv.av]; exact ⟨⟨_, rfl⟩, rfl, .inl ⟨rfl, rfl⟩⟩)).mono ?_
    clear hd ok
    rintro e ⟨t, h⟩ hq
    cases e with
    | norm => exact hq.elim
    | ret => exact hq.elim
    | exit i =>
      obtain ⟨rfl, ha⟩ := hq
      simp only at ha
      obtain ⟨v, hv⟩ := acc_some ha
      rw [hv] at ha
      have hx := export_acc ha
      clear ha
      repeat' (first | done | (simp -implicitDefEqProofs only [↓reduceIte, go_sem, *]) | ((first | rw [stepG_split] | rw [cnd_split] | rw [pickQ_split]); split))
  · have hd : decide (shape f.kind = 1) = false := decide_eq_false h1
    have e : ptsOf s f = s.arcs.flatMap (arcPts s f) := by unfold ptsOf; rw [if_neg h1]
    rw [e]
    clear h1 e
    unfold c83
    simp only [↓reduceIte, go_sem, *, Sv.av, Ft.av]
    refine (loop_up s.arcs.length (I83b s f) (round83b s f ok hl) 0 _ (Nat.zero_le _) (by simp only [↓reduceIte, go_sem, I83b, Sv.av, Ft.av]; exact ⟨⟨_, rfl⟩, rfl, .inl ⟨rfl, rfl⟩⟩)).mono ?_
    clear hd ok
    rintro e ⟨t, h⟩ hq
    cases e with
    | norm => exact hq.elim
    | ret => exact hq.elim
    | exit i =>
      obtain ⟨rfl, ha⟩ := hq
      simp only at ha
      obtain ⟨v, hv⟩ := acc_some ha
      rw [hv] at ha
      have hx := export_acc ha
      clear ha
      repeat' (first | done | (simp -implicitDefEqProofs only [↓reduceIte, go_sem, *]) | ((first | rw [stepG_split] | rw [cnd_split] | rw [pickQ_split]); split))
end Go.Ab
namespace Go.Ab
attribute [local go_sem] evParts_nil evParts_cons consP_some buildQ_some bldC_some mksQ_some mksC_some fillAll_nil fillAll_cons chop_zero chop_succ rep_zero rep_succ List.flatten_cons List.flatten_nil boxQ_c boxC_eq avCells_ptr List.append_nil List.all_nil List.all_cons Bool.true_and Bool.and_true isOne_int isOne_bool isOne_str isOne_nils isOne_own isOne_ptr isOne_slv lay_nil0 lay_cons0 lay_nil lay_succ List.drop_zero List.take_succ_cons List.take_zero List.drop_succ_cons List.getElem?_cons_zero List.getElem?_cons_succ List.take_nil List.drop_nil List.nil_append List.cons_append a_skip a_exit a_ret a_seq a_block a_cond a_reg thn_norm thn_exit thn_ret blk_norm blk_ret blk_exit rg_some cnd_true cnd_false ops_nil ops_g stepQ_quiet stepQ_makes stepW_some stepW_none stepG_tt stepG_tf stepG_ft stepG_ff stepG_ttN stepG_tfN stepG_ftN stepG_ffN stepG_skip stepG_skipN qv_s ev_t ev_c bin_add bin_sub bin_mul bin_lss bin_leq bin_gtr bin_geq bin_eql bin_neq viewOld_get add_next put_next add_row add_map put_get kl_row kl_none kl_map ops_mv ops_pick ops_new0 ops_new1 ops_new2 ops_box0 ops_box1 ops_box2 ops_build ops_mks0 ops_mks1 ops_mks2 ops_bin ops_un ops_len0 ops_len1 ops_len2 ops_call0 ops_call1 ops_call2 ops_fld ops_ixa ops_ext ops_app0 ops_app1 ops_app2 ops_mm ops_ixr ops_conv ops_convs ops_nilc ops_ixs ops_ixg ops_mkf ops_bb ops_nq ops_eqs ops_ld0 ops_ld1 ops_ld2 ops_st ops_calli pickQ_true pickQ_false ldRow_one ldQ_ref ldQ_ptr cut_false cut_true binQ_some unQ_some un_not un_neg fldQ_ptr fldQ_ref extQ_tup evs_nil evs_cons consO_some lenQ_slv lenQ_ro lenQ_own lenQ_nils lenQ_str stQ_ptr stR_one avCells_agg avCells_int avCells_bool avCells_str avCells_slv avCells_own avCells_nils get_set List.length_cons List.length_nil Res_some Res_thn Res_blk seqP_norm seqP_exit seqP_ret blkP_norm blkP_exit blkP_ret rndP_norm rndP_exit rndP_ret Fin_norm Fin_ret Fin_exit rvV_ptr rvC_one evRV_t evRV_c evRVs_nil evRVs_cons ofL_nil ofL_cons tupOf_one tupOf_two exP if_true if_false not_false_eq_true not_true_eq_false decide_true decide_false Option.isSome_some eq_self and_self and_true true_and and_false false_and Nat.zero_add Nat.add_zero decide_eq_true_eq decide_eq_false_iff_not ne_eq Bool.false_eq_true Bool.true_eq_false reduceCtorEq Nat.reduceLT Nat.reduceEqDiff Nat.reduceAdd Nat.reduceSub Nat.reduceMul Nat.reduceLeDiff get_lf List.length_map mapF_nil mapF_cons mapC_some callQ_fn callR_some callS_cint callS_cbool callS_cstr frz_own frzR_row frzE_some frz_aggC frzA_some frz_int frz_bool frz_str frz_ro frz_nils frz_ref frz_slv view_get view_next viewOld_next eqsQ_agg eqC_some eqK_nil eqK_cons andO_some eq1_int eq1_bool eq1_str bbQ_some mmQ_some mm_nil mm_max mm_min convQ_some mkfQ_some convsQ_some nilcQ_ptr nilcQ_ref bin_quo bin_rem Int.reduceEq Int.reduceNe Int.reduceNeg flatA_agg flatA_int flatA_bool flatA_str flatA_nils flatA_ro flatA_slv flat_int flat_bool flat_str flat_nils flat_ro flat_slv num_int num_bool num_str all_mem_cons all_mem_nil export_flat export_tup callS_nums callS_flat callS_tup Bool.not_true Bool.not_false Bool.and_false Bool.false_and Bool.or_true Bool.true_or Bool.or_false Bool.false_or Bool.not_eq_true Bool.not_eq_false Bool.not_not Bool.not_eq_eq_eq_not Bool.not_eq_true' E0_next E0_get eq_add_one add_one_eq add_eq_add lt_add_self add_lt_add Nat.add_assoc ops_mkv mkvQ_some mkvC_some stv_int stv_bool stv_str stv_nils stv_ro stv_slv isOne_ro ops_slr0 ops_slr1 slrA_ptr slrA_ref frz_ptrC frzPt_one frzPc_some slrQ_some slrP_all stepQ_seal sealC_get slO_row slO_none slO_map seal_next callS_tupC callS_aggC callS_exC callT_nil callT_no callT_yes adp_ex adp_agg adp_tup adpL_nil adpL_cons adK_some adJ_some adA_some adT_some adp_int adp_bool adp_str adp_nils adp_ro adp_slv hasRo_int hasRo_bool hasRo_str hasRo_nils hasRo_ro hasRo_agg hasRo_tup hasRo_ex List.any_nil List.any_cons bin_seq bin_sne appQ_some appR_e_nils appR_e_own appR_cons appN_nils appN_own appO_row elems_ro elems_nils elems_own elO_row view_topD add_top0D add_top1D seal_tops E0_tops put_tops nqQ_slv List.not_mem_nil or_false or_true true_or false_or List.mem_cons frz_fnC frzFn_some nqQ_ro nqQ_nils List.map_nil List.map_cons expF_some xpt_own xpO_row xpO2_some xpt_agg xpt_tup xpA_some xpT_some xptL_nil xptL_cons xpC_some xpt_int xpt_bool xpt_str xpt_nils xpt_ro xpt_slv mapF2_cells nodup_one nodup_nil take_all take_all_map List.contains_nil Nat.le_refl mapF2_pts anyRo_pts anyRo_cells
variable {prim : Nat → List AV → Option AV}
set_option maxRecDepth 10000
def L53a : C := match c53.body with | .seq _ (.seq _ (.seq _ (.seq a _))) => loopOf a | _ => .skip
def L53b : C := match c53.body with | .seq _ (.seq _ (.seq _ (.seq _ (.seq a _)))) => loopOf a | _ => .skip
def base53 (s : Sv) (f : Ft) (st : St) : Prop :=
  (∃ m, st.h.next = m + 2) ∧ st.t.get 2 = some (.ptr 0 0 0) ∧ st.h.get 0 = some (.row 4 [s.av] 0 false) ∧ st.t.get 3 = some (.ptr 1 0 0) ∧ st.h.get 1 = some (.row 5 [f.av] 1 false) ∧ st.t.get 6 = some (.int .i64 (shape f.kind))
def I53a (s : Sv) (f : Ft) (A : List Int) (i : Nat) (st : St) : Prop :=
  base53 s f st ∧ st.t.get 7 = some (.int .i64 i) ∧ Acc (st.t.get 5) st.h ((A.take i).flatMap (nodePts s))
def Q53a (s : Sv) (f : Ft) (l : List Pt) : Ex → St → Prop
  | .exit i, st => i = 0 ∧ base53 s f st ∧ Acc (st.t.get 5) st.h l
  | _, _ => False
theorem round53a (s : Sv) (f : Ft) (A : List Int) (hAA : decide (shape f.kind = 1) = true ∧ A = f.parts ∨ decide (shape f.kind = 1) = false ∧ A = []) (ok : OkS s) (hl : f.parts.length ≤ 1073741824) (i : Nat) (st : St) (hi : i ≤ A.length) (hI : I53a s f A i st) :
    Res ((om prim F).a L53a st) (rndP (fun s' => i < A.length ∧ I53a s f A (i + 1) s') (Q53a s f (A.flatMap (nodePts s)))) := by
  obtain ⟨t, h⟩ := st
  obtain ⟨⟨⟨m, nx⟩, g2, r2, g3, r3, g6⟩, g7, acc⟩ := hI
  simp only at nx g2 r2 g3 r3 g6 g7 acc
  by_cases hlt : i < A.length
  · have hAf : decide (shape f.kind = 1) = true ∧ A = f.parts := by
      rcases hAA with h | ⟨_, rfl⟩
      · exact h
      · simp at hlt
    obtain ⟨hsh, rfl⟩ := hAf
    clear hAA
    have hx : f.parts[i]? = some f.parts[i] := List.getElem?_eq_getElem hlt
    generalize f.parts[i] = x at hx
    have hxm : (f.parts.map cell)[i]? = some (cell x) := by simp [hx]
    have hil : (i : Int) < f.parts.length := by omega
    have hw := wrap_succ hlt (show f.parts.length ≤ maxLen by simp only [maxLen]; omega)
    have h1 := node64 (prim := prim) s x ok.nl
    have hfl := flat_succ (g := nodePts s) hx
    have hle := flat_len1 s (f.parts.take i)
    rw [List.length_take] at hle
    have hle2 : ((f.parts.take i).flatMap (nodePts s)).length ≤ 1073741824 := by omega
    clear hle
    rw [findNV_eq] at h1
    simp only [Sv.av] at r2
    simp only [Ft.av] at r3
    simp only [Sv.plan] at h1
    generalize hL : (f.parts.take i).flatMap (nodePts s) = L at acc hfl hle2
    have m0 : 16 ≤ maxL := by decide
    cases hn : findN s x with
    | none =>
      have hnp : nodePts s x = [] := by unfold nodePts; rw [hn]
      rw [hn] at h1
      rw [hnp, List.append_nil] at hfl
      simp only [ndOf, Option.getD, Option.isSome] at h1
      clear hn hnp ok hle2 m0
      rcases acc with ⟨rfl, g4⟩ | ⟨j, c, hj, hcl, g4, row, top, ne⟩
      · unfold L53a loopOf c53
        repeat' (first | done | (simp -implicitDefEqProofs only [↓reduceIte, go_sem, *, ixaQ_slv hxm, cell, Sv.av, Ft.av, I53a, base53, Acc]) | ((first | rw [stepG_split] | rw [cnd_split] | rw [pickQ_split]); split))
        exact ⟨_, rfl⟩
      · rw [nx] at hj hcl
        obtain ⟨n1, n2, n3, n4, n5, n6⟩ := ne_facts (Nat.lt_of_add_lt_add_right hj)
        obtain ⟨c1, c2, c3, c4, c5, c6⟩ := ne_facts hcl
        unfold L53a loopOf c53
        repeat' (first | done | (simp -implicitDefEqProofs only [↓reduceIte, go_sem, *, ixaQ_slv hxm, cell, Sv.av, Ft.av, I53a, base53, Acc]) | ((first | rw [stepG_split] | rw [cnd_split] | rw [pickQ_split]); split))
        refine ⟨⟨_, rfl⟩, .inr ⟨j, c, by omega, by omega, rfl, ?_, .inr top⟩⟩
        simp only [↓reduceIte, go_sem, *]
    | some n =>
      have hnp : nodePts s x = [n.pt] := by unfold nodePts; rw [hn]
      rw [hn] at h1
      rw [hnp] at hfl
      simp only [ndOf, Option.getD, Option.isSome] at h1
      clear hn hnp ok
      rcases acc with ⟨rfl, g4⟩ | ⟨j, c, hj, hcl, g4, row, top, ne⟩
      · unfold L53a loopOf c53
        repeat' (first | done | (simp -implicitDefEqProofs only [↓reduceIte, go_sem, *, ixaQ_slv hxm, cell, Sv.av, Ft.av, I53a, base53, Acc]) | ((first | rw [stepG_split] | rw [cnd_split] | rw [pickQ_split]); split))
        clear m0
        exact ⟨⟨_, rfl⟩, m + 2, m + 4, by omega, by omega, rfl, by rw [if_pos rfl]; rfl, .inl rfl⟩
      · rw [nx] at hj hcl
        obtain ⟨n1, n2, n3, n4, n5, n6⟩ := ne_facts (Nat.lt_of_add_lt_add_right hj)
        obtain ⟨c1, c2, c3, c4, c5, c6⟩ := ne_facts hcl
        have m2 := fit_one hle2
        have hLl : (L.map Pt.av).length = L.length := List.length_map _
        unfold L53a loopOf c53
        repeat' (first | done | (simp -implicitDefEqProofs only [↓reduceIte, go_sem, *, ixaQ_slv hxm, cell, Sv.av, Ft.av, I53a, base53, Acc]) | ((first | rw [stepG_split] | rw [cnd_split] | rw [pickQ_split]); split))
        clear m0 m2
        exact ⟨⟨_, rfl⟩, .inr ⟨m + 2, c, by omega, by omega, by rw [List.length_append]; rfl, by rw [if_pos rfl, List.map_append]; rfl, .inl rfl, by simp⟩⟩
  · have : i = A.length := by omega
    subst this
    rw [List.take_length] at acc
    simp only [Sv.av] at r2
    simp only [Ft.av] at r3
    clear ok
    rcases hAA with ⟨hsh, rfl⟩ | ⟨hsh, rfl⟩
    · unfold L53a loopOf c53
      repeat' (first | done | (simp -implicitDefEqProofs only [↓reduceIte, go_sem, *, Q53a, base53, Sv.av, Ft.av, Int.lt_irrefl]) | ((first | rw [stepG_split] | rw [cnd_split] | rw [pickQ_split]); split))
      all_goals exact ⟨_, rfl⟩
    · unfold L53a loopOf c53
      repeat' (first | done | (simp -implicitDefEqProofs only [↓reduceIte, go_sem, *, Q53a, base53, Sv.av, Ft.av, Int.lt_irrefl]) | ((first | rw [stepG_split] | rw [cnd_split] | rw [pickQ_split]); split))
      all_goals exact ⟨_, rfl⟩
def I53b (s : Sv) (f : Ft) (L0 : List Pt) (A : List Ar) (i : Nat) (st : St) : Prop :=
  base53 s f st ∧ st.t.get 10 = some (.int .i64 i) ∧ Acc (st.t.get 5) st.h (L0 ++ (A.take i).flatMap (arcPts s f))
def Q53b (l : List Pt) : Ex → St → Prop
  | .exit i, st => i = 2 ∧ Acc (st.t.get 5) st.h l
  | _, _ => False
theorem fit_two' {n r : Nat} (h : n ≤ 2147483648) (h2 : r ≤ 1001) : (n + (r + 1)) * 16 ≤ maxL ∧ (r + 1) * 16 ≤ maxL := ⟨le_maxL (by omega), le_maxL (by omega)⟩
theorem round53b (s : Sv) (f : Ft) (L0 : List Pt) (hL0 : L0.length ≤ 1073741824) (A : List Ar) (hAA : decide (1 < shape f.kind) = true ∧ A = s.arcs ∨ decide (1 < shape f.kind) = false ∧ A = []) (ok : OkB s) (hl : f.parts.length ≤ 1073741824) (i : Nat) (st : St) (hi : i ≤ A.length) (hI : I53b s f L0 A i st) :
    Res ((om prim F).a L53b st) (rndP (fun s' => i < A.length ∧ I53b s f L0 A (i + 1) s') (Q53b (L0 ++ A.flatMap (arcPts s f)))) := by
  obtain ⟨t, h⟩ := st
  obtain ⟨⟨⟨m, nx⟩, g2, r2, g3, r3, g6⟩, g10, acc⟩ := hI
  simp only at nx g2 r2 g3 r3 g6 g10 acc
  by_cases hlt : i < A.length
  · have hAf : decide (1 < shape f.kind) = true ∧ A = s.arcs := by
      rcases hAA with h | ⟨_, rfl⟩
      · exact h
      · simp at hlt
    obtain ⟨hsh, rfl⟩ := hAf
    clear hAA
    have hx : s.arcs[i]? = some s.arcs[i] := List.getElem?_eq_getElem hlt
    generalize s.arcs[i] = x at hx
    have hxm : (s.arcs.map Ar.av)[i]? = some x.av := by simp [hx]
    have hil : (i : Int) < s.arcs.length := by omega
    have hw := wrap_succ hlt ok.ok.al
    have h1 := path93 (prim := prim) s x.id ok.ok
    have hpl : f.parts.length ≤ maxLen := by simp only [maxLen]; omega
    have k1 := has50 (prim := prim) f.pn f.parts x.id hpl
    have k2 := has50 (prim := prim) f.pn f.parts x.lf hpl
    have k3 := has50 (prim := prim) f.pn f.parts x.rt hpl
    have hfl0 := flat_succ (g := arcPts s f) hx
    have hfl : L0 ++ (s.arcs.take (i + 1)).flatMap (arcPts s f) = L0 ++ (s.arcs.take i).flatMap (arcPts s f) ++ arcPts s f x := by rw [hfl0, List.append_assoc]
    have hle := flat_len2 f ok (s.arcs.take i)
    rw [List.length_take] at hle
    have hle2 : (L0 ++ (s.arcs.take i).flatMap (arcPts s f)).length ≤ 2147483648 := by rw [List.length_append]; have := ok.al; omega
    clear hle hpl hfl0 hL0
    simp only [Sv.av] at r2
    simp only [Ft.av] at r3
    simp only [Sv.plan] at h1
    generalize hL : L0 ++ (s.arcs.take i).flatMap (arcPts s f) = L at acc hfl hle2
    clear hL
    have hA : hasA f x = if shape f.kind = 3 then hasI f.parts x.lf || hasI f.parts x.rt else hasI f.parts x.id := rfl
    generalize hasI f.parts x.id = b1 at k1 hA
    generalize hasI f.parts x.lf = b2 at k2 hA
    generalize hasI f.parts x.rt = b3 at k3 hA
    have hcase : ((decide (shape f.kind = 2) = false ∧ decide (shape f.kind = 3) = true) ∧ (b2 = true ∨ b2 = false ∧ b3 = true)) ∧ hasA f x = true ∨ ((decide (shape f.kind = 2) = false ∧ decide (shape f.kind = 3) = true) ∧ (b2 = false ∧ b3 = false)) ∧ hasA f x = false ∨ ((decide (shape f.kind = 2) = true ∧ decide (shape f.kind = 3) = false) ∧ b1 = true) ∧ hasA f x = true ∨ ((decide (shape f.kind = 2) = true ∧ decide (shape f.kind = 3) = false) ∧ b1 = false) ∧ hasA f x = false := by
      rw [hA]
      have h23 : shape f.kind = 2 ∨ shape f.kind = 3 := by
        have h1 : 1 < shape f.kind := of_decide_eq_true hsh
        revert h1
        unfold shape
        split <;> (try split) <;> (try split) <;> simp
      rcases h23 with h3 | h3
      · simp only [h3]; cases b1 <;> simp
      · simp only [h3]; cases b2 <;> cases b3 <;> simp
    clear hA
    have hNo : hasA f x = false → arcPts s f x = [] := fun h => by unfold arcPts; rw [h]; rfl
    have hYes : hasA f x = true → arcPts s f x = pathP s x.id := fun h => by unfold arcPts; rw [h]; rfl
    have hpc := fun l h => path_cons (l := l) ok h (id := x.id)
    clear ok
    rcases hcase with ⟨⟨⟨q1, q5⟩, q2⟩, q3⟩ | ⟨⟨⟨q1, q5⟩, q2, q4⟩, q3⟩ | ⟨⟨⟨q1, q5⟩, q2⟩, q3⟩ | ⟨⟨⟨q1, q5⟩, q2⟩, q3⟩
    · rcases q2 with q2 | ⟨q2, q4⟩
      · clear hNo
        rw [hYes q3, pathP] at hfl
        clear hYes q3
        cases hp : pathL s x.id with
        | none =>
          rw [hp] at h1 hfl
          simp only [pathV, List.append_nil] at h1 hfl
          clear hpc hp hle2
          rcases acc with ⟨rfl, g4⟩ | ⟨j, c, hj, hcl, g4, row, top, ne⟩
          · unfold L53b loopOf c53
            repeat' (first | done | (simp -implicitDefEqProofs only [↓reduceIte, go_sem, *, ixaQ_slv hxm, Ar.av, Sv.av, Ft.av, I53b, base53, Acc]) | ((first | rw [stepG_split] | rw [cnd_split] | rw [pickQ_split]); split))
            all_goals exact ⟨_, rfl⟩
          · rw [nx] at hj hcl
            obtain ⟨n1, n2, n3, n4, n5, n6⟩ := ne_facts (Nat.lt_of_add_lt_add_right hj)
            obtain ⟨c1, c2, c3, c4, c5, c6⟩ := ne_facts hcl
            unfold L53b loopOf c53
            repeat' (first | done | (simp -implicitDefEqProofs only [↓reduceIte, go_sem, *, ixaQ_slv hxm, Ar.av, Sv.av, Ft.av, I53b, base53, Acc]) | ((first | rw [stepG_split] | rw [cnd_split] | rw [pickQ_split]); split))
            all_goals (refine ⟨⟨_, rfl⟩, .inr ⟨j, c, by omega, by omega, rfl, ?_, .inr top⟩⟩; simp only [↓reduceIte, go_sem, *])
        | some l =>
          obtain ⟨p, r, rfl, hr⟩ := hpc l hp
          rw [hp] at h1 hfl
          simp only [pathV, List.map_cons] at h1 hfl
          clear hpc hp
          obtain ⟨m2, m3⟩ := fit_two' hle2 hr
          clear hle2
          have hrl : (r.map Pt.av).length = r.length := List.length_map _
          have hLl : (L.map Pt.av).length = L.length := List.length_map _
          rcases acc with ⟨rfl, g4⟩ | ⟨j, c, hj, hcl, g4, row, top, ne⟩
          · unfold L53b loopOf c53
            repeat' (first | done | (simp -implicitDefEqProofs only [↓reduceIte, go_sem, *, ixaQ_slv hxm, Ar.av, Sv.av, Ft.av, I53b, base53, Acc]) | ((first | rw [stepG_split] | rw [cnd_split] | rw [pickQ_split]); split))
            clear m2 m3
            all_goals exact ⟨⟨_, rfl⟩, m + 2, m + 4, by omega, by omega, rfl, by rw [if_pos rfl], .inl rfl, by simp⟩
          · rw [nx] at hj hcl
            obtain ⟨n1, n2, n3, n4, n5, n6⟩ := ne_facts (Nat.lt_of_add_lt_add_right hj)
            obtain ⟨c1, c2, c3, c4, c5, c6⟩ := ne_facts hcl
            unfold L53b loopOf c53
            repeat' (first | done | (simp -implicitDefEqProofs only [↓reduceIte, go_sem, *, ixaQ_slv hxm, Ar.av, Sv.av, Ft.av, I53b, base53, Acc]) | ((first | rw [stepG_split] | rw [cnd_split] | rw [pickQ_split]); split))
            clear m2 m3
            all_goals exact ⟨⟨_, rfl⟩, .inr ⟨m + 2, c, by omega, by omega, by rw [List.length_append]; rfl, by rw [if_pos rfl, List.map_append]; rfl, .inl rfl, by rw [List.length_append, List.length_cons]; omega⟩⟩
      · clear hNo
        rw [hYes q3, pathP] at hfl
        clear hYes q3
        cases hp : pathL s x.id with
        | none =>
          rw [hp] at h1 hfl
          simp only [pathV, List.append_nil] at h1 hfl
          clear hpc hp hle2
          rcases acc with ⟨rfl, g4⟩ | ⟨j, c, hj, hcl, g4, row, top, ne⟩
          · unfold L53b loopOf c53
            repeat' (first | done | (simp -implicitDefEqProofs only [↓reduceIte, go_sem, *, ixaQ_slv hxm, Ar.av, Sv.av, Ft.av, I53b, base53, Acc]) | ((first | rw [stepG_split] | rw [cnd_split] | rw [pickQ_split]); split))
            all_goals exact ⟨_, rfl⟩
          · rw [nx] at hj hcl
            obtain ⟨n1, n2, n3, n4, n5, n6⟩ := ne_facts (Nat.lt_of_add_lt_add_right hj)
            obtain ⟨c1, c2, c3, c4, c5, c6⟩ := ne_facts hcl
            unfold L53b loopOf c53
            repeat' (first | done | (simp -implicitDefEqProofs only [↓reduceIte, go_sem, *, ixaQ_slv hxm, Ar.av, Sv.av, Ft.av, I53b, base53, Acc]) | ((first | rw [stepG_split] | rw [cnd_split] | rw [pickQ_split]); split))
            all_goals (refine ⟨⟨_, rfl⟩, .inr ⟨j, c, by omega, by omega, rfl, ?_, .inr top⟩⟩; simp only [↓reduceIte, go_sem, *])
        | some l =>
          obtain ⟨p, r, rfl, hr⟩ := hpc l hp
          rw [hp] at h1 hfl
          simp only [pathV, List.map_cons] at h1 hfl
          clear hpc hp
          obtain ⟨m2, m3⟩ := fit_two' hle2 hr
          clear hle2
          have hrl : (r.map Pt.av).length = r.length := List.length_map _
          have hLl : (L.map Pt.av).length = L.length := List.length_map _
          rcases acc with ⟨rfl, g4⟩ | ⟨j, c, hj, hcl, g4, row, top, ne⟩
          · unfold L53b loopOf c53
            repeat' (first | done | (simp -implicitDefEqProofs only [↓reduceIte, go_sem, *, ixaQ_slv hxm, Ar.av, Sv.av, Ft.av, I53b, base53, Acc]) | ((first | rw [stepG_split] | rw [cnd_split] | rw [pickQ_split]); split))
            clear m2 m3
            all_goals exact ⟨⟨_, rfl⟩, m + 2, m + 4, by omega, by omega, rfl, by rw [if_pos rfl], .inl rfl, by simp⟩
          · rw [nx] at hj hcl
            obtain ⟨n1, n2, n3, n4, n5, n6⟩ := ne_facts (Nat.lt_of_add_lt_add_right hj)
            obtain ⟨c1, c2, c3, c4, c5, c6⟩ := ne_facts hcl
            unfold L53b loopOf c53
            repeat' (first | done | (simp -implicitDefEqProofs only [↓reduceIte, go_sem, *, ixaQ_slv hxm, Ar.av, Sv.av, Ft.av, I53b, base53, Acc]) | ((first | rw [stepG_split] | rw [cnd_split] | rw [pickQ_split]); split))
            clear m2 m3
            all_goals exact ⟨⟨_, rfl⟩, .inr ⟨m + 2, c, by omega, by omega, by rw [List.length_append]; rfl, by rw [if_pos rfl, List.map_append]; rfl, .inl rfl, by rw [List.length_append, List.length_cons]; omega⟩⟩
    · clear hYes
      rw [hNo q3, List.append_nil] at hfl
      clear hNo q3
      cases hp : pathL s x.id with
      | none =>
        rw [hp] at h1
        simp only [pathV] at h1
        clear hpc hp hle2
        rcases acc with ⟨rfl, g4⟩ | ⟨j, c, hj, hcl, g4, row, top, ne⟩
        · unfold L53b loopOf c53
          repeat' (first | done | (simp -implicitDefEqProofs only [↓reduceIte, go_sem, *, ixaQ_slv hxm, Ar.av, Sv.av, Ft.av, I53b, base53, Acc]) | ((first | rw [stepG_split] | rw [cnd_split] | rw [pickQ_split]); split))
          all_goals exact ⟨_, rfl⟩
        · rw [nx] at hj hcl
          obtain ⟨n1, n2, n3, n4, n5, n6⟩ := ne_facts (Nat.lt_of_add_lt_add_right hj)
          obtain ⟨c1, c2, c3, c4, c5, c6⟩ := ne_facts hcl
          unfold L53b loopOf c53
          repeat' (first | done | (simp -implicitDefEqProofs only [↓reduceIte, go_sem, *, ixaQ_slv hxm, Ar.av, Sv.av, Ft.av, I53b, base53, Acc]) | ((first | rw [stepG_split] | rw [cnd_split] | rw [pickQ_split]); split))
          all_goals (refine ⟨⟨_, rfl⟩, .inr ⟨j, c, by omega, by omega, rfl, ?_, .inr top⟩⟩; simp only [↓reduceIte, go_sem, *])
      | some l =>
        obtain ⟨p, r, rfl, hr⟩ := hpc l hp
        rw [hp] at h1
        simp only [pathV, List.map_cons] at h1
        clear hpc hp
        obtain ⟨m2, m3⟩ := fit_two' hle2 hr
        clear hle2
        have hrl : (r.map Pt.av).length = r.length := List.length_map _
        have hLl : (L.map Pt.av).length = L.length := List.length_map _
        rcases acc with ⟨rfl, g4⟩ | ⟨j, c, hj, hcl, g4, row, top, ne⟩
        · unfold L53b loopOf c53
          repeat' (first | done | (simp -implicitDefEqProofs only [↓reduceIte, go_sem, *, ixaQ_slv hxm, Ar.av, Sv.av, Ft.av, I53b, base53, Acc]) | ((first | rw [stepG_split] | rw [cnd_split] | rw [pickQ_split]); split))
          clear m2 m3
          all_goals exact ⟨_, rfl⟩
        · rw [nx] at hj hcl
          obtain ⟨n1, n2, n3, n4, n5, n6⟩ := ne_facts (Nat.lt_of_add_lt_add_right hj)
          obtain ⟨c1, c2, c3, c4, c5, c6⟩ := ne_facts hcl
          unfold L53b loopOf c53
          repeat' (first | done | (simp -implicitDefEqProofs only [↓reduceIte, go_sem, *, ixaQ_slv hxm, Ar.av, Sv.av, Ft.av, I53b, base53, Acc]) | ((first | rw [stepG_split] | rw [cnd_split] | rw [pickQ_split]); split))
          clear m2 m3
          all_goals (refine ⟨⟨_, rfl⟩, .inr ⟨j, c, by omega, by omega, rfl, ?_, .inr (.inr top)⟩⟩; simp only [↓reduceIte, go_sem, *])
    · clear hNo
      rw [hYes q3, pathP] at hfl
      clear hYes q3
      cases hp : pathL s x.id with
      | none =>
        rw [hp] at h1 hfl
        simp only [pathV, List.append_nil] at h1 hfl
        clear hpc hp hle2
        rcases acc with ⟨rfl, g4⟩ | ⟨j, c, hj, hcl, g4, row, top, ne⟩
        · unfold L53b loopOf c53
          repeat' (first | done | (simp -implicitDefEqProofs only [↓reduceIte, go_sem, *, ixaQ_slv hxm, Ar.av, Sv.av, Ft.av, I53b, base53, Acc]) | ((first | rw [stepG_split] | rw [cnd_split] | rw [pickQ_split]); split))
          all_goals exact ⟨_, rfl⟩
        · rw [nx] at hj hcl
          obtain ⟨n1, n2, n3, n4, n5, n6⟩ := ne_facts (Nat.lt_of_add_lt_add_right hj)
          obtain ⟨c1, c2, c3, c4, c5, c6⟩ := ne_facts hcl
          unfold L53b loopOf c53
          repeat' (first | done | (simp -implicitDefEqProofs only [↓reduceIte, go_sem, *, ixaQ_slv hxm, Ar.av, Sv.av, Ft.av, I53b, base53, Acc]) | ((first | rw [stepG_split] | rw [cnd_split] | rw [pickQ_split]); split))
          all_goals (refine ⟨⟨_, rfl⟩, .inr ⟨j, c, by omega, by omega, rfl, ?_, .inr top⟩⟩; simp only [↓reduceIte, go_sem, *])
      | some l =>
        obtain ⟨p, r, rfl, hr⟩ := hpc l hp
        rw [hp] at h1 hfl
        simp only [pathV, List.map_cons] at h1 hfl
        clear hpc hp
        obtain ⟨m2, m3⟩ := fit_two' hle2 hr
        clear hle2
        have hrl : (r.map Pt.av).length = r.length := List.length_map _
        have hLl : (L.map Pt.av).length = L.length := List.length_map _
        rcases acc with ⟨rfl, g4⟩ | ⟨j, c, hj, hcl, g4, row, top, ne⟩
        · unfold L53b loopOf c53
          repeat' (first | done | (simp -implicitDefEqProofs only [↓reduceIte, go_sem, *, ixaQ_slv hxm, Ar.av, Sv.av, Ft.av, I53b, base53, Acc]) | ((first | rw [stepG_split] | rw [cnd_split] | rw [pickQ_split]); split))
          clear m2 m3
          all_goals exact ⟨⟨_, rfl⟩, m + 2, m + 4, by omega, by omega, rfl, by rw [if_pos rfl], .inl rfl, by simp⟩
        · rw [nx] at hj hcl
          obtain ⟨n1, n2, n3, n4, n5, n6⟩ := ne_facts (Nat.lt_of_add_lt_add_right hj)
          obtain ⟨c1, c2, c3, c4, c5, c6⟩ := ne_facts hcl
          unfold L53b loopOf c53
          repeat' (first | done | (simp -implicitDefEqProofs only [↓reduceIte, go_sem, *, ixaQ_slv hxm, Ar.av, Sv.av, Ft.av, I53b, base53, Acc]) | ((first | rw [stepG_split] | rw [cnd_split] | rw [pickQ_split]); split))
          clear m2 m3
          all_goals exact ⟨⟨_, rfl⟩, .inr ⟨m + 2, c, by omega, by omega, by rw [List.length_append]; rfl, by rw [if_pos rfl, List.map_append]; rfl, .inl rfl, by rw [List.length_append, List.length_cons]; omega⟩⟩
    · clear hYes
      rw [hNo q3, List.append_nil] at hfl
      clear hNo q3
      cases hp : pathL s x.id with
      | none =>
        rw [hp] at h1
        simp only [pathV] at h1
        clear hpc hp hle2
        rcases acc with ⟨rfl, g4⟩ | ⟨j, c, hj, hcl, g4, row, top, ne⟩
        · unfold L53b loopOf c53
          repeat' (first | done | (simp -implicitDefEqProofs only [↓reduceIte, go_sem, *, ixaQ_slv hxm, Ar.av, Sv.av, Ft.av, I53b, base53, Acc]) | ((first | rw [stepG_split] | rw [cnd_split] | rw [pickQ_split]); split))
          all_goals exact ⟨_, rfl⟩
        · rw [nx] at hj hcl
          obtain ⟨n1, n2, n3, n4, n5, n6⟩ := ne_facts (Nat.lt_of_add_lt_add_right hj)
          obtain ⟨c1, c2, c3, c4, c5, c6⟩ := ne_facts hcl
          unfold L53b loopOf c53
          repeat' (first | done | (simp -implicitDefEqProofs only [↓reduceIte, go_sem, *, ixaQ_slv hxm, Ar.av, Sv.av, Ft.av, I53b, base53, Acc]) | ((first | rw [stepG_split] | rw [cnd_split] | rw [pickQ_split]); split))
          all_goals (refine ⟨⟨_, rfl⟩, .inr ⟨j, c, by omega, by omega, rfl, ?_, .inr top⟩⟩; simp only [↓reduceIte, go_sem, *])
      | some l =>
        obtain ⟨p, r, rfl, hr⟩ := hpc l hp
        rw [hp] at h1
        simp only [pathV, List.map_cons] at h1
        clear hpc hp
        obtain ⟨m2, m3⟩ := fit_two' hle2 hr
        clear hle2
        have hrl : (r.map Pt.av).length = r.length := List.length_map _
        have hLl : (L.map Pt.av).length = L.length := List.length_map _
        rcases acc with ⟨rfl, g4⟩ | ⟨j, c, hj, hcl, g4, row, top, ne⟩
        · unfold L53b loopOf c53
          repeat' (first | done | (simp -implicitDefEqProofs only [↓reduceIte, go_sem, *, ixaQ_slv hxm, Ar.av, Sv.av, Ft.av, I53b, base53, Acc]) | ((first | rw [stepG_split] | rw [cnd_split] | rw [pickQ_split]); split))
          clear m2 m3
          all_goals exact ⟨_, rfl⟩
        · rw [nx] at hj hcl
          obtain ⟨n1, n2, n3, n4, n5, n6⟩ := ne_facts (Nat.lt_of_add_lt_add_right hj)
          obtain ⟨c1, c2, c3, c4, c5, c6⟩ := ne_facts hcl
          unfold L53b loopOf c53
          repeat' (first | done | (simp -implicitDefEqProofs only [↓reduceIte, go_sem, *, ixaQ_slv hxm, Ar.av, Sv.av, Ft.av, I53b, base53, Acc]) | ((first | rw [stepG_split] | rw [cnd_split] | rw [pickQ_split]); split))
          clear m2 m3
          all_goals (refine ⟨⟨_, rfl⟩, .inr ⟨j, c, by omega, by omega, rfl, ?_, .inr (.inr top)⟩⟩; simp only [↓reduceIte, go_sem, *])
  · have : i = A.length := by omega
    subst this
    rw [List.take_length] at acc
    clear ok
    rcases hAA with ⟨hsh, rfl⟩ | ⟨hsh, rfl⟩
    · simp only [Sv.av] at r2
      unfold L53b loopOf c53
      repeat' (first | done | (simp -implicitDefEqProofs only [↓reduceIte, go_sem, *, Q53b, Int.lt_irrefl]) | ((first | rw [stepG_split] | rw [cnd_split] | rw [pickQ_split]); split))
    · simp only [Sv.av] at r2
      unfold L53b loopOf c53
      repeat' (first | done | (simp -implicitDefEqProofs only [↓reduceIte, go_sem, *, Q53b, Int.lt_irrefl]) | ((first | rw [stepG_split] | rw [cnd_split] | rw [pickQ_split]); split))
end Go.Ab
