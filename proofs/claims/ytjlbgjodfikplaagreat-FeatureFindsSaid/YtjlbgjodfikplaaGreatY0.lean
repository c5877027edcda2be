/- Appends, slices handed out: equations. The data of surveys. -/
import Derived.Test.YtjlbgjodfikplaaGreatXe
import Derived.Test.YtjlbgjodfikplaaGreatXz
set_option linter.unusedVariables false
set_option linter.unusedSimpArgs false
namespace Go.Ab
attribute [local go_sem] evParts_nil evParts_cons consP_some buildQ_some bldC_some mksQ_some mksC_some fillAll_nil fillAll_cons chop_zero chop_succ rep_zero rep_succ List.flatten_cons List.flatten_nil boxQ_c boxC_eq avCells_ptr List.append_nil List.all_nil List.all_cons Bool.true_and Bool.and_true isOne_int isOne_bool isOne_str isOne_nils isOne_own isOne_ptr isOne_slv lay_nil0 lay_cons0 lay_nil lay_succ List.drop_zero List.take_succ_cons List.take_zero List.drop_succ_cons List.getElem?_cons_zero List.getElem?_cons_succ List.take_nil List.drop_nil List.nil_append List.cons_append a_skip a_exit a_ret a_seq a_block a_cond a_reg thn_norm thn_exit thn_ret blk_norm blk_ret blk_exit rg_some cnd_true cnd_false ops_nil ops_g stepQ_quiet stepQ_makes stepW_some stepW_none stepG_tt stepG_tf stepG_ft stepG_ff stepG_ttN stepG_tfN stepG_ftN stepG_ffN stepG_skip stepG_skipN qv_s ev_t ev_c bin_add bin_sub bin_mul bin_lss bin_leq bin_gtr bin_geq bin_eql bin_neq viewOld_get add_next put_next add_row add_map put_get kl_row kl_none kl_map ops_mv ops_pick ops_new0 ops_new1 ops_new2 ops_box0 ops_box1 ops_box2 ops_build ops_mks0 ops_mks1 ops_mks2 ops_bin ops_un ops_len0 ops_len1 ops_len2 ops_call0 ops_call1 ops_call2 ops_fld ops_ixa ops_ext ops_app0 ops_app1 ops_app2 ops_mm ops_ixr ops_conv ops_convs ops_nilc ops_ixs ops_ixg ops_mkf ops_bb ops_nq ops_eqs ops_ld0 ops_ld1 ops_ld2 ops_st ops_calli pickQ_true pickQ_false ldRow_one ldQ_ref ldQ_ptr cut_false cut_true binQ_some unQ_some un_not un_neg fldQ_ptr fldQ_ref extQ_tup evs_nil evs_cons consO_some lenQ_slv lenQ_ro lenQ_own lenQ_nils lenQ_str stQ_ptr stR_one avCells_agg avCells_int avCells_bool avCells_str avCells_slv avCells_own avCells_nils get_set List.length_cons List.length_nil Res_some Res_thn Res_blk seqP_norm seqP_exit seqP_ret blkP_norm blkP_exit blkP_ret rndP_norm rndP_exit rndP_ret Fin_norm Fin_ret Fin_exit rvV_ptr rvC_one evRV_t evRV_c evRVs_nil evRVs_cons ofL_nil ofL_cons tupOf_one tupOf_two exP if_true if_false not_false_eq_true not_true_eq_false decide_true decide_false Option.isSome_some eq_self and_self and_true true_and and_false false_and Nat.zero_add Nat.add_zero decide_eq_true_eq decide_eq_false_iff_not ne_eq Bool.false_eq_true Bool.true_eq_false reduceCtorEq Nat.reduceLT Nat.reduceEqDiff Nat.reduceAdd Nat.reduceSub Nat.reduceMul Nat.reduceLeDiff get_lf List.length_map mapF_nil mapF_cons mapC_some callQ_fn callR_some callS_cint callS_cbool callS_cstr frz_own frzR_row frzE_some frz_aggC frzA_some frz_int frz_bool frz_str frz_ro frz_nils frz_ref frz_slv view_get view_next viewOld_next eqsQ_agg eqC_some eqK_nil eqK_cons andO_some eq1_int eq1_bool eq1_str bbQ_some mmQ_some mm_nil mm_max mm_min convQ_some mkfQ_some convsQ_some nilcQ_ptr nilcQ_ref bin_quo bin_rem Int.reduceEq Int.reduceNe Int.reduceNeg flatA_agg flatA_int flatA_bool flatA_str flatA_nils flatA_ro flatA_slv flat_int flat_bool flat_str flat_nils flat_ro flat_slv num_int num_bool num_str all_mem_cons all_mem_nil export_flat export_tup callS_nums callS_flat callS_tup Bool.not_true Bool.not_false Bool.and_false Bool.false_and Bool.or_true Bool.true_or Bool.or_false Bool.false_or Bool.not_eq_true Bool.not_eq_false Bool.not_not Bool.not_eq_eq_eq_not Bool.not_eq_true' E0_next E0_get eq_add_one add_one_eq add_eq_add lt_add_self add_lt_add Nat.add_assoc ops_mkv mkvQ_some mkvC_some stv_int stv_bool stv_str stv_nils stv_ro stv_slv isOne_ro ops_slr0 ops_slr1 slrA_ptr slrA_ref frz_ptrC frzPt_one frzPc_some slrQ_some slrP_all stepQ_seal sealC_get slO_row slO_none slO_map seal_next callS_tupC callS_aggC callS_exC callT_nil callT_no callT_yes adp_ex adp_agg adp_tup adpL_nil adpL_cons adK_some adJ_some adA_some adT_some adp_int adp_bool adp_str adp_nils adp_ro adp_slv hasRo_int hasRo_bool hasRo_str hasRo_nils hasRo_ro hasRo_agg hasRo_tup hasRo_ex List.any_nil List.any_cons bin_seq bin_sne
variable {prim : Nat → List AV → Option AV}
set_option maxRecDepth 10000

/-! ### append -/
theorem appQ_some (V : View) (k b : Nat) (sv xv : AV) : appQ V k b (some sv) (some xv) = appR V k b sv (elems V.get xv) := rfl
theorem appR_e_nils (V : View) (k b k' : Nat) : appR V k b .nils (some (k', [])) = some ⟨.nils, [], none, []⟩ := rfl
theorem appR_e_own (V : View) (k b k' k2 id i n : Nat) : appR V k b (.own k2 id i n) (some (k', [])) = some ⟨.own k2 id i n, [], none, []⟩ := rfl
theorem appR_cons (V : View) (k b : Nat) (sv : AV) (x : List AV) (xs : List (List AV)) : appR V k b sv (some (k, x :: xs)) = appN V k b (x :: xs) sv := by simp [appR]
theorem appN_nils (V : View) (k b : Nat) (xs : List (List AV)) : appN V k b xs .nils = if xs.length * b ≤ maxL then some ⟨.own k V.next 0 xs.length, [.row k xs V.next false], none, []⟩ else none := rfl
theorem appN_own (V : View) (k b k2 id i n : Nat) (xs : List (List AV)) : appN V k b xs (.own k2 id i n) = appO V k b k2 id i n xs (V.get id) := rfl
theorem appO_row (V : View) (k bytes k2 id i n : Nat) (xs : List (List AV)) (k' : Nat) (es : List (List AV)) (cls : Nat) (sealed : Bool) :
    appO V k bytes k2 id i n xs (some (.row k' es cls sealed)) = if k2 = k ∧ i + n = es.length ∧ V.top id = true ∧ sealed = false ∧ (n + xs.length) * bytes ≤ maxL then
      some ⟨.own k V.next 0 (n + xs.length), [.row k (es.drop i ++ xs) cls false], some id, []⟩ else none := rfl
theorem elems_ro (g : Nat → Option AObj) (k : Nat) (es : List (List AV)) : elems g (.ro k es) = some (k, es) := rfl
theorem elems_nils (g : Nat → Option AObj) : elems g .nils = some (0, []) := rfl
def elO (k i n : Nat) : Option AObj → Option (Nat × List (List AV))
  | some (.row _ es _ _) => if i + n ≤ es.length then some (k, (es.drop i).take n) else none
  | _ => none
theorem elems_own (g : Nat → Option AObj) (k id i n : Nat) : elems g (.own k id i n) = elO k i n (g id) := by
  rw [elems]
  cases g id with
  | none => rfl
  | some o => cases o with
    | row k' es c s =>
      simp only [elO]
      by_cases h : i + n ≤ es.length
      · have h' : Nat.ble (i + n) es.length = true := by simpa using h
        simp only [h', h, cond_true, if_true]
      · have h' : Nat.ble (i + n) es.length = false := by rw [Bool.eq_false_iff]; simpa using h
        simp only [h', h, cond_false, if_false]
    | _ => rfl
theorem elO_row (k i n k' : Nat) (es : List (List AV)) (c : Nat) (s : Bool) : elO k i n (some (.row k' es c s)) = if i + n ≤ es.length then some (k, (es.drop i).take n) else none := rfl
theorem view_topD (h : AH) (j : Nat) : h.view.top j = decide (j ∈ h.tops) := by rw [view_top, contains_dec]
theorem add_top0D (h : AH) (o : AObj) (j : Nat) : (j ∈ (h.add [o] none).tops) ↔ (j = h.next ∨ j ∈ h.tops) := by
  have := congrArg (fun b => b = true) (add_top0 h o j)
  simpa [contains_dec] using this
theorem add_top1D (h : AH) (o : AObj) (u j : Nat) : (j ∈ (h.add [o] (some u)).tops) ↔ (j = h.next ∨ (j ≠ u ∧ j ∈ h.tops)) := by
  have := congrArg (fun b => b = true) (add_top1 h o u j)
  simpa [contains_dec] using this
theorem seal_tops (h : AH) (cl : List Nat) : (h.sealC cl).tops = h.tops := rfl
theorem E0_tops : E0.tops = [] := rfl
/-- A slice that is handed out: nil, or a row. -/
def exs (n : Bool) (k : Nat) (es : List (List AV)) : AV := if n = true ∧ es = [] then .nils else .ex k es
theorem nqQ_slv (n : Bool) (k : Nat) (es : List (List AV)) : nqQ 1 false (some (slv n k es)) (some .nils) = some ⟨.bool (decide (n = true ∧ es = [])), [], none, []⟩ := by
  unfold slv
  split
  · rename_i h; simp [h, nqQ, nilq, fam]
  · rename_i h
    have : decide (n = true ∧ es = []) = false := decide_eq_false h
    rw [this]; rfl

/-- Results: what is handed out. -/
theorem xpt_ownRow {g : Nat → Option AObj} {f k id i n k' : Nat} {es : List (List AV)} {cls : Nat} (hg : g id = some (.row k' es cls false)) (hn : i + n ≤ es.length) (hf : ∀ e ∈ es, ∀ c ∈ e, Flat c) :
    xpt g (f + 1) (.own k id i n) = some (.ex k ((es.drop i).take n), [cls], []) := by
  have h' : Nat.ble (i + n) es.length = true := by simpa using hn
  have hm : ∀ (l : List (List AV)), (∀ e ∈ l, ∀ c ∈ e, Flat c) → mapF (mapF (frz g 16)) l = some (l, []) := by
    intro l
    induction l with
    | nil => intro _; rfl
    | cons e r ih =>
      intro hl
      have h1 : mapF (frz g 16) e = some (e, []) := mapF_flat (f := 15) (hl e (by simp))
      rw [mapF_cons, h1, ih (fun e he => hl e (by simp [he]))]; rfl
  have hs : mapF (mapF (frz g 16)) ((es.drop i).take n) = some ((es.drop i).take n, []) := hm _ (fun e he => hf e (List.mem_of_mem_drop (List.mem_of_mem_take he)))
  rw [xpt]
  simp only [hg, h', cond_true, hs, cond_false]
theorem export_ownRow {h : AH} {k id i n k' : Nat} {es : List (List AV)} {cls : Nat} (hg : h.get id = some (.row k' es cls false)) (hn : i + n ≤ es.length) (hf : ∀ e ∈ es, ∀ c ∈ e, Flat c) :
    export1 (.own k id i n, h) = some (.ex k ((es.drop i).take n)) := by
  unfold export1
  simp only [xpt_ownRow (f := 3) hg hn hf]
  rfl
attribute [local go_sem] appQ_some appR_e_nils appR_e_own appR_cons appN_nils appN_own appO_row elems_ro elems_nils elems_own elO_row view_topD add_top0D add_top1D seal_tops E0_tops put_tops nqQ_slv List.not_mem_nil or_false or_true true_or false_or List.mem_cons

/-! ### surveys -/
structure Nd where
  id : Int
  x : Int
  y : Int
def Nd.av (n : Nd) : List AV := [.int .i64 n.id, .int .i64 n.x, .int .i64 n.y]
structure Ar where
  id : Int
  fr : Int
  to : Int
  vn : Bool
  via : List Pt
  lf : Int
  rt : Int
def Ar.av (a : Ar) : List AV := [.int .i64 a.id, .int .i64 a.fr, .int .i64 a.to, slv a.vn 2 (a.via.map Pt.av), .int .i64 a.lf, .int .i64 a.rt]
structure Ft where
  id : Int
  kind : Int
  cls : Int
  name : List UInt8
  pn : Bool
  parts : List Int
def Ft.av (f : Ft) : List AV := [.int .i64 f.id, .int .i64 f.kind, .int .i64 f.cls, .str f.name, slv f.pn 1 (f.parts.map cell)]
structure Sv where
  nn : Bool
  nodes : List Nd
  an : Bool
  arcs : List Ar
  fn : Bool
  faces : List Int
  tn : Bool
  feats : List Ft
def Sv.plan (s : Sv) : List AV := [slv s.nn 3 (s.nodes.map Nd.av), slv s.an 6 (s.arcs.map Ar.av), slv s.fn 1 (s.faces.map cell)]
def Sv.av (s : Sv) : List AV := [slv s.nn 3 (s.nodes.map Nd.av), slv s.an 6 (s.arcs.map Ar.av), slv s.fn 1 (s.faces.map cell), slv s.tn 5 (s.feats.map Ft.av)]

/-! ### small functions -/
def shape (k : Int) : Int := if k = 1 ∨ k = 2 ∨ k = 8 then 1 else if k = 3 ∨ k = 4 then 2 else if k = 5 ∨ k = 6 ∨ k = 7 then 3 else 0
theorem F32 : F.get 32 = some c32 := by rfl
theorem F40 : F.get 40 = some c40 := by rfl
theorem F78 : F.get 78 = some c78 := by rfl
theorem shape32 (k : Int) : (om prim F).p 32 [.int .i64 k] = some (.int .i64 (shape k)) := by
  refine call_of F32 rfl ?_
  unfold c32
  repeat' (first | done | (simp -implicitDefEqProofs only [↓reduceIte, go_sem, *]) | ((first | rw [stepG_split] | rw [cnd_split] | rw [pickQ_split]); split))
  all_goals (simp only [decide_eq_true_eq, decide_eq_false_iff_not] at *; simp [shape, *])
theorem shape40 (k : Int) : (om prim F).p 40 [.int .i64 k] = some (.int .i64 (shape k)) := by
  refine call_of F40 rfl ?_
  unfold c40
  repeat' (first | done | (simp -implicitDefEqProofs only [↓reduceIte, go_sem, *]) | ((first | rw [stepG_split] | rw [cnd_split] | rw [pickQ_split]); split))
  all_goals (simp only [decide_eq_true_eq, decide_eq_false_iff_not] at *; simp [shape, *])
def frzFn (gg : Nat) : Option (List AV × List Nat) → Option (AV × List Nat)
  | some r => some (.fn gg r.1, r.2)
  | none => none
theorem frz_fnC (g : Nat → Option AObj) (f gg : Nat) (cs : List AV) : frz g (f + 1) (.fn gg cs) = frzFn gg (mapF (frz g f) cs) := by
  rw [frz]; cases mapF (frz g f) cs <;> rfl
theorem frzFn_some (gg : Nat) (cs : List AV) (l : List Nat) : frzFn gg (some (cs, l)) = some (.fn gg cs, l) := rfl
attribute [local go_sem] frz_fnC frzFn_some
theorem slv_cons (n : Bool) (k : Nat) (e : List AV) (es : List (List AV)) : slv n k (e :: es) = .ro k (e :: es) := by simp [slv]
theorem slv_nil (k : Nat) : slv true k [] = .nils := by simp [slv]
theorem slv_mt (k : Nat) : slv false k [] = .ro k [] := by simp [slv]
theorem exs_cons (n : Bool) (k : Nat) (e : List AV) (es : List (List AV)) : exs n k (e :: es) = .ex k (e :: es) := by simp [exs]
theorem exs_nil (k : Nat) : exs true k [] = .nils := by simp [exs]
theorem exs_mt (k : Nat) : exs false k [] = .ex k [] := by simp [exs]
theorem cells_flat (zs : List Int) : ∀ e ∈ zs.map cell, ∀ c ∈ e, Flat c := by
  intro e he c hc
  obtain ⟨z, _, rfl⟩ := List.mem_map.1 he
  simp only [cell, List.mem_cons, List.not_mem_nil, or_false] at hc
  subst hc; trivial
theorem nqQ_ro (k : Nat) (es : List (List AV)) : nqQ 1 false (some (.ro k es)) (some .nils) = some ⟨.bool false, [], none, []⟩ := rfl
theorem nqQ_nils : nqQ 1 false (some .nils) (some .nils) = some ⟨.bool true, [], none, []⟩ := rfl
attribute [local go_sem] nqQ_ro nqQ_nils List.map_nil List.map_cons
theorem clone78 (n : Bool) (zs : List Int) (hl : zs.length ≤ 1073741824) : (om prim F).p 78 [slv n 1 (zs.map cell)] = some (exs n 1 (zs.map cell)) := by
  refine call_of F78 rfl ?_
  unfold c78
  cases zs with
  | nil =>
    cases n with
    | true => rw [List.map_nil, slv_nil, exs_nil]; repeat' (first | done | (simp -implicitDefEqProofs only [↓reduceIte, go_sem, *]) | ((first | rw [stepG_split] | rw [cnd_split] | rw [pickQ_split]); split))
    | false =>
      rw [List.map_nil, slv_mt, exs_mt]
      repeat' (first | done | (simp -implicitDefEqProofs only [↓reduceIte, go_sem, *]) | ((first | rw [stepG_split] | rw [cnd_split] | rw [pickQ_split]); split))
      exact export_ownRow (k' := 1) (cls := 0) (es := []) (by simp only [↓reduceIte, go_sem]) (by simp) (by simp)
  | cons z zs =>
    have hc := cells_flat (z :: zs)
    have hm : ((zs.length + 1) * 8 ≤ maxL) := by simp only [maxL]; simp at hl; omega
    rw [List.map_cons] at hc ⊢
    rw [slv_cons, exs_cons]
    repeat' (first | done | (simp -implicitDefEqProofs only [↓reduceIte, go_sem, *]) | ((first | rw [stepG_split] | rw [cnd_split] | rw [pickQ_split]); split))
    refine (export_ownRow (k' := 1) (cls := 0) (es := cell z :: zs.map cell) (by simp only [↓reduceIte, go_sem]) (by simp) hc).trans ?_
    rw [List.drop_zero, List.take_of_length_le (by simp)]
end Go.Ab
namespace Go.Ab
attribute [local go_sem] evParts_nil evParts_cons consP_some buildQ_some bldC_some mksQ_some mksC_some fillAll_nil fillAll_cons chop_zero chop_succ rep_zero rep_succ List.flatten_cons List.flatten_nil boxQ_c boxC_eq avCells_ptr List.append_nil List.all_nil List.all_cons Bool.true_and Bool.and_true isOne_int isOne_bool isOne_str isOne_nils isOne_own isOne_ptr isOne_slv lay_nil0 lay_cons0 lay_nil lay_succ List.drop_zero List.take_succ_cons List.take_zero List.drop_succ_cons List.getElem?_cons_zero List.getElem?_cons_succ List.take_nil List.drop_nil List.nil_append List.cons_append a_skip a_exit a_ret a_seq a_block a_cond a_reg thn_norm thn_exit thn_ret blk_norm blk_ret blk_exit rg_some cnd_true cnd_false ops_nil ops_g stepQ_quiet stepQ_makes stepW_some stepW_none stepG_tt stepG_tf stepG_ft stepG_ff stepG_ttN stepG_tfN stepG_ftN stepG_ffN stepG_skip stepG_skipN qv_s ev_t ev_c bin_add bin_sub bin_mul bin_lss bin_leq bin_gtr bin_geq bin_eql bin_neq viewOld_get add_next put_next add_row add_map put_get kl_row kl_none kl_map ops_mv ops_pick ops_new0 ops_new1 ops_new2 ops_box0 ops_box1 ops_box2 ops_build ops_mks0 ops_mks1 ops_mks2 ops_bin ops_un ops_len0 ops_len1 ops_len2 ops_call0 ops_call1 ops_call2 ops_fld ops_ixa ops_ext ops_app0 ops_app1 ops_app2 ops_mm ops_ixr ops_conv ops_convs ops_nilc ops_ixs ops_ixg ops_mkf ops_bb ops_nq ops_eqs ops_ld0 ops_ld1 ops_ld2 ops_st ops_calli pickQ_true pickQ_false ldRow_one ldQ_ref ldQ_ptr cut_false cut_true binQ_some unQ_some un_not un_neg fldQ_ptr fldQ_ref extQ_tup evs_nil evs_cons consO_some lenQ_slv lenQ_ro lenQ_own lenQ_nils lenQ_str stQ_ptr stR_one avCells_agg avCells_int avCells_bool avCells_str avCells_slv avCells_own avCells_nils get_set List.length_cons List.length_nil Res_some Res_thn Res_blk seqP_norm seqP_exit seqP_ret blkP_norm blkP_exit blkP_ret rndP_norm rndP_exit rndP_ret Fin_norm Fin_ret Fin_exit rvV_ptr rvC_one evRV_t evRV_c evRVs_nil evRVs_cons ofL_nil ofL_cons tupOf_one tupOf_two exP if_true if_false not_false_eq_true not_true_eq_false decide_true decide_false Option.isSome_some eq_self and_self and_true true_and and_false false_and Nat.zero_add Nat.add_zero decide_eq_true_eq decide_eq_false_iff_not ne_eq Bool.false_eq_true Bool.true_eq_false reduceCtorEq Nat.reduceLT Nat.reduceEqDiff Nat.reduceAdd Nat.reduceSub Nat.reduceMul Nat.reduceLeDiff get_lf List.length_map mapF_nil mapF_cons mapC_some callQ_fn callR_some callS_cint callS_cbool callS_cstr frz_own frzR_row frzE_some frz_aggC frzA_some frz_int frz_bool frz_str frz_ro frz_nils frz_ref frz_slv view_get view_next viewOld_next eqsQ_agg eqC_some eqK_nil eqK_cons andO_some eq1_int eq1_bool eq1_str bbQ_some mmQ_some mm_nil mm_max mm_min convQ_some mkfQ_some convsQ_some nilcQ_ptr nilcQ_ref bin_quo bin_rem Int.reduceEq Int.reduceNe Int.reduceNeg flatA_agg flatA_int flatA_bool flatA_str flatA_nils flatA_ro flatA_slv flat_int flat_bool flat_str flat_nils flat_ro flat_slv num_int num_bool num_str all_mem_cons all_mem_nil export_flat export_tup callS_nums callS_flat callS_tup Bool.not_true Bool.not_false Bool.and_false Bool.false_and Bool.or_true Bool.true_or Bool.or_false Bool.false_or Bool.not_eq_true Bool.not_eq_false Bool.not_not Bool.not_eq_eq_eq_not Bool.not_eq_true' E0_next E0_get eq_add_one add_one_eq add_eq_add lt_add_self add_lt_add Nat.add_assoc ops_mkv mkvQ_some mkvC_some stv_int stv_bool stv_str stv_nils stv_ro stv_slv isOne_ro ops_slr0 ops_slr1 slrA_ptr slrA_ref frz_ptrC frzPt_one frzPc_some slrQ_some slrP_all stepQ_seal sealC_get slO_row slO_none slO_map seal_next callS_tupC callS_aggC callS_exC callT_nil callT_no callT_yes adp_ex adp_agg adp_tup adpL_nil adpL_cons adK_some adJ_some adA_some adT_some adp_int adp_bool adp_str adp_nils adp_ro adp_slv hasRo_int hasRo_bool hasRo_str hasRo_nils hasRo_ro hasRo_agg hasRo_tup hasRo_ex List.any_nil List.any_cons bin_seq bin_sne appQ_some appR_e_nils appR_e_own appR_cons appN_nils appN_own appO_row elems_ro elems_nils elems_own elO_row view_topD add_top0D add_top1D seal_tops E0_tops put_tops nqQ_slv List.not_mem_nil or_false or_true true_or false_or List.mem_cons frz_fnC frzFn_some nqQ_ro nqQ_nils List.map_nil List.map_cons
variable {prim : Nat → List AV → Option AV}
set_option maxRecDepth 10000
def idxI : Option Nat → Int
  | some i => (i : Int)
  | none => -1
def QIdx (o : Option Nat) : Ex → St → Prop
  | .exit i, _ => i = 0 ∧ o = none
  | .ret, s => ∃ j, o = some j ∧ s.t.get 4 = some (.int .i64 ((j : Nat) : Int))
  | _, _ => False
theorem idx_take {α : Type} {l : List α} {p : α → Bool} {i : Nat} {x : α} (hx : l[i]? = some x) (h : (l.take i).findIdx? p = none) (hp : p x = true) : l.findIdx? p = some i := by
  obtain ⟨hi, rfl⟩ := List.getElem?_eq_some_iff.1 hx
  rw [List.findIdx?_eq_some_iff_getElem]
  refine ⟨hi, hp, fun j hj => ?_⟩
  have h2 := List.findIdx?_eq_none_iff.1 h
  have hm : l[j] ∈ l.take i := by
    rw [List.mem_iff_getElem]
    exact ⟨j, by rw [List.length_take]; omega, by rw [List.getElem_take]⟩
  simpa using h2 _ hm
theorem idx_next {α : Type} {l : List α} {p : α → Bool} {i : Nat} {x : α} (hx : l[i]? = some x) (h : (l.take i).findIdx? p = none) (hp : p x = false) : (l.take (i + 1)).findIdx? p = none := by
  rw [List.take_add_one, hx, List.findIdx?_append, h]
  simp [List.findIdx?_cons, hp]
theorem F110 : F.get 110 = some c110 := by rfl
def L110 : C := match c110.body with
  | .seq _ (.seq (.seq _ (.block _ (.loop b))) _) => b
  | _ => .skip
def I110 (n : Bool) (l : List Ft) (g : Nat) (caps : List AV) (p : Ft → Bool) (i : Nat) (s : St) : Prop :=
  s.t.get 0 = some (slv n 5 (l.map Ft.av)) ∧ s.t.get 6 = some (slv n 5 (l.map Ft.av)) ∧ s.t.get 7 = some (.int .i64 l.length) ∧ s.t.get 8 = some (.int .i64 i) ∧ s.t.get 1 = some (.fn g caps) ∧ (l.take i).findIdx? p = none
theorem round110 (n : Bool) (l : List Ft) (g : Nat) (caps : List AV) (p : Ft → Bool) (hc : ∀ c ∈ caps, FlatA c) (hp : ∀ x ∈ l, (om prim F).p g (.agg x.av :: caps) = some (.bool (p x))) (hl : l.length ≤ maxLen) (i : Nat) (s : St) (hi : i ≤ l.length) (hI : I110 n l g caps p i s) :
    Res ((om prim F).a L110 s) (rndP (fun s' => i < l.length ∧ I110 n l g caps p (i + 1) s') (QIdx (l.findIdx? p))) := by
  obtain ⟨t, h⟩ := s
  obtain ⟨g0, g6, g7, g8, g1, no⟩ := hI
  simp only at g0 g6 g7 g8 g1 no
  by_cases hlt : i < l.length
  · have hx : l[i]? = some l[i] := List.getElem?_eq_getElem hlt
    generalize l[i] = x at hx
    have hxm : (l.map Ft.av)[i]? = some x.av := by simp [hx]
    have hil : (i : Int) < l.length := by omega
    have hw := wrap_succ hlt hl
    have hpx := hp x (List.mem_of_getElem? hx)
    have hcap : mapF (frz h.get 16) caps = some (caps, []) := frzs_flat (f := 14) hc
    simp only [Ft.av] at hpx
    clear hp hc
    unfold L110 c110
    repeat' (first | done | (simp -implicitDefEqProofs only [↓reduceIte, go_sem, *, ixaQ_slv hxm, Ft.av, I110, QIdx]) | ((first | rw [stepG_split] | rw [cnd_split] | rw [pickQ_split]); split))
    · rename_i h1
      exact ⟨i, idx_take hx no h1, rfl⟩
    · rename_i h1
      exact idx_next hx no h1
  · have : i = l.length := by omega
    subst this
    rw [List.take_length] at no
    clear hp hc
    unfold L110 c110
    repeat' (first | done | (simp -implicitDefEqProofs only [↓reduceIte, go_sem, *, QIdx, Int.lt_irrefl]) | ((first | rw [stepG_split] | rw [cnd_split] | rw [pickQ_split]); split))
theorem indexFunc110 (n : Bool) (l : List Ft) (g : Nat) (caps : List AV) (p : Ft → Bool) (hc : ∀ c ∈ caps, FlatA c) (hp : ∀ x ∈ l, (om prim F).p g (.agg x.av :: caps) = some (.bool (p x))) (hl : l.length ≤ maxLen) :
    (om prim F).p 110 [slv n 5 (l.map Ft.av), .fn g caps] = some (.int .i64 (idxI (l.findIdx? p))) := by
  refine call_of F110 rfl ?_
  unfold c110
  simp only [↓reduceIte, go_sem]
  refine (loop_up l.length (I110 n l g caps p) (round110 n l g caps p hc hp hl) 0 _ (Nat.zero_le _) (by simp only [↓reduceIte, go_sem, I110]; exact ⟨rfl, rfl⟩)).mono ?_
  clear hp hc
  rintro e ⟨t, h⟩ hq
  cases e with
  | norm => exact hq.elim
  | exit i =>
    obtain ⟨rfl, h1⟩ := hq
    repeat' (first | done | (simp -implicitDefEqProofs only [↓reduceIte, go_sem, *, idxI]) | ((first | rw [stepG_split] | rw [cnd_split] | rw [pickQ_split]); split))
  | ret =>
    obtain ⟨j, h1, h2⟩ := hq
    simp only at h2
    repeat' (first | done | (simp -implicitDefEqProofs only [↓reduceIte, go_sem, *, idxI]) | ((first | rw [stepG_split] | rw [cnd_split] | rw [pickQ_split]); split))
theorem F79 : F.get 79 = some c79 := by rfl
def L79 : C := match c79.body with
  | .seq _ (.seq (.seq _ (.block _ (.loop b))) _) => b
  | _ => .skip
def I79 (n : Bool) (l : List Nd) (g : Nat) (caps : List AV) (p : Nd → Bool) (i : Nat) (s : St) : Prop :=
  s.t.get 0 = some (slv n 3 (l.map Nd.av)) ∧ s.t.get 6 = some (slv n 3 (l.map Nd.av)) ∧ s.t.get 7 = some (.int .i64 l.length) ∧ s.t.get 8 = some (.int .i64 i) ∧ s.t.get 1 = some (.fn g caps) ∧ (l.take i).findIdx? p = none
theorem round79 (n : Bool) (l : List Nd) (g : Nat) (caps : List AV) (p : Nd → Bool) (hc : ∀ c ∈ caps, FlatA c) (hp : ∀ x ∈ l, (om prim F).p g (.agg x.av :: caps) = some (.bool (p x))) (hl : l.length ≤ maxLen) (i : Nat) (s : St) (hi : i ≤ l.length) (hI : I79 n l g caps p i s) :
    Res ((om prim F).a L79 s) (rndP (fun s' => i < l.length ∧ I79 n l g caps p (i + 1) s') (QIdx (l.findIdx? p))) := by
  obtain ⟨t, h⟩ := s
  obtain ⟨g0, g6, g7, g8, g1, no⟩ := hI
  simp only at g0 g6 g7 g8 g1 no
  by_cases hlt : i < l.length
  · have hx : l[i]? = some l[i] := List.getElem?_eq_getElem hlt
    generalize l[i] = x at hx
    have hxm : (l.map Nd.av)[i]? = some x.av := by simp [hx]
    have hil : (i : Int) < l.length := by omega
    have hw := wrap_succ hlt hl
    have hpx := hp x (List.mem_of_getElem? hx)
    have hcap : mapF (frz h.get 16) caps = some (caps, []) := frzs_flat (f := 14) hc
    simp only [Nd.av] at hpx
    clear hp hc
    unfold L79 c79
    repeat' (first | done | (simp -implicitDefEqProofs only [↓reduceIte, go_sem, *, ixaQ_slv hxm, Nd.av, I79, QIdx]) | ((first | rw [stepG_split] | rw [cnd_split] | rw [pickQ_split]); split))
    · rename_i h1
      exact ⟨i, idx_take hx no h1, rfl⟩
    · rename_i h1
      exact idx_next hx no h1
  · have : i = l.length := by omega
    subst this
    rw [List.take_length] at no
    clear hp hc
    unfold L79 c79
    repeat' (first | done | (simp -implicitDefEqProofs only [↓reduceIte, go_sem, *, QIdx, Int.lt_irrefl]) | ((first | rw [stepG_split] | rw [cnd_split] | rw [pickQ_split]); split))
theorem indexFunc79 (n : Bool) (l : List Nd) (g : Nat) (caps : List AV) (p : Nd → Bool) (hc : ∀ c ∈ caps, FlatA c) (hp : ∀ x ∈ l, (om prim F).p g (.agg x.av :: caps) = some (.bool (p x))) (hl : l.length ≤ maxLen) :
    (om prim F).p 79 [slv n 3 (l.map Nd.av), .fn g caps] = some (.int .i64 (idxI (l.findIdx? p))) := by
  refine call_of F79 rfl ?_
  unfold c79
  simp only [↓reduceIte, go_sem]
  refine (loop_up l.length (I79 n l g caps p) (round79 n l g caps p hc hp hl) 0 _ (Nat.zero_le _) (by simp only [↓reduceIte, go_sem, I79]; exact ⟨rfl, rfl⟩)).mono ?_
  clear hp hc
  rintro e ⟨t, h⟩ hq
  cases e with
  | norm => exact hq.elim
  | exit i =>
    obtain ⟨rfl, h1⟩ := hq
    repeat' (first | done | (simp -implicitDefEqProofs only [↓reduceIte, go_sem, *, idxI]) | ((first | rw [stepG_split] | rw [cnd_split] | rw [pickQ_split]); split))
  | ret =>
    obtain ⟨j, h1, h2⟩ := hq
    simp only at h2
    repeat' (first | done | (simp -implicitDefEqProofs only [↓reduceIte, go_sem, *, idxI]) | ((first | rw [stepG_split] | rw [cnd_split] | rw [pickQ_split]); split))
theorem F145 : F.get 145 = some c145 := by rfl
def L145 : C := match c145.body with
  | .seq _ (.seq (.seq _ (.block _ (.loop b))) _) => b
  | _ => .skip
def I145 (n : Bool) (l : List Ar) (g : Nat) (caps : List AV) (p : Ar → Bool) (i : Nat) (s : St) : Prop :=
  s.t.get 0 = some (slv n 6 (l.map Ar.av)) ∧ s.t.get 6 = some (slv n 6 (l.map Ar.av)) ∧ s.t.get 7 = some (.int .i64 l.length) ∧ s.t.get 8 = some (.int .i64 i) ∧ s.t.get 1 = some (.fn g caps) ∧ (l.take i).findIdx? p = none
theorem round145 (n : Bool) (l : List Ar) (g : Nat) (caps : List AV) (p : Ar → Bool) (hc : ∀ c ∈ caps, FlatA c) (hp : ∀ x ∈ l, (om prim F).p g (.agg x.av :: caps) = some (.bool (p x))) (hl : l.length ≤ maxLen) (i : Nat) (s : St) (hi : i ≤ l.length) (hI : I145 n l g caps p i s) :
    Res ((om prim F).a L145 s) (rndP (fun s' => i < l.length ∧ I145 n l g caps p (i + 1) s') (QIdx (l.findIdx? p))) := by
  obtain ⟨t, h⟩ := s
  obtain ⟨g0, g6, g7, g8, g1, no⟩ := hI
  simp only at g0 g6 g7 g8 g1 no
  by_cases hlt : i < l.length
  · have hx : l[i]? = some l[i] := List.getElem?_eq_getElem hlt
    generalize l[i] = x at hx
    have hxm : (l.map Ar.av)[i]? = some x.av := by simp [hx]
    have hil : (i : Int) < l.length := by omega
    have hw := wrap_succ hlt hl
    have hpx := hp x (List.mem_of_getElem? hx)
    have hcap : mapF (frz h.get 16) caps = some (caps, []) := frzs_flat (f := 14) hc
    simp only [Ar.av] at hpx
    clear hp hc
    unfold L145 c145
    repeat' (first | done | (simp -implicitDefEqProofs only [↓reduceIte, go_sem, *, ixaQ_slv hxm, Ar.av, I145, QIdx]) | ((first | rw [stepG_split] | rw [cnd_split] | rw [pickQ_split]); split))
    · rename_i h1
      exact ⟨i, idx_take hx no h1, rfl⟩
    · rename_i h1
      exact idx_next hx no h1
  · have : i = l.length := by omega
    subst this
    rw [List.take_length] at no
    clear hp hc
    unfold L145 c145
    repeat' (first | done | (simp -implicitDefEqProofs only [↓reduceIte, go_sem, *, QIdx, Int.lt_irrefl]) | ((first | rw [stepG_split] | rw [cnd_split] | rw [pickQ_split]); split))
theorem indexFunc145 (n : Bool) (l : List Ar) (g : Nat) (caps : List AV) (p : Ar → Bool) (hc : ∀ c ∈ caps, FlatA c) (hp : ∀ x ∈ l, (om prim F).p g (.agg x.av :: caps) = some (.bool (p x))) (hl : l.length ≤ maxLen) :
    (om prim F).p 145 [slv n 6 (l.map Ar.av), .fn g caps] = some (.int .i64 (idxI (l.findIdx? p))) := by
  refine call_of F145 rfl ?_
  unfold c145
  simp only [↓reduceIte, go_sem]
  refine (loop_up l.length (I145 n l g caps p) (round145 n l g caps p hc hp hl) 0 _ (Nat.zero_le _) (by simp only [↓reduceIte, go_sem, I145]; exact ⟨rfl, rfl⟩)).mono ?_
  clear hp hc
  rintro e ⟨t, h⟩ hq
  cases e with
  | norm => exact hq.elim
  | exit i =>
    obtain ⟨rfl, h1⟩ := hq
    repeat' (first | done | (simp -implicitDefEqProofs only [↓reduceIte, go_sem, *, idxI]) | ((first | rw [stepG_split] | rw [cnd_split] | rw [pickQ_split]); split))
  | ret =>
    obtain ⟨j, h1, h2⟩ := hq
    simp only at h2
    repeat' (first | done | (simp -implicitDefEqProofs only [↓reduceIte, go_sem, *, idxI]) | ((first | rw [stepG_split] | rw [cnd_split] | rw [pickQ_split]); split))

/-! ### slices.Index, slices.Contains -/
theorem F112 : F.get 112 = some c112 := by rfl
theorem F84 : F.get 84 = some c84 := by rfl
def L112 : C := match c112.body with
  | .seq _ (.seq (.seq _ (.block _ (.loop b))) _) => b
  | _ => .skip
def I112 (n : Bool) (l : List Int) (v : Int) (i : Nat) (s : St) : Prop :=
  s.t.get 0 = some (slv n 1 (l.map cell)) ∧ s.t.get 6 = some (slv n 1 (l.map cell)) ∧ s.t.get 7 = some (.int .i64 l.length) ∧ s.t.get 8 = some (.int .i64 i) ∧ s.t.get 1 = some (.int .i64 v) ∧ (l.take i).findIdx? (fun z => decide (v = z)) = none
theorem round112 (n : Bool) (l : List Int) (v : Int) (hl : l.length ≤ maxLen) (i : Nat) (s : St) (hi : i ≤ l.length) (hI : I112 n l v i s) :
    Res ((om prim F).a L112 s) (rndP (fun s' => i < l.length ∧ I112 n l v (i + 1) s') (QIdx (l.findIdx? (fun z => decide (v = z))))) := by
  obtain ⟨t, h⟩ := s
  obtain ⟨g0, g6, g7, g8, g1, no⟩ := hI
  simp only at g0 g6 g7 g8 g1 no
  by_cases hlt : i < l.length
  · have hx : l[i]? = some l[i] := List.getElem?_eq_getElem hlt
    generalize l[i] = x at hx
    have hxm : (l.map cell)[i]? = some (cell x) := by simp [hx]
    have hil : (i : Int) < l.length := by omega
    have hw := wrap_succ hlt hl
    unfold L112 c112
    repeat' (first | done | (simp -implicitDefEqProofs only [↓reduceIte, go_sem, *, ixaQ_slv hxm, cell, I112, QIdx]) | ((first | rw [stepG_split] | rw [cnd_split] | rw [pickQ_split]); split))
    · rename_i h1
      exact ⟨i, idx_take hx no h1, rfl⟩
    · rename_i h1
      exact idx_next hx no h1
  · have : i = l.length := by omega
    subst this
    rw [List.take_length] at no
    unfold L112 c112
    repeat' (first | done | (simp -implicitDefEqProofs only [↓reduceIte, go_sem, *, QIdx, Int.lt_irrefl]) | ((first | rw [stepG_split] | rw [cnd_split] | rw [pickQ_split]); split))
theorem index112 (n : Bool) (l : List Int) (v : Int) (hl : l.length ≤ maxLen) :
    (om prim F).p 112 [slv n 1 (l.map cell), .int .i64 v] = some (.int .i64 (idxI (l.findIdx? (fun z => decide (v = z))))) := by
  refine call_of F112 rfl ?_
  unfold c112
  simp only [↓reduceIte, go_sem]
  refine (loop_up l.length (I112 n l v) (round112 n l v hl) 0 _ (Nat.zero_le _) (by simp only [↓reduceIte, go_sem, I112]; exact ⟨rfl, rfl⟩)).mono ?_
  rintro e ⟨t, h⟩ hq
  cases e with
  | norm => exact hq.elim
  | exit i =>
    obtain ⟨rfl, h1⟩ := hq
    repeat' (first | done | (simp -implicitDefEqProofs only [↓reduceIte, go_sem, *, idxI]) | ((first | rw [stepG_split] | rw [cnd_split] | rw [pickQ_split]); split))
  | ret =>
    obtain ⟨j, h1, h2⟩ := hq
    simp only at h2
    repeat' (first | done | (simp -implicitDefEqProofs only [↓reduceIte, go_sem, *, idxI]) | ((first | rw [stepG_split] | rw [cnd_split] | rw [pickQ_split]); split))
theorem idxI_ge {α : Type} (l : List α) (p : α → Bool) : decide (0 ≤ idxI (l.findIdx? p)) = l.any p := by
  cases h : l.findIdx? p with
  | none =>
    have h2 := List.findIdx?_eq_none_iff.1 h
    have : l.any p = false := by
      rw [List.any_eq_false]
      intro x hx
      simp [h2 x hx]
    rw [this]; rfl
  | some j =>
    obtain ⟨hj, hp, _⟩ := List.findIdx?_eq_some_iff_getElem.1 h
    have : l.any p = true := List.any_eq_true.2 ⟨l[j], List.getElem_mem hj, hp⟩
    rw [this]
    simp [idxI]
def hasI (l : List Int) (v : Int) : Bool := l.any fun z => decide (v = z)
theorem contains84 (n : Bool) (l : List Int) (v : Int) (hl : l.length ≤ maxLen) : (om prim F).p 84 [slv n 1 (l.map cell), .int .i64 v] = some (.bool (hasI l v)) := by
  refine call_of F84 rfl ?_
  have h1 := index112 (prim := prim) n l v hl
  have h2 := idxI_ge l (fun z => decide (v = z))
  unfold c84
  repeat' (first | done | (simp -implicitDefEqProofs only [↓reduceIte, go_sem, *, hasI]) | ((first | rw [stepG_split] | rw [cnd_split] | rw [pickQ_split]); split))
end Go.Ab
namespace Go.Ab
attribute [local go_sem] evParts_nil evParts_cons consP_some buildQ_some bldC_some mksQ_some mksC_some fillAll_nil fillAll_cons chop_zero chop_succ rep_zero rep_succ List.flatten_cons List.flatten_nil boxQ_c boxC_eq avCells_ptr List.append_nil List.all_nil List.all_cons Bool.true_and Bool.and_true isOne_int isOne_bool isOne_str isOne_nils isOne_own isOne_ptr isOne_slv lay_nil0 lay_cons0 lay_nil lay_succ List.drop_zero List.take_succ_cons List.take_zero List.drop_succ_cons List.getElem?_cons_zero List.getElem?_cons_succ List.take_nil List.drop_nil List.nil_append List.cons_append a_skip a_exit a_ret a_seq a_block a_cond a_reg thn_norm thn_exit thn_ret blk_norm blk_ret blk_exit rg_some cnd_true cnd_false ops_nil ops_g stepQ_quiet stepQ_makes stepW_some stepW_none stepG_tt stepG_tf stepG_ft stepG_ff stepG_ttN stepG_tfN stepG_ftN stepG_ffN stepG_skip stepG_skipN qv_s ev_t ev_c bin_add bin_sub bin_mul bin_lss bin_leq bin_gtr bin_geq bin_eql bin_neq viewOld_get add_next put_next add_row add_map put_get kl_row kl_none kl_map ops_mv ops_pick ops_new0 ops_new1 ops_new2 ops_box0 ops_box1 ops_box2 ops_build ops_mks0 ops_mks1 ops_mks2 ops_bin ops_un ops_len0 ops_len1 ops_len2 ops_call0 ops_call1 ops_call2 ops_fld ops_ixa ops_ext ops_app0 ops_app1 ops_app2 ops_mm ops_ixr ops_conv ops_convs ops_nilc ops_ixs ops_ixg ops_mkf ops_bb ops_nq ops_eqs ops_ld0 ops_ld1 ops_ld2 ops_st ops_calli pickQ_true pickQ_false ldRow_one ldQ_ref ldQ_ptr cut_false cut_true binQ_some unQ_some un_not un_neg fldQ_ptr fldQ_ref extQ_tup evs_nil evs_cons consO_some lenQ_slv lenQ_ro lenQ_own lenQ_nils lenQ_str stQ_ptr stR_one avCells_agg avCells_int avCells_bool avCells_str avCells_slv avCells_own avCells_nils get_set List.length_cons List.length_nil Res_some Res_thn Res_blk seqP_norm seqP_exit seqP_ret blkP_norm blkP_exit blkP_ret rndP_norm rndP_exit rndP_ret Fin_norm Fin_ret Fin_exit rvV_ptr rvC_one evRV_t evRV_c evRVs_nil evRVs_cons ofL_nil ofL_cons tupOf_one tupOf_two exP if_true if_false not_false_eq_true not_true_eq_false decide_true decide_false Option.isSome_some eq_self and_self and_true true_and and_false false_and Nat.zero_add Nat.add_zero decide_eq_true_eq decide_eq_false_iff_not ne_eq Bool.false_eq_true Bool.true_eq_false reduceCtorEq Nat.reduceLT Nat.reduceEqDiff Nat.reduceAdd Nat.reduceSub Nat.reduceMul Nat.reduceLeDiff get_lf List.length_map mapF_nil mapF_cons mapC_some callQ_fn callR_some callS_cint callS_cbool callS_cstr frz_own frzR_row frzE_some frz_aggC frzA_some frz_int frz_bool frz_str frz_ro frz_nils frz_ref frz_slv view_get view_next viewOld_next eqsQ_agg eqC_some eqK_nil eqK_cons andO_some eq1_int eq1_bool eq1_str bbQ_some mmQ_some mm_nil mm_max mm_min convQ_some mkfQ_some convsQ_some nilcQ_ptr nilcQ_ref bin_quo bin_rem Int.reduceEq Int.reduceNe Int.reduceNeg flatA_agg flatA_int flatA_bool flatA_str flatA_nils flatA_ro flatA_slv flat_int flat_bool flat_str flat_nils flat_ro flat_slv num_int num_bool num_str all_mem_cons all_mem_nil export_flat export_tup callS_nums callS_flat callS_tup Bool.not_true Bool.not_false Bool.and_false Bool.false_and Bool.or_true Bool.true_or Bool.or_false Bool.false_or Bool.not_eq_true Bool.not_eq_false Bool.not_not Bool.not_eq_eq_eq_not Bool.not_eq_true' E0_next E0_get eq_add_one add_one_eq add_eq_add lt_add_self add_lt_add Nat.add_assoc ops_mkv mkvQ_some mkvC_some stv_int stv_bool stv_str stv_nils stv_ro stv_slv isOne_ro ops_slr0 ops_slr1 slrA_ptr slrA_ref frz_ptrC frzPt_one frzPc_some slrQ_some slrP_all stepQ_seal sealC_get slO_row slO_none slO_map seal_next callS_tupC callS_aggC callS_exC callT_nil callT_no callT_yes adp_ex adp_agg adp_tup adpL_nil adpL_cons adK_some adJ_some adA_some adT_some adp_int adp_bool adp_str adp_nils adp_ro adp_slv hasRo_int hasRo_bool hasRo_str hasRo_nils hasRo_ro hasRo_agg hasRo_tup hasRo_ex List.any_nil List.any_cons bin_seq bin_sne appQ_some appR_e_nils appR_e_own appR_cons appN_nils appN_own appO_row elems_ro elems_nils elems_own elO_row view_topD add_top0D add_top1D seal_tops E0_tops put_tops nqQ_slv List.not_mem_nil or_false or_true true_or false_or List.mem_cons frz_fnC frzFn_some nqQ_ro nqQ_nils List.map_nil List.map_cons
variable {prim : Nat → List AV → Option AV}
set_option maxRecDepth 10000

def expF : Option (AV × List Nat × List Nat) → Option AV
  | some x => if (nodup x.2.1 && x.2.1.all (fun c => !(x.2.2.contains c))) = true then some x.1 else none
  | none => none
theorem export_eq (v : AV) (h : AH) : export1 (v, h) = expF (xpt h.get 4 v) := by
  simp only [export1]
  cases xpt h.get 4 v with
  | none => rfl
  | some x => simp only [expF]; cases (nodup x.2.1 && x.2.1.all (fun c => !(x.2.2.contains c))) <;> rfl
theorem expF_some (v : AV) (a b : List Nat) : expF (some (v, a, b)) = if (nodup a && a.all (fun c => !(b.contains c))) = true then some v else none := rfl
def xpO2 (k cls : Nat) (sealed : Bool) : Option (List (List AV) × List Nat) → Option (AV × List Nat × List Nat)
  | some r => if sealed = true then some (.ro k r.1, [], cls :: r.2) else some (.ex k r.1, [cls], r.2)
  | none => none
def xpO (g : Nat → Option AObj) (k i n : Nat) : Option AObj → Option (AV × List Nat × List Nat)
  | some (.row _ es cls sealed) => if i + n ≤ es.length then xpO2 k cls sealed (mapF (mapF (frz g 16)) ((es.drop i).take n)) else none
  | _ => none
theorem xpt_own (g : Nat → Option AObj) (f k id i n : Nat) : xpt g (f + 1) (.own k id i n) = xpO g k i n (g id) := by
  rw [xpt]
  cases g id with
  | none => rfl
  | some o => cases o with
    | row k' es cls sd =>
      simp only [xpO]
      by_cases h : i + n ≤ es.length
      · have h' : Nat.ble (i + n) es.length = true := by simpa using h
        simp only [h', h, cond_true, if_true]
        cases mapF (mapF (frz g 16)) ((es.drop i).take n) with
        | none => rfl
        | some r => cases sd <;> rfl
      · have h' : Nat.ble (i + n) es.length = false := by rw [Bool.eq_false_iff]; simpa using h
        simp only [h', h, cond_false, if_false]
    | _ => rfl
theorem xpO_row (g : Nat → Option AObj) (k i n k' : Nat) (es : List (List AV)) (cls : Nat) (sealed : Bool) : xpO g k i n (some (.row k' es cls sealed)) = if i + n ≤ es.length then xpO2 k cls sealed (mapF (mapF (frz g 16)) ((es.drop i).take n)) else none := rfl
theorem xpO2_some (k cls : Nat) (sealed : Bool) (es : List (List AV)) (l : List Nat) : xpO2 k cls sealed (some (es, l)) = if sealed = true then some (.ro k es, [], cls :: l) else some (.ex k es, [cls], l) := rfl
def xpA : Option (List AV × List Nat × List Nat) → Option (AV × List Nat × List Nat)
  | some r => some (.agg r.1, r.2)
  | none => none
def xpT : Option (List AV × List Nat × List Nat) → Option (AV × List Nat × List Nat)
  | some r => some (.tup r.1, r.2)
  | none => none
def xpC (a : Option (AV × List Nat × List Nat)) (b : Option (List AV × List Nat × List Nat)) : Option (List AV × List Nat × List Nat) := match a with
  | some a => (match b with | some b => some (a.1 :: b.1, a.2.1 ++ b.2.1, a.2.2 ++ b.2.2) | none => none)
  | none => none
theorem xpt_agg (g : Nat → Option AObj) (f : Nat) (cs : List AV) : xpt g (f + 1) (.agg cs) = xpA (xptL (xpt g f) cs) := by rw [xpt]; cases xptL (xpt g f) cs <;> rfl
theorem xpt_tup (g : Nat → Option AObj) (f : Nat) (cs : List AV) : xpt g (f + 1) (.tup cs) = xpT (xptL (xpt g f) cs) := by rw [xpt]; cases xptL (xpt g f) cs <;> rfl
theorem xpA_some (cs : List AV) (a : List Nat × List Nat) : xpA (some (cs, a)) = some (.agg cs, a) := rfl
theorem xpT_some (cs : List AV) (a : List Nat × List Nat) : xpT (some (cs, a)) = some (.tup cs, a) := rfl
theorem xptL_nil (g : AV → Option (AV × List Nat × List Nat)) : xptL g [] = some ([], [], []) := rfl
theorem xptL_cons (g : AV → Option (AV × List Nat × List Nat)) (v : AV) (r : List AV) : xptL g (v :: r) = xpC (g v) (xptL g r) := rfl
theorem xpC_some (a : AV) (x y : List Nat) (b : List AV) (z w : List Nat) : xpC (some (a, x, y)) (some (b, z, w)) = some (a :: b, x ++ z, y ++ w) := rfl
theorem xpt_int (g : Nat → Option AObj) (f : Nat) (k : IntKind) (n : Int) : xpt g (f + 1) (.int k n) = some (.int k n, [], []) := xpt_flat trivial
theorem xpt_bool (g : Nat → Option AObj) (f : Nat) (n : Bool) : xpt g (f + 1) (.bool n) = some (.bool n, [], []) := xpt_flat trivial
theorem xpt_str (g : Nat → Option AObj) (f : Nat) (n : List UInt8) : xpt g (f + 1) (.str n) = some (.str n, [], []) := xpt_flat trivial
theorem xpt_nils (g : Nat → Option AObj) (f : Nat) : xpt g (f + 1) .nils = some (.nils, [], []) := xpt_flat trivial
theorem xpt_ro (g : Nat → Option AObj) (f k : Nat) (es : List (List AV)) : xpt g (f + 1) (.ro k es) = some (.ro k es, [], []) := xpt_flat trivial
theorem xpt_slv (g : Nat → Option AObj) (f : Nat) (n : Bool) (k : Nat) (es : List (List AV)) : xpt g (f + 1) (slv n k es) = some (slv n k es, [], []) := xpt_flat (slv_flat ..)
theorem mapF2_flat {g : Nat → Option AObj} {f : Nat} {es : List (List AV)} (h : ∀ e ∈ es, ∀ c ∈ e, Flat c) : mapF (mapF (frz g (f + 1))) es = some (es, []) := by
  induction es with
  | nil => rfl
  | cons e r ih => rw [mapF_cons, mapF_flat (h e (by simp)), ih (fun e he => h e (by simp [he]))]; rfl
theorem mapF2_cells (g : Nat → Option AObj) (f : Nat) (zs : List Int) : mapF (mapF (frz g (f + 1))) (zs.map cell) = some (zs.map cell, []) := mapF2_flat (cells_flat zs)
theorem nodup_one (x : Nat) : nodup [x] = true := rfl
theorem nodup_nil : nodup [] = true := rfl
/-- A slice handed out becomes the caller's own. -/
theorem take_all {α : Type} (l : List α) : l.take l.length = l := List.take_length
theorem take_all_map {α β : Type} (l : List α) (f : α → β) : (l.map f).take l.length = l.map f := by
  have := List.take_length (l := l.map f); simpa using this
attribute [local go_sem] expF_some xpt_own xpO_row xpO2_some xpt_agg xpt_tup xpA_some xpT_some xptL_nil xptL_cons xpC_some xpt_int xpt_bool xpt_str xpt_nils xpt_ro xpt_slv mapF2_cells nodup_one nodup_nil take_all take_all_map List.contains_nil Nat.le_refl

/-! ### features -/
theorem F111 : F.get 111 = some c111 := by rfl
theorem F77 : F.get 77 = some c77 := by rfl
theorem F31 : F.get 31 = some c31 := by rfl
theorem idIs111 (f : Ft) (id : Int) : (om prim F).p 111 [.agg f.av, .ref [.int .i64 id] 0] = some (.bool (decide (f.id = id))) := by
  refine call_of F111 rfl ?_
  unfold c111
  repeat' (first | done | (simp -implicitDefEqProofs only [↓reduceIte, go_sem, *, Ft.av]) | ((first | rw [stepG_split] | rw [cnd_split] | rw [pickQ_split]); split))
theorem index77 (s : Sv) (id : Int) (hl : s.feats.length ≤ maxLen) : (om prim F).p 77 [.agg s.av, .int .i64 id] = some (.int .i64 (idxI (s.feats.findIdx? fun f => decide (f.id = id)))) := by
  refine call_of F77 rfl ?_
  have h := indexFunc110 (prim := prim) s.tn s.feats 111 [.ref [.int .i64 id] 0] (fun f => decide (f.id = id)) (by simp [FlatA, Flat]) (fun f _ => idIs111 f id) hl
  unfold c77
  repeat' (first | done | (simp -implicitDefEqProofs only [↓reduceIte, go_sem, *, Sv.av]) | ((first | rw [stepG_split] | rw [cnd_split] | rw [pickQ_split]); split))
def findF (s : Sv) (id : Int) : Option Ft := s.feats.find? fun f => decide (f.id = id)
theorem idx_find {α : Type} (l : List α) (p : α → Bool) : (∃ i x, l.findIdx? p = some i ∧ l.find? p = some x ∧ l[i]? = some x) ∨ (l.findIdx? p = none ∧ l.find? p = none) := by
  cases h : l.findIdx? p with
  | none =>
    right
    refine ⟨rfl, ?_⟩
    rw [List.find?_eq_none]
    intro x hx
    simp [List.findIdx?_eq_none_iff.1 h x hx]
  | some i =>
    left
    obtain ⟨hi, hp, hlt⟩ := List.findIdx?_eq_some_iff_getElem.1 h
    refine ⟨i, l[i], rfl, ?_, List.getElem?_eq_getElem hi⟩
    refine find_take (List.getElem?_eq_getElem hi) ?_ hp
    rw [List.find?_eq_none]
    intro x hx
    obtain ⟨j, hj, rfl⟩ := List.mem_iff_getElem.1 hx
    rw [List.length_take] at hj
    rw [List.getElem_take]
    simpa using hlt j (by omega)
def findFV : Option Ft → AV
  | some f => .tup [.agg [.int .i64 f.id, .int .i64 f.kind, .int .i64 f.cls, .str f.name, exs f.pn 1 (f.parts.map cell)], .bool true]
  | none => .tup [.agg [.int .i64 0, .int .i64 0, .int .i64 0, .str [], .nils], .bool false]
theorem exs_cases (n : Bool) (k : Nat) (es : List (List AV)) : (exs n k es = .ex k es ∧ slv n k es = .ro k es) ∨ (exs n k es = .nils ∧ slv n k es = .nils ∧ es = []) := by
  unfold exs slv
  split
  · rename_i h; exact .inr ⟨rfl, rfl, h.2⟩
  · exact .inl ⟨rfl, rfl⟩
theorem find31 (s : Sv) (id : Int) (hl : s.feats.length ≤ maxLen) (hp : ∀ f ∈ s.feats, f.parts.length ≤ 1073741824) : (om prim F).p 31 [.agg s.av, .int .i64 id] = some (findFV (findF s id)) := by
  refine call_of F31 rfl ?_
  have h := index77 (prim := prim) s id hl
  unfold findF
  rcases idx_find s.feats (fun f => decide (f.id = id)) with ⟨i, f, h1, h2, h3⟩ | ⟨h1, h2⟩
  · rw [h1] at h
    rw [h2]
    have hxm : (s.feats.map Ft.av)[i]? = some f.av := by simp [h3]
    have hc := clone78 (prim := prim) f.pn f.parts (hp f (List.mem_of_getElem? h3))
    have hi : decide ((i : Int) < 0) = false := decide_eq_false (by omega)
    simp only [Sv.av] at h
    have hi2 : idxI (some i) = (i : Int) := rfl
    rcases exs_cases f.pn 1 (f.parts.map cell) with ⟨e1, -⟩ | ⟨e1, -, -⟩
    · rw [e1] at hc
      simp only [findFV, e1]
      unfold c31
      repeat' (first | done | (simp -implicitDefEqProofs only [↓reduceIte, go_sem, *, Sv.av, Ft.av, ixaQ_slv hxm, export_eq]) | ((first | rw [stepG_split] | rw [cnd_split] | rw [pickQ_split]); split))
    · rw [e1] at hc
      simp only [findFV, e1]
      unfold c31
      repeat' (first | done | (simp -implicitDefEqProofs only [↓reduceIte, go_sem, *, Sv.av, Ft.av, ixaQ_slv hxm, export_eq]) | ((first | rw [stepG_split] | rw [cnd_split] | rw [pickQ_split]); split))
  · rw [h1] at h
    rw [h2]
    have hi : decide (idxI (none : Option Nat) < 0) = true := by simp [idxI]
    simp only [Sv.av] at h
    unfold c31
    repeat' (first | done | (simp -implicitDefEqProofs only [↓reduceIte, go_sem, *, Sv.av, export_eq, findFV]) | ((first | rw [stepG_split] | rw [cnd_split] | rw [pickQ_split]); split))
end Go.Ab
namespace Go.Ab
attribute [local go_sem] evParts_nil evParts_cons consP_some buildQ_some bldC_some mksQ_some mksC_some fillAll_nil fillAll_cons chop_zero chop_succ rep_zero rep_succ List.flatten_cons List.flatten_nil boxQ_c boxC_eq avCells_ptr List.append_nil List.all_nil List.all_cons Bool.true_and Bool.and_true isOne_int isOne_bool isOne_str isOne_nils isOne_own isOne_ptr isOne_slv lay_nil0 lay_cons0 lay_nil lay_succ List.drop_zero List.take_succ_cons List.take_zero List.drop_succ_cons List.getElem?_cons_zero List.getElem?_cons_succ List.take_nil List.drop_nil List.nil_append List.cons_append a_skip a_exit a_ret a_seq a_block a_cond a_reg thn_norm thn_exit thn_ret blk_norm blk_ret blk_exit rg_some cnd_true cnd_false ops_nil ops_g stepQ_quiet stepQ_makes stepW_some stepW_none stepG_tt stepG_tf stepG_ft stepG_ff stepG_ttN stepG_tfN stepG_ftN stepG_ffN stepG_skip stepG_skipN qv_s ev_t ev_c bin_add bin_sub bin_mul bin_lss bin_leq bin_gtr bin_geq bin_eql bin_neq viewOld_get add_next put_next add_row add_map put_get kl_row kl_none kl_map ops_mv ops_pick ops_new0 ops_new1 ops_new2 ops_box0 ops_box1 ops_box2 ops_build ops_mks0 ops_mks1 ops_mks2 ops_bin ops_un ops_len0 ops_len1 ops_len2 ops_call0 ops_call1 ops_call2 ops_fld ops_ixa ops_ext ops_app0 ops_app1 ops_app2 ops_mm ops_ixr ops_conv ops_convs ops_nilc ops_ixs ops_ixg ops_mkf ops_bb ops_nq ops_eqs ops_ld0 ops_ld1 ops_ld2 ops_st ops_calli pickQ_true pickQ_false ldRow_one ldQ_ref ldQ_ptr cut_false cut_true binQ_some unQ_some un_not un_neg fldQ_ptr fldQ_ref extQ_tup evs_nil evs_cons consO_some lenQ_slv lenQ_ro lenQ_own lenQ_nils lenQ_str stQ_ptr stR_one avCells_agg avCells_int avCells_bool avCells_str avCells_slv avCells_own avCells_nils get_set List.length_cons List.length_nil Res_some Res_thn Res_blk seqP_norm seqP_exit seqP_ret blkP_norm blkP_exit blkP_ret rndP_norm rndP_exit rndP_ret Fin_norm Fin_ret Fin_exit rvV_ptr rvC_one evRV_t evRV_c evRVs_nil evRVs_cons ofL_nil ofL_cons tupOf_one tupOf_two exP if_true if_false not_false_eq_true not_true_eq_false decide_true decide_false Option.isSome_some eq_self and_self and_true true_and and_false false_and Nat.zero_add Nat.add_zero decide_eq_true_eq decide_eq_false_iff_not ne_eq Bool.false_eq_true Bool.true_eq_false reduceCtorEq Nat.reduceLT Nat.reduceEqDiff Nat.reduceAdd Nat.reduceSub Nat.reduceMul Nat.reduceLeDiff get_lf List.length_map mapF_nil mapF_cons mapC_some callQ_fn callR_some callS_cint callS_cbool callS_cstr frz_own frzR_row frzE_some frz_aggC frzA_some frz_int frz_bool frz_str frz_ro frz_nils frz_ref frz_slv view_get view_next viewOld_next eqsQ_agg eqC_some eqK_nil eqK_cons andO_some eq1_int eq1_bool eq1_str bbQ_some mmQ_some mm_nil mm_max mm_min convQ_some mkfQ_some convsQ_some nilcQ_ptr nilcQ_ref bin_quo bin_rem Int.reduceEq Int.reduceNe Int.reduceNeg flatA_agg flatA_int flatA_bool flatA_str flatA_nils flatA_ro flatA_slv flat_int flat_bool flat_str flat_nils flat_ro flat_slv num_int num_bool num_str all_mem_cons all_mem_nil export_flat export_tup callS_nums callS_flat callS_tup Bool.not_true Bool.not_false Bool.and_false Bool.false_and Bool.or_true Bool.true_or Bool.or_false Bool.false_or Bool.not_eq_true Bool.not_eq_false Bool.not_not Bool.not_eq_eq_eq_not Bool.not_eq_true' E0_next E0_get eq_add_one add_one_eq add_eq_add lt_add_self add_lt_add Nat.add_assoc ops_mkv mkvQ_some mkvC_some stv_int stv_bool stv_str stv_nils stv_ro stv_slv isOne_ro ops_slr0 ops_slr1 slrA_ptr slrA_ref frz_ptrC frzPt_one frzPc_some slrQ_some slrP_all stepQ_seal sealC_get slO_row slO_none slO_map seal_next callS_tupC callS_aggC callS_exC callT_nil callT_no callT_yes adp_ex adp_agg adp_tup adpL_nil adpL_cons adK_some adJ_some adA_some adT_some adp_int adp_bool adp_str adp_nils adp_ro adp_slv hasRo_int hasRo_bool hasRo_str hasRo_nils hasRo_ro hasRo_agg hasRo_tup hasRo_ex List.any_nil List.any_cons bin_seq bin_sne appQ_some appR_e_nils appR_e_own appR_cons appN_nils appN_own appO_row elems_ro elems_nils elems_own elO_row view_topD add_top0D add_top1D seal_tops E0_tops put_tops nqQ_slv List.not_mem_nil or_false or_true true_or false_or List.mem_cons frz_fnC frzFn_some nqQ_ro nqQ_nils List.map_nil List.map_cons expF_some xpt_own xpO_row xpO2_some xpt_agg xpt_tup xpA_some xpT_some xptL_nil xptL_cons xpC_some xpt_int xpt_bool xpt_str xpt_nils xpt_ro xpt_slv mapF2_cells nodup_one nodup_nil take_all take_all_map List.contains_nil Nat.le_refl
variable {prim : Nat → List AV → Option AV}
set_option maxRecDepth 10000
theorem any_next {α : Type} {l : List α} {p : α → Bool} {i : Nat} {x : α} (hx : l[i]? = some x) (h : (l.take i).any p = false) (hp : p x = false) : (l.take (i + 1)).any p = false := by
  rw [List.take_add_one, hx, List.any_append, h]; simp [hp]
theorem any_stop {α : Type} {l : List α} {p : α → Bool} {i : Nat} {x : α} (hx : l[i]? = some x) (hp : p x = true) : l.any p = true :=
  List.any_eq_true.2 ⟨x, List.mem_of_getElem? hx, hp⟩
theorem F50 : F.get 50 = some c50 := by rfl
def L50 : C := match c50.body with | .seq _ (.seq a _) => loopOf a | _ => .skip
def I50 (n : Bool) (l : List Int) (v : Int) (i : Nat) (s : St) : Prop :=
  s.t.get 0 = some (slv n 1 (l.map cell)) ∧ s.t.get 1 = some (.int .i64 v) ∧ s.t.get 5 = some (.int .i64 i) ∧ hasI (l.take i) v = false
def Q50 (l : List Int) (v : Int) : Ex → St → Prop
  | .exit i, _ => i = 0 ∧ hasI l v = false
  | .ret, s => s.t.get 4 = some (.bool true) ∧ hasI l v = true
  | _, _ => False
theorem round50 (n : Bool) (l : List Int) (v : Int) (hl : l.length ≤ maxLen) (i : Nat) (s : St) (hi : i ≤ l.length) (hI : I50 n l v i s) :
    Res ((om prim F).a L50 s) (rndP (fun s' => i < l.length ∧ I50 n l v (i + 1) s') (Q50 l v)) := by
  obtain ⟨t, h⟩ := s
  obtain ⟨g0, g1, g5, no⟩ := hI
  simp only at g0 g1 g5 no
  by_cases hlt : i < l.length
  · have hx : l[i]? = some l[i] := List.getElem?_eq_getElem hlt
    generalize l[i] = x at hx
    have hxm : (l.map cell)[i]? = some (cell x) := by simp [hx]
    have hil : (i : Int) < l.length := by omega
    have hw := wrap_succ hlt hl
    unfold L50 loopOf c50
    repeat' (first | done | (simp -implicitDefEqProofs only [↓reduceIte, go_sem, *, ixaQ_slv hxm, cell, I50, Q50]) | ((first | rw [stepG_split] | rw [cnd_split] | rw [pickQ_split]); split))
    · rename_i h1
      refine any_stop hx ?_
      simp at h1 ⊢; exact h1.symm
    · rename_i h1
      refine any_next hx no ?_
      simp at h1 ⊢; exact fun h => h1 h.symm
  · have : i = l.length := by omega
    subst this
    rw [List.take_length] at no
    unfold L50 loopOf c50
    repeat' (first | done | (simp -implicitDefEqProofs only [↓reduceIte, go_sem, *, Q50, Int.lt_irrefl]) | ((first | rw [stepG_split] | rw [cnd_split] | rw [pickQ_split]); split))
theorem has50 (n : Bool) (l : List Int) (v : Int) (hl : l.length ≤ maxLen) : (om prim F).p 50 [slv n 1 (l.map cell), .int .i64 v] = some (.bool (hasI l v)) := by
  refine call_of F50 rfl ?_
  unfold c50
  simp only [↓reduceIte, go_sem]
  refine (loop_up l.length (I50 n l v) (round50 n l v hl) 0 _ (Nat.zero_le _) (by simp only [↓reduceIte, go_sem, I50]; exact ⟨rfl, rfl⟩)).mono ?_
  rintro e ⟨t, h⟩ hq
  cases e with
  | norm => exact hq.elim
  | exit i =>
    obtain ⟨rfl, h1⟩ := hq
    repeat' (first | done | (simp -implicitDefEqProofs only [↓reduceIte, go_sem, *]) | ((first | rw [stepG_split] | rw [cnd_split] | rw [pickQ_split]); split))
  | ret =>
    obtain ⟨h1, h2⟩ := hq
    simp only at h1
    repeat' (first | done | (simp -implicitDefEqProofs only [↓reduceIte, go_sem, *]) | ((first | rw [stepG_split] | rw [cnd_split] | rw [pickQ_split]); split))

theorem F41 : F.get 41 = some c41 := by rfl
def L41 : C := match c41.body with | .seq _ (.seq _ (.seq a _)) => loopOf a | _ => .skip
def I41 (n m : Bool) (a b : List Int) (i : Nat) (s : St) : Prop :=
  s.t.get 0 = some (slv n 1 (a.map cell)) ∧ s.t.get 1 = some (slv m 1 (b.map cell)) ∧ s.t.get 5 = some (.int .i64 i) ∧ a.take i = b.take i
def Q41 (a b : List Int) : Ex → St → Prop
  | .exit i, _ => i = 0 ∧ a = b
  | .ret, s => s.t.get 4 = some (.bool false) ∧ a ≠ b
  | _, _ => False
theorem round41 (n m : Bool) (a b : List Int) (hl : a.length ≤ maxLen) (hab : a.length = b.length) (i : Nat) (s : St) (hi : i ≤ a.length) (hI : I41 n m a b i s) :
    Res ((om prim F).a L41 s) (rndP (fun s' => i < a.length ∧ I41 n m a b (i + 1) s') (Q41 a b)) := by
  obtain ⟨t, h⟩ := s
  obtain ⟨g0, g1, g5, no⟩ := hI
  simp only at g0 g1 g5 no
  by_cases hlt : i < a.length
  · have hx : a[i]? = some a[i] := List.getElem?_eq_getElem hlt
    have hy : b[i]? = some (b[i]'(hab ▸ hlt)) := List.getElem?_eq_getElem _
    generalize a[i] = x at hx
    generalize b[i]'(hab ▸ hlt) = y at hy
    have hxm : (a.map cell)[i]? = some (cell x) := by simp [hx]
    have hym : (b.map cell)[i]? = some (cell y) := by simp [hy]
    have hil : (i : Int) < a.length := by omega
    have hw := wrap_succ hlt hl
    clear hab
    unfold L41 loopOf c41
    repeat' (first | done | (simp -implicitDefEqProofs only [↓reduceIte, go_sem, *, ixaQ_slv hxm, ixaQ_slv hym, cell, I41, Q41]) | ((first | rw [stepG_split] | rw [cnd_split] | rw [pickQ_split]); split))
    · rename_i h1
      rintro rfl
      rw [hx] at hy
      simp at h1 hy; exact h1 hy
    · rename_i h1
      rw [List.take_add_one, List.take_add_one, no, hx, hy]
      simp at h1; rw [h1]
  · have : i = a.length := by omega
    subst this
    rw [List.take_length, hab, List.take_length] at no
    clear hab
    unfold L41 loopOf c41
    repeat' (first | done | (simp -implicitDefEqProofs only [↓reduceIte, go_sem, *, Q41, Int.lt_irrefl]) | ((first | rw [stepG_split] | rw [cnd_split] | rw [pickQ_split]); split))
theorem same41 (n m : Bool) (a b : List Int) (hl : a.length ≤ maxLen) : (om prim F).p 41 [slv n 1 (a.map cell), slv m 1 (b.map cell)] = some (.bool (decide (a = b))) := by
  refine call_of F41 rfl ?_
  by_cases hab : a.length = b.length
  · have e1 : decide (¬(a.length : Int) = (b.length : Int)) = false := decide_eq_false (by omega)
    unfold c41
    simp only [↓reduceIte, go_sem, e1]
    refine (loop_up a.length (I41 n m a b) (round41 n m a b hl hab) 0 _ (Nat.zero_le _) (by simp only [↓reduceIte, go_sem, I41]; rfl)).mono ?_
    rintro e ⟨t, h⟩ hq
    clear hab e1
    cases e with
    | norm => exact hq.elim
    | exit i =>
      obtain ⟨rfl, h1⟩ := hq
      have h2 : decide (a = b) = true := decide_eq_true h1
      clear h1
      repeat' (first | done | (simp -implicitDefEqProofs only [↓reduceIte, go_sem, *]) | ((first | rw [stepG_split] | rw [cnd_split] | rw [pickQ_split]); split))
    | ret =>
      obtain ⟨h1, h2⟩ := hq
      simp only at h1
      have h3 : decide (a = b) = false := decide_eq_false h2
      clear h2
      repeat' (first | done | (simp -implicitDefEqProofs only [↓reduceIte, go_sem, *]) | ((first | rw [stepG_split] | rw [cnd_split] | rw [pickQ_split]); split))
  · have e1 : decide (¬(a.length : Int) = (b.length : Int)) = true := decide_eq_true (by omega)
    have h3 : decide (a = b) = false := decide_eq_false (by rintro rfl; exact hab rfl)
    clear hab
    unfold c41
    repeat' (first | done | (simp -implicitDefEqProofs only [↓reduceIte, go_sem, *]) | ((first | rw [stepG_split] | rw [cnd_split] | rw [pickQ_split]); split))
theorem F39 : F.get 39 = some c39 := by rfl
theorem feat39 (f : Ft) (n : Bool) (hl : f.parts.length ≤ maxLen) : (om prim F).p 39 [.agg f.av, .agg (Ft.av { f with pn := n })] = some (.bool true) := by
  refine call_of F39 rfl ?_
  have h := same41 (prim := prim) f.pn n f.parts f.parts hl
  unfold c39
  repeat' (first | done | (simp -implicitDefEqProofs only [↓reduceIte, go_sem, *, Ft.av, eq_self, decide_true]) | ((first | rw [stepG_split] | rw [cnd_split] | rw [pickQ_split]); split))
end Go.Ab
namespace Go.Ab
attribute [local go_sem] evParts_nil evParts_cons consP_some buildQ_some bldC_some mksQ_some mksC_some fillAll_nil fillAll_cons chop_zero chop_succ rep_zero rep_succ List.flatten_cons List.flatten_nil boxQ_c boxC_eq avCells_ptr List.append_nil List.all_nil List.all_cons Bool.true_and Bool.and_true isOne_int isOne_bool isOne_str isOne_nils isOne_own isOne_ptr isOne_slv lay_nil0 lay_cons0 lay_nil lay_succ List.drop_zero List.take_succ_cons List.take_zero List.drop_succ_cons List.getElem?_cons_zero List.getElem?_cons_succ List.take_nil List.drop_nil List.nil_append List.cons_append a_skip a_exit a_ret a_seq a_block a_cond a_reg thn_norm thn_exit thn_ret blk_norm blk_ret blk_exit rg_some cnd_true cnd_false ops_nil ops_g stepQ_quiet stepQ_makes stepW_some stepW_none stepG_tt stepG_tf stepG_ft stepG_ff stepG_ttN stepG_tfN stepG_ftN stepG_ffN stepG_skip stepG_skipN qv_s ev_t ev_c bin_add bin_sub bin_mul bin_lss bin_leq bin_gtr bin_geq bin_eql bin_neq viewOld_get add_next put_next add_row add_map put_get kl_row kl_none kl_map ops_mv ops_pick ops_new0 ops_new1 ops_new2 ops_box0 ops_box1 ops_box2 ops_build ops_mks0 ops_mks1 ops_mks2 ops_bin ops_un ops_len0 ops_len1 ops_len2 ops_call0 ops_call1 ops_call2 ops_fld ops_ixa ops_ext ops_app0 ops_app1 ops_app2 ops_mm ops_ixr ops_conv ops_convs ops_nilc ops_ixs ops_ixg ops_mkf ops_bb ops_nq ops_eqs ops_ld0 ops_ld1 ops_ld2 ops_st ops_calli pickQ_true pickQ_false ldRow_one ldQ_ref ldQ_ptr cut_false cut_true binQ_some unQ_some un_not un_neg fldQ_ptr fldQ_ref extQ_tup evs_nil evs_cons consO_some lenQ_slv lenQ_ro lenQ_own lenQ_nils lenQ_str stQ_ptr stR_one avCells_agg avCells_int avCells_bool avCells_str avCells_slv avCells_own avCells_nils get_set List.length_cons List.length_nil Res_some Res_thn Res_blk seqP_norm seqP_exit seqP_ret blkP_norm blkP_exit blkP_ret rndP_norm rndP_exit rndP_ret Fin_norm Fin_ret Fin_exit rvV_ptr rvC_one evRV_t evRV_c evRVs_nil evRVs_cons ofL_nil ofL_cons tupOf_one tupOf_two exP if_true if_false not_false_eq_true not_true_eq_false decide_true decide_false Option.isSome_some eq_self and_self and_true true_and and_false false_and Nat.zero_add Nat.add_zero decide_eq_true_eq decide_eq_false_iff_not ne_eq Bool.false_eq_true Bool.true_eq_false reduceCtorEq Nat.reduceLT Nat.reduceEqDiff Nat.reduceAdd Nat.reduceSub Nat.reduceMul Nat.reduceLeDiff get_lf List.length_map mapF_nil mapF_cons mapC_some callQ_fn callR_some callS_cint callS_cbool callS_cstr frz_own frzR_row frzE_some frz_aggC frzA_some frz_int frz_bool frz_str frz_ro frz_nils frz_ref frz_slv view_get view_next viewOld_next eqsQ_agg eqC_some eqK_nil eqK_cons andO_some eq1_int eq1_bool eq1_str bbQ_some mmQ_some mm_nil mm_max mm_min convQ_some mkfQ_some convsQ_some nilcQ_ptr nilcQ_ref bin_quo bin_rem Int.reduceEq Int.reduceNe Int.reduceNeg flatA_agg flatA_int flatA_bool flatA_str flatA_nils flatA_ro flatA_slv flat_int flat_bool flat_str flat_nils flat_ro flat_slv num_int num_bool num_str all_mem_cons all_mem_nil export_flat export_tup callS_nums callS_flat callS_tup Bool.not_true Bool.not_false Bool.and_false Bool.false_and Bool.or_true Bool.true_or Bool.or_false Bool.false_or Bool.not_eq_true Bool.not_eq_false Bool.not_not Bool.not_eq_eq_eq_not Bool.not_eq_true' E0_next E0_get eq_add_one add_one_eq add_eq_add lt_add_self add_lt_add Nat.add_assoc ops_mkv mkvQ_some mkvC_some stv_int stv_bool stv_str stv_nils stv_ro stv_slv isOne_ro ops_slr0 ops_slr1 slrA_ptr slrA_ref frz_ptrC frzPt_one frzPc_some slrQ_some slrP_all stepQ_seal sealC_get slO_row slO_none slO_map seal_next callS_tupC callS_aggC callS_exC callT_nil callT_no callT_yes adp_ex adp_agg adp_tup adpL_nil adpL_cons adK_some adJ_some adA_some adT_some adp_int adp_bool adp_str adp_nils adp_ro adp_slv hasRo_int hasRo_bool hasRo_str hasRo_nils hasRo_ro hasRo_agg hasRo_tup hasRo_ex List.any_nil List.any_cons bin_seq bin_sne appQ_some appR_e_nils appR_e_own appR_cons appN_nils appN_own appO_row elems_ro elems_nils elems_own elO_row view_topD add_top0D add_top1D seal_tops E0_tops put_tops nqQ_slv List.not_mem_nil or_false or_true true_or false_or List.mem_cons frz_fnC frzFn_some nqQ_ro nqQ_nils List.map_nil List.map_cons expF_some xpt_own xpO_row xpO2_some xpt_agg xpt_tup xpA_some xpT_some xptL_nil xptL_cons xpC_some xpt_int xpt_bool xpt_str xpt_nils xpt_ro xpt_slv mapF2_cells nodup_one nodup_nil take_all take_all_map List.contains_nil Nat.le_refl
variable {prim : Nat → List AV → Option AV}
set_option maxRecDepth 10000
theorem F80 : F.get 80 = some c80 := by rfl
theorem F33 : F.get 33 = some c33 := by rfl
theorem F64 : F.get 64 = some c64 := by rfl
def findN (s : Sv) (id : Int) : Option Nd := s.nodes.find? fun f => decide (f.id = id)
def findNV : Option Nd → AV
  | some n => .tup [.agg n.av, .bool true]
  | none => .tup [.agg [.int .i64 0, .int .i64 0, .int .i64 0], .bool false]
theorem idIs80 (f : Nd) (id : Int) : (om prim F).p 80 [.agg f.av, .ref [.int .i64 id] 0] = some (.bool (decide (f.id = id))) := by
  refine call_of F80 rfl ?_
  unfold c80
  repeat' (first | done | (simp -implicitDefEqProofs only [↓reduceIte, go_sem, *, Nd.av]) | ((first | rw [stepG_split] | rw [cnd_split] | rw [pickQ_split]); split))
theorem node33 (s : Sv) (id : Int) (hl : s.nodes.length ≤ maxLen) : (om prim F).p 33 [.agg s.plan, .int .i64 id] = some (findNV (findN s id)) := by
  refine call_of F33 rfl ?_
  have h := indexFunc79 (prim := prim) s.nn s.nodes 80 [.ref [.int .i64 id] 0] (fun f => decide (f.id = id)) (by simp [FlatA, Flat]) (fun f _ => idIs80 f id) hl
  unfold findN
  rcases idx_find s.nodes (fun f => decide (f.id = id)) with ⟨i, f, h1, h2, h3⟩ | ⟨h1, h2⟩
  · rw [h1] at h
    rw [h2]
    have hxm : (s.nodes.map Nd.av)[i]? = some f.av := by simp [h3]
    have hi : decide ((i : Int) < 0) = false := decide_eq_false (by omega)
    have hi2 : idxI (some i) = (i : Int) := rfl
    unfold c33
    repeat' (first | done | (simp -implicitDefEqProofs only [↓reduceIte, go_sem, *, Sv.plan, Nd.av, ixaQ_slv hxm, export_eq, findNV]) | ((first | rw [stepG_split] | rw [cnd_split] | rw [pickQ_split]); split))
  · rw [h1] at h
    rw [h2]
    have hi : decide (idxI (none : Option Nat) < 0) = true := by simp [idxI]
    unfold c33
    repeat' (first | done | (simp -implicitDefEqProofs only [↓reduceIte, go_sem, *, Sv.plan, export_eq, findNV]) | ((first | rw [stepG_split] | rw [cnd_split] | rw [pickQ_split]); split))
def L64 : C := match c64.body with | .seq _ (.seq a _) => loopOf a | _ => .skip
def I64 (s : Sv) (id : Int) (i : Nat) (st : St) : Prop :=
  st.t.get 2 = some (.ptr 0 0 0) ∧ st.h.get 0 = some (.row 3 [s.plan] 0 false) ∧ st.t.get 1 = some (.int .i64 id) ∧ st.t.get 6 = some (.int .i64 i) ∧ st.t.get 4 = some (.ptr 1 0 0) ∧ st.t.get 5 = some (.bool false) ∧
  st.h.get 1 = some (.row 3 [[.int .i64 0, .int .i64 0, .int .i64 0]] 1 false) ∧ (s.nodes.take i).find? (fun f => decide (f.id = id)) = none
def Q64 (s : Sv) (id : Int) : Ex → St → Prop
  | .exit i, st => i = 0 ∧ st.t.get 4 = some (.ptr 1 0 0) ∧ st.h.get 1 = some (.row 3 [[.int .i64 0, .int .i64 0, .int .i64 0]] 1 false) ∧ findN s id = none
  | .ret, st => ∃ x, findN s id = some x ∧ st.t.get 4 = some (.ptr 1 0 0) ∧ st.h.get 1 = some (.row 3 [x.av] 1 false) ∧ st.t.get 5 = some (.bool true)
  | _, _ => False
theorem round64 (s : Sv) (id : Int) (hl : s.nodes.length ≤ maxLen) (i : Nat) (st : St) (hi : i ≤ s.nodes.length) (hI : I64 s id i st) :
    Res ((om prim F).a L64 st) (rndP (fun s' => i < s.nodes.length ∧ I64 s id (i + 1) s') (Q64 s id)) := by
  obtain ⟨t, h⟩ := st
  obtain ⟨g2, r2, g1, g6, g4, g5, row, no⟩ := hI
  simp only at g2 r2 g1 g6 g4 g5 row no
  by_cases hlt : i < s.nodes.length
  · have hx : s.nodes[i]? = some s.nodes[i] := List.getElem?_eq_getElem hlt
    generalize s.nodes[i] = x at hx
    have hxm : (s.nodes.map Nd.av)[i]? = some x.av := by simp [hx]
    have hil : (i : Int) < s.nodes.length := by omega
    have hw := wrap_succ hlt hl
    simp only [Sv.plan] at r2
    unfold L64 loopOf c64
    repeat' (first | done | (simp -implicitDefEqProofs only [↓reduceIte, go_sem, *, ixaQ_slv hxm, Nd.av, Sv.plan, I64, Q64]) | ((first | rw [stepG_split] | rw [cnd_split] | rw [pickQ_split]); split))
    · rename_i h1
      exact ⟨x, find_take hx no h1, by simp only [↓reduceIte, go_sem]⟩
    · rename_i h1
      exact find_next hx no h1
  · have : i = s.nodes.length := by omega
    subst this
    rw [List.take_length] at no
    simp only [Sv.plan] at r2
    unfold L64 loopOf c64
    repeat' (first | done | (simp -implicitDefEqProofs only [↓reduceIte, go_sem, *, Q64, Int.lt_irrefl]) | ((first | rw [stepG_split] | rw [cnd_split] | rw [pickQ_split]); split))
    exact no
theorem node64 (s : Sv) (id : Int) (hl : s.nodes.length ≤ maxLen) : (om prim F).p 64 [.agg s.plan, .int .i64 id] = some (findNV (findN s id)) := by
  refine call_of F64 rfl ?_
  unfold c64
  simp only [↓reduceIte, go_sem, Sv.plan]
  refine (loop_up s.nodes.length (I64 s id) (round64 s id hl) 0 _ (Nat.zero_le _) (by simp only [↓reduceIte, go_sem, I64, Sv.plan]; exact ⟨rfl, rfl⟩)).mono ?_
  rintro e ⟨t, h⟩ hq
  cases e with
  | norm => exact hq.elim
  | exit i =>
    obtain ⟨rfl, h1, h2, h3⟩ := hq
    simp only at h1 h2 h3
    repeat' (first | done | (simp -implicitDefEqProofs only [↓reduceIte, go_sem, *, findNV, export_eq]) | ((first | rw [stepG_split] | rw [cnd_split] | rw [pickQ_split]); split))
  | ret =>
    obtain ⟨x, h1, h2, h3, h4⟩ := hq
    simp only at h2 h3 h4
    repeat' (first | done | (simp -implicitDefEqProofs only [↓reduceIte, go_sem, *, Nd.av, findNV, export_eq]) | ((first | rw [stepG_split] | rw [cnd_split] | rw [pickQ_split]); split))
end Go.Ab
namespace Go.Ab
attribute [local go_sem] evParts_nil evParts_cons consP_some buildQ_some bldC_some mksQ_some mksC_some fillAll_nil fillAll_cons chop_zero chop_succ rep_zero rep_succ List.flatten_cons List.flatten_nil boxQ_c boxC_eq avCells_ptr List.append_nil List.all_nil List.all_cons Bool.true_and Bool.and_true isOne_int isOne_bool isOne_str isOne_nils isOne_own isOne_ptr isOne_slv lay_nil0 lay_cons0 lay_nil lay_succ List.drop_zero List.take_succ_cons List.take_zero List.drop_succ_cons List.getElem?_cons_zero List.getElem?_cons_succ List.take_nil List.drop_nil List.nil_append List.cons_append a_skip a_exit a_ret a_seq a_block a_cond a_reg thn_norm thn_exit thn_ret blk_norm blk_ret blk_exit rg_some cnd_true cnd_false ops_nil ops_g stepQ_quiet stepQ_makes stepW_some stepW_none stepG_tt stepG_tf stepG_ft stepG_ff stepG_ttN stepG_tfN stepG_ftN stepG_ffN stepG_skip stepG_skipN qv_s ev_t ev_c bin_add bin_sub bin_mul bin_lss bin_leq bin_gtr bin_geq bin_eql bin_neq viewOld_get add_next put_next add_row add_map put_get kl_row kl_none kl_map ops_mv ops_pick ops_new0 ops_new1 ops_new2 ops_box0 ops_box1 ops_box2 ops_build ops_mks0 ops_mks1 ops_mks2 ops_bin ops_un ops_len0 ops_len1 ops_len2 ops_call0 ops_call1 ops_call2 ops_fld ops_ixa ops_ext ops_app0 ops_app1 ops_app2 ops_mm ops_ixr ops_conv ops_convs ops_nilc ops_ixs ops_ixg ops_mkf ops_bb ops_nq ops_eqs ops_ld0 ops_ld1 ops_ld2 ops_st ops_calli pickQ_true pickQ_false ldRow_one ldQ_ref ldQ_ptr cut_false cut_true binQ_some unQ_some un_not un_neg fldQ_ptr fldQ_ref extQ_tup evs_nil evs_cons consO_some lenQ_slv lenQ_ro lenQ_own lenQ_nils lenQ_str stQ_ptr stR_one avCells_agg avCells_int avCells_bool avCells_str avCells_slv avCells_own avCells_nils get_set List.length_cons List.length_nil Res_some Res_thn Res_blk seqP_norm seqP_exit seqP_ret blkP_norm blkP_exit blkP_ret rndP_norm rndP_exit rndP_ret Fin_norm Fin_ret Fin_exit rvV_ptr rvC_one evRV_t evRV_c evRVs_nil evRVs_cons ofL_nil ofL_cons tupOf_one tupOf_two exP if_true if_false not_false_eq_true not_true_eq_false decide_true decide_false Option.isSome_some eq_self and_self and_true true_and and_false false_and Nat.zero_add Nat.add_zero decide_eq_true_eq decide_eq_false_iff_not ne_eq Bool.false_eq_true Bool.true_eq_false reduceCtorEq Nat.reduceLT Nat.reduceEqDiff Nat.reduceAdd Nat.reduceSub Nat.reduceMul Nat.reduceLeDiff get_lf List.length_map mapF_nil mapF_cons mapC_some callQ_fn callR_some callS_cint callS_cbool callS_cstr frz_own frzR_row frzE_some frz_aggC frzA_some frz_int frz_bool frz_str frz_ro frz_nils frz_ref frz_slv view_get view_next viewOld_next eqsQ_agg eqC_some eqK_nil eqK_cons andO_some eq1_int eq1_bool eq1_str bbQ_some mmQ_some mm_nil mm_max mm_min convQ_some mkfQ_some convsQ_some nilcQ_ptr nilcQ_ref bin_quo bin_rem Int.reduceEq Int.reduceNe Int.reduceNeg flatA_agg flatA_int flatA_bool flatA_str flatA_nils flatA_ro flatA_slv flat_int flat_bool flat_str flat_nils flat_ro flat_slv num_int num_bool num_str all_mem_cons all_mem_nil export_flat export_tup callS_nums callS_flat callS_tup Bool.not_true Bool.not_false Bool.and_false Bool.false_and Bool.or_true Bool.true_or Bool.or_false Bool.false_or Bool.not_eq_true Bool.not_eq_false Bool.not_not Bool.not_eq_eq_eq_not Bool.not_eq_true' E0_next E0_get eq_add_one add_one_eq add_eq_add lt_add_self add_lt_add Nat.add_assoc ops_mkv mkvQ_some mkvC_some stv_int stv_bool stv_str stv_nils stv_ro stv_slv isOne_ro ops_slr0 ops_slr1 slrA_ptr slrA_ref frz_ptrC frzPt_one frzPc_some slrQ_some slrP_all stepQ_seal sealC_get slO_row slO_none slO_map seal_next callS_tupC callS_aggC callS_exC callT_nil callT_no callT_yes adp_ex adp_agg adp_tup adpL_nil adpL_cons adK_some adJ_some adA_some adT_some adp_int adp_bool adp_str adp_nils adp_ro adp_slv hasRo_int hasRo_bool hasRo_str hasRo_nils hasRo_ro hasRo_agg hasRo_tup hasRo_ex List.any_nil List.any_cons bin_seq bin_sne appQ_some appR_e_nils appR_e_own appR_cons appN_nils appN_own appO_row elems_ro elems_nils elems_own elO_row view_topD add_top0D add_top1D seal_tops E0_tops put_tops nqQ_slv List.not_mem_nil or_false or_true true_or false_or List.mem_cons frz_fnC frzFn_some nqQ_ro nqQ_nils List.map_nil List.map_cons expF_some xpt_own xpO_row xpO2_some xpt_agg xpt_tup xpA_some xpT_some xptL_nil xptL_cons xpC_some xpt_int xpt_bool xpt_str xpt_nils xpt_ro xpt_slv mapF2_cells nodup_one nodup_nil take_all take_all_map List.contains_nil Nat.le_refl
variable {prim : Nat → List AV → Option AV}
set_option maxRecDepth 10000
theorem F146 : F.get 146 = some c146 := by rfl
theorem F147 : F.get 147 = some c147 := by rfl
theorem F109 : F.get 109 = some c109 := by rfl
theorem F134 : F.get 134 = some c134 := by rfl
theorem pts_flat (zs : List Pt) : ∀ e ∈ zs.map Pt.av, ∀ c ∈ e, Flat c := by
  intro e he c hc
  obtain ⟨z, _, rfl⟩ := List.mem_map.1 he
  simp only [Pt.av, List.mem_cons, List.not_mem_nil, or_false] at hc
  rcases hc with rfl | rfl <;> trivial
theorem mapF2_pts (g : Nat → Option AObj) (f : Nat) (zs : List Pt) : mapF (mapF (frz g (f + 1))) (zs.map Pt.av) = some (zs.map Pt.av, []) := mapF2_flat (pts_flat zs)
attribute [local go_sem] mapF2_pts
theorem clone147 (n : Bool) (zs : List Pt) (hl : zs.length ≤ 1073741824) : (om prim F).p 147 [slv n 2 (zs.map Pt.av)] = some (exs n 2 (zs.map Pt.av)) := by
  refine call_of F147 rfl ?_
  unfold c147
  cases zs with
  | nil =>
    cases n with
    | true => rw [List.map_nil, slv_nil, exs_nil]; repeat' (first | done | (simp -implicitDefEqProofs only [↓reduceIte, go_sem, *]) | ((first | rw [stepG_split] | rw [cnd_split] | rw [pickQ_split]); split))
    | false =>
      rw [List.map_nil, slv_mt, exs_mt]
      repeat' (first | done | (simp -implicitDefEqProofs only [↓reduceIte, go_sem, *]) | ((first | rw [stepG_split] | rw [cnd_split] | rw [pickQ_split]); split))
      exact export_ownRow (k' := 2) (cls := 0) (es := []) (by simp only [↓reduceIte, go_sem]) (by simp) (by simp)
  | cons z zs =>
    have hc := pts_flat (z :: zs)
    have hm : ((zs.length + 1) * 16 ≤ maxL) := by simp only [maxL]; simp at hl; omega
    rw [List.map_cons] at hc ⊢
    rw [slv_cons, exs_cons]
    repeat' (first | done | (simp -implicitDefEqProofs only [↓reduceIte, go_sem, *]) | ((first | rw [stepG_split] | rw [cnd_split] | rw [pickQ_split]); split))
    refine (export_ownRow (k' := 2) (cls := 0) (es := z.av :: zs.map Pt.av) (by simp only [↓reduceIte, go_sem]) (by simp) hc).trans ?_
    rw [List.drop_zero, List.take_of_length_le (by simp)]
theorem idIs146 (f : Ar) (id : Int) : (om prim F).p 146 [.agg f.av, .ref [.int .i64 id] 0] = some (.bool (decide (f.id = id))) := by
  refine call_of F146 rfl ?_
  unfold c146
  repeat' (first | done | (simp -implicitDefEqProofs only [↓reduceIte, go_sem, *, Ar.av]) | ((first | rw [stepG_split] | rw [cnd_split] | rw [pickQ_split]); split))
def findA (s : Sv) (id : Int) : Option Ar := s.arcs.find? fun f => decide (f.id = id)
def arcV (f : Ar) (v : AV) : AV := .tup [.agg [.int .i64 f.id, .int .i64 f.fr, .int .i64 f.to, v, .int .i64 f.lf, .int .i64 f.rt], .bool true]
def noArc : AV := .tup [.agg [.int .i64 0, .int .i64 0, .int .i64 0, .nils, .int .i64 0, .int .i64 0], .bool false]
def findAV : Option Ar → AV
  | some f => arcV f (exs f.vn 2 (f.via.map Pt.av))
  | none => noArc
theorem arc109 (s : Sv) (id : Int) (hl : s.arcs.length ≤ maxLen) (hp : ∀ f ∈ s.arcs, f.via.length ≤ 1073741824) : (om prim F).p 109 [.agg s.plan, .int .i64 id] = some (findAV (findA s id)) := by
  refine call_of F109 rfl ?_
  have h := indexFunc145 (prim := prim) s.an s.arcs 146 [.ref [.int .i64 id] 0] (fun f => decide (f.id = id)) (by simp [FlatA, Flat]) (fun f _ => idIs146 f id) hl
  unfold findA
  rcases idx_find s.arcs (fun f => decide (f.id = id)) with ⟨i, f, h1, h2, h3⟩ | ⟨h1, h2⟩
  · rw [h1] at h
    rw [h2]
    have hxm : (s.arcs.map Ar.av)[i]? = some f.av := by simp [h3]
    have hc := clone147 (prim := prim) f.vn f.via (hp f (List.mem_of_getElem? h3))
    have hi : decide ((i : Int) < 0) = false := decide_eq_false (by omega)
    have hi2 : idxI (some i) = (i : Int) := rfl
    clear hp
    rcases exs_cases f.vn 2 (f.via.map Pt.av) with ⟨e1, -⟩ | ⟨e1, -, -⟩
    · rw [e1] at hc
      simp only [findAV, arcV, e1]
      unfold c109
      repeat' (first | done | (simp -implicitDefEqProofs only [↓reduceIte, go_sem, *, Sv.plan, Ar.av, ixaQ_slv hxm, export_eq]) | ((first | rw [stepG_split] | rw [cnd_split] | rw [pickQ_split]); split))
    · rw [e1] at hc
      simp only [findAV, arcV, e1]
      unfold c109
      repeat' (first | done | (simp -implicitDefEqProofs only [↓reduceIte, go_sem, *, Sv.plan, Ar.av, ixaQ_slv hxm, export_eq]) | ((first | rw [stepG_split] | rw [cnd_split] | rw [pickQ_split]); split))
  · rw [h1] at h
    rw [h2]
    have hi : decide (idxI (none : Option Nat) < 0) = true := by simp [idxI]
    clear hp
    unfold c109
    repeat' (first | done | (simp -implicitDefEqProofs only [↓reduceIte, go_sem, *, Sv.plan, export_eq, findAV, noArc]) | ((first | rw [stepG_split] | rw [cnd_split] | rw [pickQ_split]); split))
def refAV : Option Ar → AV
  | some f => arcV f (.ex 2 (f.via.map Pt.av))
  | none => noArc
def L134 : C := match c134.body with | .seq _ (.seq a _) => loopOf a | _ => .skip
def I134 (s : Sv) (id : Int) (i : Nat) (st : St) : Prop :=
  st.h.next = 2 ∧ st.t.get 2 = some (.ptr 0 0 0) ∧ st.h.get 0 = some (.row 3 [s.plan] 0 false) ∧ st.t.get 1 = some (.int .i64 id) ∧ st.t.get 6 = some (.int .i64 i) ∧ st.t.get 4 = some (.ptr 1 0 0) ∧ st.t.get 5 = some (.bool false) ∧
  st.h.get 1 = some (.row 6 [[.int .i64 0, .int .i64 0, .int .i64 0, .nils, .int .i64 0, .int .i64 0]] 1 false) ∧ (s.arcs.take i).find? (fun f => decide (f.id = id)) = none
def Q134 (s : Sv) (id : Int) : Ex → St → Prop
  | .exit i, st => i = 0 ∧ st.t.get 4 = some (.ptr 1 0 0) ∧ st.h.get 1 = some (.row 6 [[.int .i64 0, .int .i64 0, .int .i64 0, .nils, .int .i64 0, .int .i64 0]] 1 false) ∧ findA s id = none
  | .ret, st => ∃ x v, findA s id = some x ∧ st.t.get 4 = some (.ptr 1 0 0) ∧ st.h.get 1 = some (.row 6 [[.int .i64 x.id, .int .i64 x.fr, .int .i64 x.to, v, .int .i64 x.lf, .int .i64 x.rt]] 1 false) ∧ st.t.get 5 = some (.bool true)
    ∧ ∃ k c, v = .own 2 k 0 x.via.length ∧ st.h.get k = some (.row 2 (x.via.map Pt.av) c false)
  | _, _ => False
theorem round134 (s : Sv) (id : Int) (hl : s.arcs.length ≤ maxLen) (hp : ∀ f ∈ s.arcs, f.via.length ≤ 1073741824) (i : Nat) (st : St) (hi : i ≤ s.arcs.length) (hI : I134 s id i st) :
    Res ((om prim F).a L134 st) (rndP (fun s' => i < s.arcs.length ∧ I134 s id (i + 1) s') (Q134 s id)) := by
  obtain ⟨t, h⟩ := st
  obtain ⟨nx, g2, r2, g1, g6, g4, g5, row, no⟩ := hI
  simp only at nx g2 r2 g1 g6 g4 g5 row no
  by_cases hlt : i < s.arcs.length
  · have hx : s.arcs[i]? = some s.arcs[i] := List.getElem?_eq_getElem hlt
    generalize s.arcs[i] = x at hx
    have hxm : (s.arcs.map Ar.av)[i]? = some x.av := by simp [hx]
    have hil : (i : Int) < s.arcs.length := by omega
    have hw := wrap_succ hlt hl
    have hv := hp x (List.mem_of_getElem? hx)
    clear hp
    simp only [Sv.plan] at r2
    by_cases hid : x.id = id
    · have hfi : findA s id = some x := find_take hx no (by simp [hid])
      have hde : decide (x.id = id) = true := decide_eq_true hid
      clear no hid
      cases hvia : x.via with
      | nil =>
        cases hvn : x.vn with
        | true =>
          unfold L134 loopOf c134
          repeat' (first | done | (simp -implicitDefEqProofs only [↓reduceIte, go_sem, *, ixaQ_slv hxm, Ar.av, Sv.plan, I134, Q134, slv_nil]) | ((first | rw [stepG_split] | rw [cnd_split] | rw [pickQ_split]); split))
          exact ⟨x, _, rfl, rfl, 3, _, by rw [hvia]; rfl, by rw [hvia]; simp only [↓reduceIte, go_sem]; rfl⟩
        | false =>
          unfold L134 loopOf c134
          repeat' (first | done | (simp -implicitDefEqProofs only [↓reduceIte, go_sem, *, ixaQ_slv hxm, Ar.av, Sv.plan, I134, Q134, slv_mt]) | ((first | rw [stepG_split] | rw [cnd_split] | rw [pickQ_split]); split))
          exact ⟨x, _, rfl, rfl, 3, _, by rw [hvia]; rfl, by rw [hvia]; simp only [↓reduceIte, go_sem]; rfl⟩
      | cons z zs =>
        have hm : ((zs.length + 1) * 16 ≤ maxL) := by rw [hvia] at hv; simp only [maxL]; simp at hv; omega
        unfold L134 loopOf c134
        repeat' (first | done | (simp -implicitDefEqProofs only [↓reduceIte, go_sem, *, ixaQ_slv hxm, Ar.av, Sv.plan, I134, Q134, slv_cons]) | ((first | rw [stepG_split] | rw [cnd_split] | rw [pickQ_split]); split))
        exact ⟨x, _, rfl, rfl, 4, 3, by rw [hvia]; rfl, by rw [hvia]; simp only [↓reduceIte, go_sem]⟩
    · have hde : decide (x.id = id) = false := decide_eq_false hid
      have hfi : (s.arcs.take (i + 1)).find? (fun f => decide (f.id = id)) = none := find_next hx no hde
      clear no hid
      unfold L134 loopOf c134
      repeat' (first | done | (simp -implicitDefEqProofs only [↓reduceIte, go_sem, *, ixaQ_slv hxm, Ar.av, Sv.plan, I134, Q134]) | ((first | rw [stepG_split] | rw [cnd_split] | rw [pickQ_split]); split))
  · have : i = s.arcs.length := by omega
    subst this
    rw [List.take_length] at no
    clear hp
    simp only [Sv.plan] at r2
    unfold L134 loopOf c134
    repeat' (first | done | (simp -implicitDefEqProofs only [↓reduceIte, go_sem, *, Q134, Int.lt_irrefl]) | ((first | rw [stepG_split] | rw [cnd_split] | rw [pickQ_split]); split))
    exact no
theorem arc134 (s : Sv) (id : Int) (hl : s.arcs.length ≤ maxLen) (hp : ∀ f ∈ s.arcs, f.via.length ≤ 1073741824) : (om prim F).p 134 [.agg s.plan, .int .i64 id] = some (refAV (findA s id)) := by
  refine call_of F134 rfl ?_
  unfold c134
  simp only [↓reduceIte, go_sem, Sv.plan]
  refine (loop_up s.arcs.length (I134 s id) (round134 s id hl hp) 0 _ (Nat.zero_le _) (by simp only [↓reduceIte, go_sem, I134, Sv.plan]; exact ⟨rfl, rfl⟩)).mono ?_
  clear hp
  rintro e ⟨t, h⟩ hq
  cases e with
  | norm => exact hq.elim
  | exit i =>
    obtain ⟨rfl, h1, h2, h3⟩ := hq
    simp only at h1 h2 h3
    repeat' (first | done | (simp -implicitDefEqProofs only [↓reduceIte, go_sem, *, refAV, noArc, export_eq]) | ((first | rw [stepG_split] | rw [cnd_split] | rw [pickQ_split]); split))
  | ret =>
    obtain ⟨x, v, h1, h2, h3, h4, k, c, rfl, h5⟩ := hq
    simp only at h2 h3 h4 h5
    have hlen : (x.via.map Pt.av).length = x.via.length := List.length_map _
    repeat' (first | done | (simp -implicitDefEqProofs only [↓reduceIte, go_sem, *, refAV, arcV, export_eq]) | ((first | rw [stepG_split] | rw [cnd_split] | rw [pickQ_split]); split))
end Go.Ab
