/- Layer 46: small functions. -/
import Derived.Test.YtjlbgjodfikplaaGreatXe
import Derived.Test.YtjlbgjodfikplaaGreatXg
import Derived.KernelRfl
import Derived.Test.YtjlbgjodfikplaaGreatXw
import Derived.Test.YtjlbgjodfikplaaGreatXr
set_option linter.unusedVariables false
set_option linter.unusedSimpArgs false
namespace Go.Ab
attribute [local go_sem] evParts_nil evParts_cons consP_some buildQ_some bldC_some mksQ_some mksC_some fillAll_nil fillAll_cons chop_zero chop_succ rep_zero rep_succ List.flatten_cons List.flatten_nil boxQ_c boxC_eq avCells_ptr List.append_nil List.all_nil List.all_cons Bool.true_and Bool.and_true isOne_int isOne_bool isOne_str isOne_nils isOne_own isOne_ptr isOne_slv lay_nil0 lay_cons0 lay_nil lay_succ List.drop_zero List.take_succ_cons List.take_zero List.drop_succ_cons List.getElem?_cons_zero List.getElem?_cons_succ List.take_nil List.drop_nil List.nil_append List.cons_append a_skip a_exit a_ret a_seq a_block a_cond a_reg thn_norm thn_exit thn_ret blk_norm blk_ret blk_exit rg_some cnd_true cnd_false ops_nil ops_g stepQ_quiet stepQ_makes stepW_some stepW_none stepG_tt stepG_tf stepG_ft stepG_ff stepG_ttN stepG_tfN stepG_ftN stepG_ffN stepG_skip stepG_skipN qv_s ev_t ev_c bin_add bin_sub bin_mul bin_lss bin_leq bin_gtr bin_geq bin_eql bin_neq viewOld_get add_next put_next add_row add_map put_get kl_row kl_none kl_map ops_mv ops_pick ops_new0 ops_new1 ops_new2 ops_box0 ops_box1 ops_box2 ops_build ops_mks0 ops_mks1 ops_mks2 ops_bin ops_un ops_len0 ops_len1 ops_len2 ops_call0 ops_call1 ops_call2 ops_fld ops_ixa ops_ext ops_app0 ops_app1 ops_app2 ops_mm ops_ixr ops_conv ops_convs ops_nilc ops_ixs ops_ixg ops_mkf ops_bb ops_nq ops_eqs ops_ld0 ops_ld1 ops_ld2 ops_st ops_calli pickQ_true pickQ_false ldRow_one ldQ_ref ldQ_ptr cut_false cut_true binQ_some unQ_some un_not un_neg fldQ_ptr fldQ_ref extQ_tup evs_nil evs_cons consO_some lenQ_slv lenQ_ro lenQ_own lenQ_nils lenQ_str stQ_ptr stR_one avCells_agg avCells_int avCells_bool avCells_str avCells_slv avCells_own avCells_nils get_set List.length_cons List.length_nil Res_some Res_thn Res_blk seqP_norm seqP_exit seqP_ret blkP_norm blkP_exit blkP_ret rndP_norm rndP_exit rndP_ret Fin_norm Fin_ret Fin_exit rvV_ptr rvC_one evRV_t evRV_c evRVs_nil evRVs_cons ofL_nil ofL_cons tupOf_one tupOf_two exP if_true if_false not_false_eq_true not_true_eq_false decide_true decide_false Option.isSome_some eq_self and_self and_true true_and and_false false_and Nat.zero_add Nat.add_zero decide_eq_true_eq decide_eq_false_iff_not ne_eq Bool.false_eq_true Bool.true_eq_false reduceCtorEq Nat.reduceLT Nat.reduceEqDiff Nat.reduceAdd Nat.reduceSub Nat.reduceMul Nat.reduceLeDiff get_lf List.length_map mapF_nil mapF_cons mapC_some callQ_fn callR_some callS_cint callS_cbool callS_cstr frz_own frzR_row frzE_some frz_aggC frzA_some frz_int frz_bool frz_str frz_ro frz_nils frz_ref frz_slv view_get view_next viewOld_next eqsQ_agg eqC_some eqK_nil eqK_cons andO_some eq1_int eq1_bool eq1_str bbQ_some mmQ_some mm_nil mm_max mm_min convQ_some mkfQ_some convsQ_some nilcQ_ptr nilcQ_ref bin_quo bin_rem Int.reduceEq Int.reduceNe Int.reduceNeg flatA_agg flatA_int flatA_bool flatA_str flatA_nils flatA_ro flatA_slv flat_int flat_bool flat_str flat_nils flat_ro flat_slv num_int num_bool num_str all_mem_cons all_mem_nil export_flat export_tup callS_nums callS_flat callS_tup Bool.not_true Bool.not_false Bool.and_false Bool.false_and Bool.or_true Bool.true_or Bool.or_false Bool.false_or Bool.not_eq_true Bool.not_eq_false Bool.not_not Bool.not_eq_eq_eq_not Bool.not_eq_true' E0_next E0_get eq_add_one add_one_eq add_eq_add lt_add_self add_lt_add Nat.add_assoc
variable {prim : Nat → List AV → Option AV}
set_option maxRecDepth 10000

theorem F59 : F.get 59 = some c59 := by rfl
theorem in59 (n a b : Int) : (om prim F).p 59 [.int .i64 n, .int .i64 a, .int .i64 b] = some (.bool (decide (a ≤ n) && decide (n ≤ b))) := by
  refine call_of F59 rfl ?_
  unfold c59
  repeat' (first | done | (simp -implicitDefEqProofs only [↓reduceIte, go_sem, *]) | ((first | rw [stepG_split] | rw [cnd_split] | rw [pickQ_split]); split))

/-- One cell a whole number. -/
def cell (z : Int) : List AV := [.int .i64 z]

def I57 (a b : Int) (zs : List Int) (i : Nat) (s : St) : Prop :=
  s.t.get 7 = some (.ro 1 (zs.map cell)) ∧ s.t.get 8 = some (.int .i64 zs.length) ∧ s.t.get 9 = some (.int .i64 i) ∧ s.t.get 2 = some (.ptr 0 0 0) ∧ s.h.get 0 = some (.row 2 [[.int .i64 a, .int .i64 b]] 0 false) ∧
  (zs.take i).all (fun z => decide (a ≤ z) && decide (z ≤ b)) = true
def Q57 (a b : Int) (zs : List Int) : Ex → St → Prop
  | .exit i, _ => i = 0 ∧ zs.all (fun z => decide (a ≤ z) && decide (z ≤ b)) = true
  | .ret, s => s.t.get 4 = some (.bool false) ∧ zs.all (fun z => decide (a ≤ z) && decide (z ≤ b)) = false
  | _, _ => False
theorem all_next {α : Type} {l : List α} {p : α → Bool} {i : Nat} {x : α} (hx : l[i]? = some x) (h : (l.take i).all p = true) (hp : p x = true) : (l.take (i + 1)).all p = true := by
  rw [List.take_add_one, hx, List.all_append, h]
  simp [hp]
theorem all_stop {α : Type} {l : List α} {p : α → Bool} {i : Nat} {x : α} (hx : l[i]? = some x) (hp : p x = false) : l.all p = false := by
  rw [List.all_eq_false]
  exact ⟨x, List.mem_of_getElem? hx, by simp [hp]⟩
theorem wrap_succ {i n : Nat} (h : i < n) (hn : n ≤ maxLen) : IntKind.i64.wrap ((i : Int) + 1) = ((i + 1 : Nat) : Int) := by
  rw [wrap64_of (by simp only [maxLen] at hn; omega)]; rfl

def L57 : C := match c57.body with
  | .seq _ (.seq (.seq _ (.block _ (.loop b))) _) => b
  | _ => .skip
theorem F57 : F.get 57 = some c57 := by rfl
theorem round57 (a b : Int) (zs : List Int) (hl : zs.length ≤ maxLen) (i : Nat) (s : St) (hi : i ≤ zs.length) (hI : I57 a b zs i s) :
    Res ((om prim F).a L57 s) (rndP (fun s' => i < zs.length ∧ I57 a b zs (i + 1) s') (Q57 a b zs)) := by
  obtain ⟨t, h⟩ := s
  obtain ⟨g7, g8, g9, g2, row, no⟩ := hI
  simp only at g7 g8 g9 g2 row no
  by_cases hlt : i < zs.length
  · have hx : zs[i]? = some zs[i] := List.getElem?_eq_getElem hlt
    generalize zs[i] = x at hx
    have hxm : (zs.map cell)[i]? = some (cell x) := by simp [hx]
    have hil : (i : Int) < zs.length := by omega
    have hw := wrap_succ hlt hl
    unfold L57 c57
    repeat' (first | done | (simp -implicitDefEqProofs only [↓reduceIte, go_sem, *, ixaQ_ro hxm, cell, I57, Q57]) | ((first | rw [stepG_split] | rw [cnd_split] | rw [pickQ_split]); split))
    · rename_i h1
      exact all_stop hx (by simp at h1 ⊢; omega)
    · rename_i h1 _ h2
      exact all_stop hx (by simp at h1 h2 ⊢; omega)
    · rename_i h1 _ h2
      exact all_next hx no (by simp at h1 h2 ⊢; omega)
  · have : i = zs.length := by omega
    subst this
    rw [List.take_length] at no
    unfold L57 c57
    repeat' (first | done | (simp -implicitDefEqProofs only [↓reduceIte, go_sem, *, Q57, Int.lt_irrefl]) | ((first | rw [stepG_split] | rw [cnd_split] | rw [pickQ_split]); split))
theorem has57 (a b : Int) (zs : List Int) (hl : zs.length ≤ maxLen) :
    (om prim F).p 57 [.agg [.int .i64 a, .int .i64 b], .ro 1 (zs.map cell)] = some (.bool (zs.all fun z => decide (a ≤ z) && decide (z ≤ b))) := by
  refine call_of F57 rfl ?_
  unfold c57
  repeat' (first | done | (simp -implicitDefEqProofs only [↓reduceIte, go_sem, *, E0]) | ((first | rw [stepG_split] | rw [cnd_split] | rw [pickQ_split]); split))
  refine (loop_up zs.length (I57 a b zs) (round57 a b zs hl) 0 _ (Nat.zero_le _) (by simp only [↓reduceIte, go_sem, I57]; rfl)).mono ?_
  rintro e ⟨t, h⟩ hq
  cases e with
  | norm => exact hq.elim
  | exit i =>
    obtain ⟨rfl, h1⟩ := hq
    repeat' (first | done | (simp -implicitDefEqProofs only [↓reduceIte, go_sem, *]) | ((first | rw [stepG_split] | rw [cnd_split] | rw [pickQ_split]); split))
  | ret =>
    obtain ⟨h1, h2⟩ := hq
    simp only at h1
    repeat' (first | done | (simp -implicitDefEqProofs only [↓reduceIte, go_sem, *]) | ((first | rw [stepG_split] | rw [cnd_split] | rw [pickQ_split]); split))
theorem F61 : F.get 61 = some c61 := by rfl
theorem point61 (x y : Int) : (om prim F).p 61 [.agg [.int .i64 x, .int .i64 y]] = some (.bool (decide (-1048576 ≤ x) && decide (x ≤ 1048576) && decide (-1048576 ≤ y) && decide (y ≤ 1048576))) := by
  refine call_of F61 rfl ?_
  unfold c61
  repeat' (first | done | (simp -implicitDefEqProofs only [↓reduceIte, go_sem, *]) | ((first | rw [stepG_split] | rw [cnd_split] | rw [pickQ_split]); split))

/-! ### mapsheetsref01.Floor of a small number by 2 -/
def isPair (v : Option AV) (a b : Int) : Bool := match v with
  | some (.tup [.int .i64 x, .int .i64 y]) => decide (x = a) && decide (y = b)
  | _ => false
theorem isPair_eq {v : Option AV} {a b : Int} (h : isPair v a b = true) : v = some (.tup [.int .i64 a, .int .i64 b]) := by
  unfold isPair at h
  split at h
  · simp only [Bool.and_eq_true, decide_eq_true_eq] at h
    rw [h.1, h.2]
  · cases h
theorem floor62_all : (List.range 65).all (fun n => isPair ((lv prim F 20).p 62 [.int .i64 (n : Int), .int .i64 2]) ((n / 2 : Nat) : Int) 0) = true := by kernel_rfl
theorem floor62 (n : Nat) (h : n ≤ 64) : (om prim F).p 62 [.int .i64 (n : Int), .int .i64 2] = some (.tup [.int .i64 ((n / 2 : Nat) : Int), .int .i64 0]) := by
  refine (om_p_iff prim F).2 ⟨20, isPair_eq ?_⟩
  exact List.all_eq_true.1 floor62_all n (List.mem_range.2 (by omega))
/-! ### symbol.Box -/
theorem F22 : F.get 22 = some c22 := by rfl
theorem F23 : F.get 23 = some c23 := by rfl
theorem F24 : F.get 24 = some c24 := by rfl
structure Sym where
  kind : Int
  cls : Int
  w : Int
  h : Int
  letters : Int
  i0 : Int
  i1 : Int
  i2 : Int
  i3 : Int
def Sym.av (x : Sym) : List AV := [.int .i64 x.kind, .int .i64 x.cls, .int .i64 x.w, .int .i64 x.h, .int .i64 x.letters, .int .i64 x.i0, .int .i64 x.i1, .int .i64 x.i2, .int .i64 x.i3]
def Sym.zero : Sym := ⟨0, 0, 0, 0, 0, 0, 0, 0, 0⟩
structure Pt where
  x : Int
  y : Int
def Pt.av (p : Pt) : List AV := [.int .i64 p.x, .int .i64 p.y]
structure Bx where
  x0 : Int
  y0 : Int
  x1 : Int
  y1 : Int
def Bx.av (b : Bx) : List AV := [.int .i64 b.x0, .int .i64 b.y0, .int .i64 b.x1, .int .i64 b.y1]
def coord (n : Int) : Bool := decide (-1048576 ≤ n) && decide (n ≤ 1048576)
def small (n : Int) : Bool := decide (0 ≤ n) && decide (n ≤ 64)
def boxOf (x : Sym) (p : Pt) : Bx := if (small x.w && small x.h && coord p.x && coord p.y) = true then ⟨p.x - x.w / 2, p.y - x.h / 2, p.x - x.w / 2 + x.w, p.y - x.h / 2 + x.h⟩ else ⟨0, 0, 0, 0⟩

theorem has57_two (a b x y : Int) : (om prim F).p 57 [.agg [.int .i64 a, .int .i64 b], .ro 1 [[.int .i64 x], [.int .i64 y]]] = some (.bool ((decide (a ≤ x) && decide (x ≤ b)) && (decide (a ≤ y) && decide (y ≤ b)))) := by
  have := has57 (prim := prim) a b [x, y] (by simp [maxLen])
  simpa [cell] using this
theorem w64 {n : Int} (h : -9223372036854775808 ≤ n ∧ n ≤ 9223372036854775807) : IntKind.i64.wrap n = n := wrap64_of h
theorem boxOf_in {x : Sym} {p : Pt} (h1 : 0 ≤ x.w ∧ x.w ≤ 64 ∧ 0 ≤ x.h ∧ x.h ≤ 64) (h2 : -1048576 ≤ p.x ∧ p.x ≤ 1048576 ∧ -1048576 ≤ p.y ∧ p.y ≤ 1048576) :
    boxOf x p = ⟨p.x - x.w / 2, p.y - x.h / 2, p.x - x.w / 2 + x.w, p.y - x.h / 2 + x.h⟩ := by
  simp [boxOf, small, coord, h1, h2]
theorem boxOf_out {x : Sym} {p : Pt} (h : ¬ ((0 ≤ x.w ∧ x.w ≤ 64 ∧ 0 ≤ x.h ∧ x.h ≤ 64) ∧ (-1048576 ≤ p.x ∧ p.x ≤ 1048576 ∧ -1048576 ≤ p.y ∧ p.y ≤ 1048576))) :
    boxOf x p = ⟨0, 0, 0, 0⟩ := by
  unfold boxOf
  rw [if_neg]
  intro hh
  simp only [small, coord, Bool.and_eq_true, decide_eq_true_eq] at hh
  exact h ⟨⟨hh.1.1.1.1, hh.1.1.1.2, hh.1.1.2.1, hh.1.1.2.2⟩, hh.1.2.1, hh.1.2.2, hh.2.1, hh.2.2⟩
theorem box22 (x : Sym) (p : Pt) : (om prim F).p 22 [.agg x.av, .agg p.av] = some (.agg (boxOf x p).av) := by
  refine call_of F22 rfl ?_
  unfold c22
  repeat' (first | done | (simp -implicitDefEqProofs only [↓reduceIte, go_sem, *, Sym.av, Pt.av, has57_two]) | ((first | rw [stepG_split] | rw [cnd_split] | rw [pickQ_split]); split))
  · rename_i h
    rw [boxOf_out (by simp at h; omega)]; rfl
  · rename_i h1 _ h2
    rw [boxOf_out (by simp at h1 h2; omega)]; rfl
  · rename_i h1 _ h2
    simp at h1 h2
    have e1 : x.w.tdiv 2 = x.w / 2 := Int.tdiv_eq_ediv_of_nonneg (by omega)
    have e2 : x.h.tdiv 2 = x.h / 2 := Int.tdiv_eq_ediv_of_nonneg (by omega)
    rw [boxOf_in (by omega) (by omega), e1, e2, w64 (n := x.w / 2) (by omega), w64 (n := x.h / 2) (by omega), w64 (n := p.x - x.w / 2) (by omega), w64 (n := p.y - x.h / 2) (by omega), w64 (n := p.x - x.w / 2 + x.w) (by omega), w64 (n := p.y - x.h / 2 + x.h) (by omega)]
    rfl
theorem floor62' (n : Int) (h : 0 ≤ n ∧ n ≤ 64) : (om prim F).p 62 [.int .i64 n, .int .i64 2] = some (.tup [.int .i64 (n / 2), .int .i64 0]) := by
  obtain ⟨m, rfl⟩ := Int.eq_ofNat_of_zero_le h.1
  rw [floor62 m (by omega)]; rfl
theorem box23 (x : Sym) (p : Pt) : (om prim F).p 23 [.agg x.av, .agg p.av] = some (.agg (boxOf x p).av) := by
  refine call_of F23 rfl ?_
  unfold c23
  by_cases hw : 0 ≤ x.w ∧ x.w ≤ 64 ∧ 0 ≤ x.h ∧ x.h ≤ 64
  · have f1 := floor62' (prim := prim) x.w (by omega)
    have f2 := floor62' (prim := prim) x.h (by omega)
    repeat' (first | done | (simp -implicitDefEqProofs only [↓reduceIte, go_sem, *, Sym.av, Pt.av, in59, point61]) | ((first | rw [stepG_split] | rw [cnd_split] | rw [pickQ_split]); split))
    · rename_i h2 
      rw [boxOf_out (by simp at h2; omega)]; rfl
    · rename_i h2
      simp at h2
      rw [boxOf_in (by omega) (by omega), w64 (n := p.x - x.w / 2) (by omega), w64 (n := p.y - x.h / 2) (by omega), w64 (n := p.x - x.w / 2 + x.w) (by omega), w64 (n := p.y - x.h / 2 + x.h) (by omega)]
      rfl
  · have out : boxOf x p = ⟨0, 0, 0, 0⟩ := boxOf_out (fun h => hw h.1)
    repeat' (first | done | (simp -implicitDefEqProofs only [↓reduceIte, go_sem, *, Sym.av, Pt.av, in59, point61]) | ((first | rw [stepG_split] | rw [cnd_split] | rw [pickQ_split]); split))
    · rfl
    · rfl
    · rfl
    · rename_i h1 _ h2 _ h3
      simp at h1 h2
      omega
/-! ### geom.In -/
theorem geomIn24 (b : Bx) (p : Pt) : (om prim F).p 24 [.agg b.av, .agg p.av] = some (.bool (decide (b.x0 ≤ p.x) && decide (p.x ≤ b.x1) && decide (b.y0 ≤ p.y) && decide (p.y ≤ b.y1))) := by
  refine call_of F24 rfl ?_
  unfold c24
  repeat' (first | done | (simp -implicitDefEqProofs only [↓reduceIte, go_sem, *, Bx.av, Pt.av]) | ((first | rw [stepG_split] | rw [cnd_split] | rw [pickQ_split]); split))
theorem Sym.num (x : Sym) : ∀ c ∈ x.av, Num c := by simp [Sym.av, Num]
theorem Bx.num (x : Bx) : ∀ c ∈ x.av, Num c := by simp [Bx.av, Num]
end Go.Ab
namespace Go.Ab
attribute [local go_sem] evParts_nil evParts_cons consP_some buildQ_some bldC_some mksQ_some mksC_some fillAll_nil fillAll_cons chop_zero chop_succ rep_zero rep_succ List.flatten_cons List.flatten_nil boxQ_c boxC_eq avCells_ptr List.append_nil List.all_nil List.all_cons Bool.true_and Bool.and_true isOne_int isOne_bool isOne_str isOne_nils isOne_own isOne_ptr isOne_slv lay_nil0 lay_cons0 lay_nil lay_succ List.drop_zero List.take_succ_cons List.take_zero List.drop_succ_cons List.getElem?_cons_zero List.getElem?_cons_succ List.take_nil List.drop_nil List.nil_append List.cons_append a_skip a_exit a_ret a_seq a_block a_cond a_reg thn_norm thn_exit thn_ret blk_norm blk_ret blk_exit rg_some cnd_true cnd_false ops_nil ops_g stepQ_quiet stepQ_makes stepW_some stepW_none stepG_tt stepG_tf stepG_ft stepG_ff stepG_ttN stepG_tfN stepG_ftN stepG_ffN stepG_skip stepG_skipN qv_s ev_t ev_c bin_add bin_sub bin_mul bin_lss bin_leq bin_gtr bin_geq bin_eql bin_neq viewOld_get add_next put_next add_row add_map put_get kl_row kl_none kl_map ops_mv ops_pick ops_new0 ops_new1 ops_new2 ops_box0 ops_box1 ops_box2 ops_build ops_mks0 ops_mks1 ops_mks2 ops_bin ops_un ops_len0 ops_len1 ops_len2 ops_call0 ops_call1 ops_call2 ops_fld ops_ixa ops_ext ops_app0 ops_app1 ops_app2 ops_mm ops_ixr ops_conv ops_convs ops_nilc ops_ixs ops_ixg ops_mkf ops_bb ops_nq ops_eqs ops_ld0 ops_ld1 ops_ld2 ops_st ops_calli pickQ_true pickQ_false ldRow_one ldQ_ref ldQ_ptr cut_false cut_true binQ_some unQ_some un_not un_neg fldQ_ptr fldQ_ref extQ_tup evs_nil evs_cons consO_some lenQ_slv lenQ_ro lenQ_own lenQ_nils lenQ_str stQ_ptr stR_one avCells_agg avCells_int avCells_bool avCells_str avCells_slv avCells_own avCells_nils get_set List.length_cons List.length_nil Res_some Res_thn Res_blk seqP_norm seqP_exit seqP_ret blkP_norm blkP_exit blkP_ret rndP_norm rndP_exit rndP_ret Fin_norm Fin_ret Fin_exit rvV_ptr rvC_one evRV_t evRV_c evRVs_nil evRVs_cons ofL_nil ofL_cons tupOf_one tupOf_two exP if_true if_false not_false_eq_true not_true_eq_false decide_true decide_false Option.isSome_some eq_self and_self and_true true_and and_false false_and Nat.zero_add Nat.add_zero decide_eq_true_eq decide_eq_false_iff_not ne_eq Bool.false_eq_true Bool.true_eq_false reduceCtorEq Nat.reduceLT Nat.reduceEqDiff Nat.reduceAdd Nat.reduceSub Nat.reduceMul Nat.reduceLeDiff get_lf List.length_map mapF_nil mapF_cons mapC_some callQ_fn callR_some callS_cint callS_cbool callS_cstr frz_own frzR_row frzE_some frz_aggC frzA_some frz_int frz_bool frz_str frz_ro frz_nils frz_ref frz_slv view_get view_next viewOld_next eqsQ_agg eqC_some eqK_nil eqK_cons andO_some eq1_int eq1_bool eq1_str bbQ_some mmQ_some mm_nil mm_max mm_min convQ_some mkfQ_some convsQ_some nilcQ_ptr nilcQ_ref bin_quo bin_rem Int.reduceEq Int.reduceNe Int.reduceNeg flatA_agg flatA_int flatA_bool flatA_str flatA_nils flatA_ro flatA_slv flat_int flat_bool flat_str flat_nils flat_ro flat_slv num_int num_bool num_str all_mem_cons all_mem_nil export_flat export_tup callS_nums callS_flat callS_tup Bool.not_true Bool.not_false Bool.and_false Bool.false_and Bool.or_true Bool.true_or Bool.or_false Bool.false_or Bool.not_eq_true Bool.not_eq_false Bool.not_not Bool.not_eq_eq_eq_not Bool.not_eq_true' E0_next E0_get eq_add_one add_one_eq add_eq_add lt_add_self add_lt_add Nat.add_assoc
set_option maxRecDepth 10000
theorem F4 : F.get 4 = some c4 := by rfl
theorem dt {p : Prop} [Decidable p] (h : p) : decide p = true := decide_eq_true h
theorem df {p : Prop} [Decidable p] (h : ¬ p) : decide p = false := decide_eq_false h
theorem fits4 (x : Sym) (p : Pt) : (om prim1 F).p 4 [.agg x.av, .agg p.av] = some (.bool true) := by
  refine call_of F4 rfl ?_
  have b22 := box22 (prim := prim1) x p
  have b23 := box23 (prim := prim1) x p
  have bin := geomIn24 (prim := prim1) (boxOf x p) p
  by_cases h : (0 ≤ x.w ∧ x.w ≤ 64 ∧ 0 ≤ x.h ∧ x.h ≤ 64) ∧ (-1048576 ≤ p.x ∧ p.x ≤ 1048576 ∧ -1048576 ≤ p.y ∧ p.y ≤ 1048576)
  · rw [boxOf_in h.1 h.2] at b22 b23 bin
    simp only [Sym.av, Pt.av, Bx.av] at b22 b23 bin
    have f1 := df (p := x.w < 0) (by omega)
    have f2 := df (p := 64 < x.w) (by omega)
    have f3 := df (p := x.h < 0) (by omega)
    have f4 := df (p := 64 < x.h) (by omega)
    have f5 := df (p := p.x < -1048576) (by omega)
    have f6 := df (p := 1048576 < p.x) (by omega)
    have f7 := df (p := p.y < -1048576) (by omega)
    have f8 := df (p := 1048576 < p.y) (by omega)
    have g1 := dt (p := p.x - x.w / 2 ≤ p.x) (by omega)
    have g2 := dt (p := p.x ≤ p.x - x.w / 2 + x.w) (by omega)
    have g3 := dt (p := p.y - x.h / 2 ≤ p.y) (by omega)
    have g4 := dt (p := p.y ≤ p.y - x.h / 2 + x.h) (by omega)
    have w1 : IntKind.i64.wrap (p.x - x.w / 2 + x.w - (p.x - x.w / 2)) = x.w := by rw [w64 (by omega)]; omega
    have w2 : IntKind.i64.wrap (p.y - x.h / 2 + x.h - (p.y - x.h / 2)) = x.h := by rw [w64 (by omega)]; omega
    unfold c4
    repeat' (first | done | (simp -implicitDefEqProofs only [↓reduceIte, go_sem, *, Sym.av, Pt.av, awake46]) | ((first | rw [stepG_split] | rw [cnd_split] | rw [pickQ_split]); split))
  · rw [boxOf_out h] at b22 b23
    simp only [Sym.av, Pt.av, Bx.av] at b22 b23
    clear bin
    unfold c4
    repeat' (first | done | (simp -implicitDefEqProofs only [↓reduceIte, go_sem, *, Sym.av, Pt.av, awake46]) | ((first | rw [stepG_split] | rw [cnd_split] | rw [pickQ_split]); split))
    all_goals (clear b22 b23; simp at *; omega)
theorem fitsMain (avs : List AV) (h : OkArgs [(true, [.i .i64, .i .i64, .i .i64, .i .i64, .i .i64, .i .i64, .i .i64, .i .i64, .i .i64]), (true, [.i .i64, .i .i64])] avs) : (om prim1 F).p 4 avs = some (.bool true) := by
  simp only [OkArgs, OkCs, OkC, if_true] at h
  obtain ⟨_, _, _, rfl, rfl, ⟨_, _, rfl, ⟨a, rfl, _⟩, _, _, rfl, ⟨b, rfl, _⟩, _, _, rfl, ⟨c, rfl, _⟩, _, _, rfl, ⟨d, rfl, _⟩, _, _, rfl, ⟨e, rfl, _⟩, _, _, rfl, ⟨f, rfl, _⟩, _, _, rfl, ⟨g, rfl, _⟩, _, _, rfl, ⟨i, rfl, _⟩, _, _, rfl, ⟨j, rfl, _⟩, rfl⟩,
    _, _, _, rfl, rfl, ⟨_, _, rfl, ⟨x, rfl, _⟩, _, _, rfl, ⟨y, rfl, _⟩, rfl⟩, rfl⟩ := h
  exact fits4 ⟨a, b, c, d, e, f, g, i, j⟩ ⟨x, y⟩
end Go.Ab
