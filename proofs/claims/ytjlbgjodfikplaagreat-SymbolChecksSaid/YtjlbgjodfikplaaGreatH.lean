/- Slices of arrays, sealing. -/
import Derived.Test.YtjlbgjodfikplaaGreatXe
import Derived.Test.YtjlbgjodfikplaaGreatXg
import Derived.KernelRfl
import Derived.Test.YtjlbgjodfikplaaGreatXw
import Derived.Test.YtjlbgjodfikplaaGreatXr
set_option linter.unusedVariables false
set_option linter.unusedSimpArgs false
namespace Go.Ab
def slrC (k n j : Nat) (cs : List AV) (cl : List Nat) : Option Nat → Option Nat → Option QR
  | some a, some b => if j + n * k ≤ cs.length then some ⟨.ro k (((chop k n (cs.drop j)).drop a).take (b - a)), [], none, cl⟩ else none
  | _, _ => none
def slrP (k n : Nat) (lo hi : Option AV) : Option (AV × List Nat) → Option QR
  | some (.ref cs j, cl) => (match bnd hi n n with | some b => slrC k n j cs cl (bnd lo 0 b) (some b) | none => none)
  | _ => none
def frzPt (g : Nat → Option AObj) (f i j : Nat) : Option AObj → Option (AV × List Nat)
  | some (.row _ es cls _) => (match es[i]? with
    | some cs => (match mapF (frz g f) cs with | some r => some (.ref r.1 j, cls :: r.2) | none => none)
    | none => none)
  | _ => none
theorem frz_ptrC (g : Nat → Option AObj) (f id i j : Nat) : frz g (f + 1) (.ptr id i j) = frzPt g f i j (g id) := by
  rw [frz]
  cases g id with
  | none => rfl
  | some o => cases o <;> rfl
def frzPc (cls j : Nat) : Option (List AV × List Nat) → Option (AV × List Nat)
  | some r => some (.ref r.1 j, cls :: r.2)
  | none => none
theorem frzPt_one (g : Nat → Option AObj) (f j k : Nat) (cs : List AV) (cls : Nat) (s : Bool) : frzPt g f 0 j (some (.row k [cs] cls s)) = frzPc cls j (mapF (frz g f) cs) := by
  simp only [frzPt, List.getElem?_cons_zero]
  cases mapF (frz g f) cs <;> rfl
theorem frzPc_some (cls j : Nat) (cs : List AV) (l : List Nat) : frzPc cls j (some (cs, l)) = some (.ref cs j, cls :: l) := rfl
section
variable {P : CallP} {V : View} {t : Nat → Option AV}
def slrQ (V : View) (k n : Nat) : Option AV → Option (Option AV) → Option (Option AV) → Option QR
  | some v, some l, some h => slrP k n l h (frz V.get 16 v)
  | _, _, _ => none
theorem q_slr_ptr {k n : Nat} {x : Opd} {id i j : Nat} (hx : ev t x = some (.ptr id i j)) : qop P V t (.slr k n x none none) = slrQ V k n (some (.ptr id i j)) (some none) (some none) := by
  simp only [qop, hx, evO, slrQ, bnd]
  cases frz V.get 16 (.ptr id i j) with
  | none => rfl
  | some r =>
    obtain ⟨v, cl⟩ := r
    cases v with
    | ref cs j' =>
      simp only [slrP, bnd, slrC]
      by_cases h : j' + n * k ≤ cs.length
      · have h' : Nat.ble (j' + n * k) cs.length = true := by simpa using h
        simp [h, h']
      · have h' : Nat.ble (j' + n * k) cs.length = false := by rw [Bool.eq_false_iff]; simpa using h
        simp [h, h']
    | _ => rfl
end
def slrA (V : View) (k n : Nat) : Option AV → Option QR
  | some (.ptr id i j) => slrQ V k n (some (.ptr id i j)) (some none) (some none)
  | some (.ref cs j) => if j + n * k ≤ cs.length then some ⟨.ro k (chop k n (cs.drop j)), [], none, []⟩ else none
  | _ => none
theorem chop_len (k : Nat) : ∀ (n : Nat) (c : List AV), (chop k n c).length = n
  | 0, _ => rfl
  | n + 1, c => by simp [chop, chop_len k n]
theorem q_slrA {P : CallP} {V : View} {t : Nat → Option AV} {k n : Nat} {x : Opd} : qop P V t (.slr k n x none none) = slrA V k n (ev t x) := by
  cases hx : ev t x with
  | none => simp only [qop, hx]; rfl
  | some v => cases v with
    | ptr id i j => rw [q_slr_ptr hx]; rfl
    | ref cs j =>
      simp only [qop, hx, evO, bnd, slrA]
      by_cases h : j + n * k ≤ cs.length
      · have h' : Nat.ble (j + n * k) cs.length = true := by simpa using h
        simp only [h', h, cond_true, if_true, List.drop_zero, Nat.sub_zero]
        rw [List.take_of_length_le (by rw [chop_len]; exact Nat.le_refl _)]
      · have h' : Nat.ble (j + n * k) cs.length = false := by rw [Bool.eq_false_iff]; simpa using h
        simp [h, h']
    | _ => simp only [qop, hx]; rfl
section
variable {P : CallP} {J : CallI} {n0 : Nat} {sf : List Nat} {d : Option Nat} {r : List OpI} {t : Tr AV} {h : AH}
theorem ops_slr0 {k n : Nat} {x : Opd} : ops P J n0 sf (⟨d, none, 0, .slr k n x none none⟩ :: r) ⟨t, h⟩ = stepQ P J n0 sf 0 d r t h (slrA h.view k n (ev t.get x)) := by
  rw [ops_q rfl (fun _ => soft_not rfl), q_slrA]; rfl
theorem ops_slr1 {k n : Nat} {x : Opd} : ops P J n0 sf (⟨d, none, 1, .slr k n x none none⟩ :: r) ⟨t, h⟩ = stepQ P J n0 sf 1 d r t h (slrA h.view k n (ev t.get x)) := by
  rw [ops_q rfl (fun _ => soft_not rfl), q_slrA]; rfl
end
theorem slrA_ptr (V : View) (k n id i j : Nat) : slrA V k n (some (.ptr id i j)) = slrQ V k n (some (.ptr id i j)) (some none) (some none) := rfl
theorem slrA_ref (V : View) (k n j : Nat) (cs : List AV) : slrA V k n (some (.ref cs j)) = if j + n * k ≤ cs.length then some ⟨.ro k (chop k n (cs.drop j)), [], none, []⟩ else none := rfl
theorem slrQ_some (V : View) (k n : Nat) (v : AV) (l h : Option AV) : slrQ V k n (some v) (some l) (some h) = slrP k n l h (frz V.get 16 v) := rfl
theorem slrP_all (k n j : Nat) (cs : List AV) (cl : List Nat) : slrP k n none none (some (.ref cs j, cl)) = if j + n * k ≤ cs.length then some ⟨.ro k (chop k n (cs.drop j)), [], none, cl⟩ else none := by
  simp only [slrP, bnd, slrC, List.drop_zero, Nat.sub_zero]
  have : (chop k n (cs.drop j)).length = n := by
    generalize cs.drop j = c
    induction n generalizing c with
    | zero => rfl
    | succ n ih => simp [chop, ih]
  rw [List.take_of_length_le (by omega)]
def slO (cl : List Nat) : Option AObj → Option AObj
  | some (.row k es c s) => some (.row k es c (s || cl.contains c))
  | o => o
theorem alook_sealO (cl : List Nat) : ∀ (l : List (Nat × AObj)) (j : Nat), alook (sealO cl l) j = slO cl (alook l j)
  | [], j => rfl
  | p :: r, j => by
    simp only [sealO, alook]
    cases Nat.beq p.1 j with
    | true =>
      simp only [cond_true]
      cases p.2 <;> rfl
    | false => exact alook_sealO cl r j
theorem sealC_get (h : AH) (cl : List Nat) (j : Nat) : (h.sealC cl).get j = slO cl (h.get j) := alook_sealO cl h.objs j
theorem slO_row (cl : List Nat) (k : Nat) (es : List (List AV)) (c : Nat) (s : Bool) : slO cl (some (.row k es c s)) = some (.row k es c (s || cl.contains c)) := rfl
theorem slO_none (cl : List Nat) : slO cl none = none := rfl
theorem slO_map (cl : List Nat) (es : List (AV × AV)) : slO cl (some (.map es)) = some (.map es) := rfl
theorem ixrQ_ptr {k n id a j i : Nat} {kk : IntKind} (h : i < n) : ixrQ k n (some (.ptr id a j)) (some (.int kk (i : Int))) = some ⟨.ptr id a (j + i * k), [], none, []⟩ := by
  simp only [ixrQ, idx_nat, h, if_true]
attribute [local go_sem] ops_slr0 ops_slr1 slrA_ptr slrA_ref frz_ptrC frzPt_one frzPc_some slrQ_some slrP_all stepQ_seal sealC_get slO_row slO_none slO_map seal_next
end Go.Ab
namespace Go.Ab
attribute [local go_sem] evParts_nil evParts_cons consP_some buildQ_some bldC_some mksQ_some mksC_some fillAll_nil fillAll_cons chop_zero chop_succ rep_zero rep_succ List.flatten_cons List.flatten_nil boxQ_c boxC_eq avCells_ptr List.append_nil List.all_nil List.all_cons Bool.true_and Bool.and_true isOne_int isOne_bool isOne_str isOne_nils isOne_own isOne_ptr isOne_slv lay_nil0 lay_cons0 lay_nil lay_succ List.drop_zero List.take_succ_cons List.take_zero List.drop_succ_cons List.getElem?_cons_zero List.getElem?_cons_succ List.take_nil List.drop_nil List.nil_append List.cons_append a_skip a_exit a_ret a_seq a_block a_cond a_reg thn_norm thn_exit thn_ret blk_norm blk_ret blk_exit rg_some cnd_true cnd_false ops_nil ops_g stepQ_quiet stepQ_makes stepW_some stepW_none stepG_tt stepG_tf stepG_ft stepG_ff stepG_ttN stepG_tfN stepG_ftN stepG_ffN stepG_skip stepG_skipN qv_s ev_t ev_c bin_add bin_sub bin_mul bin_lss bin_leq bin_gtr bin_geq bin_eql bin_neq viewOld_get add_next put_next add_row add_map put_get kl_row kl_none kl_map ops_mv ops_pick ops_new0 ops_new1 ops_new2 ops_box0 ops_box1 ops_box2 ops_build ops_mks0 ops_mks1 ops_mks2 ops_bin ops_un ops_len0 ops_len1 ops_len2 ops_call0 ops_call1 ops_call2 ops_fld ops_ixa ops_ext ops_app0 ops_app1 ops_app2 ops_mm ops_ixr ops_conv ops_convs ops_nilc ops_ixs ops_ixg ops_mkf ops_bb ops_nq ops_eqs ops_ld0 ops_ld1 ops_ld2 ops_st ops_calli pickQ_true pickQ_false ldRow_one ldQ_ref ldQ_ptr cut_false cut_true binQ_some unQ_some un_not un_neg fldQ_ptr fldQ_ref extQ_tup evs_nil evs_cons consO_some lenQ_slv lenQ_ro lenQ_own lenQ_nils lenQ_str stQ_ptr stR_one avCells_agg avCells_int avCells_bool avCells_str avCells_slv avCells_own avCells_nils get_set List.length_cons List.length_nil Res_some Res_thn Res_blk seqP_norm seqP_exit seqP_ret blkP_norm blkP_exit blkP_ret rndP_norm rndP_exit rndP_ret Fin_norm Fin_ret Fin_exit rvV_ptr rvC_one evRV_t evRV_c evRVs_nil evRVs_cons ofL_nil ofL_cons tupOf_one tupOf_two exP if_true if_false not_false_eq_true not_true_eq_false decide_true decide_false Option.isSome_some eq_self and_self and_true true_and and_false false_and Nat.zero_add Nat.add_zero decide_eq_true_eq decide_eq_false_iff_not ne_eq Bool.false_eq_true Bool.true_eq_false reduceCtorEq Nat.reduceLT Nat.reduceEqDiff Nat.reduceAdd Nat.reduceSub Nat.reduceMul Nat.reduceLeDiff get_lf List.length_map mapF_nil mapF_cons mapC_some callQ_fn callR_some callS_cint callS_cbool callS_cstr frz_own frzR_row frzE_some frz_aggC frzA_some frz_int frz_bool frz_str frz_ro frz_nils frz_ref frz_slv view_get view_next viewOld_next eqsQ_agg eqC_some eqK_nil eqK_cons andO_some eq1_int eq1_bool eq1_str bbQ_some mmQ_some mm_nil mm_max mm_min convQ_some mkfQ_some convsQ_some nilcQ_ptr nilcQ_ref bin_quo bin_rem Int.reduceEq Int.reduceNe Int.reduceNeg flatA_agg flatA_int flatA_bool flatA_str flatA_nils flatA_ro flatA_slv flat_int flat_bool flat_str flat_nils flat_ro flat_slv num_int num_bool num_str all_mem_cons all_mem_nil export_flat export_tup callS_nums callS_flat callS_tup Bool.not_true Bool.not_false Bool.and_false Bool.false_and Bool.or_true Bool.true_or Bool.or_false Bool.false_or Bool.not_eq_true Bool.not_eq_false Bool.not_not Bool.not_eq_eq_eq_not Bool.not_eq_true' E0_next E0_get eq_add_one add_one_eq add_eq_add lt_add_self add_lt_add Nat.add_assoc ops_slr0 ops_slr1 slrA_ptr slrA_ref frz_ptrC frzPt_one frzPc_some slrQ_some slrP_all stepQ_seal sealC_get slO_row slO_none slO_map seal_next
variable {prim : Nat → List AV → Option AV}
set_option maxRecDepth 10000

theorem F59 : F.get 59 = some c59 := by rfl
theorem in59 (n a b : Int) : (om prim F).p 59 [.int .i64 n, .int .i64 a, .int .i64 b] = some (.bool (decide (a ≤ n) && decide (n ≤ b))) := by
  refine call_of F59 rfl ?_
  unfold c59
  repeat' (first | done | (simp -implicitDefEqProofs only [↓reduceIte, go_sem, *]) | ((first | rw [stepG_split] | rw [cnd_split] | rw [pickQ_split]); split))

/-- One cell a whole number. -/
def cell (z : Int) : List AV := [.int .i64 z]

def I57 (a b : Int) (zs : List Int) (i : Nat) (s : St) : Prop :=
  s.t.get 7 = some (.ro 1 (zs.map cell)) ∧ s.t.get 8 = some (.int .i64 zs.length) ∧ s.t.get 9 = some (.int .i64 i) ∧ s.t.get 2 = some (.ptr 0 0 0) ∧ s.h.get 0 = some (.row 2 [[.int .i64 a, .int .i64 b]] 0 false) ∧
  (zs.take i).all (fun z => decide (a ≤ z) && decide (z ≤ b)) = true
def Q57 (a b : Int) (zs : List Int) : Ex → St → Prop
  | .exit i, _ => i = 0 ∧ zs.all (fun z => decide (a ≤ z) && decide (z ≤ b)) = true
  | .ret, s => s.t.get 4 = some (.bool false) ∧ zs.all (fun z => decide (a ≤ z) && decide (z ≤ b)) = false
  | _, _ => False
theorem all_next {α : Type} {l : List α} {p : α → Bool} {i : Nat} {x : α} (hx : l[i]? = some x) (h : (l.take i).all p = true) (hp : p x = true) : (l.take (i + 1)).all p = true := by
  rw [List.take_add_one, hx, List.all_append, h]
  simp [hp]
theorem all_stop {α : Type} {l : List α} {p : α → Bool} {i : Nat} {x : α} (hx : l[i]? = some x) (hp : p x = false) : l.all p = false := by
  rw [List.all_eq_false]
  exact ⟨x, List.mem_of_getElem? hx, by simp [hp]⟩
theorem wrap_succ {i n : Nat} (h : i < n) (hn : n ≤ maxLen) : IntKind.i64.wrap ((i : Int) + 1) = ((i + 1 : Nat) : Int) := by
  rw [wrap64_of (by simp only [maxLen] at hn; omega)]; rfl

def L57 : C := match c57.body with
  | .seq _ (.seq (.seq _ (.block _ (.loop b))) _) => b
  | _ => .skip
theorem F57 : F.get 57 = some c57 := by rfl
theorem round57 (a b : Int) (zs : List Int) (hl : zs.length ≤ maxLen) (i : Nat) (s : St) (hi : i ≤ zs.length) (hI : I57 a b zs i s) :
    Res ((om prim F).a L57 s) (rndP (fun s' => i < zs.length ∧ I57 a b zs (i + 1) s') (Q57 a b zs)) := by
  obtain ⟨t, h⟩ := s
  obtain ⟨g7, g8, g9, g2, row, no⟩ := hI
  simp only at g7 g8 g9 g2 row no
  by_cases hlt : i < zs.length
  · have hx : zs[i]? = some zs[i] := List.getElem?_eq_getElem hlt
    generalize zs[i] = x at hx
    have hxm : (zs.map cell)[i]? = some (cell x) := by simp [hx]
    have hil : (i : Int) < zs.length := by omega
    have hw := wrap_succ hlt hl
    unfold L57 c57
    repeat' (first | done | (simp -implicitDefEqProofs only [↓reduceIte, go_sem, *, ixaQ_ro hxm, cell, I57, Q57]) | ((first | rw [stepG_split] | rw [cnd_split] | rw [pickQ_split]); split))
    · rename_i h1
      exact all_stop hx (by simp at h1 ⊢; omega)
    · rename_i h1 _ h2
      exact all_stop hx (by simp at h1 h2 ⊢; omega)
    · rename_i h1 _ h2
      exact all_next hx no (by simp at h1 h2 ⊢; omega)
  · have : i = zs.length := by omega
    subst this
    rw [List.take_length] at no
    unfold L57 c57
    repeat' (first | done | (simp -implicitDefEqProofs only [↓reduceIte, go_sem, *, Q57, Int.lt_irrefl]) | ((first | rw [stepG_split] | rw [cnd_split] | rw [pickQ_split]); split))
theorem has57 (a b : Int) (zs : List Int) (hl : zs.length ≤ maxLen) :
    (om prim F).p 57 [.agg [.int .i64 a, .int .i64 b], .ro 1 (zs.map cell)] = some (.bool (zs.all fun z => decide (a ≤ z) && decide (z ≤ b))) := by
  refine call_of F57 rfl ?_
  unfold c57
  repeat' (first | done | (simp -implicitDefEqProofs only [↓reduceIte, go_sem, *, E0]) | ((first | rw [stepG_split] | rw [cnd_split] | rw [pickQ_split]); split))
  refine (loop_up zs.length (I57 a b zs) (round57 a b zs hl) 0 _ (Nat.zero_le _) (by simp only [↓reduceIte, go_sem, I57]; rfl)).mono ?_
  rintro e ⟨t, h⟩ hq
  cases e with
  | norm => exact hq.elim
  | exit i =>
    obtain ⟨rfl, h1⟩ := hq
    repeat' (first | done | (simp -implicitDefEqProofs only [↓reduceIte, go_sem, *]) | ((first | rw [stepG_split] | rw [cnd_split] | rw [pickQ_split]); split))
  | ret =>
    obtain ⟨h1, h2⟩ := hq
    simp only at h1
    repeat' (first | done | (simp -implicitDefEqProofs only [↓reduceIte, go_sem, *]) | ((first | rw [stepG_split] | rw [cnd_split] | rw [pickQ_split]); split))
theorem F61 : F.get 61 = some c61 := by rfl
theorem point61 (x y : Int) : (om prim F).p 61 [.agg [.int .i64 x, .int .i64 y]] = some (.bool (decide (-1048576 ≤ x) && decide (x ≤ 1048576) && decide (-1048576 ≤ y) && decide (y ≤ 1048576))) := by
  refine call_of F61 rfl ?_
  unfold c61
  repeat' (first | done | (simp -implicitDefEqProofs only [↓reduceIte, go_sem, *]) | ((first | rw [stepG_split] | rw [cnd_split] | rw [pickQ_split]); split))

/-! ### mapsheetsref01.Floor of a small number by 2 -/
def isPair (v : Option AV) (a b : Int) : Bool := match v with
  | some (.tup [.int .i64 x, .int .i64 y]) => decide (x = a) && decide (y = b)
  | _ => false
theorem isPair_eq {v : Option AV} {a b : Int} (h : isPair v a b = true) : v = some (.tup [.int .i64 a, .int .i64 b]) := by
  unfold isPair at h
  split at h
  · simp only [Bool.and_eq_true, decide_eq_true_eq] at h
    rw [h.1, h.2]
  · cases h
theorem floor62_all : (List.range 65).all (fun n => isPair ((lv prim F 20).p 62 [.int .i64 (n : Int), .int .i64 2]) ((n / 2 : Nat) : Int) 0) = true := by kernel_rfl
theorem floor62 (n : Nat) (h : n ≤ 64) : (om prim F).p 62 [.int .i64 (n : Int), .int .i64 2] = some (.tup [.int .i64 ((n / 2 : Nat) : Int), .int .i64 0]) := by
  refine (om_p_iff prim F).2 ⟨20, isPair_eq ?_⟩
  exact List.all_eq_true.1 floor62_all n (List.mem_range.2 (by omega))
/-! ### symbol.Box -/
theorem F22 : F.get 22 = some c22 := by rfl
theorem F23 : F.get 23 = some c23 := by rfl
theorem F24 : F.get 24 = some c24 := by rfl
structure Sym where
  kind : Int
  cls : Int
  w : Int
  h : Int
  letters : Int
  i0 : Int
  i1 : Int
  i2 : Int
  i3 : Int
def Sym.av (x : Sym) : List AV := [.int .i64 x.kind, .int .i64 x.cls, .int .i64 x.w, .int .i64 x.h, .int .i64 x.letters, .int .i64 x.i0, .int .i64 x.i1, .int .i64 x.i2, .int .i64 x.i3]
def Sym.zero : Sym := ⟨0, 0, 0, 0, 0, 0, 0, 0, 0⟩
structure Pt where
  x : Int
  y : Int
def Pt.av (p : Pt) : List AV := [.int .i64 p.x, .int .i64 p.y]
structure Bx where
  x0 : Int
  y0 : Int
  x1 : Int
  y1 : Int
def Bx.av (b : Bx) : List AV := [.int .i64 b.x0, .int .i64 b.y0, .int .i64 b.x1, .int .i64 b.y1]
def coord (n : Int) : Bool := decide (-1048576 ≤ n) && decide (n ≤ 1048576)
def small (n : Int) : Bool := decide (0 ≤ n) && decide (n ≤ 64)
def boxOf (x : Sym) (p : Pt) : Bx := if (small x.w && small x.h && coord p.x && coord p.y) = true then ⟨p.x - x.w / 2, p.y - x.h / 2, p.x - x.w / 2 + x.w, p.y - x.h / 2 + x.h⟩ else ⟨0, 0, 0, 0⟩

theorem has57_two (a b x y : Int) : (om prim F).p 57 [.agg [.int .i64 a, .int .i64 b], .ro 1 [[.int .i64 x], [.int .i64 y]]] = some (.bool ((decide (a ≤ x) && decide (x ≤ b)) && (decide (a ≤ y) && decide (y ≤ b)))) := by
  have := has57 (prim := prim) a b [x, y] (by simp [maxLen])
  simpa [cell] using this
theorem w64 {n : Int} (h : -9223372036854775808 ≤ n ∧ n ≤ 9223372036854775807) : IntKind.i64.wrap n = n := wrap64_of h
theorem boxOf_in {x : Sym} {p : Pt} (h1 : 0 ≤ x.w ∧ x.w ≤ 64 ∧ 0 ≤ x.h ∧ x.h ≤ 64) (h2 : -1048576 ≤ p.x ∧ p.x ≤ 1048576 ∧ -1048576 ≤ p.y ∧ p.y ≤ 1048576) :
    boxOf x p = ⟨p.x - x.w / 2, p.y - x.h / 2, p.x - x.w / 2 + x.w, p.y - x.h / 2 + x.h⟩ := by
  simp [boxOf, small, coord, h1, h2]
theorem boxOf_out {x : Sym} {p : Pt} (h : ¬ ((0 ≤ x.w ∧ x.w ≤ 64 ∧ 0 ≤ x.h ∧ x.h ≤ 64) ∧ (-1048576 ≤ p.x ∧ p.x ≤ 1048576 ∧ -1048576 ≤ p.y ∧ p.y ≤ 1048576))) :
    boxOf x p = ⟨0, 0, 0, 0⟩ := by
  unfold boxOf
  rw [if_neg]
  intro hh
  simp only [small, coord, Bool.and_eq_true, decide_eq_true_eq] at hh
  exact h ⟨⟨hh.1.1.1.1, hh.1.1.1.2, hh.1.1.2.1, hh.1.1.2.2⟩, hh.1.2.1, hh.1.2.2, hh.2.1, hh.2.2⟩
theorem box22 (x : Sym) (p : Pt) : (om prim F).p 22 [.agg x.av, .agg p.av] = some (.agg (boxOf x p).av) := by
  refine call_of F22 rfl ?_
  unfold c22
  repeat' (first | done | (simp -implicitDefEqProofs only [↓reduceIte, go_sem, *, Sym.av, Pt.av, has57_two]) | ((first | rw [stepG_split] | rw [cnd_split] | rw [pickQ_split]); split))
  · rename_i h
    rw [boxOf_out (by simp at h; omega)]; rfl
  · rename_i h1 _ h2
    rw [boxOf_out (by simp at h1 h2; omega)]; rfl
  · rename_i h1 _ h2
    simp at h1 h2
    have e1 : x.w.tdiv 2 = x.w / 2 := Int.tdiv_eq_ediv_of_nonneg (by omega)
    have e2 : x.h.tdiv 2 = x.h / 2 := Int.tdiv_eq_ediv_of_nonneg (by omega)
    rw [boxOf_in (by omega) (by omega), e1, e2, w64 (n := x.w / 2) (by omega), w64 (n := x.h / 2) (by omega), w64 (n := p.x - x.w / 2) (by omega), w64 (n := p.y - x.h / 2) (by omega), w64 (n := p.x - x.w / 2 + x.w) (by omega), w64 (n := p.y - x.h / 2 + x.h) (by omega)]
    rfl
theorem floor62' (n : Int) (h : 0 ≤ n ∧ n ≤ 64) : (om prim F).p 62 [.int .i64 n, .int .i64 2] = some (.tup [.int .i64 (n / 2), .int .i64 0]) := by
  obtain ⟨m, rfl⟩ := Int.eq_ofNat_of_zero_le h.1
  rw [floor62 m (by omega)]; rfl
theorem box23 (x : Sym) (p : Pt) : (om prim F).p 23 [.agg x.av, .agg p.av] = some (.agg (boxOf x p).av) := by
  refine call_of F23 rfl ?_
  unfold c23
  by_cases hw : 0 ≤ x.w ∧ x.w ≤ 64 ∧ 0 ≤ x.h ∧ x.h ≤ 64
  · have f1 := floor62' (prim := prim) x.w (by omega)
    have f2 := floor62' (prim := prim) x.h (by omega)
    repeat' (first | done | (simp -implicitDefEqProofs only [↓reduceIte, go_sem, *, Sym.av, Pt.av, in59, point61]) | ((first | rw [stepG_split] | rw [cnd_split] | rw [pickQ_split]); split))
    · rename_i h2 
      rw [boxOf_out (by simp at h2; omega)]; rfl
    · rename_i h2
      simp at h2
      rw [boxOf_in (by omega) (by omega), w64 (n := p.x - x.w / 2) (by omega), w64 (n := p.y - x.h / 2) (by omega), w64 (n := p.x - x.w / 2 + x.w) (by omega), w64 (n := p.y - x.h / 2 + x.h) (by omega)]
      rfl
  · have out : boxOf x p = ⟨0, 0, 0, 0⟩ := boxOf_out (fun h => hw h.1)
    repeat' (first | done | (simp -implicitDefEqProofs only [↓reduceIte, go_sem, *, Sym.av, Pt.av, in59, point61]) | ((first | rw [stepG_split] | rw [cnd_split] | rw [pickQ_split]); split))
    · rfl
    · rfl
    · rfl
    · rename_i h1 _ h2 _ h3
      simp at h1 h2
      omega
/-! ### geom.In -/
theorem geomIn24 (b : Bx) (p : Pt) : (om prim F).p 24 [.agg b.av, .agg p.av] = some (.bool (decide (b.x0 ≤ p.x) && decide (p.x ≤ b.x1) && decide (b.y0 ≤ p.y) && decide (p.y ≤ b.y1))) := by
  refine call_of F24 rfl ?_
  unfold c24
  repeat' (first | done | (simp -implicitDefEqProofs only [↓reduceIte, go_sem, *, Bx.av, Pt.av]) | ((first | rw [stepG_split] | rw [cnd_split] | rw [pickQ_split]); split))
theorem Sym.num (x : Sym) : ∀ c ∈ x.av, Num c := by simp [Sym.av, Num]
theorem Bx.num (x : Bx) : ∀ c ∈ x.av, Num c := by simp [Bx.av, Num]
end Go.Ab
namespace Go.Ab
attribute [local go_sem] evParts_nil evParts_cons consP_some buildQ_some bldC_some mksQ_some mksC_some fillAll_nil fillAll_cons chop_zero chop_succ rep_zero rep_succ List.flatten_cons List.flatten_nil boxQ_c boxC_eq avCells_ptr List.append_nil List.all_nil List.all_cons Bool.true_and Bool.and_true isOne_int isOne_bool isOne_str isOne_nils isOne_own isOne_ptr isOne_slv lay_nil0 lay_cons0 lay_nil lay_succ List.drop_zero List.take_succ_cons List.take_zero List.drop_succ_cons List.getElem?_cons_zero List.getElem?_cons_succ List.take_nil List.drop_nil List.nil_append List.cons_append a_skip a_exit a_ret a_seq a_block a_cond a_reg thn_norm thn_exit thn_ret blk_norm blk_ret blk_exit rg_some cnd_true cnd_false ops_nil ops_g stepQ_quiet stepQ_makes stepW_some stepW_none stepG_tt stepG_tf stepG_ft stepG_ff stepG_ttN stepG_tfN stepG_ftN stepG_ffN stepG_skip stepG_skipN qv_s ev_t ev_c bin_add bin_sub bin_mul bin_lss bin_leq bin_gtr bin_geq bin_eql bin_neq viewOld_get add_next put_next add_row add_map put_get kl_row kl_none kl_map ops_mv ops_pick ops_new0 ops_new1 ops_new2 ops_box0 ops_box1 ops_box2 ops_build ops_mks0 ops_mks1 ops_mks2 ops_bin ops_un ops_len0 ops_len1 ops_len2 ops_call0 ops_call1 ops_call2 ops_fld ops_ixa ops_ext ops_app0 ops_app1 ops_app2 ops_mm ops_ixr ops_conv ops_convs ops_nilc ops_ixs ops_ixg ops_mkf ops_bb ops_nq ops_eqs ops_ld0 ops_ld1 ops_ld2 ops_st ops_calli pickQ_true pickQ_false ldRow_one ldQ_ref ldQ_ptr cut_false cut_true binQ_some unQ_some un_not un_neg fldQ_ptr fldQ_ref extQ_tup evs_nil evs_cons consO_some lenQ_slv lenQ_ro lenQ_own lenQ_nils lenQ_str stQ_ptr stR_one avCells_agg avCells_int avCells_bool avCells_str avCells_slv avCells_own avCells_nils get_set List.length_cons List.length_nil Res_some Res_thn Res_blk seqP_norm seqP_exit seqP_ret blkP_norm blkP_exit blkP_ret rndP_norm rndP_exit rndP_ret Fin_norm Fin_ret Fin_exit rvV_ptr rvC_one evRV_t evRV_c evRVs_nil evRVs_cons ofL_nil ofL_cons tupOf_one tupOf_two exP if_true if_false not_false_eq_true not_true_eq_false decide_true decide_false Option.isSome_some eq_self and_self and_true true_and and_false false_and Nat.zero_add Nat.add_zero decide_eq_true_eq decide_eq_false_iff_not ne_eq Bool.false_eq_true Bool.true_eq_false reduceCtorEq Nat.reduceLT Nat.reduceEqDiff Nat.reduceAdd Nat.reduceSub Nat.reduceMul Nat.reduceLeDiff get_lf List.length_map mapF_nil mapF_cons mapC_some callQ_fn callR_some callS_cint callS_cbool callS_cstr frz_own frzR_row frzE_some frz_aggC frzA_some frz_int frz_bool frz_str frz_ro frz_nils frz_ref frz_slv view_get view_next viewOld_next eqsQ_agg eqC_some eqK_nil eqK_cons andO_some eq1_int eq1_bool eq1_str bbQ_some mmQ_some mm_nil mm_max mm_min convQ_some mkfQ_some convsQ_some nilcQ_ptr nilcQ_ref bin_quo bin_rem Int.reduceEq Int.reduceNe Int.reduceNeg flatA_agg flatA_int flatA_bool flatA_str flatA_nils flatA_ro flatA_slv flat_int flat_bool flat_str flat_nils flat_ro flat_slv num_int num_bool num_str all_mem_cons all_mem_nil export_flat export_tup callS_nums callS_flat callS_tup Bool.not_true Bool.not_false Bool.and_false Bool.false_and Bool.or_true Bool.true_or Bool.or_false Bool.false_or Bool.not_eq_true Bool.not_eq_false Bool.not_not Bool.not_eq_eq_eq_not Bool.not_eq_true' E0_next E0_get eq_add_one add_one_eq add_eq_add lt_add_self add_lt_add Nat.add_assoc ops_slr0 ops_slr1 slrA_ptr slrA_ref frz_ptrC frzPt_one frzPc_some slrQ_some slrP_all stepQ_seal sealC_get slO_row slO_none slO_map seal_next
variable {prim : Nat → List AV → Option AV}
set_option maxRecDepth 10000
def within (a b x : Int) : Bool := decide (a ≤ x) && decide (x ≤ b)
def kindOk (x : Sym) : Bool := within 1 8 x.kind
def rangeOk (x : Sym) : Bool := within 1 9 x.cls && (within 0 64 x.w && within 0 64 x.h && within 0 64 x.letters) && (within 0 100 x.i0 && within 0 100 x.i1 && within 0 100 x.i2 && within 0 100 x.i3)
theorem in59w (n a b : Int) : (om prim F).p 59 [.int .i64 n, .int .i64 a, .int .i64 b] = some (.bool (within a b n)) := in59 n a b
theorem has57_1 (a b x : Int) : (om prim F).p 57 [.agg [.int .i64 a, .int .i64 b], .ro 1 [[.int .i64 x]]] = some (.bool (within a b x)) := by
  have := has57 (prim := prim) a b [x] (by simp [maxLen])
  simpa [cell, within] using this
theorem has57_3 (a b x y z : Int) : (om prim F).p 57 [.agg [.int .i64 a, .int .i64 b], .ro 1 [[.int .i64 x], [.int .i64 y], [.int .i64 z]]] = some (.bool (within a b x && within a b y && within a b z)) := by
  have := has57 (prim := prim) a b [x, y, z] (by simp [maxLen])
  simpa [cell, within, Bool.and_assoc] using this
theorem has57_4 (a b x y z w : Int) : (om prim F).p 57 [.agg [.int .i64 a, .int .i64 b], .ro 1 [[.int .i64 x], [.int .i64 y], [.int .i64 z], [.int .i64 w]]] = some (.bool (within a b x && within a b y && within a b z && within a b w)) := by
  have := has57 (prim := prim) a b [x, y, z, w] (by simp [maxLen])
  simpa [cell, within, Bool.and_assoc] using this
theorem F58 : F.get 58 = some c58 := by rfl
theorem fits58 (x : Sym) : (om prim F).p 58 [.agg x.av] = some (.bool (rangeOk x)) := by
  refine call_of F58 rfl ?_
  unfold c58
  repeat' (first | done | (simp -implicitDefEqProofs only [↓reduceIte, go_sem, *, Sym.av, has57_1, has57_3, has57_4, rangeOk]) | ((first | rw [stepG_split] | rw [cnd_split] | rw [pickQ_split]); split))

/-! ### mapsheetsref46.ranges -/
def inks (x : Sym) : List Int := [x.i0, x.i1, x.i2, x.i3]
def I60 (x : Sym) (i : Nat) (s : St) : Prop :=
  s.t.get 1 = some (.ptr 0 0 0) ∧ s.t.get 3 = some (.int .i64 i) ∧ s.h.get 0 = some (.row 9 [x.av] 0 false) ∧ ((inks x).take i).all (within 0 100) = true
def Q60 (x : Sym) : Ex → St → Prop
  | .exit i, s => i = 0 ∧ (inks x).all (within 0 100) = true ∧ s.t.get 1 = some (.ptr 0 0 0) ∧ s.h.get 0 = some (.row 9 [x.av] 0 false)
  | .ret, s => s.t.get 2 = some (.bool false) ∧ (inks x).all (within 0 100) = false
  | _, _ => False
def L60 : C := match c60.body with
  | .seq _ (.seq (.seq _ (.block _ (.loop b))) _) => b
  | _ => .skip
theorem F60 : F.get 60 = some c60 := by rfl
theorem round60 (x : Sym) (i : Nat) (s : St) (hi : i ≤ 4) (hI : I60 x i s) :
    Res ((om prim F).a L60 s) (rndP (fun s' => i < 4 ∧ I60 x (i + 1) s') (Q60 x)) := by
  obtain ⟨t, h⟩ := s
  obtain ⟨g1, g3, row, no⟩ := hI
  simp only [Sym.av] at g1 g3 row no
  by_cases hlt : i < 4
  · have hil : (i : Int) < 4 := by omega
    have hw := wrap_succ hlt (by simp [maxLen])
    obtain ⟨z, hz⟩ : ∃ z, (inks x)[i]? = some z := ⟨_, List.getElem?_eq_getElem (by simpa [inks] using hlt)⟩
    have hz2 : x.av[5 + i]? = some (.int .i64 z) := by
      have : i = 0 ∨ i = 1 ∨ i = 2 ∨ i = 3 := by omega
      rcases this with rfl | rfl | rfl | rfl <;> simp [inks] at hz <;> subst hz <;> rfl
    simp only [Sym.av] at hz2
    unfold L60 c60
    repeat' (first | done | (simp -implicitDefEqProofs only [↓reduceIte, go_sem, *, ixrQ_ptr hlt, Nat.mul_one, in59w, I60, Q60, Sym.av]) | ((first | rw [stepG_split] | rw [cnd_split] | rw [pickQ_split]); split))
    · rename_i h1
      exact all_stop hz (by simpa using h1)
    · rename_i h1
      exact all_next hz no (by simpa using h1)
  · have : i = 4 := by omega
    subst this
    have h4 : decide (((4 : Nat) : Int) < 4) = false := by decide
    unfold L60 c60
    repeat' (first | done | (simp -implicitDefEqProofs only [↓reduceIte, go_sem, *, Q60, Sym.av]) | ((first | rw [stepG_split] | rw [cnd_split] | rw [pickQ_split]); split))
    exact no
theorem ranges60 (x : Sym) : (om prim F).p 60 [.agg x.av] = some (.bool (rangeOk x)) := by
  refine call_of F60 rfl ?_
  unfold c60
  repeat' (first | done | (simp -implicitDefEqProofs only [↓reduceIte, go_sem, *, Sym.av]) | ((first | rw [stepG_split] | rw [cnd_split] | rw [pickQ_split]); split))
  refine (loop_up 4 (I60 x) (round60 x) 0 _ (by omega) (by simp only [↓reduceIte, go_sem, I60, Sym.av]; rfl)).mono ?_
  rintro e ⟨t, h⟩ hq
  cases e with
  | norm => exact hq.elim
  | exit i =>
    obtain ⟨rfl, h1, h2, h3⟩ := hq
    simp only [Sym.av] at h2 h3
    have h4 : (within 0 100 x.i0 && within 0 100 x.i1 && within 0 100 x.i2 && within 0 100 x.i3) = true := by simpa [inks, Bool.and_assoc] using h1
    clear h1
    repeat' (first | done | (simp -implicitDefEqProofs only [↓reduceIte, go_sem, *, in59w, rangeOk]) | ((first | rw [stepG_split] | rw [cnd_split] | rw [pickQ_split]); split))
  | ret =>
    obtain ⟨h1, h2⟩ := hq
    simp only at h1
    have h4 : (within 0 100 x.i0 && within 0 100 x.i1 && within 0 100 x.i2 && within 0 100 x.i3) = false := by simpa [inks, Bool.and_assoc] using h2
    clear h2
    repeat' (first | done | (simp -implicitDefEqProofs only [↓reduceIte, go_sem, *, rangeOk]) | ((first | rw [stepG_split] | rw [cnd_split] | rw [pickQ_split]); split))

/-! ### Find -/
/-- The first symbol of a kind and a class. -/
def findS (l : List Sym) (k c : Int) : Option Sym := l.find? fun x => decide (x.kind = k) && decide (x.cls = c)
theorem F18 : F.get 18 = some c18 := by rfl
theorem F19 : F.get 19 = some c19 := by rfl
theorem find_take {α : Type} {l : List α} {p : α → Bool} {i : Nat} {x : α} (hx : l[i]? = some x) (h : (l.take i).find? p = none) (hp : p x = true) : l.find? p = some x := by
  have : l = l.take i ++ x :: l.drop (i + 1) := by
    obtain ⟨hl, rfl⟩ := List.getElem?_eq_some_iff.1 hx
    rw [List.getElem_cons_drop, List.take_append_drop]
  rw [this, List.find?_append, h]
  simp [hp]
theorem find_next {α : Type} {l : List α} {p : α → Bool} {i : Nat} {x : α} (hx : l[i]? = some x) (h : (l.take i).find? p = none) (hp : p x = false) : (l.take (i + 1)).find? p = none := by
  rw [List.take_add_one, hx, List.find?_append, h]
  simp [hp]
def L18 : C := match c18.body with
  | .seq _ (.seq (.seq _ (.block _ (.loop b))) _) => b
  | _ => .skip
def I18 (n : Bool) (l : List Sym) (k c : Int) (i : Nat) (s : St) : Prop :=
  s.t.get 10 = some (slv n 9 (l.map Sym.av)) ∧ s.t.get 11 = some (.int .i64 l.length) ∧ s.t.get 12 = some (.int .i64 i) ∧ s.t.get 1 = some (.int .i64 k) ∧ s.t.get 2 = some (.int .i64 c) ∧
  s.t.get 6 = some (.ptr 0 0 0) ∧ s.h.get 0 = some (.row 9 [Sym.zero.av] 0 false) ∧ s.h.next ≠ 0 ∧ findS (l.take i) k c = none
def Q18 (l : List Sym) (k c : Int) : Ex → St → Prop
  | .exit i, s => i = 0 ∧ findS l k c = none ∧ s.t.get 6 = some (.ptr 0 0 0) ∧ s.h.get 0 = some (.row 9 [Sym.zero.av] 0 false)
  | .ret, s => ∃ x, findS l k c = some x ∧ s.t.get 6 = some (.ptr 0 0 0) ∧ s.t.get 7 = some (.bool true) ∧ s.h.get 0 = some (.row 9 [x.av] 0 false)
  | _, _ => False
theorem round18 (n : Bool) (l : List Sym) (k c : Int) (hl : l.length ≤ maxLen) (i : Nat) (s : St) (hi : i ≤ l.length) (hI : I18 n l k c i s) :
    Res ((om prim F).a L18 s) (rndP (fun s' => i < l.length ∧ I18 n l k c (i + 1) s') (Q18 l k c)) := by
  obtain ⟨t, h⟩ := s
  obtain ⟨g10, g11, g12, g1, g2, g6, row, nx, no⟩ := hI
  simp only at g10 g11 g12 g1 g2 g6 row nx no
  have nx' := nx.symm
  by_cases hlt : i < l.length
  · have hx : l[i]? = some l[i] := List.getElem?_eq_getElem hlt
    generalize l[i] = x at hx
    have hxm : (l.map Sym.av)[i]? = some x.av := by simp [hx]
    have hil : (i : Int) < l.length := by omega
    have hw := wrap_succ hlt hl
    unfold L18 c18
    repeat' (first | done | (simp -implicitDefEqProofs only [↓reduceIte, go_sem, *, ixaQ_slv hxm, Sym.av, Sym.zero, I18, Q18]) | ((first | rw [stepG_split] | rw [cnd_split] | rw [pickQ_split]); split))
    · rename_i h1 _ h2
      exact ⟨x, find_take hx no (by rw [h1, h2]; rfl), by simp only [↓reduceIte, go_sem]⟩
    · rename_i h1 _ h2
      exact find_next hx no (by simp [h2])
    · rename_i h1
      exact find_next hx no (by simp [h1])
  · have : i = l.length := by omega
    subst this
    rw [List.take_length] at no
    unfold L18 c18
    repeat' (first | done | (simp -implicitDefEqProofs only [↓reduceIte, go_sem, *, Q18, Int.lt_irrefl]) | ((first | rw [stepG_split] | rw [cnd_split] | rw [pickQ_split]); split))
def findV (o : Option Sym) : AV := match o with
  | some x => .tup [.agg x.av, .bool true]
  | none => .tup [.agg Sym.zero.av, .bool false]
theorem find18 (n : Bool) (l : List Sym) (k c : Int) (hl : l.length ≤ maxLen) :
    (om prim F).p 18 [slv n 9 (l.map Sym.av), .int .i64 k, .int .i64 c] = some (findV (findS l k c)) := by
  refine call_of F18 rfl ?_
  unfold c18
  repeat' (first | done | (simp -implicitDefEqProofs only [↓reduceIte, go_sem, *]) | ((first | rw [stepG_split] | rw [cnd_split] | rw [pickQ_split]); split))
  refine (loop_up l.length (I18 n l k c) (round18 n l k c hl) 0 _ (Nat.zero_le _) (by simp only [↓reduceIte, go_sem, I18, Sym.zero, Sym.av]; exact ⟨rfl, rfl⟩)).mono ?_
  rintro e ⟨t, h⟩ hq
  cases e with
  | norm => exact hq.elim
  | exit i =>
    obtain ⟨rfl, h1, h2, h3⟩ := hq
    simp only at h1 h2 h3
    repeat' (first | done | (simp -implicitDefEqProofs only [↓reduceIte, go_sem, *, Sym.zero, Sym.av, findV]) | ((first | rw [stepG_split] | rw [cnd_split] | rw [pickQ_split]); split))
  | ret =>
    obtain ⟨x, h1, h2, h3, h4⟩ := hq
    simp only at h2 h3 h4
    repeat' (first | done | (simp -implicitDefEqProofs only [↓reduceIte, go_sem, *, Sym.av, findV]) | ((first | rw [stepG_split] | rw [cnd_split] | rw [pickQ_split]); split))
def L19 : C := match c19.body with
  | .seq _ (.seq (.seq _ (.block _ (.loop b))) _) => b
  | _ => .skip
def I19 (n : Bool) (l : List Sym) (k c : Int) (i : Nat) (s : St) : Prop :=
  s.t.get 0 = some (slv n 9 (l.map Sym.av)) ∧ s.t.get 8 = some (.int .i64 i) ∧ s.t.get 1 = some (.int .i64 k) ∧ s.t.get 2 = some (.int .i64 c) ∧
  s.t.get 6 = some (.ptr 0 0 0) ∧ s.h.get 0 = some (.row 9 [Sym.zero.av] 0 false) ∧ findS (l.take i) k c = none
theorem round19 (n : Bool) (l : List Sym) (k c : Int) (hl : l.length ≤ maxLen) (i : Nat) (s : St) (hi : i ≤ l.length) (hI : I19 n l k c i s) :
    Res ((om prim F).a L19 s) (rndP (fun s' => i < l.length ∧ I19 n l k c (i + 1) s') (Q18 l k c)) := by
  obtain ⟨t, h⟩ := s
  obtain ⟨g0, g8, g1, g2, g6, row, no⟩ := hI
  simp only at g0 g8 g1 g2 g6 row no
  by_cases hlt : i < l.length
  · have hx : l[i]? = some l[i] := List.getElem?_eq_getElem hlt
    generalize l[i] = x at hx
    have hxm : (l.map Sym.av)[i]? = some x.av := by simp [hx]
    have hil : (i : Int) < l.length := by omega
    have hw := wrap_succ hlt hl
    unfold L19 c19
    repeat' (first | done | (simp -implicitDefEqProofs only [↓reduceIte, go_sem, *, ixaQ_slv hxm, Sym.av, Sym.zero, I19, Q18]) | ((first | rw [stepG_split] | rw [cnd_split] | rw [pickQ_split]); split))
    · rename_i h1 _ h2
      exact ⟨x, find_take hx no (by rw [h1, h2]; rfl), by simp only [↓reduceIte, go_sem]⟩
    · rename_i h1 _ h2
      exact find_next hx no (by simp [h2])
    · rename_i h1
      exact find_next hx no (by simp [h1])
  · have : i = l.length := by omega
    subst this
    rw [List.take_length] at no
    unfold L19 c19
    repeat' (first | done | (simp -implicitDefEqProofs only [↓reduceIte, go_sem, *, Q18, Int.lt_irrefl]) | ((first | rw [stepG_split] | rw [cnd_split] | rw [pickQ_split]); split))
theorem find19 (n : Bool) (l : List Sym) (k c : Int) (hl : l.length ≤ maxLen) :
    (om prim F).p 19 [slv n 9 (l.map Sym.av), .int .i64 k, .int .i64 c] = some (findV (findS l k c)) := by
  refine call_of F19 rfl ?_
  unfold c19
  repeat' (first | done | (simp -implicitDefEqProofs only [↓reduceIte, go_sem, *]) | ((first | rw [stepG_split] | rw [cnd_split] | rw [pickQ_split]); split))
  refine (loop_up l.length (I19 n l k c) (round19 n l k c hl) 0 _ (Nat.zero_le _) (by simp only [↓reduceIte, go_sem, I19, Sym.zero, Sym.av]; exact ⟨rfl, rfl⟩)).mono ?_
  rintro e ⟨t, h⟩ hq
  cases e with
  | norm => exact hq.elim
  | exit i =>
    obtain ⟨rfl, h1, h2, h3⟩ := hq
    simp only at h1 h2 h3
    repeat' (first | done | (simp -implicitDefEqProofs only [↓reduceIte, go_sem, *, Sym.zero, Sym.av, findV]) | ((first | rw [stepG_split] | rw [cnd_split] | rw [pickQ_split]); split))
  | ret =>
    obtain ⟨x, h1, h2, h3, h4⟩ := hq
    simp only at h2 h3 h4
    repeat' (first | done | (simp -implicitDefEqProofs only [↓reduceIte, go_sem, *, Sym.av, findV]) | ((first | rw [stepG_split] | rw [cnd_split] | rw [pickQ_split]); split))

/-! ### Check -/
def ltS (y x : Sym) : Bool := decide (y.kind < x.kind) || decide (x.kind = y.kind) && decide (y.cls < x.cls)
def ris : List Sym → Bool
  | [] => true
  | [_] => true
  | y :: x :: r => ltS y x && ris (x :: r)
def checkS (l : List Sym) : Int := if 72 < l.length then 3 else if l.all kindOk = false then 9 else if l.all rangeOk = false then 2 else if ris l = false then 10 else 0
theorem ris_one : ∀ {l : List Sym}, l.length ≤ 1 → ris l = true
  | [], _ => rfl
  | [_], _ => rfl
  | _ :: _ :: _, h => by simp at h
theorem ris_snoc : ∀ (l : List Sym) (y x : Sym), ris (l ++ [y, x]) = (ris (l ++ [y]) && ltS y x)
  | [], y, x => by simp [ris]
  | [a], y, x => by simp [ris]
  | a :: b :: l, y, x => by
    have := ris_snoc (b :: l) y x
    simp only [List.cons_append] at this ⊢
    rw [ris, this, ris, Bool.and_assoc]
theorem ris_succ {l : List Sym} {i : Nat} {y x : Sym} (hy : l[i]? = some y) (hx : l[i + 1]? = some x) : ris (l.take (i + 2)) = (ris (l.take (i + 1)) && ltS y x) := by
  rw [List.take_add_one, hx, List.take_add_one, hy]
  simp only [Option.toList_some, List.append_assoc, List.cons_append, List.nil_append]
  exact ris_snoc _ _ _
theorem ris_take : ∀ (l : List Sym) (k : Nat), ris l = true → ris (l.take k) = true
  | [], k, _ => by simp [ris]
  | [a], k, _ => ris_one (by simp; omega)
  | a :: b :: r, 0, _ => rfl
  | a :: b :: r, 1, _ => rfl
  | a :: b :: r, k + 2, h => by
    simp only [ris, Bool.and_eq_true] at h
    have := ris_take (b :: r) (k + 1) h.2
    simp only [List.take_succ_cons] at this ⊢
    rw [ris, h.1, this]; rfl
theorem all_succ {α : Type} {l : List α} {p : α → Bool} {i : Nat} {x : α} (hx : l[i]? = some x) : (l.take (i + 1)).all p = ((l.take i).all p && p x) := by
  rw [List.take_add_one, hx, List.all_append]
  simp
end Go.Ab
namespace Go.Ab
attribute [local go_sem] evParts_nil evParts_cons consP_some buildQ_some bldC_some mksQ_some mksC_some fillAll_nil fillAll_cons chop_zero chop_succ rep_zero rep_succ List.flatten_cons List.flatten_nil boxQ_c boxC_eq avCells_ptr List.append_nil List.all_nil List.all_cons Bool.true_and Bool.and_true isOne_int isOne_bool isOne_str isOne_nils isOne_own isOne_ptr isOne_slv lay_nil0 lay_cons0 lay_nil lay_succ List.drop_zero List.take_succ_cons List.take_zero List.drop_succ_cons List.getElem?_cons_zero List.getElem?_cons_succ List.take_nil List.drop_nil List.nil_append List.cons_append a_skip a_exit a_ret a_seq a_block a_cond a_reg thn_norm thn_exit thn_ret blk_norm blk_ret blk_exit rg_some cnd_true cnd_false ops_nil ops_g stepQ_quiet stepQ_makes stepW_some stepW_none stepG_tt stepG_tf stepG_ft stepG_ff stepG_ttN stepG_tfN stepG_ftN stepG_ffN stepG_skip stepG_skipN qv_s ev_t ev_c bin_add bin_sub bin_mul bin_lss bin_leq bin_gtr bin_geq bin_eql bin_neq viewOld_get add_next put_next add_row add_map put_get kl_row kl_none kl_map ops_mv ops_pick ops_new0 ops_new1 ops_new2 ops_box0 ops_box1 ops_box2 ops_build ops_mks0 ops_mks1 ops_mks2 ops_bin ops_un ops_len0 ops_len1 ops_len2 ops_call0 ops_call1 ops_call2 ops_fld ops_ixa ops_ext ops_app0 ops_app1 ops_app2 ops_mm ops_ixr ops_conv ops_convs ops_nilc ops_ixs ops_ixg ops_mkf ops_bb ops_nq ops_eqs ops_ld0 ops_ld1 ops_ld2 ops_st ops_calli pickQ_true pickQ_false ldRow_one ldQ_ref ldQ_ptr cut_false cut_true binQ_some unQ_some un_not un_neg fldQ_ptr fldQ_ref extQ_tup evs_nil evs_cons consO_some lenQ_slv lenQ_ro lenQ_own lenQ_nils lenQ_str stQ_ptr stR_one avCells_agg avCells_int avCells_bool avCells_str avCells_slv avCells_own avCells_nils get_set List.length_cons List.length_nil Res_some Res_thn Res_blk seqP_norm seqP_exit seqP_ret blkP_norm blkP_exit blkP_ret rndP_norm rndP_exit rndP_ret Fin_norm Fin_ret Fin_exit rvV_ptr rvC_one evRV_t evRV_c evRVs_nil evRVs_cons ofL_nil ofL_cons tupOf_one tupOf_two exP if_true if_false not_false_eq_true not_true_eq_false decide_true decide_false Option.isSome_some eq_self and_self and_true true_and and_false false_and Nat.zero_add Nat.add_zero decide_eq_true_eq decide_eq_false_iff_not ne_eq Bool.false_eq_true Bool.true_eq_false reduceCtorEq Nat.reduceLT Nat.reduceEqDiff Nat.reduceAdd Nat.reduceSub Nat.reduceMul Nat.reduceLeDiff get_lf List.length_map mapF_nil mapF_cons mapC_some callQ_fn callR_some callS_cint callS_cbool callS_cstr frz_own frzR_row frzE_some frz_aggC frzA_some frz_int frz_bool frz_str frz_ro frz_nils frz_ref frz_slv view_get view_next viewOld_next eqsQ_agg eqC_some eqK_nil eqK_cons andO_some eq1_int eq1_bool eq1_str bbQ_some mmQ_some mm_nil mm_max mm_min convQ_some mkfQ_some convsQ_some nilcQ_ptr nilcQ_ref bin_quo bin_rem Int.reduceEq Int.reduceNe Int.reduceNeg flatA_agg flatA_int flatA_bool flatA_str flatA_nils flatA_ro flatA_slv flat_int flat_bool flat_str flat_nils flat_ro flat_slv num_int num_bool num_str all_mem_cons all_mem_nil export_flat export_tup callS_nums callS_flat callS_tup Bool.not_true Bool.not_false Bool.and_false Bool.false_and Bool.or_true Bool.true_or Bool.or_false Bool.false_or Bool.not_eq_true Bool.not_eq_false Bool.not_not Bool.not_eq_eq_eq_not Bool.not_eq_true' E0_next E0_get eq_add_one add_one_eq add_eq_add lt_add_self add_lt_add Nat.add_assoc ops_slr0 ops_slr1 slrA_ptr slrA_ref frz_ptrC frzPt_one frzPc_some slrQ_some slrP_all stepQ_seal sealC_get slO_row slO_none slO_map seal_next
variable {prim : Nat → List AV → Option AV}
set_option maxRecDepth 10000
theorem F20 : F.get 20 = some c20 := by rfl
def L20 : C := match c20.body with
  | .seq _ (.seq _ (.seq _ (.seq (.seq _ (.block _ (.loop b))) _))) => b
  | _ => .skip
def I20 (n : Bool) (l : List Sym) (i : Nat) (s : St) : Prop :=
  s.t.get 0 = some (slv n 9 (l.map Sym.av)) ∧ s.t.get 12 = some (slv n 9 (l.map Sym.av)) ∧ s.t.get 13 = some (.int .i64 l.length) ∧ s.t.get 14 = some (.int .i64 i) ∧
  s.t.get 3 = some (.bool ((l.take i).all kindOk)) ∧ s.t.get 4 = some (.bool ((l.take i).all rangeOk)) ∧ s.t.get 5 = some (.bool (ris (l.take i)))
def Q20 (l : List Sym) : Ex → St → Prop
  | .exit i, s => i = 0 ∧ s.t.get 3 = some (.bool (l.all kindOk)) ∧ s.t.get 4 = some (.bool (l.all rangeOk)) ∧ s.t.get 5 = some (.bool (ris l))
  | _, _ => False
theorem round20 (n : Bool) (l : List Sym) (hl : l.length ≤ maxLen) (i : Nat) (s : St) (hi : i ≤ l.length) (hI : I20 n l i s) :
    Res ((om prim F).a L20 s) (rndP (fun s' => i < l.length ∧ I20 n l (i + 1) s') (Q20 l)) := by
  obtain ⟨t, h⟩ := s
  obtain ⟨g0, g12, g13, g14, g3, g4, g5⟩ := hI
  simp only at g0 g12 g13 g14 g3 g4 g5
  by_cases hlt : i < l.length
  · have hx : l[i]? = some l[i] := List.getElem?_eq_getElem hlt
    generalize l[i] = x at hx
    have hxm : (l.map Sym.av)[i]? = some x.av := by simp [hx]
    have hil : (i : Int) < l.length := by omega
    have hw := wrap_succ hlt hl
    have a1 : (l.take (i + 1)).all kindOk = ((l.take i).all kindOk && within 1 8 x.kind) := all_succ hx
    have a2 : (l.take (i + 1)).all rangeOk = ((l.take i).all rangeOk && rangeOk x) := all_succ hx
    have c58 := fits58 (prim := prim) x
    simp only [Sym.av] at c58
    cases i with
    | zero =>
      have a3 : ris (l.take (0 + 1)) = true := ris_one (by simp; omega)
      have a4 : ris (l.take 0) = true := rfl
      have z0 : decide ((0 : Int) < ((0 : Nat) : Int)) = false := by decide
      rw [a4] at g5
      unfold L20 c20
      repeat' (first | done | (simp -implicitDefEqProofs only [↓reduceIte, go_sem, *, ixaQ_slv hxm, Sym.av, I20, has57_1]) | ((first | rw [stepG_split] | rw [cnd_split] | rw [pickQ_split]); split))
    | succ j =>
      have hy : l[j]? = some l[j] := List.getElem?_eq_getElem (by omega)
      generalize l[j] = y at hy
      have hym : (l.map Sym.av)[j]? = some y.av := by simp [hy]
      have a3 : ris (l.take (j + 2)) = (ris (l.take (j + 1)) && ltS y x) := ris_succ hy hx
      have hw2 : IntKind.i64.wrap (((j + 1 : Nat) : Int) - 1) = (j : Int) := by rw [wrap64_of (by simp only [maxLen] at hl; omega)]; omega
      have z0 : decide ((0 : Int) < ((j + 1 : Nat) : Int)) = true := by simp
      unfold L20 c20
      repeat' (first | done | (simp -implicitDefEqProofs only [↓reduceIte, go_sem, *, ixaQ_slv hxm, ixaQ_slv hym, Sym.av, I20, has57_1, ltS]) | ((first | rw [stepG_split] | rw [cnd_split] | rw [pickQ_split]); split))
  · have : i = l.length := by omega
    subst this
    rw [List.take_length] at g3 g4 g5
    unfold L20 c20
    repeat' (first | done | (simp -implicitDefEqProofs only [↓reduceIte, go_sem, *, Q20, Int.lt_irrefl]) | ((first | rw [stepG_split] | rw [cnd_split] | rw [pickQ_split]); split))
theorem check20 (n : Bool) (l : List Sym) (hl : l.length ≤ maxLen) : (om prim F).p 20 [slv n 9 (l.map Sym.av)] = some (.int .i64 (checkS l)) := by
  refine call_of F20 rfl ?_
  by_cases h72 : 72 < l.length
  · have f1 : decide ((72 : Int) < (l.length : Int)) = true := by simp; omega
    have f2 : checkS l = 3 := by simp [checkS, h72]
    unfold c20
    repeat' (first | done | (simp -implicitDefEqProofs only [↓reduceIte, go_sem, *]) | ((first | rw [stepG_split] | rw [cnd_split] | rw [pickQ_split]); split))
  · have f1 : decide ((72 : Int) < (l.length : Int)) = false := by simp; omega
    have f2 : checkS l = if l.all kindOk = false then 9 else if l.all rangeOk = false then 2 else if ris l = false then 10 else 0 := by simp [checkS, h72]
    unfold c20
    repeat' (first | done | (simp -implicitDefEqProofs only [↓reduceIte, go_sem, *]) | ((first | rw [stepG_split] | rw [cnd_split] | rw [pickQ_split]); split))
    refine (loop_up l.length (I20 n l) (round20 n l hl) 0 _ (Nat.zero_le _) (by simp only [↓reduceIte, go_sem, I20]; exact ⟨rfl, rfl⟩)).mono ?_
    rintro e ⟨t, h⟩ hq
    cases e with
    | norm => exact hq.elim
    | ret => exact hq.elim
    | exit i =>
      obtain ⟨rfl, h1, h2, h3⟩ := hq
      simp only at h1 h2 h3
      repeat' (first | done | (simp -implicitDefEqProofs only [↓reduceIte, go_sem, *]) | ((first | rw [stepG_split] | rw [cnd_split] | rw [pickQ_split]); split))
      all_goals (clear h1 h2 h3; generalize l.all kindOk = b1 at *; generalize l.all rangeOk = b2 at *; generalize ris l = b3 at *; cases b1 <;> cases b2 <;> cases b3 <;> simp_all)
/-! ### the reference's Check -/
theorem F21 : F.get 21 = some c21 := by rfl
def loopOf : C → C
  | .seq _ (.block _ (.loop b)) => b
  | _ => .skip
def L21a : C := match c21.body with | .seq _ (.seq _ (.seq a _)) => loopOf a | _ => .skip
def L21b : C := match c21.body with | .seq _ (.seq _ (.seq _ (.seq a _))) => loopOf a | _ => .skip
def L21c : C := match c21.body with | .seq _ (.seq _ (.seq _ (.seq _ (.seq a _)))) => loopOf a | _ => .skip
def I21a (n : Bool) (l : List Sym) (i : Nat) (s : St) : Prop := s.t.get 0 = some (slv n 9 (l.map Sym.av)) ∧ s.t.get 3 = some (.int .i64 i) ∧ (l.take i).all kindOk = true
def Q21a (n : Bool) (l : List Sym) : Ex → St → Prop
  | .exit i, s => i = 0 ∧ l.all kindOk = true ∧ s.t.get 0 = some (slv n 9 (l.map Sym.av))
  | .ret, s => s.t.get 2 = some (.int .i64 9) ∧ l.all kindOk = false
  | _, _ => False
theorem round21a (n : Bool) (l : List Sym) (hl : l.length ≤ maxLen) (i : Nat) (s : St) (hi : i ≤ l.length) (hI : I21a n l i s) :
    Res ((om prim F).a L21a s) (rndP (fun s' => i < l.length ∧ I21a n l (i + 1) s') (Q21a n l)) := by
  obtain ⟨t, h⟩ := s
  obtain ⟨g0, g3, no⟩ := hI
  simp only at g0 g3 no
  by_cases hlt : i < l.length
  · have hx : l[i]? = some l[i] := List.getElem?_eq_getElem hlt
    generalize l[i] = x at hx
    have hxm : (l.map Sym.av)[i]? = some x.av := by simp [hx]
    have hil : (i : Int) < l.length := by omega
    have hw := wrap_succ hlt hl
    unfold L21a loopOf c21
    repeat' (first | done | (simp -implicitDefEqProofs only [↓reduceIte, go_sem, *, ixaQ_slv hxm, Sym.av, I21a, Q21a, in59w]) | ((first | rw [stepG_split] | rw [cnd_split] | rw [pickQ_split]); split))
    · rename_i h1
      exact all_stop hx (by simpa [kindOk] using h1)
    · rename_i h1
      exact all_next hx no (by simpa [kindOk] using h1)
  · have : i = l.length := by omega
    subst this
    rw [List.take_length] at no
    unfold L21a loopOf c21
    repeat' (first | done | (simp -implicitDefEqProofs only [↓reduceIte, go_sem, *, Q21a, Int.lt_irrefl]) | ((first | rw [stepG_split] | rw [cnd_split] | rw [pickQ_split]); split))
def I21b (n : Bool) (l : List Sym) (i : Nat) (s : St) : Prop := s.t.get 0 = some (slv n 9 (l.map Sym.av)) ∧ s.t.get 4 = some (.int .i64 i) ∧ (l.take i).all rangeOk = true
def Q21b (n : Bool) (l : List Sym) : Ex → St → Prop
  | .exit i, s => i = 2 ∧ l.all rangeOk = true ∧ s.t.get 0 = some (slv n 9 (l.map Sym.av))
  | .ret, s => s.t.get 2 = some (.int .i64 2) ∧ l.all rangeOk = false
  | _, _ => False
theorem round21b (n : Bool) (l : List Sym) (hl : l.length ≤ maxLen) (i : Nat) (s : St) (hi : i ≤ l.length) (hI : I21b n l i s) :
    Res ((om prim F).a L21b s) (rndP (fun s' => i < l.length ∧ I21b n l (i + 1) s') (Q21b n l)) := by
  obtain ⟨t, h⟩ := s
  obtain ⟨g0, g4, no⟩ := hI
  simp only at g0 g4 no
  by_cases hlt : i < l.length
  · have hx : l[i]? = some l[i] := List.getElem?_eq_getElem hlt
    generalize l[i] = x at hx
    have hxm : (l.map Sym.av)[i]? = some x.av := by simp [hx]
    have hil : (i : Int) < l.length := by omega
    have hw := wrap_succ hlt hl
    have c60 := ranges60 (prim := prim) x
    simp only [Sym.av] at c60
    unfold L21b loopOf c21
    repeat' (first | done | (simp -implicitDefEqProofs only [↓reduceIte, go_sem, *, ixaQ_slv hxm, Sym.av, I21b, Q21b]) | ((first | rw [stepG_split] | rw [cnd_split] | rw [pickQ_split]); split))
    · rename_i h1
      exact all_stop hx (by simpa using h1)
    · rename_i h1
      exact all_next hx no (by simpa using h1)
  · have : i = l.length := by omega
    subst this
    rw [List.take_length] at no
    unfold L21b loopOf c21
    repeat' (first | done | (simp -implicitDefEqProofs only [↓reduceIte, go_sem, *, Q21b, Int.lt_irrefl]) | ((first | rw [stepG_split] | rw [cnd_split] | rw [pickQ_split]); split))
def I21c (n : Bool) (l : List Sym) (i : Nat) (s : St) : Prop := s.t.get 0 = some (slv n 9 (l.map Sym.av)) ∧ s.t.get 5 = some (.int .i64 ((i + 1 : Nat) : Int)) ∧ ris (l.take (i + 1)) = true
def Q21c (l : List Sym) : Ex → St → Prop
  | .exit i, _ => i = 4 ∧ ris l = true
  | .ret, s => s.t.get 2 = some (.int .i64 10) ∧ ris l = false
  | _, _ => False
theorem ltS_not (y x : Sym) : ltS y x = !(decide (x.kind < y.kind) || decide (x.kind = y.kind) && decide (x.cls ≤ y.cls)) := by
  rw [Bool.eq_iff_iff]
  simp only [ltS, Bool.or_eq_true, Bool.and_eq_true, decide_eq_true_eq, Bool.not_eq_true', Bool.or_eq_false_iff, Bool.and_eq_false_iff, decide_eq_false_iff_not]
  omega
theorem round21c (n : Bool) (l : List Sym) (hl : l.length ≤ maxLen) (i : Nat) (s : St) (hi : i ≤ l.length) (hI : I21c n l i s) :
    Res ((om prim F).a L21c s) (rndP (fun s' => i < l.length ∧ I21c n l (i + 1) s') (Q21c l)) := by
  obtain ⟨t, h⟩ := s
  obtain ⟨g0, g5, no⟩ := hI
  simp only at g0 g5 no
  by_cases hlt : i + 1 < l.length
  · have hx : l[i + 1]? = some l[i + 1] := List.getElem?_eq_getElem hlt
    generalize l[i + 1] = x at hx
    have hxm : (l.map Sym.av)[i + 1]? = some x.av := by simp [hx]
    have hy : l[i]? = some l[i] := List.getElem?_eq_getElem (by omega)
    generalize l[i] = y at hy
    have hym : (l.map Sym.av)[i]? = some y.av := by simp [hy]
    have hil : (((i + 1 : Nat) : Int) < l.length) := by omega
    have hlt' : i < l.length := by omega
    have hw := wrap_succ hlt hl
    have hw2 : IntKind.i64.wrap (((i + 1 : Nat) : Int) - 1) = (i : Int) := by rw [wrap64_of (by simp only [maxLen] at hl; omega)]; omega
    have a3 : ris (l.take (i + 2)) = (ris (l.take (i + 1)) && ltS y x) := ris_succ hy hx
    have stop : ltS y x = false → ris l = false := by
      intro hf
      cases hr : ris l with
      | false => rfl
      | true => rw [ris_take l (i + 2) hr, hf] at a3; simp at a3
    rw [ltS_not] at a3 stop
    unfold L21c loopOf c21
    repeat' (first | done | (simp -implicitDefEqProofs only [↓reduceIte, go_sem, *, ixaQ_slv hxm, ixaQ_slv hym, Sym.av, I21c, Q21c]) | ((first | rw [stepG_split] | rw [cnd_split] | rw [pickQ_split]); split))
    rename_i h1
    simpa using h1
  · have hil : ¬ (((i + 1 : Nat) : Int) < l.length) := by omega
    have hr : ris l = true := by
      by_cases h0 : l.length ≤ i + 1
      · rwa [List.take_of_length_le h0] at no
      · omega
    unfold L21c loopOf c21
    repeat' (first | done | (simp -implicitDefEqProofs only [↓reduceIte, go_sem, *, Q21c]) | ((first | rw [stepG_split] | rw [cnd_split] | rw [pickQ_split]); split))
theorem check21 (n : Bool) (l : List Sym) (hl : l.length ≤ maxLen) : (om prim F).p 21 [slv n 9 (l.map Sym.av)] = some (.int .i64 (checkS l)) := by
  refine call_of F21 rfl ?_
  by_cases h72 : 72 < l.length
  · have f1 : decide ((72 : Int) < (l.length : Int)) = true := by simp; omega
    have f2 : checkS l = 3 := by simp [checkS, h72]
    unfold c21
    repeat' (first | done | (simp -implicitDefEqProofs only [↓reduceIte, go_sem, *]) | ((first | rw [stepG_split] | rw [cnd_split] | rw [pickQ_split]); split))
  · have f1 : decide ((72 : Int) < (l.length : Int)) = false := by simp; omega
    have f2 : checkS l = if l.all kindOk = false then 9 else if l.all rangeOk = false then 2 else if ris l = false then 10 else 0 := by simp [checkS, h72]
    unfold c21
    repeat' (first | done | (simp -implicitDefEqProofs only [↓reduceIte, go_sem, *]) | ((first | rw [stepG_split] | rw [cnd_split] | rw [pickQ_split]); split))
    refine (loop_up l.length (I21a n l) (round21a n l hl) 0 _ (Nat.zero_le _) (by simp only [↓reduceIte, go_sem, I21a]; rfl)).mono ?_
    rintro e ⟨t, h⟩ hq
    cases e with
    | norm => exact hq.elim
    | ret => obtain ⟨h1, h2⟩ := hq; simp only at h1; repeat' (first | done | (simp -implicitDefEqProofs only [↓reduceIte, go_sem, *]) | ((first | rw [stepG_split] | rw [cnd_split] | rw [pickQ_split]); split))
    | exit i =>
      obtain ⟨rfl, h1, h2⟩ := hq
      simp only at h2
      repeat' (first | done | (simp -implicitDefEqProofs only [↓reduceIte, go_sem, *]) | ((first | rw [stepG_split] | rw [cnd_split] | rw [pickQ_split]); split))
      refine (loop_up l.length (I21b n l) (round21b n l hl) 0 _ (Nat.zero_le _) (by simp only [↓reduceIte, go_sem, I21b, h2]; rfl)).mono ?_
      rintro e ⟨t, h⟩ hq
      cases e with
      | norm => exact hq.elim
      | ret => obtain ⟨h3, h4⟩ := hq; simp only at h3; repeat' (first | done | (simp -implicitDefEqProofs only [↓reduceIte, go_sem, *]) | ((first | rw [stepG_split] | rw [cnd_split] | rw [pickQ_split]); split))
      | exit i =>
        obtain ⟨rfl, h3, h4⟩ := hq
        simp only at h4
        clear h2
        repeat' (first | done | (simp -implicitDefEqProofs only [↓reduceIte, go_sem, *]) | ((first | rw [stepG_split] | rw [cnd_split] | rw [pickQ_split]); split))
        refine (loop_up l.length (I21c n l) (round21c n l hl) 0 _ (Nat.zero_le _) (by simp only [↓reduceIte, go_sem, I21c, h4]; exact ⟨rfl, ris_one (by simp; omega)⟩)).mono ?_
        rintro e ⟨t, h⟩ hq
        cases e with
        | norm => exact hq.elim
        | ret => obtain ⟨h5, h6⟩ := hq; simp only at h5; repeat' (first | done | (simp -implicitDefEqProofs only [↓reduceIte, go_sem, *]) | ((first | rw [stepG_split] | rw [cnd_split] | rw [pickQ_split]); split))
        | exit i =>
          obtain ⟨rfl, h5⟩ := hq
          repeat' (first | done | (simp -implicitDefEqProofs only [↓reduceIte, go_sem, *]) | ((first | rw [stepG_split] | rw [cnd_split] | rw [pickQ_split]); split))
end Go.Ab
namespace Go.Ab
attribute [local go_sem] evParts_nil evParts_cons consP_some buildQ_some bldC_some mksQ_some mksC_some fillAll_nil fillAll_cons chop_zero chop_succ rep_zero rep_succ List.flatten_cons List.flatten_nil boxQ_c boxC_eq avCells_ptr List.append_nil List.all_nil List.all_cons Bool.true_and Bool.and_true isOne_int isOne_bool isOne_str isOne_nils isOne_own isOne_ptr isOne_slv lay_nil0 lay_cons0 lay_nil lay_succ List.drop_zero List.take_succ_cons List.take_zero List.drop_succ_cons List.getElem?_cons_zero List.getElem?_cons_succ List.take_nil List.drop_nil List.nil_append List.cons_append a_skip a_exit a_ret a_seq a_block a_cond a_reg thn_norm thn_exit thn_ret blk_norm blk_ret blk_exit rg_some cnd_true cnd_false ops_nil ops_g stepQ_quiet stepQ_makes stepW_some stepW_none stepG_tt stepG_tf stepG_ft stepG_ff stepG_ttN stepG_tfN stepG_ftN stepG_ffN stepG_skip stepG_skipN qv_s ev_t ev_c bin_add bin_sub bin_mul bin_lss bin_leq bin_gtr bin_geq bin_eql bin_neq viewOld_get add_next put_next add_row add_map put_get kl_row kl_none kl_map ops_mv ops_pick ops_new0 ops_new1 ops_new2 ops_box0 ops_box1 ops_box2 ops_build ops_mks0 ops_mks1 ops_mks2 ops_bin ops_un ops_len0 ops_len1 ops_len2 ops_call0 ops_call1 ops_call2 ops_fld ops_ixa ops_ext ops_app0 ops_app1 ops_app2 ops_mm ops_ixr ops_conv ops_convs ops_nilc ops_ixs ops_ixg ops_mkf ops_bb ops_nq ops_eqs ops_ld0 ops_ld1 ops_ld2 ops_st ops_calli pickQ_true pickQ_false ldRow_one ldQ_ref ldQ_ptr cut_false cut_true binQ_some unQ_some un_not un_neg fldQ_ptr fldQ_ref extQ_tup evs_nil evs_cons consO_some lenQ_slv lenQ_ro lenQ_own lenQ_nils lenQ_str stQ_ptr stR_one avCells_agg avCells_int avCells_bool avCells_str avCells_slv avCells_own avCells_nils get_set List.length_cons List.length_nil Res_some Res_thn Res_blk seqP_norm seqP_exit seqP_ret blkP_norm blkP_exit blkP_ret rndP_norm rndP_exit rndP_ret Fin_norm Fin_ret Fin_exit rvV_ptr rvC_one evRV_t evRV_c evRVs_nil evRVs_cons ofL_nil ofL_cons tupOf_one tupOf_two exP if_true if_false not_false_eq_true not_true_eq_false decide_true decide_false Option.isSome_some eq_self and_self and_true true_and and_false false_and Nat.zero_add Nat.add_zero decide_eq_true_eq decide_eq_false_iff_not ne_eq Bool.false_eq_true Bool.true_eq_false reduceCtorEq Nat.reduceLT Nat.reduceEqDiff Nat.reduceAdd Nat.reduceSub Nat.reduceMul Nat.reduceLeDiff get_lf List.length_map mapF_nil mapF_cons mapC_some callQ_fn callR_some callS_cint callS_cbool callS_cstr frz_own frzR_row frzE_some frz_aggC frzA_some frz_int frz_bool frz_str frz_ro frz_nils frz_ref frz_slv view_get view_next viewOld_next eqsQ_agg eqC_some eqK_nil eqK_cons andO_some eq1_int eq1_bool eq1_str bbQ_some mmQ_some mm_nil mm_max mm_min convQ_some mkfQ_some convsQ_some nilcQ_ptr nilcQ_ref bin_quo bin_rem Int.reduceEq Int.reduceNe Int.reduceNeg flatA_agg flatA_int flatA_bool flatA_str flatA_nils flatA_ro flatA_slv flat_int flat_bool flat_str flat_nils flat_ro flat_slv num_int num_bool num_str all_mem_cons all_mem_nil export_flat export_tup callS_nums callS_flat callS_tup Bool.not_true Bool.not_false Bool.and_false Bool.false_and Bool.or_true Bool.true_or Bool.or_false Bool.false_or Bool.not_eq_true Bool.not_eq_false Bool.not_not Bool.not_eq_eq_eq_not Bool.not_eq_true' E0_next E0_get eq_add_one add_one_eq add_eq_add lt_add_self add_lt_add Nat.add_assoc ops_slr0 ops_slr1 slrA_ptr slrA_ref frz_ptrC frzPt_one frzPc_some slrQ_some slrP_all stepQ_seal sealC_get slO_row slO_none slO_map seal_next
set_option maxRecDepth 10000
theorem F3 : F.get 3 = some c3 := by rfl
theorem F7 : F.get 7 = some c7 := by rfl
theorem findV_flat (o : Option Sym) : ∃ x b, findV o = .tup [.agg (Sym.av x), .bool b] := by
  cases o with
  | none => exact ⟨_, _, rfl⟩
  | some x => exact ⟨_, _, rfl⟩
theorem checks3 (n : Bool) (l : List Sym) (k c : Int) (hl : l.length ≤ maxLen) : (om prim1 F).p 3 [slv n 9 (l.map Sym.av), .int .i64 k, .int .i64 c] = some (.bool true) := by
  refine call_of F3 rfl ?_
  have f18 := find18 (prim := prim1) n l k c hl
  have f19 := find19 (prim := prim1) n l k c hl
  have k20 := check20 (prim := prim1) n l hl
  have k21 := check21 (prim := prim1) n l hl
  obtain ⟨x, b, hv⟩ := findV_flat (findS l k c)
  rw [hv] at f18 f19
  simp only [Sym.av] at f18 f19
  clear hv
  unfold c3
  repeat' (first | done | (simp -implicitDefEqProofs only [↓reduceIte, go_sem, *, Sym.av, awake46, beq_self_eq_true]) | ((first | rw [stepG_split] | rw [cnd_split] | rw [pickQ_split]); split))

/-! ### SymbolChosen -/
theorem ltS_trans {x y z : Sym} (h : ltS x y = true) (k : ltS y z = true) : ltS x z = true := by
  simp only [ltS, Bool.or_eq_true, Bool.and_eq_true, decide_eq_true_eq] at *
  omega
theorem ris_pair : ∀ {l : List Sym}, ris l = true → l.Pairwise (fun y x => ltS y x = true)
  | [], _ => List.Pairwise.nil
  | [a], _ => List.pairwise_singleton _ _
  | a :: b :: r, h => by
    simp only [ris, Bool.and_eq_true] at h
    have ih := ris_pair h.2
    refine List.Pairwise.cons ?_ ih
    intro x hx
    rcases List.mem_cons.1 hx with rfl | hx
    · exact h.1
    · exact ltS_trans h.1 ((List.pairwise_cons.1 ih).1 x hx)
def isS (k c : Int) (x : Sym) : Bool := decide (x.kind = k) && decide (x.cls = c)
theorem find_own {l : List Sym} (h : ris l = true) {i : Nat} {x : Sym} (hx : l[i]? = some x) : findS l x.kind x.cls = some x := by
  refine find_take hx ?_ (by simp)
  rw [List.find?_eq_none]
  intro y hy
  obtain ⟨j, hj, rfl⟩ := List.getElem_of_mem hy
  rw [List.length_take] at hj
  obtain ⟨hi, rfl⟩ := List.getElem?_eq_some_iff.1 hx
  have := List.pairwise_iff_getElem.1 (ris_pair h) j i (by omega) hi (by omega)
  rw [List.getElem_take]
  simp only [ltS, Bool.or_eq_true, Bool.and_eq_true, decide_eq_true_eq] at this ⊢
  omega
theorem count_le {l : List Sym} (h : ris l = true) (k c : Int) : (l.filter (isS k c)).length ≤ 1 := by
  have hp := (ris_pair h).filter (isS k c)
  cases hf : l.filter (isS k c) with
  | nil => simp
  | cons a r =>
    cases r with
    | nil => simp
    | cons b r =>
      exfalso
      rw [hf] at hp
      have h1 := (List.pairwise_cons.1 hp).1 b (by simp)
      have ha : isS k c a = true := (List.mem_filter.1 (hf ▸ List.mem_cons_self : a ∈ l.filter (isS k c))).2
      have hb : isS k c b = true := (List.mem_filter.1 (hf ▸ (by simp) : b ∈ l.filter (isS k c))).2
      simp only [isS, ltS, Bool.or_eq_true, Bool.and_eq_true, decide_eq_true_eq] at *
      omega
theorem count_find {l : List Sym} (h : ris l = true) (k c : Int) : (findS l k c).isSome = decide ((((l.filter (isS k c)).length : Nat) : Int) = 1) := by
  have hle := count_le h k c
  have : (findS l k c).isSome = l.any (isS k c) := by
    rw [Bool.eq_iff_iff]
    unfold findS
    rw [List.find?_isSome, List.any_eq_true]
    rfl
  rw [this]
  cases ha : l.any (isS k c) with
  | true =>
    obtain ⟨x, hx, hp⟩ := List.any_eq_true.1 ha
    have : 0 < (l.filter (isS k c)).length := List.length_pos_of_mem (List.mem_filter.2 ⟨hx, hp⟩)
    simp; omega
  | false =>
    have : l.filter (isS k c) = [] := by
      rw [List.filter_eq_nil_iff]
      intro x hx
      have := List.any_eq_false.1 ha x hx
      simpa using this
    simp [this]

def L7 : C := match c7.body with
  | .seq _ (.seq _ (.seq _ (.seq a _))) => loopOf a
  | _ => .skip
def cntS (k c : Int) (l : List Sym) : Nat := (l.filter (isS k c)).length
def I7 (n : Bool) (l : List Sym) (k c : Int) (i : Nat) (s : St) : Prop :=
  s.t.get 0 = some (slv n 9 (l.map Sym.av)) ∧ s.t.get 1 = some (.int .i64 k) ∧ s.t.get 2 = some (.int .i64 c) ∧ s.t.get 8 = some (.int .i64 i) ∧ s.t.get 7 = some (.int .i64 ((cntS k c (l.take i) : Nat) : Int))
def Q7 (n : Bool) (l : List Sym) (k c : Int) : Ex → St → Prop
  | .exit i, s => i = 0 ∧ s.t.get 0 = some (slv n 9 (l.map Sym.av)) ∧ s.t.get 1 = some (.int .i64 k) ∧ s.t.get 2 = some (.int .i64 c) ∧ s.t.get 7 = some (.int .i64 ((cntS k c l : Nat) : Int))
  | _, _ => False
theorem cnt_succ {l : List Sym} {i : Nat} {x : Sym} (k c : Int) (hx : l[i]? = some x) : cntS k c (l.take (i + 1)) = cntS k c (l.take i) + (if isS k c x = true then 1 else 0) := by
  unfold cntS
  rw [List.take_add_one, hx, List.filter_append, List.length_append]
  cases h : isS k c x <;> simp [h]
theorem cnt_le (k c : Int) (l : List Sym) (i : Nat) : cntS k c (l.take i) ≤ i := by
  unfold cntS
  exact Nat.le_trans (List.length_filter_le _ _) (by simp; omega)
theorem round7 (n : Bool) (l : List Sym) (hr : ris l = true) (k c : Int) (hl : l.length ≤ maxLen) (i : Nat) (s : St) (hi : i ≤ l.length) (hI : I7 n l k c i s) :
    Res ((om prim1 F).a L7 s) (rndP (fun s' => i < l.length ∧ I7 n l k c (i + 1) s') (Q7 n l k c)) := by
  obtain ⟨t, h⟩ := s
  obtain ⟨g0, g1, g2, g8, g7⟩ := hI
  simp only at g0 g1 g2 g8 g7
  by_cases hlt : i < l.length
  · have hx : l[i]? = some l[i] := List.getElem?_eq_getElem hlt
    generalize l[i] = x at hx
    have hxm : (l.map Sym.av)[i]? = some x.av := by simp [hx]
    have hil : (i : Int) < l.length := by omega
    have hw := wrap_succ hlt hl
    have hc := cnt_le k c l i
    have hw7 : IntKind.i64.wrap ((cntS k c (l.take i) : Int) + 1) = ((cntS k c (l.take i) + 1 : Nat) : Int) := wrap_succ (n := l.length) (by omega) hl
    have c1 := cnt_succ k c hx
    have f18 := find18 (prim := prim1) n l x.kind x.cls hl
    rw [find_own hr hx] at f18
    simp only [Sym.av, findV] at f18
    unfold isS at c1
    unfold L7 loopOf c7
    repeat' (first | done | (simp -implicitDefEqProofs only [↓reduceIte, go_sem, *, ixaQ_slv hxm, Sym.av, I7]) | ((first | rw [stepG_split] | rw [cnd_split] | rw [pickQ_split]); split))
    · rename_i h1 _ h2
      simp only [decide_eq_true_eq] at h1 h2
      simp [h1, h2]
    · rename_i h1 _ h2
      simp only [decide_eq_true_eq, decide_eq_false_iff_not] at h1 h2
      simp [h1, h2]
  · have : i = l.length := by omega
    subst this
    rw [List.take_length] at g7
    unfold L7 loopOf c7
    repeat' (first | done | (simp -implicitDefEqProofs only [↓reduceIte, go_sem, *, Q7, Int.lt_irrefl]) | ((first | rw [stepG_split] | rw [cnd_split] | rw [pickQ_split]); split))
theorem checkS_ok {l : List Sym} (h : checkS l = 0) : ris l = true := by
  unfold checkS at h
  by_cases h1 : 72 < l.length
  · simp [h1] at h
  · rw [if_neg h1] at h
    by_cases h2 : l.all kindOk = false
    · rw [if_pos h2] at h; simp at h
    · rw [if_neg h2] at h
      by_cases h3 : l.all rangeOk = false
      · rw [if_pos h3] at h; simp at h
      · rw [if_neg h3] at h
        by_cases h4 : ris l = false
        · rw [if_pos h4] at h; simp at h
        · simpa using h4
theorem chosen7 (n : Bool) (l : List Sym) (k c : Int) (hl : l.length ≤ maxLen) : (om prim1 F).p 7 [slv n 9 (l.map Sym.av), .int .i64 k, .int .i64 c] = some (.bool true) := by
  refine call_of F7 rfl ?_
  have k20 := check20 (prim := prim1) n l hl
  by_cases h0 : checkS l = 0
  · rw [h0] at k20
    have hr := checkS_ok h0
    unfold c7
    repeat' (first | done | (simp -implicitDefEqProofs only [↓reduceIte, go_sem, *, awake46]) | ((first | rw [stepG_split] | rw [cnd_split] | rw [pickQ_split]); split))
    refine (loop_up l.length (I7 n l k c) (round7 n l hr k c hl) 0 _ (Nat.zero_le _) (by simp only [↓reduceIte, go_sem, I7]; exact ⟨rfl, rfl⟩)).mono ?_
    rintro e ⟨t, h⟩ hq
    cases e with
    | norm => exact hq.elim
    | ret => exact hq.elim
    | exit i =>
      obtain ⟨rfl, g0, g1, g2, g7⟩ := hq
      simp only at g0 g1 g2 g7
      have f18 := find18 (prim := prim1) n l k c hl
      have hle : decide (((cntS k c l : Nat) : Int) ≤ 1) = true := by have := count_le hr k c; unfold cntS; exact decide_eq_true (by omega)
      have hcf := count_find hr k c
      have hfv : ∃ x, findV (findS l k c) = .tup [.agg (Sym.av x), .bool (decide (((cntS k c l : Nat) : Int) = 1))] := by
        unfold cntS
        rw [← hcf]
        cases findS l k c with
        | none => exact ⟨_, rfl⟩
        | some x => exact ⟨_, rfl⟩
      obtain ⟨x, hx⟩ := hfv
      rw [hx] at f18
      simp only [Sym.av] at f18
      repeat' (first | done | (simp -implicitDefEqProofs only [↓reduceIte, go_sem, *, awake46, beq_self_eq_true]) | ((first | rw [stepG_split] | rw [cnd_split] | rw [pickQ_split]); split))
  · have f0 : decide (checkS l = 0) = false := by simpa using h0
    unfold c7
    repeat' (first | done | (simp -implicitDefEqProofs only [↓reduceIte, go_sem, *, awake46]) | ((first | rw [stepG_split] | rw [cnd_split] | rw [pickQ_split]); split))
theorem slArg {ts : List CT} {v : AV} (h : OkC (.sl ts) v) : ∃ n es, v = slv n ts.length es ∧ es.length ≤ maxLen ∧ ∀ e ∈ es, OkCs ts e := by
  simp only [OkC] at h
  rcases h with rfl | ⟨es, rfl, h1, h2⟩
  · exact ⟨true, [], by simp [slv], by simp, by simp⟩
  · exact ⟨false, es, by simp [slv], h1, h2⟩
theorem symOf {e : List AV} (h : OkCs [.i .i64, .i .i64, .i .i64, .i .i64, .i .i64, .i .i64, .i .i64, .i .i64, .i .i64] e) : ∃ x : Sym, e = x.av := by
  simp only [OkCs, OkC] at h
  obtain ⟨_, _, rfl, ⟨a, rfl, _⟩, _, _, rfl, ⟨b, rfl, _⟩, _, _, rfl, ⟨c, rfl, _⟩, _, _, rfl, ⟨d, rfl, _⟩, _, _, rfl, ⟨e, rfl, _⟩, _, _, rfl, ⟨f, rfl, _⟩, _, _, rfl, ⟨g, rfl, _⟩, _, _, rfl, ⟨i, rfl, _⟩, _, _, rfl, ⟨j, rfl, _⟩, rfl⟩ := h
  exact ⟨⟨a, b, c, d, e, f, g, i, j⟩, rfl⟩
theorem mapOf {α : Type} {f : α → List AV} : ∀ {es : List (List AV)}, (∀ e ∈ es, ∃ x, e = f x) → ∃ l : List α, es = l.map f
  | [], _ => ⟨[], rfl⟩
  | e :: r, h => by
    obtain ⟨x, rfl⟩ := h e (by simp)
    obtain ⟨l, rfl⟩ := mapOf (es := r) (fun e he => h e (by simp [he]))
    exact ⟨x :: l, rfl⟩
theorem symsArgs {avs : List AV} (h : OkArgs [(false, [.sl [.i .i64, .i .i64, .i .i64, .i .i64, .i .i64, .i .i64, .i .i64, .i .i64, .i .i64]]), (false, [.i .i64]), (false, [.i .i64])] avs) :
    ∃ n l k c, avs = [slv n 9 (List.map Sym.av l), .int .i64 k, .int .i64 c] ∧ l.length ≤ maxLen := by
  simp only [OkArgs, OkCs, Bool.false_eq_true, if_false] at h
  obtain ⟨v, r, cs, rfl, rfl, ⟨w, q, hw, hok, hq⟩, v2, r2, cs2, rfl, rfl, ⟨w2, q2, hw2, hok2, hq2⟩, v3, r3, cs3, rfl, rfl, ⟨w3, q3, hw3, hok3, hq3⟩, rfl⟩ := h
  subst hq hq2 hq3
  simp only [List.cons.injEq, and_true] at hw hw2 hw3
  subst hw hw2 hw3
  obtain ⟨n, es, rfl, he, hes⟩ := slArg hok
  simp only [OkC] at hok2 hok3
  obtain ⟨k, rfl, _⟩ := hok2
  obtain ⟨c, rfl, _⟩ := hok3
  obtain ⟨l, rfl⟩ := mapOf (f := Sym.av) (fun e he => symOf (hes e he))
  exact ⟨n, l, k, c, rfl, by simpa using he⟩
theorem checksMain (avs : List AV) (h : OkArgs [(false, [.sl [.i .i64, .i .i64, .i .i64, .i .i64, .i .i64, .i .i64, .i .i64, .i .i64, .i .i64]]), (false, [.i .i64]), (false, [.i .i64])] avs) : (om prim1 F).p 3 avs = some (.bool true) := by
  obtain ⟨n, l, k, c, rfl, hl⟩ := symsArgs h
  exact checks3 n l k c hl
theorem chosenMain (avs : List AV) (h : OkArgs [(false, [.sl [.i .i64, .i .i64, .i .i64, .i .i64, .i .i64, .i .i64, .i .i64, .i .i64, .i .i64]]), (false, [.i .i64]), (false, [.i .i64])] avs) : (om prim1 F).p 7 avs = some (.bool true) := by
  obtain ⟨n, l, k, c, rfl, hl⟩ := symsArgs h
  exact chosen7 n l k c hl
end Go.Ab
