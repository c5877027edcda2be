/- The evaluator without fuel: more fuel tells the same; the limit `om` obeys the equations. -/
import Derived.Test.YtjlbgjodfikplaaGreatXa
import Derived.IntWalk
set_option linter.unusedVariables false
set_option linter.unusedSimpArgs false
namespace Go.Ab

/-- One level tells no more than another one, and nothing else. -/
structure LvLe (L M : Lv) : Prop where
  p : ∀ g a r, L.p g a = some r → M.p g a = some r
  i : ∀ g a h r, L.i g a h = some r → M.i g a h = some r
  a : ∀ c s r, L.a c s = some r → M.a c s = some r

theorem LvLe.refl (L : Lv) : LvLe L L := ⟨fun _ _ _ h => h, fun _ _ _ _ h => h, fun _ _ _ h => h⟩
theorem LvLe.trans {L M N : Lv} (h : LvLe L M) (k : LvLe M N) : LvLe L N :=
  ⟨fun _ _ _ e => k.p _ _ _ (h.p _ _ _ e), fun _ _ _ _ e => k.i _ _ _ _ (h.i _ _ _ _ e), fun _ _ _ e => k.a _ _ _ (h.a _ _ _ e)⟩

def callS (nx : Nat) (cl : List Nat) : Option AV → Option QR
  | some res => let a := adp nx 4 res; some ⟨a.1, a.2, none, bif cl.isEmpty then [] else bif hasRo 8 res then cl else []⟩
  | none => none
def callR (P : CallP) (nx g : Nat) : Option (List AV × List Nat) → Option QR
  | some r => callS nx r.2 (P g r.1)
  | none => none
def callQ (P : CallP) (V : View) : Option AV → Option (List AV) → Option QR
  | some (.fn g caps), some args => callR P V.next g (mapF (frz V.get 16) (args ++ caps))
  | _, _ => none
theorem q_call (P : CallP) (V : View) (t : Nat → Option AV) (b : Bool) (f : Opd) (xs : List Opd) : qop P V t (.call b f xs) = callQ P V (ev t f) (evs t xs) := by
  rw [qop]
  cases ev t f with
  | none => rfl
  | some v => cases evs t xs with
    | none => cases v <;> rfl
    | some args => cases v with
      | fn g caps =>
        simp only [splitF, callQ]
        cases mapF (frz V.get 16) (args ++ caps) with
        | none => rfl
        | some r =>
          simp only [callR]
          cases P g r.1 <;> rfl
      | _ => rfl
theorem callS_inv {nx : Nat} {cl : List Nat} {r : Option AV} {q : QR} (h : callS nx cl r = some q) : ∃ v, r = some v := by
  cases r with
  | none => cases h
  | some v => exact ⟨v, rfl⟩
theorem callQ_inv {P : CallP} {V : View} {f : Option AV} {xs : Option (List AV)} {q : QR} (h : callQ P V f xs = some q) :
    ∃ g caps args r v, f = some (.fn g caps) ∧ xs = some args ∧ mapF (frz V.get 16) (args ++ caps) = some r ∧ P g r.1 = some v := by
  cases f with
  | none => cases h
  | some f =>
    cases xs with
    | none => cases f <;> cases h
    | some args =>
      cases f with
      | fn g caps =>
        simp only [callQ] at h
        cases hm : mapF (frz V.get 16) (args ++ caps) with
        | none => rw [hm] at h; cases h
        | some r =>
          rw [hm] at h
          obtain ⟨v, hv⟩ := callS_inv h
          exact ⟨g, caps, args, r, v, rfl, rfl, hm, hv⟩
      | _ => cases h

def callW (I : CallI) (w : AH) : Option AV → Option (List AV) → Option (AV × AH)
  | some (.fn g caps), some args => I g (args ++ caps) w
  | _, _ => none
theorem w_call (I : CallI) (w : AH) (t : Nat → Option AV) (f : Opd) (xs : List Opd) : wop I w t (.call false f xs) = callW I w (ev t f) (evs t xs) := by
  rw [wop]
  cases ev t f with
  | none => rfl
  | some v => cases evs t xs with
    | none => cases v <;> rfl
    | some args => cases v <;> rfl
theorem callW_inv {I : CallI} {w : AH} {f : Option AV} {xs : Option (List AV)} {q : AV × AH} (h : callW I w f xs = some q) :
    ∃ g caps args, f = some (.fn g caps) ∧ xs = some args ∧ I g (args ++ caps) w = some q := by
  cases f with
  | none => cases h
  | some f =>
    cases xs with
    | none => cases f <;> cases h
    | some args =>
      cases f with
      | fn g caps => exact ⟨g, caps, args, rfl, rfl, h⟩
      | _ => cases h

theorem qop_mono {c d : CallP} (h : ∀ g a r, c g a = some r → d g a = some r) (V : View) (t : Nat → Option AV) (i : I) (q : QR) (e : qop c V t i = some q) : qop d V t i = some q := by
  cases i with
  | call b f xs =>
    rw [q_call] at e ⊢
    obtain ⟨g, caps, args, r, v, h1, h2, h3, h4⟩ := callQ_inv e
    rw [h1, h2] at e ⊢
    simp only [callQ, h3, callR, h4, h _ _ _ h4] at e ⊢
    exact e
  | _ => exact e

theorem wop_mono {c d : CallI} (h : ∀ g a w r, c g a w = some r → d g a w = some r) (w : AH) (t : Nat → Option AV) (i : I) (q : AV × AH) (e : wop c w t i = some q) : wop d w t i = some q := by
  cases i with
  | call b f xs =>
    cases b with
    | true => exact e
    | false =>
      rw [w_call] at e ⊢
      obtain ⟨g, caps, args, h1, h2, h3⟩ := callW_inv e
      rw [h1, h2]
      exact h _ _ _ _ h3
  | _ => exact e

theorem op1_mono {L M : Lv} (h : LvLe L M) (n0 : Nat) (o : OpI) (s s' : St) (e : op1 L.p L.i n0 o s = some s') : op1 M.p M.i n0 o s = some s' := by
  unfold op1 at e ⊢
  cases hw : isW o.i with
  | true =>
    simp only [hw, cond_true] at e ⊢
    split at e
    · rename_i r h1
      rw [wop_mono h.i _ _ _ _ h1]
      exact e
    · cases e
  | false =>
    simp only [hw, cond_false] at e ⊢
    split at e
    · rename_i r h1
      rw [qop_mono h.p _ _ _ _ h1]
      exact e
    · cases e

theorem ops_mono {L M : Lv} (h : LvLe L M) (n0 : Nat) : ∀ (os : List OpI) (sf : List Nat) (s s' : St), ops L.p L.i n0 sf os s = some s' → ops M.p M.i n0 sf os s = some s' := by
  intro os
  induction os with
  | nil => intro sf s s' e; simpa [ops] using e
  | cons o r ih =>
    intro sf s s' e
    rw [ops] at e ⊢
    cases hw : wantI s.t.get o with
    | none => simp [hw] at e
    | some b =>
      cases b with
      | false =>
        simp only [hw] at e ⊢
        exact ih _ _ _ e
      | true =>
        simp only [hw] at e ⊢
        cases hc : ((!(isW o.i) || sf.all (spares s.h s.t.get o.i)) && (softOf s.t.get o).all (fun id => Nat.blt id n0)) with
        | false => simp only [hc, cond_false] at e; cases e
        | true =>
          simp only [hc, cond_true] at e ⊢
          split at e
          · rename_i s1 h1
            rw [op1_mono h _ _ _ _ h1]
            exact ih _ _ _ e
          · cases e

theorem code_monoL {L M : Lv} (h : LvLe L M) : ∀ (c : C) (s : St) (r : Ex × St), code L.p L.i L.a c s = some r → code M.p M.i M.a c s = some r := by
  intro c
  induction c with
  | skip => intro s r e; simpa [code] using e
  | reg os =>
    intro s r e
    rw [code] at e ⊢
    split at e
    · rename_i s1 h1
      rw [ops_mono h _ _ _ _ _ h1]
      exact e
    · cases e
  | seq a b iha ihb =>
    intro s r e
    rw [code] at e ⊢
    cases ha : code L.p L.i L.a a s with
    | none => rw [ha] at e; cases e
    | some x =>
      rw [ha] at e
      rw [iha _ _ ha]
      obtain ⟨ex, s1⟩ := x
      cases ex with
      | norm => exact ihb _ _ e
      | exit id => exact e
      | ret => exact e
  | cond c a b iha ihb =>
    intro s r e
    rw [code] at e ⊢
    cases hv : ev s.t.get c with
    | none => rw [hv] at e; cases e
    | some v =>
      rw [hv] at e
      cases v with
      | bool x => cases x with
        | true => exact iha _ _ e
        | false => exact ihb _ _ e
      | _ => cases e
  | block id a iha =>
    intro s r e
    rw [code] at e ⊢
    cases ha : code L.p L.i L.a a s with
    | none => rw [ha] at e; cases e
    | some x => rw [ha] at e; rw [iha _ _ ha]; exact e
  | loop a iha =>
    intro s r e
    rw [code] at e ⊢
    cases ha : code L.p L.i L.a a s with
    | none => rw [ha] at e; cases e
    | some x =>
      rw [ha] at e
      rw [iha _ _ ha]
      obtain ⟨ex, s1⟩ := x
      cases ex with
      | norm => exact h.a _ _ _ e
      | exit id => exact e
      | ret => exact e
  | exit id => intro s r e; simpa [code] using e
  | ret => intro s r e; simpa [code] using e

variable (prim : Nat → List AV → Option AV) (F : Tr FnI)

theorem lv_succ : ∀ f, LvLe (lv prim F f) (lv prim F (f + 1)) := by
  intro f
  induction f with
  | zero => exact ⟨fun _ _ _ h => (by cases h), fun _ _ _ _ h => (by cases h), fun _ _ _ h => (by cases h)⟩
  | succ f ih =>
    have hc := code_monoL ih
    refine ⟨fun g a r e => ?_, fun g a h r e => ?_, fun c s r e => hc c s r e⟩
    · rw [lv] at e ⊢
      simp only at e ⊢
      cases h1 : F.get g with
      | none => rw [h1] at e; simpa only [h1] using e
      | some fn =>
        rw [h1] at e
        simp only at e ⊢
        cases hl : Nat.beq a.length fn.np with
        | false => rw [hl] at e; cases e
        | true =>
          rw [hl] at e
          simp only [cond_true] at e ⊢
          cases hb : code (lv prim F f).p (lv prim F f).i (lv prim F f).a fn.body ⟨Tr.ofL a 0 .lf, E0⟩ with
          | none => rw [hb] at e; cases e
          | some x => rw [hb] at e; rw [hc _ _ _ hb]; exact e
    · rw [lv] at e ⊢
      simp only at e ⊢
      cases h1 : F.get g with
      | none => rw [h1] at e; cases e
      | some fn =>
        rw [h1] at e
        simp only at e ⊢
        cases hl : Nat.beq a.length fn.np with
        | false => rw [hl] at e; cases e
        | true =>
          rw [hl] at e
          simp only [cond_true] at e ⊢
          cases hb : code (lv prim F f).p (lv prim F f).i (lv prim F f).a fn.body ⟨Tr.ofL a 0 .lf, h⟩ with
          | none => rw [hb] at e; cases e
          | some x => rw [hb] at e; rw [hc _ _ _ hb]; exact e

theorem lv_le {f g : Nat} (h : f ≤ g) : LvLe (lv prim F f) (lv prim F g) := by
  induction h with
  | refl => exact .refl _
  | step _ ih => exact ih.trans (lv_succ prim F _)

open Classical in
/-- What some level tells. -/
noncomputable def om : Lv :=
  ⟨fun g a => if h : ∃ f r, (lv prim F f).p g a = some r then some (Classical.choose (Classical.choose_spec h)) else none,
   fun g a w => if h : ∃ f r, (lv prim F f).i g a w = some r then some (Classical.choose (Classical.choose_spec h)) else none,
   fun c s => if h : ∃ f r, (lv prim F f).a c s = some r then some (Classical.choose (Classical.choose_spec h)) else none⟩

theorem om_p_iff {g : Nat} {a : List AV} {r : AV} : (om prim F).p g a = some r ↔ ∃ f, (lv prim F f).p g a = some r := by
  constructor
  · intro h
    simp only [om] at h
    split at h
    · rename_i hx; cases h; exact ⟨_, Classical.choose_spec (Classical.choose_spec hx)⟩
    · cases h
  · rintro ⟨f, hf⟩
    have hx : ∃ f r, (lv prim F f).p g a = some r := ⟨f, r, hf⟩
    simp only [om, dif_pos hx, Option.some.injEq]
    have h1 := Classical.choose_spec (Classical.choose_spec hx)
    have a1 := (lv_le prim F (Nat.le_max_left f (Classical.choose hx))).p _ _ _ hf
    have a2 := (lv_le prim F (Nat.le_max_right f (Classical.choose hx))).p _ _ _ h1
    rw [a1] at a2; exact (Option.some.inj a2).symm
theorem om_i_iff {g : Nat} {a : List AV} {w : AH} {r : AV × AH} : (om prim F).i g a w = some r ↔ ∃ f, (lv prim F f).i g a w = some r := by
  constructor
  · intro h
    simp only [om] at h
    split at h
    · rename_i hx; cases h; exact ⟨_, Classical.choose_spec (Classical.choose_spec hx)⟩
    · cases h
  · rintro ⟨f, hf⟩
    have hx : ∃ f r, (lv prim F f).i g a w = some r := ⟨f, r, hf⟩
    simp only [om, dif_pos hx, Option.some.injEq]
    have h1 := Classical.choose_spec (Classical.choose_spec hx)
    have a1 := (lv_le prim F (Nat.le_max_left f (Classical.choose hx))).i _ _ _ _ hf
    have a2 := (lv_le prim F (Nat.le_max_right f (Classical.choose hx))).i _ _ _ _ h1
    rw [a1] at a2; exact (Option.some.inj a2).symm
theorem om_a_iff {c : C} {s : St} {r : Ex × St} : (om prim F).a c s = some r ↔ ∃ f, (lv prim F f).a c s = some r := by
  constructor
  · intro h
    simp only [om] at h
    split at h
    · rename_i hx; cases h; exact ⟨_, Classical.choose_spec (Classical.choose_spec hx)⟩
    · cases h
  · rintro ⟨f, hf⟩
    have hx : ∃ f r, (lv prim F f).a c s = some r := ⟨f, r, hf⟩
    simp only [om, dif_pos hx, Option.some.injEq]
    have h1 := Classical.choose_spec (Classical.choose_spec hx)
    have a1 := (lv_le prim F (Nat.le_max_left f (Classical.choose hx))).a _ _ _ hf
    have a2 := (lv_le prim F (Nat.le_max_right f (Classical.choose hx))).a _ _ _ h1
    rw [a1] at a2; exact (Option.some.inj a2).symm

theorem lv_om (f : Nat) : LvLe (lv prim F f) (om prim F) :=
  ⟨fun _ _ _ h => (om_p_iff prim F).2 ⟨f, h⟩, fun _ _ _ _ h => (om_i_iff prim F).2 ⟨f, h⟩, fun _ _ _ h => (om_a_iff prim F).2 ⟨f, h⟩⟩

/-! ### whatever `om` tells, a level tells -/
theorem qop_cts (V : View) (t : Nat → Option AV) (i : I) (q : QR) (e : qop (om prim F).p V t i = some q) : ∃ f, qop (lv prim F f).p V t i = some q := by
  cases i with
  | call b f xs =>
    rw [q_call] at e
    obtain ⟨g, caps, args, r, v, h1, h2, h3, h4⟩ := callQ_inv e
    obtain ⟨n, hn⟩ := (om_p_iff prim F).1 h4
    refine ⟨n, ?_⟩
    rw [q_call]
    rw [h1, h2] at e ⊢
    simp only [callQ, h3, callR, h4, hn] at e ⊢
    exact e
  | _ => exact ⟨0, e⟩

theorem wop_cts (w : AH) (t : Nat → Option AV) (i : I) (q : AV × AH) (e : wop (om prim F).i w t i = some q) : ∃ f, wop (lv prim F f).i w t i = some q := by
  cases i with
  | call b f xs =>
    cases b with
    | true => exact ⟨0, e⟩
    | false =>
      rw [w_call] at e
      obtain ⟨g, caps, args, h1, h2, h3⟩ := callW_inv e
      obtain ⟨n, hn⟩ := (om_i_iff prim F).1 h3
      refine ⟨n, ?_⟩
      rw [w_call, h1, h2]
      exact hn
  | _ => exact ⟨0, e⟩

theorem op1_cts (n0 : Nat) (o : OpI) (s s' : St) (e : op1 (om prim F).p (om prim F).i n0 o s = some s') : ∃ f, op1 (lv prim F f).p (lv prim F f).i n0 o s = some s' := by
  unfold op1 at e ⊢
  cases hw : isW o.i with
  | true =>
    simp only [hw, cond_true] at e ⊢
    split at e
    · rename_i r h1
      obtain ⟨f, hf⟩ := wop_cts prim F _ _ _ _ h1
      exact ⟨f, by rw [hf]; exact e⟩
    · cases e
  | false =>
    simp only [hw, cond_false] at e ⊢
    split at e
    · rename_i r h1
      obtain ⟨f, hf⟩ := qop_cts prim F _ _ _ _ h1
      exact ⟨f, by rw [hf]; exact e⟩
    · cases e

theorem ops_cts (n0 : Nat) : ∀ (os : List OpI) (sf : List Nat) (s s' : St), ops (om prim F).p (om prim F).i n0 sf os s = some s' → ∃ f, ops (lv prim F f).p (lv prim F f).i n0 sf os s = some s' := by
  intro os
  induction os with
  | nil => intro sf s s' e; exact ⟨0, by simpa [ops] using e⟩
  | cons o r ih =>
    intro sf s s' e
    rw [ops] at e
    cases hw : wantI s.t.get o with
    | none => simp [hw] at e
    | some b =>
      cases b with
      | false =>
        simp only [hw] at e
        obtain ⟨f, hf⟩ := ih _ _ _ e
        exact ⟨f, by rw [ops]; simp only [hw]; exact hf⟩
      | true =>
        simp only [hw] at e
        cases hc : ((!(isW o.i) || sf.all (spares s.h s.t.get o.i)) && (softOf s.t.get o).all (fun id => Nat.blt id n0)) with
        | false => simp only [hc, cond_false] at e; cases e
        | true =>
          simp only [hc, cond_true] at e
          split at e
          · rename_i s1 h1
            obtain ⟨f, hf⟩ := op1_cts prim F _ _ _ _ h1
            obtain ⟨f', hf'⟩ := ih _ _ _ e
            refine ⟨max f f', ?_⟩
            rw [ops]
            simp only [hw, hc, cond_true, op1_mono (lv_le prim F (Nat.le_max_left f f')) _ _ _ _ hf]
            exact ops_mono (lv_le prim F (Nat.le_max_right f f')) _ _ _ _ _ hf'
          · cases e

theorem code_cts : ∀ (c : C) (s : St) (r : Ex × St), code (om prim F).p (om prim F).i (om prim F).a c s = some r → ∃ f, code (lv prim F f).p (lv prim F f).i (lv prim F f).a c s = some r := by
  intro c
  induction c with
  | skip => intro s r e; exact ⟨0, by simpa [code] using e⟩
  | reg os =>
    intro s r e
    rw [code] at e
    split at e
    · rename_i s1 h1
      obtain ⟨f, hf⟩ := ops_cts prim F _ _ _ _ _ h1
      exact ⟨f, by rw [code, hf]; exact e⟩
    · cases e
  | seq a b iha ihb =>
    intro s r e
    rw [code] at e
    cases ha : code (om prim F).p (om prim F).i (om prim F).a a s with
    | none => rw [ha] at e; cases e
    | some x =>
      rw [ha] at e
      obtain ⟨f, hf⟩ := iha _ _ ha
      obtain ⟨ex, s1⟩ := x
      cases ex with
      | norm =>
        obtain ⟨f', hf'⟩ := ihb _ _ e
        refine ⟨max f f', ?_⟩
        rw [code, code_monoL (lv_le prim F (Nat.le_max_left f f')) _ _ _ hf]
        exact code_monoL (lv_le prim F (Nat.le_max_right f f')) _ _ _ hf'
      | exit id => exact ⟨f, by rw [code, hf]; exact e⟩
      | ret => exact ⟨f, by rw [code, hf]; exact e⟩
  | cond c a b iha ihb =>
    intro s r e
    rw [code] at e
    cases hv : ev s.t.get c with
    | none => rw [hv] at e; cases e
    | some v =>
      rw [hv] at e
      cases v with
      | bool x => cases x with
        | true => obtain ⟨f, hf⟩ := iha _ _ e; exact ⟨f, by rw [code, hv]; exact hf⟩
        | false => obtain ⟨f, hf⟩ := ihb _ _ e; exact ⟨f, by rw [code, hv]; exact hf⟩
      | _ => cases e
  | block id a iha =>
    intro s r e
    rw [code] at e
    cases ha : code (om prim F).p (om prim F).i (om prim F).a a s with
    | none => rw [ha] at e; cases e
    | some x =>
      rw [ha] at e
      obtain ⟨f, hf⟩ := iha _ _ ha
      exact ⟨f, by rw [code, hf]; exact e⟩
  | loop a iha =>
    intro s r e
    rw [code] at e
    cases ha : code (om prim F).p (om prim F).i (om prim F).a a s with
    | none => rw [ha] at e; cases e
    | some x =>
      rw [ha] at e
      obtain ⟨f, hf⟩ := iha _ _ ha
      obtain ⟨ex, s1⟩ := x
      cases ex with
      | norm =>
        obtain ⟨f', hf'⟩ := (om_a_iff prim F).1 e
        refine ⟨max f f', ?_⟩
        rw [code, code_monoL (lv_le prim F (Nat.le_max_left f f')) _ _ _ hf]
        exact (lv_le prim F (Nat.le_max_right f f')).a _ _ _ hf'
      | exit id => exact ⟨f, by rw [code, hf]; exact e⟩
      | ret => exact ⟨f, by rw [code, hf]; exact e⟩
  | exit id => intro s r e; exact ⟨0, by simpa [code] using e⟩
  | ret => intro s r e; exact ⟨0, by simpa [code] using e⟩

/-- `om`'s code is the evaluator's code over `om`. -/
theorem om_a (c : C) (s : St) : (om prim F).a c s = code (om prim F).p (om prim F).i (om prim F).a c s := by
  apply Option.ext
  intro r
  constructor
  · intro h
    obtain ⟨f, hf⟩ := (om_a_iff prim F).1 h
    cases f with
    | zero => cases hf
    | succ f => exact code_monoL (lv_om prim F f) _ _ _ hf
  · intro h
    obtain ⟨f, hf⟩ := code_cts prim F _ _ _ h
    exact (om_a_iff prim F).2 ⟨f + 1, hf⟩

/-- A call. -/
theorem om_p {g : Nat} {fn : FnI} (hg : F.get g = some fn) (args : List AV) (hl : args.length = fn.np) :
    (om prim F).p g args = match endOf fn ((om prim F).a fn.body ⟨Tr.ofL args 0 .lf, E0⟩) with | some r => export1 r | none => none := by
  apply Option.ext
  intro r
  have hb : Nat.beq args.length fn.np = true := by rw [hl]; exact Nat.beq_refl _
  constructor
  · intro h
    obtain ⟨f, hf⟩ := (om_p_iff prim F).1 h
    cases f with
    | zero => cases hf
    | succ f =>
      rw [lv] at hf
      simp only [hg, hb, cond_true] at hf
      cases hc : code (lv prim F f).p (lv prim F f).i (lv prim F f).a fn.body ⟨Tr.ofL args 0 .lf, E0⟩ with
      | none => rw [hc] at hf; cases hf
      | some x =>
        rw [hc] at hf
        rw [om_a, code_monoL (lv_om prim F f) _ _ _ hc]
        exact hf
  · intro h
    cases hc : (om prim F).a fn.body ⟨Tr.ofL args 0 .lf, E0⟩ with
    | none => rw [hc] at h; cases h
    | some x =>
      rw [hc] at h
      obtain ⟨f, hf⟩ := (om_a_iff prim F).1 hc
      cases f with
      | zero => cases hf
      | succ f =>
        refine (om_p_iff prim F).2 ⟨f + 1, ?_⟩
        rw [lv]
        simp only [hg, hb, cond_true]
        have : code (lv prim F f).p (lv prim F f).i (lv prim F f).a fn.body ⟨Tr.ofL args 0 .lf, E0⟩ = some x := hf
        rw [this]
        exact h

theorem om_i {g : Nat} {fn : FnI} (hg : F.get g = some fn) (args : List AV) (w : AH) (hl : args.length = fn.np) :
    (om prim F).i g args w = endOf fn ((om prim F).a fn.body ⟨Tr.ofL args 0 .lf, w⟩) := by
  apply Option.ext
  intro r
  have hb : Nat.beq args.length fn.np = true := by rw [hl]; exact Nat.beq_refl _
  constructor
  · intro h
    obtain ⟨f, hf⟩ := (om_i_iff prim F).1 h
    cases f with
    | zero => cases hf
    | succ f =>
      rw [lv] at hf
      simp only [hg, hb, cond_true] at hf
      cases hc : code (lv prim F f).p (lv prim F f).i (lv prim F f).a fn.body ⟨Tr.ofL args 0 .lf, w⟩ with
      | none => rw [hc] at hf; cases hf
      | some x =>
        rw [hc] at hf
        rw [om_a, code_monoL (lv_om prim F f) _ _ _ hc]
        exact hf
  · intro h
    cases hc : (om prim F).a fn.body ⟨Tr.ofL args 0 .lf, w⟩ with
    | none => rw [hc] at h; cases h
    | some x =>
      rw [hc] at h
      obtain ⟨f, hf⟩ := (om_a_iff prim F).1 hc
      cases f with
      | zero => cases hf
      | succ f =>
        refine (om_i_iff prim F).2 ⟨f + 1, ?_⟩
        rw [lv]
        simp only [hg, hb, cond_true]
        have : code (lv prim F f).p (lv prim F f).i (lv prim F f).a fn.body ⟨Tr.ofL args 0 .lf, w⟩ = some x := hf
        rw [this]
        exact h

theorem om_prim {g : Nat} (hg : F.get g = none) (args : List AV) : (om prim F).p g args = prim g args := by
  apply Option.ext
  intro r
  constructor
  · intro h
    obtain ⟨f, hf⟩ := (om_p_iff prim F).1 h
    cases f with
    | zero => cases hf
    | succ f => rw [lv] at hf; simpa only [hg] using hf
  · intro h
    exact (om_p_iff prim F).2 ⟨1, by rw [lv]; simpa only [hg] using h⟩
end Go.Ab
namespace Go.Ab

/-! ### statements -/
variable {prim : Nat → List AV → Option AV} {F : Tr FnI}

noncomputable def thn (prim : Nat → List AV → Option AV) (F : Tr FnI) (r : Option (Ex × St)) (b : C) : Option (Ex × St) := match r with
  | some (.norm, s) => (om prim F).a b s
  | r => r
def blk (id : Nat) (r : Option (Ex × St)) : Option (Ex × St) := match r with
  | some (.exit id', s') => if id' = id then some (.norm, s') else some (.exit id', s')
  | r => r
noncomputable def cnd (prim : Nat → List AV → Option AV) (F : Tr FnI) (v : Option AV) (a b : C) (s : St) : Option (Ex × St) := match v with
  | some (.bool true) => (om prim F).a a s
  | some (.bool false) => (om prim F).a b s
  | _ => none
def rg (r : Option St) : Option (Ex × St) := match r with
  | some s => some (.norm, s)
  | none => none

theorem a_skip (s : St) : (om prim F).a .skip s = some (.norm, s) := by rw [om_a, code]
theorem a_exit (id : Nat) (s : St) : (om prim F).a (.exit id) s = some (.exit id, s) := by rw [om_a, code]
theorem a_ret (s : St) : (om prim F).a .ret s = some (.ret, s) := by rw [om_a, code]
theorem a_seq (a b : C) (s : St) : (om prim F).a (.seq a b) s = thn prim F ((om prim F).a a s) b := by
  rw [om_a, code, ← om_a]
  cases h : (om prim F).a a s with
  | none => rfl
  | some x => obtain ⟨e, s'⟩ := x; cases e <;> simp only [thn]; rw [← om_a]
theorem a_block (id : Nat) (a : C) (s : St) : (om prim F).a (.block id a) s = blk id ((om prim F).a a s) := by
  rw [om_a, code, ← om_a]
  cases h : (om prim F).a a s with
  | none => rfl
  | some x =>
    obtain ⟨e, s'⟩ := x
    cases e with
    | exit i =>
      simp only [blk]
      by_cases hi : i = id
      · subst hi; simp
      · have : Nat.beq i id = false := by rw [Bool.eq_false_iff]; intro hb; exact hi (Nat.eq_of_beq_eq_true hb)
        simp [hi, this]
    | _ => rfl
theorem a_cond (c : Opd) (a b : C) (s : St) : (om prim F).a (.cond c a b) s = cnd prim F (ev s.t.get c) a b s := by
  rw [om_a, code]
  cases h : ev s.t.get c with
  | none => rfl
  | some v => cases v with
    | bool x => cases x <;> simp only [cnd] <;> rw [← om_a]
    | _ => rfl
theorem a_reg (os : List OpI) (s : St) : (om prim F).a (.reg os) s = rg (ops (om prim F).p (om prim F).i s.h.next [] os s) := by
  rw [om_a, code]; rfl
/-- One round of a loop. -/
noncomputable def lps (prim : Nat → List AV → Option AV) (F : Tr FnI) (r : Option (Ex × St)) (a : C) : Option (Ex × St) := match r with
  | some (.norm, s) => (om prim F).a (.loop a) s
  | r => r
theorem a_loop (a : C) (s : St) : (om prim F).a (.loop a) s = lps prim F ((om prim F).a a s) a := by
  rw [om_a, code, ← om_a]
  cases h : (om prim F).a a s with
  | none => rfl
  | some x => obtain ⟨e, s'⟩ := x; cases e <;> rfl

theorem thn_norm (s : St) (b : C) : thn prim F (some (.norm, s)) b = (om prim F).a b s := rfl
theorem thn_exit (i : Nat) (s : St) (b : C) : thn prim F (some (.exit i, s)) b = some (.exit i, s) := rfl
theorem thn_ret (s : St) (b : C) : thn prim F (some (.ret, s)) b = some (.ret, s) := rfl
theorem thn_ite (p : Prop) [Decidable p] (x y : Option (Ex × St)) (b : C) : thn prim F (if p then x else y) b = if p then thn prim F x b else thn prim F y b := by split <;> rfl
theorem lps_norm (s : St) (b : C) : lps prim F (some (.norm, s)) b = (om prim F).a (.loop b) s := rfl
theorem lps_exit (i : Nat) (s : St) (b : C) : lps prim F (some (.exit i, s)) b = some (.exit i, s) := rfl
theorem lps_ret (s : St) (b : C) : lps prim F (some (.ret, s)) b = some (.ret, s) := rfl
theorem lps_ite (p : Prop) [Decidable p] (x y : Option (Ex × St)) (b : C) : lps prim F (if p then x else y) b = if p then lps prim F x b else lps prim F y b := by split <;> rfl
theorem blk_norm (i : Nat) (s : St) : blk i (some (.norm, s)) = some (.norm, s) := rfl
theorem blk_ret (i : Nat) (s : St) : blk i (some (.ret, s)) = some (.ret, s) := rfl
theorem blk_exit (i j : Nat) (s : St) : blk i (some (.exit j, s)) = if j = i then some (.norm, s) else some (.exit j, s) := rfl
theorem blk_ite (i : Nat) (p : Prop) [Decidable p] (x y : Option (Ex × St)) : blk i (if p then x else y) = if p then blk i x else blk i y := by split <;> rfl
theorem rg_some (s : St) : rg (some s) = some (.norm, s) := rfl
theorem rg_ite (p : Prop) [Decidable p] (x y : Option St) : rg (if p then x else y) = if p then rg x else rg y := by split <;> rfl
theorem cnd_bool (x : Bool) (a b : C) (s : St) : cnd prim F (some (.bool x)) a b s = if x = true then (om prim F).a a s else (om prim F).a b s := by cases x <;> rfl
theorem cnd_true (a b : C) (s : St) : cnd prim F (some (.bool true)) a b s = (om prim F).a a s := rfl
theorem cnd_false (a b : C) (s : St) : cnd prim F (some (.bool false)) a b s = (om prim F).a b s := rfl

/-! ### places -/
theorem get_set {t : Tr AV} {n m : Nat} {x : AV} (h : n < 65535) : (t.set n x).get m = if n = m then some x else t.get m := Tr.get_set t n m x h

/-! ### operations of a statement -/
def stepQ (P : CallP) (J : CallI) (n0 : Nat) (sf : List Nat) (fl : Nat) (d : Option Nat) (r : List OpI) (t : Tr AV) (h : AH) (q : Option QR) : Option St := match q with
  | some q => bif q.sl.isEmpty then ops P J n0 sf r ⟨putD t d q.v, h.add q.os q.used⟩
      else bif Nat.beq fl 0 then ops P J n0 sf r ⟨putD t d q.v, (h.add q.os q.used).sealC q.sl⟩ else none
  | none => none
def stepW (P : CallP) (J : CallI) (n0 : Nat) (d : Option Nat) (r : List OpI) (t : Tr AV) (q : Option (AV × AH)) : Option St := match q with
  | some q => ops P J n0 [] r ⟨putD t d q.1, q.2⟩
  | none => none

theorem ops_nil {P : CallP} {J : CallI} {n0 : Nat} {sf : List Nat} {s : St} : ops P J n0 sf [] s = some s := by rw [ops]

def isLdI : I → Bool
  | .ld _ _ _ => true
  | _ => false
theorem soft_not {g : Nat → Option AV} {d : Option Nat} {q : Option (Nat × Bool)} {fl : Nat} {i : I} (h : isLdI i = false) : softOf g ⟨d, q, fl, i⟩ = [] := by
  simp only [softOf]
  cases Nat.beq fl 3 with
  | false => rfl
  | true => cases i <;> first | rfl | (simp [isLdI] at h)
theorem ops_q {P : CallP} {J : CallI} {n0 : Nat} {sf : List Nat} {fl : Nat} {d : Option Nat} {i : I} {r : List OpI} {t : Tr AV} {h : AH} (hi : isW i = false) (hsf : ∀ g : Nat → Option AV, softOf g ⟨d, none, fl, i⟩ = []) :
    ops P J n0 sf (⟨d, none, fl, i⟩ :: r) ⟨t, h⟩ = stepQ P J n0 sf fl d r t h (qop P (if fl = 2 then h.viewOld n0 else h.view) t.get i) := by
  rw [ops]
  have hv : (bif Nat.beq fl 2 then h.viewOld n0 else h.view) = (if fl = 2 then h.viewOld n0 else h.view) := by
    by_cases e : fl = 2
    · subst e; rfl
    · have : Nat.beq fl 2 = false := by rw [Bool.eq_false_iff]; intro hb; exact e (Nat.eq_of_beq_eq_true hb)
      simp [e, this]
  simp only [wantI, hi, Bool.not_false, Bool.true_or, hsf, List.all_nil, Bool.and_true, cond_true, List.nil_append, op1, cond_false, hv]
  cases qop P (if fl = 2 then h.viewOld n0 else h.view) t.get i with
  | none => rfl
  | some q =>
    simp only [stepQ]
    cases q.sl.isEmpty with
    | true => rfl
    | false => cases Nat.beq fl 0 <;> rfl

theorem ops_w {P : CallP} {J : CallI} {n0 : Nat} {d : Option Nat} {i : I} {r : List OpI} {fl : Nat} {t : Tr AV} {h : AH} (hi : isW i = true) :
    ops P J n0 [] (⟨d, none, fl, i⟩ :: r) ⟨t, h⟩ = stepW P J n0 d r t (wop J h t.get i) := by
  rw [ops]
  have hsf : ∀ (g : Nat → Option AV), softOf g ⟨d, none, fl, i⟩ = [] := by
    intro g
    simp only [softOf]
    cases Nat.beq fl 3 with
    | false => rfl
    | true => cases i <;> first | rfl | (simp [isW] at hi)
  simp only [wantI, hi, List.all_nil, Bool.or_true, hsf, Bool.and_true, cond_true, List.nil_append, op1]
  cases wop J h t.get i with
  | none => rfl
  | some q => rfl

/-- A guarded operation. -/
def stepG (P : CallP) (J : CallI) (n0 : Nat) (sf : List Nat) (g : Option AV) (b : Bool) (d : Option Nat) (fl : Nat) (i : I) (r : List OpI) (t : Tr AV) (h : AH) : Option St := match g with
  | some (.bool x) => if x = b then ops P J n0 sf (⟨d, none, fl, i⟩ :: r) ⟨t, h⟩ else ops P J n0 sf r ⟨putD t d .skip, h⟩
  | some .skip => ops P J n0 sf r ⟨putD t d .skip, h⟩
  | _ => none
theorem ops_g {P : CallP} {J : CallI} {n0 : Nat} {sf : List Nat} {g : Nat} {b : Bool} {fl : Nat} {d : Option Nat} {i : I} {r : List OpI} {t : Tr AV} {h : AH} :
    ops P J n0 sf (⟨d, some (g, b), fl, i⟩ :: r) ⟨t, h⟩ = stepG P J n0 sf (t.get g) b d fl i r t h := by
  have hs : ∀ (z : Nat → Option AV), softOf z ⟨d, some (g, b), fl, i⟩ = softOf z ⟨d, none, fl, i⟩ := fun _ => rfl
  have ho : ∀ s : St, op1 P J n0 ⟨d, some (g, b), fl, i⟩ s = op1 P J n0 ⟨d, none, fl, i⟩ s := fun _ => rfl
  rw [ops]
  simp only [wantI]
  cases hg : t.get g with
  | none => rfl
  | some v => cases v with
    | bool x =>
      simp only [stepG]
      by_cases e : x = b
      · subst e
        simp only [beq_self_eq_true, if_true]
        conv => rhs; rw [ops]
        simp only [wantI, hs, ho]
      · have : (x == b) = false := by simp [e]
        simp only [this, e, if_false]
    | _ => rfl

theorem stepQ_quiet {P : CallP} {J : CallI} {n0 : Nat} {sf : List Nat} {fl : Nat} {d : Nat} {r : List OpI} {t : Tr AV} {h : AH} {v : AV} :
    stepQ P J n0 sf fl (some d) r t h (some ⟨v, [], none, []⟩) = ops P J n0 sf r ⟨t.set d v, h⟩ := by
  have : h.add [] none = h := by simp [AH.add, number]
  simp [stepQ, putD, this]
theorem stepQ_makes {P : CallP} {J : CallI} {n0 : Nat} {sf : List Nat} {fl : Nat} {d : Nat} {r : List OpI} {t : Tr AV} {h : AH} {v : AV} {o : AObj} {os : List AObj} {u : Option Nat} :
    stepQ P J n0 sf fl (some d) r t h (some ⟨v, o :: os, u, []⟩) = ops P J n0 sf r ⟨t.set d v, h.add (o :: os) u⟩ := by
  simp [stepQ, putD]
theorem stepQ_seal {P : CallP} {J : CallI} {n0 : Nat} {sf : List Nat} {d : Nat} {r : List OpI} {t : Tr AV} {h : AH} {v : AV} {os : List AObj} {u : Option Nat} {c : Nat} {cs : List Nat} :
    stepQ P J n0 sf 0 (some d) r t h (some ⟨v, os, u, c :: cs⟩) = ops P J n0 sf r ⟨t.set d v, (h.add os u).sealC (c :: cs)⟩ := by
  simp [stepQ, putD]
theorem stepW_some {P : CallP} {J : CallI} {n0 : Nat} {d : Nat} {r : List OpI} {t : Tr AV} {v : AV} {h : AH} : stepW P J n0 (some d) r t (some (v, h)) = ops P J n0 [] r ⟨t.set d v, h⟩ := rfl
theorem stepW_none {P : CallP} {J : CallI} {n0 : Nat} {r : List OpI} {t : Tr AV} {v : AV} {h : AH} : stepW P J n0 none r t (some (v, h)) = ops P J n0 [] r ⟨t, h⟩ := rfl
theorem stepG_bool {P : CallP} {J : CallI} {n0 : Nat} {sf : List Nat} {x b : Bool} {fl : Nat} {d : Nat} {i : I} {r : List OpI} {t : Tr AV} {h : AH} :
    stepG P J n0 sf (some (.bool x)) b (some d) fl i r t h = if x = b then ops P J n0 sf (⟨some d, none, fl, i⟩ :: r) ⟨t, h⟩ else ops P J n0 sf r ⟨t.set d .skip, h⟩ := rfl
theorem stepG_boolN {P : CallP} {J : CallI} {n0 : Nat} {sf : List Nat} {x b : Bool} {fl : Nat} {i : I} {r : List OpI} {t : Tr AV} {h : AH} :
    stepG P J n0 sf (some (.bool x)) b none fl i r t h = if x = b then ops P J n0 sf (⟨none, none, fl, i⟩ :: r) ⟨t, h⟩ else ops P J n0 sf r ⟨t, h⟩ := rfl
theorem stepG_tt {P : CallP} {J : CallI} {n0 : Nat} {sf : List Nat} {fl : Nat} {d : Nat} {i : I} {r : List OpI} {t : Tr AV} {h : AH} :
    stepG P J n0 sf (some (.bool true)) true (some d) fl i r t h = ops P J n0 sf (⟨some d, none, fl, i⟩ :: r) ⟨t, h⟩ := rfl
theorem stepG_ttN {P : CallP} {J : CallI} {n0 : Nat} {sf : List Nat} {fl : Nat} {i : I} {r : List OpI} {t : Tr AV} {h : AH} :
    stepG P J n0 sf (some (.bool true)) true none fl i r t h = ops P J n0 sf (⟨none, none, fl, i⟩ :: r) ⟨t, h⟩ := rfl
theorem stepG_tf {P : CallP} {J : CallI} {n0 : Nat} {sf : List Nat} {fl : Nat} {d : Nat} {i : I} {r : List OpI} {t : Tr AV} {h : AH} :
    stepG P J n0 sf (some (.bool true)) false (some d) fl i r t h = ops P J n0 sf r ⟨t.set d .skip, h⟩ := rfl
theorem stepG_tfN {P : CallP} {J : CallI} {n0 : Nat} {sf : List Nat} {fl : Nat} {i : I} {r : List OpI} {t : Tr AV} {h : AH} :
    stepG P J n0 sf (some (.bool true)) false none fl i r t h = ops P J n0 sf r ⟨t, h⟩ := rfl
theorem stepG_ft {P : CallP} {J : CallI} {n0 : Nat} {sf : List Nat} {fl : Nat} {d : Nat} {i : I} {r : List OpI} {t : Tr AV} {h : AH} :
    stepG P J n0 sf (some (.bool false)) true (some d) fl i r t h = ops P J n0 sf r ⟨t.set d .skip, h⟩ := rfl
theorem stepG_ftN {P : CallP} {J : CallI} {n0 : Nat} {sf : List Nat} {fl : Nat} {i : I} {r : List OpI} {t : Tr AV} {h : AH} :
    stepG P J n0 sf (some (.bool false)) true none fl i r t h = ops P J n0 sf r ⟨t, h⟩ := rfl
theorem stepG_ff {P : CallP} {J : CallI} {n0 : Nat} {sf : List Nat} {fl : Nat} {d : Nat} {i : I} {r : List OpI} {t : Tr AV} {h : AH} :
    stepG P J n0 sf (some (.bool false)) false (some d) fl i r t h = ops P J n0 sf (⟨some d, none, fl, i⟩ :: r) ⟨t, h⟩ := rfl
theorem stepG_ffN {P : CallP} {J : CallI} {n0 : Nat} {sf : List Nat} {fl : Nat} {i : I} {r : List OpI} {t : Tr AV} {h : AH} :
    stepG P J n0 sf (some (.bool false)) false none fl i r t h = ops P J n0 sf (⟨none, none, fl, i⟩ :: r) ⟨t, h⟩ := rfl
theorem stepG_split {P : CallP} {J : CallI} {n0 : Nat} {sf : List Nat} {x b : Bool} {fl : Nat} {d : Option Nat} {i : I} {r : List OpI} {t : Tr AV} {h : AH} :
    stepG P J n0 sf (some (.bool x)) b d fl i r t h = (match x with | true => stepG P J n0 sf (some (.bool true)) b d fl i r t h | false => stepG P J n0 sf (some (.bool false)) b d fl i r t h) := by cases x <;> rfl
theorem cnd_split {x : Bool} {a b : C} {s : St} : cnd prim F (some (.bool x)) a b s = (match x with | true => cnd prim F (some (.bool true)) a b s | false => cnd prim F (some (.bool false)) a b s) := by cases x <;> rfl
theorem stepG_skip {P : CallP} {J : CallI} {n0 : Nat} {sf : List Nat} {b : Bool} {fl : Nat} {d : Nat} {i : I} {r : List OpI} {t : Tr AV} {h : AH} :
    stepG P J n0 sf (some .skip) b (some d) fl i r t h = ops P J n0 sf r ⟨t.set d .skip, h⟩ := rfl
theorem stepG_skipN {P : CallP} {J : CallI} {n0 : Nat} {sf : List Nat} {b : Bool} {fl : Nat} {i : I} {r : List OpI} {t : Tr AV} {h : AH} :
    stepG P J n0 sf (some .skip) b none fl i r t h = ops P J n0 sf r ⟨t, h⟩ := rfl

theorem qv_s (v : AV) : qv (some v) = some ⟨v, [], none, []⟩ := rfl
theorem ev_t (t : Nat → Option AV) (n : Nat) : ev t (.t n) = t n := rfl
theorem ev_c (t : Nat → Option AV) (v : AV) : ev t (.c v) = some v := rfl

/-! ### whole numbers -/
theorem bin_add (k : IntKind) (a b : Int) : bin .add (.int k a) (.int k b) = some (.int k (k.wrap (a + b))) := by simp [bin, binI]
theorem bin_sub (k : IntKind) (a b : Int) : bin .sub (.int k a) (.int k b) = some (.int k (k.wrap (a - b))) := by simp [bin, binI]
theorem bin_mul (k : IntKind) (a b : Int) : bin .mul (.int k a) (.int k b) = some (.int k (k.wrap (a * b))) := by simp [bin, binI]
theorem bin_quo (k : IntKind) (a b : Int) (h : b ≠ 0) : bin .quo (.int k a) (.int k b) = some (.int k (k.wrap (a.tdiv b))) := by simp [bin, binI, h]
theorem bin_rem (k : IntKind) (a b : Int) (h : b ≠ 0) : bin .rem (.int k a) (.int k b) = some (.int k (a.tmod b)) := by simp [bin, binI, h]
theorem bin_lss (k : IntKind) (a b : Int) : bin .lss (.int k a) (.int k b) = some (.bool (decide (a < b))) := by simp [bin, binI]
theorem bin_leq (k : IntKind) (a b : Int) : bin .leq (.int k a) (.int k b) = some (.bool (decide (a ≤ b))) := by simp [bin, binI]
theorem bin_gtr (k : IntKind) (a b : Int) : bin .gtr (.int k a) (.int k b) = some (.bool (decide (b < a))) := by simp [bin, binI]
theorem bin_geq (k : IntKind) (a b : Int) : bin .geq (.int k a) (.int k b) = some (.bool (decide (b ≤ a))) := by simp [bin, binI]
theorem bin_eql (k : IntKind) (a b : Int) : bin .eql (.int k a) (.int k b) = some (.bool (decide (a = b))) := by simp [bin, binI]; rfl
theorem bin_neq (k : IntKind) (a b : Int) : bin .neq (.int k a) (.int k b) = some (.bool (decide (a ≠ b))) := by
  simp only [bin, binI, ne_eq, not_true_eq_false, if_false, Option.some.injEq, AV.bool.injEq]
  by_cases e : a = b <;> simp [e]
theorem wrap64_of {n : Int} (h : -9223372036854775808 ≤ n ∧ n ≤ 9223372036854775807) : IntKind.i64.wrap n = n := by
  exact IntWalk.i64_in n h
theorem idx_nat (k : IntKind) (i n : Nat) : idx (.int k (i : Int)) n = if i < n then some i else none := by
  simp only [idx]
  by_cases h : i < n
  · have : (0 : Int) ≤ i ∧ (i : Int) < n := by omega
    simp [h]
  · have : ¬ ((0 : Int) ≤ i ∧ (i : Int) < n) := by omega
    simp [h]

/-! ### the heap -/
theorem view_get (h : AH) : h.view.get = h.get := rfl
theorem view_next (h : AH) : h.view.next = h.next := rfl
theorem view_top (h : AH) (j : Nat) : h.view.top j = h.tops.contains j := rfl
theorem viewOld_next (h : AH) (n : Nat) : (h.viewOld n).next = h.next := rfl
theorem viewOld_get (h : AH) (n j : Nat) : (h.viewOld n).get j = if j < n then h.get j else none := by
  show (bif Nat.blt j n then h.get j else none) = _
  by_cases e : j < n
  · have : Nat.blt j n = true := by simpa [Nat.blt_eq] using e
    simp [e, this]
  · have : Nat.blt j n = false := by rw [Bool.eq_false_iff]; intro hb; exact e (by simpa [Nat.blt_eq] using hb)
    simp [e, this]
theorem viewOld_top (h : AH) (n j : Nat) : (h.viewOld n).top j = if j < n then h.tops.contains j else false := by
  show (bif Nat.blt j n then h.tops.contains j else false) = _
  by_cases e : j < n
  · have : Nat.blt j n = true := by simpa [Nat.blt_eq] using e
    simp [e, this]
  · have : Nat.blt j n = false := by rw [Bool.eq_false_iff]; intro hb; exact e (by simpa [Nat.blt_eq] using hb)
    simp [e, this]

/-- A store's heap. -/
def AH.put (h : AH) (id cls : Nat) (o : AObj) : AH := ⟨h.next, killO id cls (setO h.objs id o), h.tops⟩
/-- What a store into a class leaves of another row. -/
def kl (cls : Nat) (o : Option AObj) : Option AObj := match o with
  | some (.row k es c s) => if c = cls then none else some (.row k es c s)
  | o => o
theorem kl_row (cls k : Nat) (es : List (List AV)) (c : Nat) (s : Bool) : kl cls (some (.row k es c s)) = if c = cls then none else some (.row k es c s) := rfl
theorem kl_none (cls : Nat) : kl cls none = none := rfl
theorem kl_map (cls : Nat) (es : List (AV × AV)) : kl cls (some (.map es)) = some (.map es) := rfl

theorem add_next (h : AH) (os : List AObj) (u : Option Nat) : (h.add os u).next = h.next + os.length := rfl
theorem put_next (h : AH) (id cls : Nat) (o : AObj) : (h.put id cls o).next = h.next := rfl
theorem put_tops (h : AH) (id cls : Nat) (o : AObj) : (h.put id cls o).tops = h.tops := rfl
theorem seal_next (h : AH) (cl : List Nat) : (h.sealC cl).next = h.next := rfl
theorem add_row (h : AH) (k : Nat) (es : List (List AV)) (c : Nat) (s : Bool) (u : Option Nat) (j : Nat) : (h.add [.row k es c s] u).get j = if j = h.next then some (.row k es c s) else h.get j := by
  show alook ((h.next, AObj.row k es c s) :: h.objs) j = _
  rw [alook]
  by_cases e : j = h.next
  · subst e; simp
  · have : Nat.beq h.next j = false := by rw [Bool.eq_false_iff]; intro hb; exact e (Nat.eq_of_beq_eq_true hb).symm
    simp [e, this]; rfl
theorem add_map (h : AH) (es : List (AV × AV)) (u : Option Nat) (j : Nat) : (h.add [.map es] u).get j = if j = h.next then some (.map es) else h.get j := by
  show alook ((h.next, AObj.map es) :: h.objs) j = _
  rw [alook]
  by_cases e : j = h.next
  · subst e; simp
  · have : Nat.beq h.next j = false := by rw [Bool.eq_false_iff]; intro hb; exact e (Nat.eq_of_beq_eq_true hb).symm
    simp [e, this]; rfl
theorem add_top0 (h : AH) (o : AObj) (j : Nat) : ((h.add [o] none).tops.contains j) = (decide (j = h.next) || h.tops.contains j) := by
  simp [AH.add, List.range'_one]
theorem contains_dec (l : List Nat) (j : Nat) : l.contains j = decide (j ∈ l) := by
  cases h : l.contains j with
  | true => simp at h; simp [h]
  | false => simp at h; simp [h]
theorem beq_dec (a b : Nat) : Nat.beq a b = decide (a = b) := by
  by_cases h : a = b
  · subst h; simp
  · have : Nat.beq a b = false := by rw [Bool.eq_false_iff]; intro hb; exact h (Nat.eq_of_beq_eq_true hb)
    simp [h, this]
theorem add_top1 (h : AH) (o : AObj) (u j : Nat) : ((h.add [o] (some u)).tops.contains j) = (decide (j = h.next) || (decide (j ≠ u) && h.tops.contains j)) := by
  simp only [contains_dec, AH.add, List.length_cons, List.length_nil, Nat.zero_add, List.range'_one, List.singleton_append, List.mem_cons, List.mem_filter, beq_dec]
  by_cases h1 : j = h.next <;> by_cases h2 : j = u <;> by_cases h3 : j ∈ h.tops <;> simp [h1, h2, h3]
theorem put_get {h : AH} {id cls k : Nat} {es : List (List AV)} {c : Nat} {s : Bool} {j : Nat} (hx : (h.get id).isSome = true) :
    (h.put id cls (.row k es c s)).get j = if j = id then some (.row k es c s) else kl cls (h.get j) := by
  obtain ⟨x, hx⟩ := Option.isSome_iff_exists.1 hx
  show alook (killO id cls (setO h.objs id _)) j = _
  rw [alook_killO, alook_setO hx (by intro e; cases e)]
  by_cases e : j = id
  · simp [e]
  · simp only [e, if_false]
    show _ = kl cls (alook h.objs j)
    cases alook h.objs j with
    | none => rfl
    | some o => cases o with
      | row k es c s => rfl
      | _ => rfl
theorem put_map {h : AH} {id : Nat} {es : List (AV × AV)} {j : Nat} (hx : (h.get id).isSome = true) :
    AH.get ⟨h.next, setO h.objs id (.map es), h.tops⟩ j = if j = id then some (.map es) else h.get j := by
  obtain ⟨x, hx⟩ := Option.isSome_iff_exists.1 hx
  show alook (setO h.objs id _) j = _
  rw [alook_setO hx (by intro e; cases e)]
  rfl
end Go.Ab
namespace Go.Ab

section
variable (P : CallP) (V : View) (t : Nat → Option AV)
/-! ### each operation in terms of its operands' values -/
def pickQ (c a b : Option AV) : Option QR := match c with
  | some (.bool true) => qv a
  | some (.bool false) => qv b
  | _ => none
def boxQ (n k : Nat) : Option AV → Option QR
  | some v => let cs := avCells v; bif Nat.beq cs.length k && cs.all isOne then some ⟨.ptr n 0 0, [.row k [cs] n false], none, []⟩ else none
  | none => none
def buildQ (zero : List AV) (ps : Option (List (Nat × Nat × List AV))) : Option QR := match ps with
  | some ps => (match fillAll zero ps with | some cs => bif cs.all isOne then some ⟨.agg cs, [], none, []⟩ else none | none => none)
  | none => none
def mksQ (nx k n : Nat) (zero : List AV) (ps : Option (List (Nat × Nat × List AV))) : Option QR := match ps with
  | some ps => (match fillAll (List.replicate n zero).flatten ps with
    | some cs => bif cs.all isOne then some ⟨.own k nx 0 n, [.row k (chop k n cs) nx false], none, []⟩ else none
    | none => none)
  | none => none
def ldRow (agg : Bool) (k i j : Nat) : Option AObj → Option QR
  | some (.row _ es _ _) => (match es[i]? with | some cs => qv (cut agg k cs j) | none => none)
  | _ => none
def ldQ (g : Nat → Option AObj) (agg : Bool) (k : Nat) : Option AV → Option QR
  | some (.ref cs j) => qv (cut agg k cs j)
  | some (.ptr id i j) => ldRow agg k i j (g id)
  | _ => none
def binQ (op : BinOp) : Option AV → Option AV → Option QR
  | some a, some b => qv (bin op a b)
  | _, _ => none
def unQ (op : UnOp) : Option AV → Option QR
  | some a => qv (un op a)
  | none => none
def lenQ (g : Nat → Option AObj) (f : Nat) (v : Option AV) : Option QR := match v, f with
    | some (.str s), 0 => some ⟨.int .i64 s.length, [], none, []⟩
    | some .nils, 1 => some ⟨.int .i64 0, [], none, []⟩
    | some (.ro _ es), 1 => some ⟨.int .i64 es.length, [], none, []⟩
    | some (.own _ _ _ n), 1 => some ⟨.int .i64 n, [], none, []⟩
    | some .nilm, 2 => some ⟨.int .i64 0, [], none, []⟩
    | some (.map id), 2 => (match g id with | some (.map es) => some ⟨.int .i64 es.length, [], none, []⟩ | _ => none)
    | _, _ => none
def fldQ (off : Nat) : Option AV → Option QR
  | some (.ptr id i j) => some ⟨.ptr id i (j + off), [], none, []⟩
  | some (.ref cs j) => some ⟨.ref cs (j + off), [], none, []⟩
  | _ => none
def ixaR (k k' : Nat) (es : List (List AV)) : Option Nat → Option QR
  | some n => (match es[n]? with | some e => bif Nat.beq k k' then some ⟨.ref e 0, [], none, []⟩ else none | none => none)
  | none => none
def ixaQ (k : Nat) : Option AV → Option AV → Option QR
  | some (.ro k' es), some iv => ixaR k k' es (idx iv es.length)
  | some (.own k2 id b n), some iv => (match idx iv n with
      | some m => bif Nat.beq k2 k then some ⟨.ptr id (b + m) 0, [], none, []⟩ else none
      | none => none)
  | _, _ => none
def extQ (i : Nat) : Option AV → Option QR
  | some (.tup vs) => qv vs[i]?
  | _ => none


def appE : AV → Option QR
  | .nils => some ⟨.nils, [], none, []⟩
  | .ro k es => some ⟨.ro k es, [], none, []⟩
  | .own k id i n => some ⟨.own k id i n, [], none, []⟩
  | _ => none
def appO (V : View) (k bytes k2 id i n : Nat) (xs : List (List AV)) : Option AObj → Option QR
  | some (.row _ es cls sealed) => if k2 = k ∧ i + n = es.length ∧ V.top id = true ∧ sealed = false ∧ (n + xs.length) * bytes ≤ maxL then
      some ⟨.own k V.next 0 (n + xs.length), [.row k (es.drop i ++ xs) cls false], some id, []⟩ else none
  | _ => none
def appN (V : View) (k bytes : Nat) (xs : List (List AV)) : AV → Option QR
  | .nils => if xs.length * bytes ≤ maxL then some ⟨.own k V.next 0 xs.length, [.row k xs V.next false], none, []⟩ else none
  | .own k2 id i n => appO V k bytes k2 id i n xs (V.get id)
  | _ => none
def appR (V : View) (k bytes : Nat) (sv : AV) : Option (Nat × List (List AV)) → Option QR
  | some (_, []) => appE sv
  | some (k', x :: xs) => if k' = k then appN V k bytes (x :: xs) sv else none
  | none => none
def appQ (V : View) (k bytes : Nat) : Option AV → Option AV → Option QR
  | some sv, some xv => appR V k bytes sv (elems V.get xv)
  | _, _ => none
def mmQ (mx : Bool) : Option (List AV) → Option QR
  | some (v :: r) => qv (mm mx v r)
  | _ => none
def ixrQ (k n : Nat) : Option AV → Option AV → Option QR
  | some (.ptr id a j), some iv => (match idx iv n with | some m => some ⟨.ptr id a (j + m * k), [], none, []⟩ | none => none)
  | some (.ref cs j), some iv => (match idx iv n with | some m => some ⟨.ref cs (j + m * k), [], none, []⟩ | none => none)
  | _, _ => none
def convQ (k : IntKind) : Option AV → Option QR
  | some (.int _ n) => some ⟨.int k (k.wrap n), [], none, []⟩
  | _ => none
def convsQ : Option AV → Option QR
  | some (.str s) => some ⟨.str s, [], none, []⟩
  | _ => none
def nilcQ : Option AV → Option QR
  | some (.ptr id i j) => some ⟨.ptr id i j, [], none, []⟩
  | some (.ref cs j) => some ⟨.ref cs j, [], none, []⟩
  | _ => none
def ixsQ : Option AV → Option AV → Option QR
  | some (.str s), some iv => (match idx iv s.length with
      | some n => (match s[n]? with | some b => some ⟨.int .u8 b.toNat, [], none, []⟩ | none => none)
      | none => none)
  | _, _ => none
def ixgQ (agg : Bool) (k n : Nat) : Option AV → Option AV → Option QR
  | some (.agg cs), some iv => (match idx iv n with | some m => qv (cut agg k cs (m * k)) | none => none)
  | _, _ => none
def mkfQ (g : Nat) : Option (List AV) → Option QR
  | some vs => some ⟨.fn g vs, [], none, []⟩
  | none => none
def bbQ (neg : Bool) : Option AV → Option AV → Option QR
  | some (.bool a), some (.bool b) => some ⟨.bool (bif neg then !(a == b) else a == b), [], none, []⟩
  | _, _ => none
def nqQ (f : Nat) (neg : Bool) : Option AV → Option AV → Option QR
  | some a, some b => (match nilq f a b with | some r => some ⟨.bool (bif neg then !r else r), [], none, []⟩ | none => none)
  | _, _ => none
def eqsQ (neg : Bool) (ks : List SK) : Option AV → Option AV → Option QR
  | some (.agg a), some (.agg b) => (match eqK ks a b with | some r => some ⟨.bool (bif neg then !r else r), [], none, []⟩ | none => none)
  | _, _ => none

theorem q_app (k bytes : Nat) (x y : Opd) : qop P V t (.app k bytes x y) = appQ V k bytes (ev t x) (ev t y) := by
  rw [qop]
  cases ev t x with
  | none => rfl
  | some sv => cases ev t y with
    | none => rfl
    | some xv =>
      simp only [appQ]
      cases elems V.get xv with
      | none => rfl
      | some r =>
        obtain ⟨k', xs⟩ := r
        cases xs with
        | nil => cases sv <;> rfl
        | cons z zs =>
          simp only [List.isEmpty_cons, cond_false, appR]
          by_cases hk : k' = k
          · subst hk
            have hb : Nat.beq k' k' = true := Nat.beq_refl _
            simp only [hb, Bool.not_true, cond_false, if_true]
            cases sv <;> try rfl
            · simp only [appN]
              by_cases h : (z :: zs).length * bytes ≤ maxL
              · have h' : Nat.ble ((z :: zs).length * bytes) maxL = true := by simpa using h
                simp only [h', h, cond_true, if_true]
              · have h' : Nat.ble ((z :: zs).length * bytes) maxL = false := by rw [Bool.eq_false_iff]; simpa using h
                simp only [h', h, cond_false, if_false]
            · rename_i k2 id i n
              simp only [appN]
              cases V.get id with
              | none => rfl
              | some o => cases o with
                | row kk es cls sd =>
                  simp only [appO, beq_dec]
                  by_cases h1 : k2 = k'
                  · by_cases h2 : i + n = es.length
                    · cases h3 : V.top id
                      · simp [h1, h2]
                      · cases sd with
                        | true => simp [h1, h2]
                        | false =>
                          by_cases h5 : (n + (z :: zs).length) * bytes ≤ maxL
                          · have h' : Nat.ble ((n + (z :: zs).length) * bytes) maxL = true := by simpa using h5
                            simp only [h', h5, h1, h2, decide_true, Bool.not_false, Bool.and_self, cond_true, and_self, if_true]
                          · have h' : Nat.ble ((n + (z :: zs).length) * bytes) maxL = false := by rw [Bool.eq_false_iff]; simpa using h5
                            simp only [h', h5, h1, h2, decide_true, Bool.not_false, Bool.and_false, cond_false, and_false, if_false]
                    · simp [h1, h2]
                  · simp [h1]
                | _ => rfl
          · have hb : Nat.beq k' k = false := by rw [beq_dec]; simp [hk]
            simp [hb, hk]
theorem q_mm (mx : Bool) (xs : List Opd) : qop P V t (.mm mx xs) = mmQ mx (evs t xs) := rfl
theorem q_ixr (k n : Nat) (x i : Opd) : qop P V t (.ixr k n x i) = ixrQ k n (ev t x) (ev t i) := rfl
theorem q_conv (k : IntKind) (x : Opd) : qop P V t (.conv k x) = convQ k (ev t x) := rfl
theorem q_convs (x : Opd) : qop P V t (.convs x) = convsQ (ev t x) := rfl
theorem q_nilc (x : Opd) : qop P V t (.nilc x) = nilcQ (ev t x) := rfl
theorem q_ixs (x i : Opd) : qop P V t (.ixs x i) = ixsQ (ev t x) (ev t i) := rfl
theorem q_ixg (agg : Bool) (k n : Nat) (x i : Opd) : qop P V t (.ixg agg k n x i) = ixgQ agg k n (ev t x) (ev t i) := rfl
theorem q_mkf (g : Nat) (xs : List Opd) : qop P V t (.mkf g xs) = mkfQ g (evs t xs) := rfl
theorem q_bb (neg : Bool) (x y : Opd) : qop P V t (.bb neg x y) = bbQ neg (ev t x) (ev t y) := rfl
theorem q_nq (f : Nat) (neg : Bool) (x y : Opd) : qop P V t (.nq f neg x y) = nqQ f neg (ev t x) (ev t y) := by
  rw [qop]; cases ev t x <;> cases ev t y <;> rfl
theorem q_eqs (neg : Bool) (ks : List SK) (x y : Opd) : qop P V t (.eqs neg ks x y) = eqsQ neg ks (ev t x) (ev t y) := rfl
theorem q_mv (x : Opd) : qop P V t (.mv x) = qv (ev t x) := rfl
theorem q_pick (c a b : Opd) : qop P V t (.pick c a b) = pickQ (ev t c) (ev t a) (ev t b) := rfl
theorem q_new (k : Nat) (cells : List AV) : qop P V t (.new k cells) = some ⟨.ptr V.next 0 0, [.row k [cells] V.next false], none, []⟩ := rfl
theorem q_box (k : Nat) (x : Opd) : qop P V t (.box k x) = boxQ V.next k (ev t x) := by rw [qop]; cases ev t x <;> rfl
theorem q_build (z : List AV) (ps : List (Nat × Nat × Opd)) : qop P V t (.build z ps) = buildQ z (evParts t ps) := by rw [qop]; cases evParts t ps <;> rfl
theorem q_mks (k n : Nat) (z : List AV) (ps : List (Nat × Nat × Opd)) : qop P V t (.mks k n z ps) = mksQ V.next k n z (evParts t ps) := by rw [qop]; cases evParts t ps <;> rfl
theorem q_ld (agg : Bool) (k : Nat) (x : Opd) : qop P V t (.ld agg k x) = ldQ V.get agg k (ev t x) := by
  rw [qop]
  cases ev t x with
  | none => rfl
  | some v => cases v with
    | ptr id i j =>
      simp only [ldQ, rowAt]
      cases V.get id with
      | none => rfl
      | some o => cases o <;> rfl
    | _ => rfl
theorem q_bin (op : BinOp) (x y : Opd) : qop P V t (.bin op x y) = binQ op (ev t x) (ev t y) := by
  rw [qop]; cases ev t x <;> cases ev t y <;> rfl
theorem q_un (op : UnOp) (x : Opd) : qop P V t (.un op x) = unQ op (ev t x) := by rw [qop]; cases ev t x <;> rfl
theorem q_len (f : Nat) (x : Opd) : qop P V t (.len f x) = lenQ V.get f (ev t x) := rfl
theorem q_fld (off : Nat) (x : Opd) : qop P V t (.fld off x) = fldQ off (ev t x) := rfl
theorem q_ixa (k : Nat) (x i : Opd) : qop P V t (.ixa k x i) = ixaQ k (ev t x) (ev t i) := by
  rw [qop]
  cases ev t x with
  | none => rfl
  | some v => cases v with
    | ro k' es =>
      cases ev t i with
      | none => rfl
      | some iv =>
        simp only [ixaQ]
        cases idx iv es.length <;> rfl
    | _ => cases ev t i <;> rfl
theorem q_ext (x : Opd) (i : Nat) : qop P V t (.ext x i) = extQ i (ev t x) := rfl
end

/-! ### an operation of a statement -/
section
variable {P : CallP} {J : CallI} {n0 : Nat} {sf : List Nat} {d : Option Nat} {r : List OpI} {t : Tr AV} {h : AH}
theorem ops_mv {fl : Nat} {x : Opd} : ops P J n0 sf (⟨d, none, fl, .mv x⟩ :: r) ⟨t, h⟩ = stepQ P J n0 sf fl d r t h (qv (ev t.get x)) := by
  rw [ops_q rfl (fun _ => soft_not rfl)]; rw [q_mv]
theorem ops_pick {fl : Nat} {c a b : Opd} : ops P J n0 sf (⟨d, none, fl, .pick c a b⟩ :: r) ⟨t, h⟩ = stepQ P J n0 sf fl d r t h (pickQ (ev t.get c) (ev t.get a) (ev t.get b)) := by
  rw [ops_q rfl (fun _ => soft_not rfl)]; rw [q_pick]
theorem ops_new0 {k : Nat} {cells : List AV} : ops P J n0 sf (⟨d, none, 0, .new k cells⟩ :: r) ⟨t, h⟩ = stepQ P J n0 sf 0 d r t h (some ⟨.ptr h.next 0 0, [.row k [cells] h.next false], none, []⟩) := by
  rw [ops_q rfl (fun _ => soft_not rfl)]; rw [q_new]; rfl
theorem ops_new1 {k : Nat} {cells : List AV} : ops P J n0 sf (⟨d, none, 1, .new k cells⟩ :: r) ⟨t, h⟩ = stepQ P J n0 sf 1 d r t h (some ⟨.ptr h.next 0 0, [.row k [cells] h.next false], none, []⟩) := by
  rw [ops_q rfl (fun _ => soft_not rfl)]; rw [q_new]; rfl
theorem ops_new2 {k : Nat} {cells : List AV} : ops P J n0 sf (⟨d, none, 2, .new k cells⟩ :: r) ⟨t, h⟩ = stepQ P J n0 sf 2 d r t h (some ⟨.ptr h.next 0 0, [.row k [cells] h.next false], none, []⟩) := by
  rw [ops_q rfl (fun _ => soft_not rfl)]; rw [q_new]; rfl
theorem ops_box0 {k : Nat} {x : Opd} : ops P J n0 sf (⟨d, none, 0, .box k x⟩ :: r) ⟨t, h⟩ = stepQ P J n0 sf 0 d r t h (boxQ h.next k (ev t.get x)) := by
  rw [ops_q rfl (fun _ => soft_not rfl)]; rw [q_box]; rfl
theorem ops_box1 {k : Nat} {x : Opd} : ops P J n0 sf (⟨d, none, 1, .box k x⟩ :: r) ⟨t, h⟩ = stepQ P J n0 sf 1 d r t h (boxQ h.next k (ev t.get x)) := by
  rw [ops_q rfl (fun _ => soft_not rfl)]; rw [q_box]; rfl
theorem ops_box2 {k : Nat} {x : Opd} : ops P J n0 sf (⟨d, none, 2, .box k x⟩ :: r) ⟨t, h⟩ = stepQ P J n0 sf 2 d r t h (boxQ h.next k (ev t.get x)) := by
  rw [ops_q rfl (fun _ => soft_not rfl)]; rw [q_box]; rfl
theorem ops_build {fl : Nat} {z : List AV} {ps : List (Nat × Nat × Opd)} : ops P J n0 sf (⟨d, none, fl, .build z ps⟩ :: r) ⟨t, h⟩ = stepQ P J n0 sf fl d r t h (buildQ z (evParts t.get ps)) := by
  rw [ops_q rfl (fun _ => soft_not rfl)]; rw [q_build]
theorem ops_mks0 {k n : Nat} {z : List AV} {ps : List (Nat × Nat × Opd)} : ops P J n0 sf (⟨d, none, 0, .mks k n z ps⟩ :: r) ⟨t, h⟩ = stepQ P J n0 sf 0 d r t h (mksQ h.next k n z (evParts t.get ps)) := by
  rw [ops_q rfl (fun _ => soft_not rfl)]; rw [q_mks]; rfl
theorem ops_mks1 {k n : Nat} {z : List AV} {ps : List (Nat × Nat × Opd)} : ops P J n0 sf (⟨d, none, 1, .mks k n z ps⟩ :: r) ⟨t, h⟩ = stepQ P J n0 sf 1 d r t h (mksQ h.next k n z (evParts t.get ps)) := by
  rw [ops_q rfl (fun _ => soft_not rfl)]; rw [q_mks]; rfl
theorem ops_mks2 {k n : Nat} {z : List AV} {ps : List (Nat × Nat × Opd)} : ops P J n0 sf (⟨d, none, 2, .mks k n z ps⟩ :: r) ⟨t, h⟩ = stepQ P J n0 sf 2 d r t h (mksQ h.next k n z (evParts t.get ps)) := by
  rw [ops_q rfl (fun _ => soft_not rfl)]; rw [q_mks]; rfl
theorem ops_bin {fl : Nat} {op : BinOp} {x y : Opd} : ops P J n0 sf (⟨d, none, fl, .bin op x y⟩ :: r) ⟨t, h⟩ = stepQ P J n0 sf fl d r t h (binQ op (ev t.get x) (ev t.get y)) := by
  rw [ops_q rfl (fun _ => soft_not rfl)]; rw [q_bin]
theorem ops_un {fl : Nat} {op : UnOp} {x : Opd} : ops P J n0 sf (⟨d, none, fl, .un op x⟩ :: r) ⟨t, h⟩ = stepQ P J n0 sf fl d r t h (unQ op (ev t.get x)) := by
  rw [ops_q rfl (fun _ => soft_not rfl)]; rw [q_un]
theorem ops_len0 {f : Nat} {x : Opd} : ops P J n0 sf (⟨d, none, 0, .len f x⟩ :: r) ⟨t, h⟩ = stepQ P J n0 sf 0 d r t h (lenQ h.get f (ev t.get x)) := by
  rw [ops_q rfl (fun _ => soft_not rfl)]; rw [q_len]; rfl
theorem ops_len1 {f : Nat} {x : Opd} : ops P J n0 sf (⟨d, none, 1, .len f x⟩ :: r) ⟨t, h⟩ = stepQ P J n0 sf 1 d r t h (lenQ h.get f (ev t.get x)) := by
  rw [ops_q rfl (fun _ => soft_not rfl)]; rw [q_len]; rfl
theorem ops_len2 {f : Nat} {x : Opd} : ops P J n0 sf (⟨d, none, 2, .len f x⟩ :: r) ⟨t, h⟩ = stepQ P J n0 sf 2 d r t h (lenQ (h.viewOld n0).get f (ev t.get x)) := by
  rw [ops_q rfl (fun _ => soft_not rfl)]; rw [q_len]; rfl
theorem ops_call0 {f : Opd} {xs : List Opd} : ops P J n0 sf (⟨d, none, 0, .call true f xs⟩ :: r) ⟨t, h⟩ = stepQ P J n0 sf 0 d r t h (callQ P h.view (ev t.get f) (evs t.get xs)) := by
  rw [ops_q rfl (fun _ => soft_not rfl)]; rw [q_call]; rfl
theorem ops_call1 {f : Opd} {xs : List Opd} : ops P J n0 sf (⟨d, none, 1, .call true f xs⟩ :: r) ⟨t, h⟩ = stepQ P J n0 sf 1 d r t h (callQ P h.view (ev t.get f) (evs t.get xs)) := by
  rw [ops_q rfl (fun _ => soft_not rfl)]; rw [q_call]; rfl
theorem ops_call2 {f : Opd} {xs : List Opd} : ops P J n0 sf (⟨d, none, 2, .call true f xs⟩ :: r) ⟨t, h⟩ = stepQ P J n0 sf 2 d r t h (callQ P (h.viewOld n0) (ev t.get f) (evs t.get xs)) := by
  rw [ops_q rfl (fun _ => soft_not rfl)]; rw [q_call]; rfl
theorem ops_fld {fl : Nat} {off : Nat} {x : Opd} : ops P J n0 sf (⟨d, none, fl, .fld off x⟩ :: r) ⟨t, h⟩ = stepQ P J n0 sf fl d r t h (fldQ off (ev t.get x)) := by
  rw [ops_q rfl (fun _ => soft_not rfl)]; rw [q_fld]
theorem ops_ixa {fl : Nat} {k : Nat} {x i : Opd} : ops P J n0 sf (⟨d, none, fl, .ixa k x i⟩ :: r) ⟨t, h⟩ = stepQ P J n0 sf fl d r t h (ixaQ k (ev t.get x) (ev t.get i)) := by
  rw [ops_q rfl (fun _ => soft_not rfl)]; rw [q_ixa]
theorem ops_ext {fl : Nat} {x : Opd} {i : Nat} : ops P J n0 sf (⟨d, none, fl, .ext x i⟩ :: r) ⟨t, h⟩ = stepQ P J n0 sf fl d r t h (extQ i (ev t.get x)) := by
  rw [ops_q rfl (fun _ => soft_not rfl)]; rw [q_ext]
theorem ops_app0 {k b : Nat} {x y : Opd} : ops P J n0 sf (⟨d, none, 0, .app k b x y⟩ :: r) ⟨t, h⟩ = stepQ P J n0 sf 0 d r t h (appQ h.view k b (ev t.get x) (ev t.get y)) := by
  rw [ops_q rfl (fun _ => soft_not rfl)]; rw [q_app]; rfl
theorem ops_app1 {k b : Nat} {x y : Opd} : ops P J n0 sf (⟨d, none, 1, .app k b x y⟩ :: r) ⟨t, h⟩ = stepQ P J n0 sf 1 d r t h (appQ h.view k b (ev t.get x) (ev t.get y)) := by
  rw [ops_q rfl (fun _ => soft_not rfl)]; rw [q_app]; rfl
theorem ops_app2 {k b : Nat} {x y : Opd} : ops P J n0 sf (⟨d, none, 2, .app k b x y⟩ :: r) ⟨t, h⟩ = stepQ P J n0 sf 2 d r t h (appQ (h.viewOld n0) k b (ev t.get x) (ev t.get y)) := by
  rw [ops_q rfl (fun _ => soft_not rfl)]; rw [q_app]; rfl
theorem ops_mm {fl : Nat} {mx : Bool} {xs : List Opd} : ops P J n0 sf (⟨d, none, fl, .mm mx xs⟩ :: r) ⟨t, h⟩ = stepQ P J n0 sf fl d r t h (mmQ mx (evs t.get xs)) := by
  rw [ops_q rfl (fun _ => soft_not rfl)]; rw [q_mm]
theorem ops_ixr {fl : Nat} {k n : Nat} {x i : Opd} : ops P J n0 sf (⟨d, none, fl, .ixr k n x i⟩ :: r) ⟨t, h⟩ = stepQ P J n0 sf fl d r t h (ixrQ k n (ev t.get x) (ev t.get i)) := by
  rw [ops_q rfl (fun _ => soft_not rfl)]; rw [q_ixr]
theorem ops_conv {fl : Nat} {k : IntKind} {x : Opd} : ops P J n0 sf (⟨d, none, fl, .conv k x⟩ :: r) ⟨t, h⟩ = stepQ P J n0 sf fl d r t h (convQ k (ev t.get x)) := by
  rw [ops_q rfl (fun _ => soft_not rfl)]; rw [q_conv]
theorem ops_convs {fl : Nat} {x : Opd} : ops P J n0 sf (⟨d, none, fl, .convs x⟩ :: r) ⟨t, h⟩ = stepQ P J n0 sf fl d r t h (convsQ (ev t.get x)) := by
  rw [ops_q rfl (fun _ => soft_not rfl)]; rw [q_convs]
theorem ops_nilc {fl : Nat} {x : Opd} : ops P J n0 sf (⟨d, none, fl, .nilc x⟩ :: r) ⟨t, h⟩ = stepQ P J n0 sf fl d r t h (nilcQ (ev t.get x)) := by
  rw [ops_q rfl (fun _ => soft_not rfl)]; rw [q_nilc]
theorem ops_ixs {fl : Nat} {x i : Opd} : ops P J n0 sf (⟨d, none, fl, .ixs x i⟩ :: r) ⟨t, h⟩ = stepQ P J n0 sf fl d r t h (ixsQ (ev t.get x) (ev t.get i)) := by
  rw [ops_q rfl (fun _ => soft_not rfl)]; rw [q_ixs]
theorem ops_ixg {fl : Nat} {agg : Bool} {k n : Nat} {x i : Opd} : ops P J n0 sf (⟨d, none, fl, .ixg agg k n x i⟩ :: r) ⟨t, h⟩ = stepQ P J n0 sf fl d r t h (ixgQ agg k n (ev t.get x) (ev t.get i)) := by
  rw [ops_q rfl (fun _ => soft_not rfl)]; rw [q_ixg]
theorem ops_mkf {fl : Nat} {g : Nat} {xs : List Opd} : ops P J n0 sf (⟨d, none, fl, .mkf g xs⟩ :: r) ⟨t, h⟩ = stepQ P J n0 sf fl d r t h (mkfQ g (evs t.get xs)) := by
  rw [ops_q rfl (fun _ => soft_not rfl)]; rw [q_mkf]
theorem ops_bb {fl : Nat} {neg : Bool} {x y : Opd} : ops P J n0 sf (⟨d, none, fl, .bb neg x y⟩ :: r) ⟨t, h⟩ = stepQ P J n0 sf fl d r t h (bbQ neg (ev t.get x) (ev t.get y)) := by
  rw [ops_q rfl (fun _ => soft_not rfl)]; rw [q_bb]
theorem ops_nq {fl : Nat} {f : Nat} {neg : Bool} {x y : Opd} : ops P J n0 sf (⟨d, none, fl, .nq f neg x y⟩ :: r) ⟨t, h⟩ = stepQ P J n0 sf fl d r t h (nqQ f neg (ev t.get x) (ev t.get y)) := by
  rw [ops_q rfl (fun _ => soft_not rfl)]; rw [q_nq]
theorem ops_eqs {fl : Nat} {neg : Bool} {ks : List SK} {x y : Opd} : ops P J n0 sf (⟨d, none, fl, .eqs neg ks x y⟩ :: r) ⟨t, h⟩ = stepQ P J n0 sf fl d r t h (eqsQ neg ks (ev t.get x) (ev t.get y)) := by
  rw [ops_q rfl (fun _ => soft_not rfl)]; rw [q_eqs]
theorem ops_ld0 {agg : Bool} {k : Nat} {x : Opd} : ops P J n0 sf (⟨d, none, 0, .ld agg k x⟩ :: r) ⟨t, h⟩ = stepQ P J n0 sf 0 d r t h (ldQ h.get agg k (ev t.get x)) := by
  rw [ops_q rfl (fun _ => rfl), q_ld]; rfl
theorem ops_ld1 {agg : Bool} {k : Nat} {x : Opd} : ops P J n0 sf (⟨d, none, 1, .ld agg k x⟩ :: r) ⟨t, h⟩ = stepQ P J n0 sf 1 d r t h (ldQ h.get agg k (ev t.get x)) := by
  rw [ops_q rfl (fun _ => rfl), q_ld]; rfl
theorem ops_ld2 {agg : Bool} {k : Nat} {x : Opd} : ops P J n0 sf (⟨d, none, 2, .ld agg k x⟩ :: r) ⟨t, h⟩ = stepQ P J n0 sf 2 d r t h (ldQ (h.viewOld n0).get agg k (ev t.get x)) := by
  rw [ops_q rfl (fun _ => rfl), q_ld]; rfl
end

theorem pickQ_bool (x : Bool) (a b : AV) : pickQ (some (.bool x)) (some a) (some b) = some ⟨if x = true then a else b, [], none, []⟩ := by cases x <;> rfl
theorem pickQ_split {x : Bool} {a b : Option AV} : pickQ (some (.bool x)) a b = (match x with | true => pickQ (some (.bool true)) a b | false => pickQ (some (.bool false)) a b) := by cases x <;> rfl
theorem pickQ_true (a b : Option AV) : pickQ (some (.bool true)) a b = qv a := rfl
theorem pickQ_false (a b : Option AV) : pickQ (some (.bool false)) a b = qv b := rfl
theorem ldRow_one (agg : Bool) (k j k' : Nat) (cs : List AV) (c : Nat) (s : Bool) : ldRow agg k 0 j (some (.row k' [cs] c s)) = qv (cut agg k cs j) := rfl
theorem ldQ_ref (g : Nat → Option AObj) (agg : Bool) (k : Nat) (cs : List AV) (j : Nat) : ldQ g agg k (some (.ref cs j)) = qv (cut agg k cs j) := rfl
theorem ldQ_ptr (g : Nat → Option AObj) (agg : Bool) (k id i j : Nat) : ldQ g agg k (some (.ptr id i j)) = ldRow agg k i j (g id) := rfl
theorem cut_false (k : Nat) (cs : List AV) (j : Nat) : cut false k cs j = cs[j]? := rfl
theorem cut_true (k : Nat) (cs : List AV) (j : Nat) : cut true k cs j = if j + k ≤ cs.length then some (.agg ((cs.drop j).take k)) else none := by
  unfold cut
  by_cases h : j + k ≤ cs.length
  · have : Nat.ble (j + k) cs.length = true := by simpa using h
    simp [h, this]
  · have : Nat.ble (j + k) cs.length = false := by rw [Bool.eq_false_iff]; simpa using h
    simp [h, this]
theorem cut_all {k : Nat} {cs : List AV} (h : cs.length = k) : cut true k cs 0 = some (.agg cs) := by
  rw [cut_true]; subst h; simp
theorem boxQ_some {n k : Nat} {v : AV} (h1 : (avCells v).length = k) (h2 : (avCells v).all isOne = true) : boxQ n k (some v) = some ⟨.ptr n 0 0, [.row k [avCells v] n false], none, []⟩ := by
  have : Nat.beq (avCells v).length k = true := by rw [h1]; exact Nat.beq_refl _
  simp [boxQ, this, h2]
theorem binQ_some (op : BinOp) (a b : AV) : binQ op (some a) (some b) = qv (bin op a b) := rfl
theorem unQ_some (op : UnOp) (a : AV) : unQ op (some a) = qv (un op a) := rfl
theorem un_not (b : Bool) : un .not (.bool b) = some (.bool (!b)) := rfl
theorem un_neg (k : IntKind) (n : Int) : un .neg (.int k n) = some (.int k (k.wrap (0 - n))) := rfl
theorem fldQ_ptr (off id i j : Nat) : fldQ off (some (.ptr id i j)) = some ⟨.ptr id i (j + off), [], none, []⟩ := rfl
theorem fldQ_ref (off : Nat) (cs : List AV) (j : Nat) : fldQ off (some (.ref cs j)) = some ⟨.ref cs (j + off), [], none, []⟩ := rfl
theorem extQ_tup (i : Nat) (vs : List AV) : extQ i (some (.tup vs)) = qv vs[i]? := rfl
theorem evs_nil (t : Nat → Option AV) : evs t [] = some [] := rfl
def consO (x : Option AV) (r : Option (List AV)) : Option (List AV) := match x with
  | some v => (match r with | some vs => some (v :: vs) | none => none)
  | none => none
theorem evs_cons (t : Nat → Option AV) (x : Opd) (r : List Opd) : evs t (x :: r) = consO (ev t x) (evs t r) := rfl
theorem consO_some (v : AV) (vs : List AV) : consO (some v) (some vs) = some (v :: vs) := rfl

/-! ### a slice that came in: nil or with contents -/
def slv (n : Bool) (k : Nat) (es : List (List AV)) : AV := if n = true ∧ es = [] then .nils else .ro k es
theorem slv_cases (n : Bool) (k : Nat) (es : List (List AV)) : slv n k es = .ro k es ∨ (slv n k es = .nils ∧ es = []) := by
  unfold slv
  split
  · rename_i h; exact .inr ⟨rfl, h.2⟩
  · exact .inl rfl
theorem lenQ_slv (g : Nat → Option AObj) (n : Bool) (k : Nat) (es : List (List AV)) : lenQ g 1 (some (slv n k es)) = some ⟨.int .i64 es.length, [], none, []⟩ := by
  rcases slv_cases n k es with h | ⟨h, e⟩ <;> rw [h] <;> simp [lenQ, *]
theorem lenQ_ro (g : Nat → Option AObj) (k : Nat) (es : List (List AV)) : lenQ g 1 (some (.ro k es)) = some ⟨.int .i64 es.length, [], none, []⟩ := rfl
theorem lenQ_own (g : Nat → Option AObj) (k id i n : Nat) : lenQ g 1 (some (.own k id i n)) = some ⟨.int .i64 n, [], none, []⟩ := rfl
theorem lenQ_nils (g : Nat → Option AObj) : lenQ g 1 (some .nils) = some ⟨.int .i64 0, [], none, []⟩ := rfl
theorem lenQ_str (g : Nat → Option AObj) (s : List UInt8) : lenQ g 0 (some (.str s)) = some ⟨.int .i64 s.length, [], none, []⟩ := rfl
theorem ixaQ_slv {n : Bool} {k : Nat} {es : List (List AV)} {i : Nat} {e : List AV} {kk : IntKind} (h : es[i]? = some e) : ixaQ k (some (slv n k es)) (some (.int kk (i : Int))) = some ⟨.ref e 0, [], none, []⟩ := by
  have hl : i < es.length := (List.getElem?_eq_some_iff.1 h).1
  rcases slv_cases n k es with e | ⟨_, e⟩
  · rw [e]
    simp only [ixaQ, idx_nat, hl, if_true, ixaR, h]
    simp
  · subst e; simp at hl
theorem ixaQ_ro {k : Nat} {es : List (List AV)} {i : Nat} {e : List AV} {kk : IntKind} (h : es[i]? = some e) : ixaQ k (some (.ro k es)) (some (.int kk (i : Int))) = some ⟨.ref e 0, [], none, []⟩ := by
  have := ixaQ_slv (n := false) (k := k) (kk := kk) h
  simpa [slv] using this
theorem frz_slv (g : Nat → Option AObj) (f : Nat) (n : Bool) (k : Nat) (es : List (List AV)) : frz g (f + 1) (slv n k es) = some (slv n k es, []) := by
  rcases slv_cases n k es with h | ⟨h, e⟩ <;> rw [h] <;> rfl
theorem frz_int (g : Nat → Option AObj) (f : Nat) (k : IntKind) (n : Int) : frz g (f + 1) (.int k n) = some (.int k n, []) := rfl
theorem frz_bool (g : Nat → Option AObj) (f : Nat) (b : Bool) : frz g (f + 1) (.bool b) = some (.bool b, []) := rfl
theorem frz_str (g : Nat → Option AObj) (f : Nat) (s : List UInt8) : frz g (f + 1) (.str s) = some (.str s, []) := rfl
theorem frz_ro (g : Nat → Option AObj) (f : Nat) (k : Nat) (es : List (List AV)) : frz g (f + 1) (.ro k es) = some (.ro k es, []) := rfl
theorem frz_nils (g : Nat → Option AObj) (f : Nat) : frz g (f + 1) .nils = some (.nils, []) := rfl
theorem frz_ref (g : Nat → Option AObj) (f : Nat) (cs : List AV) (j : Nat) : frz g (f + 1) (.ref cs j) = some (.ref cs j, []) := rfl

/-- What `frz` leaves as it is. -/
def Flat : AV → Prop
  | .bool _ | .int _ _ | .str _ | .nils | .ro _ _ | .nilp | .ref _ _ | .nilf | .nilm | .skip => True
  | _ => False
theorem frz_flat {g : Nat → Option AObj} {f : Nat} {v : AV} (h : Flat v) : frz g (f + 1) v = some (v, []) := by
  cases v <;> first | rfl | exact h.elim
theorem slv_flat (n : Bool) (k : Nat) (es : List (List AV)) : Flat (slv n k es) := by
  rcases slv_cases n k es with h | ⟨h, e⟩ <;> rw [h] <;> trivial
theorem mapF_flat {g : Nat → Option AObj} {f : Nat} : ∀ {cs : List AV}, (∀ c ∈ cs, Flat c) → mapF (frz g (f + 1)) cs = some (cs, [])
  | [], _ => rfl
  | c :: cs, h => by
    rw [mapF, frz_flat (h c (by simp)), mapF_flat (fun x hx => h x (by simp [hx]))]
    rfl
theorem frz_agg {g : Nat → Option AObj} {f : Nat} {cs : List AV} (h : ∀ c ∈ cs, Flat c) : frz g (f + 2) (.agg cs) = some (.agg cs, []) := by
  rw [frz, mapF_flat h]
/-- Arguments that are handed on as they are. -/
def FlatA : AV → Prop
  | .agg cs => ∀ c ∈ cs, Flat c
  | v => Flat v
theorem frzs_flat {g : Nat → Option AObj} {f : Nat} : ∀ {cs : List AV}, (∀ c ∈ cs, FlatA c) → mapF (frz g (f + 2)) cs = some (cs, [])
  | [], _ => rfl
  | c :: cs, h => by
    have hc : frz g (f + 2) c = some (c, []) := by
      have := h c (by simp)
      cases c <;> first | exact frz_agg this | exact frz_flat this
    rw [mapF, hc, frzs_flat (fun x hx => h x (by simp [hx]))]
    rfl
theorem callQ_flat {P : CallP} {V : View} {g : Nat} {caps args : List AV} (h : ∀ c ∈ args ++ caps, FlatA c) : callQ P V (some (.fn g caps)) (some args) = callS V.next [] (P g (args ++ caps)) := by
  simp only [callQ, frzs_flat h, callR]
theorem callS_int (nx : Nat) (k : IntKind) (n : Int) : callS nx [] (some (.int k n)) = some ⟨.int k n, [], none, []⟩ := rfl
theorem callS_bool (nx : Nat) (b : Bool) : callS nx [] (some (.bool b)) = some ⟨.bool b, [], none, []⟩ := rfl
theorem adp_flat {n f : Nat} {v : AV} (h : Flat v) : adp n f v = (v, []) := by
  cases f with
  | zero => rw [adp]
  | succ f => cases v <;> first | exact h.elim | simp [adp]
theorem adpL_flat {f : Nat} : ∀ {cs : List AV} {n : Nat}, (∀ c ∈ cs, Flat c) → adp.adpL f n cs = (cs, [])
  | [], n, _ => by rw [adp.adpL]
  | c :: cs, n, h => by
    rw [adp.adpL]
    have h2 := fun m => adpL_flat (f := f) (cs := cs) (n := m) (fun x hx => h x (by simp [hx]))
    simp only [adp_flat (h c (by simp)), h2, List.append_nil]
theorem adp_flatA {n f : Nat} {v : AV} (h : FlatA v) : adp n f v = (v, []) := by
  cases f with
  | zero => rw [adp]
  | succ f => cases v <;> first | exact adp_flat h | (rw [adp]; simp only [adpL_flat h])
theorem adpL_flatA {f : Nat} : ∀ {cs : List AV} {n : Nat}, (∀ c ∈ cs, FlatA c) → adp.adpL f n cs = (cs, [])
  | [], n, _ => by rw [adp.adpL]
  | c :: cs, n, h => by
    rw [adp.adpL]
    have h2 := fun m => adpL_flatA (f := f) (cs := cs) (n := m) (fun x hx => h x (by simp [hx]))
    simp only [adp_flatA (h c (by simp)), h2, List.append_nil]
theorem callS_flat {nx : Nat} {v : AV} (h : FlatA v) : callS nx [] (some v) = some ⟨v, [], none, []⟩ := by
  simp [callS, adp_flatA h]
theorem callS_tup {nx : Nat} {vs : List AV} (h : ∀ v ∈ vs, FlatA v) : callS nx [] (some (.tup vs)) = some ⟨.tup vs, [], none, []⟩ := by
  simp [callS, adp, adpL_flatA h]

/-! ### results -/
theorem xpt_flat {g : Nat → Option AObj} {f : Nat} {v : AV} (h : Flat v) : xpt g (f + 1) v = some (v, [], []) := by
  cases v <;> first | exact h.elim | (simp only [xpt, frz])
theorem xptL_flat {g : Nat → Option AObj} {f : Nat} : ∀ {cs : List AV}, (∀ c ∈ cs, Flat c) → xptL (xpt g (f + 1)) cs = some (cs, [], [])
  | [], _ => rfl
  | c :: cs, h => by rw [xptL, xpt_flat (h c (by simp)), xptL_flat (fun x hx => h x (by simp [hx]))]; rfl
theorem xpt_flatA {g : Nat → Option AObj} {f : Nat} {v : AV} (h : FlatA v) : xpt g (f + 2) v = some (v, [], []) := by
  cases v <;> first | exact xpt_flat h | (rw [xpt, xptL_flat h])
theorem xptL_flatA {g : Nat → Option AObj} {f : Nat} : ∀ {cs : List AV}, (∀ c ∈ cs, FlatA c) → xptL (xpt g (f + 2)) cs = some (cs, [], [])
  | [], _ => rfl
  | c :: cs, h => by rw [xptL, xpt_flatA (h c (by simp)), xptL_flatA (fun x hx => h x (by simp [hx]))]; rfl
theorem export_flat {h : AH} {v : AV} (hv : FlatA v) : export1 (v, h) = some v := by
  unfold export1
  rw [xpt_flatA hv]; rfl
theorem export_tup {h : AH} {vs : List AV} (hv : ∀ v ∈ vs, FlatA v) : export1 (.tup vs, h) = some (.tup vs) := by
  have : xpt h.get 4 (.tup vs) = some (.tup vs, [], []) := by
    show xpt h.get (3 + 1) (.tup vs) = _
    rw [xpt, xptL_flatA hv]
  unfold export1
  simp only [this]; rfl

def rvQ (agg : Bool) (k : Nat) (g : Nat → Option AObj) : Option AV → Option AV
  | some (.ref cs j) => cut agg k cs j
  | some (.ptr id i j) => (match rowAt g id i with | some cs => cut agg k cs j | none => none)
  | _ => none
end Go.Ab
namespace Go.Ab

def stR (h : AH) (k id i j : Nat) (cs : List AV) : Option AObj → Option (AV × AH)
  | some (.row kk es cls false) => (match es[i]? with
    | some e => if cs.length = k ∧ cs.all isOne = true ∧ j + k ≤ e.length then some (.skip, h.put id cls (.row kk (setNth es i (lay e j cs)) cls false)) else none
    | none => none)
  | _ => none
def stQ (h : AH) (k : Nat) : Option AV → Option AV → Option (AV × AH)
  | some (.ptr id i j), some vv => stR h k id i j (avCells vv) (h.get id)
  | _, _ => none
theorem w_st (J : CallI) (h : AH) (t : Nat → Option AV) (k : Nat) (x v : Opd) : wop J h t (.st k x v) = stQ h k (ev t x) (ev t v) := by
  rw [wop]
  cases ev t x with
  | none => rfl
  | some p => cases ev t v with
    | none => cases p <;> rfl
    | some vv => cases p with
      | ptr id i j =>
        simp only [stQ]
        cases h.get id with
        | none => rfl
        | some o => cases o with
          | row kk es cls sd => cases sd with
            | true => rfl
            | false =>
              simp only [stR]
              cases es[i]? with
              | none => rfl
              | some e =>
                simp only
                by_cases h1 : (avCells vv).length = k
                · by_cases h2 : (avCells vv).all isOne = true
                  · by_cases h3 : j + k ≤ e.length
                    · have h3' : Nat.ble (j + k) e.length = true := by simpa using h3
                      simp [h1, h2, h3, h3', AH.put]
                    · have h3' : Nat.ble (j + k) e.length = false := by rw [Bool.eq_false_iff]; simpa using h3
                      simp [h1, h2, h3, h3']
                  · have h2' : (avCells vv).all isOne = false := by simpa using h2
                    simp [h2']
                · have h1' : Nat.beq (avCells vv).length k = false := by rw [beq_dec]; simp [h1]
                  simp [h1, h1']
          | _ => rfl
      | _ => rfl

section
variable {P : CallP} {J : CallI} {n0 : Nat} {fl : Nat} {d : Option Nat} {r : List OpI} {t : Tr AV} {h : AH}
theorem ops_st {k : Nat} {x v : Opd} : ops P J n0 [] (⟨d, none, fl, .st k x v⟩ :: r) ⟨t, h⟩ = stepW P J n0 d r t (stQ h k (ev t.get x) (ev t.get v)) := by
  rw [ops_w rfl, w_st]
theorem ops_calli {f : Opd} {xs : List Opd} : ops P J n0 [] (⟨d, none, fl, .call false f xs⟩ :: r) ⟨t, h⟩ = stepW P J n0 d r t (callW J h (ev t.get f) (evs t.get xs)) := by
  rw [ops_w rfl, w_call]
end
theorem stQ_ptr (h : AH) (k id i j : Nat) (v : AV) : stQ h k (some (.ptr id i j)) (some v) = stR h k id i j (avCells v) (h.get id) := rfl
theorem stR_one {h : AH} {k id j : Nat} {cs : List AV} {kk cls : Nat} {e : List AV} :
    stR h k id 0 j cs (some (.row kk [e] cls false)) = if cs.length = k ∧ cs.all isOne = true ∧ j + k ≤ e.length then some (.skip, h.put id cls (.row kk [lay e j cs] cls false)) else none := rfl
theorem lay_all : ∀ {e cs : List AV}, e.length = cs.length → lay e 0 cs = cs
  | [], [], _ => by rw [lay]
  | [], _ :: _, h => by simp at h
  | _ :: _, [], h => by simp at h
  | _ :: e, c :: cs, h => by rw [lay, lay_all (by simpa using h)]
theorem avCells_agg (cs : List AV) : avCells (.agg cs) = cs := rfl
theorem avCells_int (k : IntKind) (n : Int) : avCells (.int k n) = [.int k n] := rfl
theorem avCells_bool (b : Bool) : avCells (.bool b) = [.bool b] := rfl
theorem avCells_str (s : List UInt8) : avCells (.str s) = [.str s] := rfl
theorem avCells_slv (n : Bool) (k : Nat) (es : List (List AV)) : avCells (slv n k es) = [slv n k es] := by
  rcases slv_cases n k es with h | ⟨h, _⟩ <;> rw [h] <;> rfl
theorem avCells_own (k id i n : Nat) : avCells (.own k id i n) = [.own k id i n] := rfl
theorem avCells_nils : avCells .nils = [.nils] := rfl

theorem isOne_int (k : IntKind) (n : Int) : isOne (.int k n) = true := rfl
theorem isOne_bool (b : Bool) : isOne (.bool b) = true := rfl
theorem isOne_str (b : List UInt8) : isOne (.str b) = true := rfl
theorem isOne_nils : isOne .nils = true := rfl
theorem isOne_own (k id i n : Nat) : isOne (.own k id i n) = true := rfl
theorem isOne_ptr (id i n : Nat) : isOne (.ptr id i n) = true := rfl
theorem isOne_slv (n : Bool) (k : Nat) (es : List (List AV)) : isOne (slv n k es) = true := by
  rcases slv_cases n k es with h | ⟨h, _⟩ <;> rw [h] <;> rfl
theorem all_nil (f : AV → Bool) : List.all [] f = true := rfl
theorem all_one {v : AV} {r : List AV} (h : isOne v = true) : List.all (v :: r) isOne = List.all r isOne := by simp [h]
theorem lay_nil0 (c : AV) (cs : List AV) : lay (c :: cs) 0 [] = c :: cs := by rw [lay]
theorem lay_cons0 (c n : AV) (cs ns : List AV) : lay (c :: cs) 0 (n :: ns) = n :: lay cs 0 ns := by rw [lay]
theorem lay_nil (o : Nat) (ns : List AV) : lay [] o ns = [] := by cases o <;> rw [lay]
theorem lay_succ (c : AV) (cs ns : List AV) (o : Nat) : lay (c :: cs) (o + 1) ns = c :: lay cs o ns := by rw [lay]

/-! ### structs, arrays, slices laid out -/
def consP (a b : Nat) (x : Option AV) (r : Option (List (Nat × Nat × List AV))) : Option (List (Nat × Nat × List AV)) := match x with
  | some v => (match r with | some vs => some ((a, b, avCells v) :: vs) | none => none)
  | none => none
theorem evParts_nil (t : Nat → Option AV) : evParts t [] = some [] := rfl
theorem evParts_cons (t : Nat → Option AV) (a b : Nat) (x : Opd) (r : List (Nat × Nat × Opd)) : evParts t ((a, b, x) :: r) = consP a b (ev t x) (evParts t r) := rfl
theorem consP_some (a b : Nat) (v : AV) (vs : List (Nat × Nat × List AV)) : consP a b (some v) (some vs) = some ((a, b, avCells v) :: vs) := rfl
def bldC : Option (List AV) → Option QR
  | some cs => if cs.all isOne = true then some ⟨.agg cs, [], none, []⟩ else none
  | none => none
theorem buildQ_some (z : List AV) (ps : List (Nat × Nat × List AV)) : buildQ z (some ps) = bldC (fillAll z ps) := by
  simp only [buildQ, bldC]
  cases fillAll z ps with
  | none => rfl
  | some cs => cases h : cs.all isOne <;> simp [h]
theorem bldC_some (cs : List AV) : bldC (some cs) = if cs.all isOne = true then some ⟨.agg cs, [], none, []⟩ else none := rfl
def mksC (nx k n : Nat) : Option (List AV) → Option QR
  | some cs => if cs.all isOne = true then some ⟨.own k nx 0 n, [.row k (chop k n cs) nx false], none, []⟩ else none
  | none => none
theorem mksQ_some (nx k n : Nat) (z : List AV) (ps : List (Nat × Nat × List AV)) : mksQ nx k n z (some ps) = mksC nx k n (fillAll (List.replicate n z).flatten ps) := by
  simp only [mksQ, mksC]
  cases fillAll (List.replicate n z).flatten ps with
  | none => rfl
  | some cs => cases h : cs.all isOne <;> simp [h]
theorem mksC_some (nx k n : Nat) (cs : List AV) : mksC nx k n (some cs) = if cs.all isOne = true then some ⟨.own k nx 0 n, [.row k (chop k n cs) nx false], none, []⟩ else none := rfl
theorem fillAll_nil (z : List AV) : fillAll z [] = some z := by cases z <;> rfl
theorem fillAll_cons (z : List AV) (a b : Nat) (cs : List AV) (r : List (Nat × Nat × List AV)) : fillAll z ((a, b, cs) :: r) = if cs.length = b ∧ a + b ≤ z.length then fillAll (lay z a cs) r else none := by
  have : fillAll z ((a, b, cs) :: r) = bif Nat.beq cs.length b && Nat.ble (a + b) z.length then fillAll (lay z a cs) r else none := by cases z <;> rfl
  rw [this]
  by_cases h1 : cs.length = b
  · by_cases h2 : a + b ≤ z.length
    · have h2' : Nat.ble (a + b) z.length = true := by simpa using h2
      simp [h1, h2, h2']
    · have h2' : Nat.ble (a + b) z.length = false := by rw [Bool.eq_false_iff]; simpa using h2
      simp [h1, h2, h2']
  · have h1' : Nat.beq cs.length b = false := by rw [beq_dec]; simp [h1]
    simp [h1, h1']
theorem chop_zero (k : Nat) (cs : List AV) : chop k 0 cs = [] := rfl
theorem chop_succ (k n : Nat) (cs : List AV) : chop k (n + 1) cs = cs.take k :: chop k n (cs.drop k) := rfl
theorem rep_zero (z : List AV) : List.replicate 0 z = [] := rfl
theorem rep_succ (n : Nat) (z : List AV) : List.replicate (n + 1) z = z :: List.replicate n z := rfl
def boxC (n k : Nat) (cs : List AV) : Option QR := if cs.length = k ∧ cs.all isOne = true then some ⟨.ptr n 0 0, [.row k [cs] n false], none, []⟩ else none
theorem boxQ_c (n k : Nat) (v : AV) : boxQ n k (some v) = boxC n k (avCells v) := by
  simp only [boxQ, boxC, beq_dec]
  by_cases h1 : (avCells v).length = k <;> cases h2 : (avCells v).all isOne <;> simp [h1, h2]
theorem boxC_eq (n k : Nat) (cs : List AV) : boxC n k cs = if cs.length = k ∧ cs.all isOne = true then some ⟨.ptr n 0 0, [.row k [cs] n false], none, []⟩ else none := rfl
theorem avCells_ptr (id i n : Nat) : avCells (.ptr id i n) = [.ptr id i n] := rfl

attribute [local go_sem] evParts_nil evParts_cons consP_some buildQ_some bldC_some mksQ_some mksC_some fillAll_nil fillAll_cons chop_zero chop_succ rep_zero rep_succ List.flatten_cons List.flatten_nil boxQ_c boxC_eq avCells_ptr List.append_nil
attribute [local go_sem] List.all_nil List.all_cons Bool.true_and Bool.and_true isOne_int isOne_bool isOne_str isOne_nils isOne_own isOne_ptr isOne_slv lay_nil0 lay_cons0 lay_nil lay_succ List.drop_zero List.take_succ_cons List.take_zero List.drop_succ_cons List.getElem?_cons_zero List.getElem?_cons_succ
  List.take_nil List.drop_nil List.nil_append List.cons_append
attribute [local go_sem] a_skip a_exit a_ret a_seq a_block a_cond a_reg thn_norm thn_exit thn_ret blk_norm blk_ret blk_exit rg_some cnd_true cnd_false
  ops_nil ops_g stepQ_quiet stepQ_makes stepW_some stepW_none stepG_tt stepG_tf stepG_ft stepG_ff stepG_ttN stepG_tfN stepG_ftN stepG_ffN stepG_skip stepG_skipN qv_s ev_t ev_c
  bin_add bin_sub bin_mul bin_lss bin_leq bin_gtr bin_geq bin_eql bin_neq viewOld_get add_next put_next add_row add_map put_get kl_row kl_none kl_map
  ops_mv ops_pick ops_new0 ops_new1 ops_new2 ops_box0 ops_box1 ops_box2 ops_build ops_mks0 ops_mks1 ops_mks2 ops_bin ops_un ops_len0 ops_len1 ops_len2 ops_call0 ops_call1 ops_call2 ops_fld ops_ixa ops_ext ops_app0 ops_app1 ops_app2 ops_mm ops_ixr ops_conv ops_convs ops_nilc ops_ixs ops_ixg ops_mkf ops_bb ops_nq ops_eqs ops_ld0 ops_ld1 ops_ld2 ops_st ops_calli
  pickQ_true pickQ_false ldRow_one ldQ_ref ldQ_ptr cut_false cut_true binQ_some unQ_some un_not un_neg fldQ_ptr fldQ_ref extQ_tup evs_nil evs_cons consO_some
  lenQ_slv lenQ_ro lenQ_own lenQ_nils lenQ_str stQ_ptr stR_one avCells_agg avCells_int avCells_bool avCells_str avCells_slv avCells_own avCells_nils get_set
  List.length_cons List.length_nil
end Go.Ab
namespace Go.Ab
variable {prim : Nat → List AV → Option AV} {F : Tr FnI}

/-- The code ends, so and so. -/
def Res (r : Option (Ex × St)) (Q : Ex → St → Prop) : Prop := ∃ e s, r = some (e, s) ∧ Q e s

theorem Res_some {e : Ex} {s : St} {Q : Ex → St → Prop} : Res (some (e, s)) Q ↔ Q e s :=
  ⟨fun ⟨_, _, h, q⟩ => by cases h; exact q, fun q => ⟨_, _, rfl, q⟩⟩
theorem Res.mono {r : Option (Ex × St)} {Q R : Ex → St → Prop} (h : Res r Q) (k : ∀ e s, Q e s → R e s) : Res r R :=
  let ⟨e, s, h1, h2⟩ := h; ⟨e, s, h1, k e s h2⟩
def seqP (prim : Nat → List AV → Option AV) (F : Tr FnI) (b : C) (Q : Ex → St → Prop) : Ex → St → Prop
  | .norm, s => Res ((om prim F).a b s) Q
  | e, s => Q e s
def blkP (id : Nat) (Q : Ex → St → Prop) : Ex → St → Prop
  | .exit i, s => if i = id then Q .norm s else Q (.exit i) s
  | e, s => Q e s
theorem Res_thn {r : Option (Ex × St)} {b : C} {Q : Ex → St → Prop} : Res (thn prim F r b) Q ↔ Res r (seqP prim F b Q) := by
  cases r with
  | none => exact ⟨fun ⟨_, _, h, _⟩ => (by cases h), fun ⟨_, _, h, _⟩ => (by cases h)⟩
  | some x =>
    obtain ⟨e, s⟩ := x
    rw [Res_some]
    cases e with
    | norm => exact Iff.rfl
    | exit i => exact Res_some
    | ret => exact Res_some
theorem Res_blk {r : Option (Ex × St)} {id : Nat} {Q : Ex → St → Prop} : Res (blk id r) Q ↔ Res r (blkP id Q) := by
  cases r with
  | none => exact ⟨fun ⟨_, _, h, _⟩ => (by cases h), fun ⟨_, _, h, _⟩ => (by cases h)⟩
  | some x =>
    obtain ⟨e, s⟩ := x
    rw [Res_some]
    cases e with
    | norm => exact Res_some
    | exit i =>
      simp only [blk, blkP]
      by_cases h : i = id
      · simp only [h, if_true]; exact Res_some
      · simp only [h, if_false]; exact Res_some
    | ret => exact Res_some
theorem seqP_norm {b : C} {Q : Ex → St → Prop} {s : St} : seqP prim F b Q .norm s = Res ((om prim F).a b s) Q := rfl
theorem seqP_exit {b : C} {Q : Ex → St → Prop} {s : St} {i : Nat} : seqP prim F b Q (.exit i) s = Q (.exit i) s := rfl
theorem seqP_ret {b : C} {Q : Ex → St → Prop} {s : St} : seqP prim F b Q .ret s = Q .ret s := rfl
theorem blkP_norm {id : Nat} {Q : Ex → St → Prop} {s : St} : blkP id Q .norm s = Q .norm s := rfl
theorem blkP_exit {id : Nat} {Q : Ex → St → Prop} {s : St} {i : Nat} : blkP id Q (.exit i) s = if i = id then Q .norm s else Q (.exit i) s := rfl
theorem blkP_ret {id : Nat} {Q : Ex → St → Prop} {s : St} : blkP id Q .ret s = Q .ret s := rfl

/-- What a round leaves: the next round's start, or the loop's end. -/
def rndP (J : St → Prop) (Q : Ex → St → Prop) : Ex → St → Prop
  | .norm, s => J s
  | e, s => Q e s
theorem rndP_norm {J : St → Prop} {Q : Ex → St → Prop} {s : St} : rndP J Q .norm s = J s := rfl
theorem rndP_exit {J : St → Prop} {Q : Ex → St → Prop} {s : St} {i : Nat} : rndP J Q (.exit i) s = Q (.exit i) s := rfl
theorem rndP_ret {J : St → Prop} {Q : Ex → St → Prop} {s : St} : rndP J Q .ret s = Q .ret s := rfl

/-- A loop: a measure falls. -/
theorem loop_dn {b : C} {Q : Ex → St → Prop} (I : Nat → St → Prop) (hb : ∀ n s, I n s → Res ((om prim F).a b s) (rndP (fun s' => ∃ m, m < n ∧ I m s') Q)) :
    ∀ n s, I n s → Res ((om prim F).a (.loop b) s) Q := by
  intro n
  induction n using Nat.strongRecOn with
  | _ n ih =>
    intro s hs
    obtain ⟨e, s', h1, h2⟩ := hb n s hs
    rw [a_loop, h1]
    cases e with
    | norm =>
      obtain ⟨m, hm, hi⟩ := h2
      exact ih m hm s' hi
    | exit i => exact Res_some.2 h2
    | ret => exact Res_some.2 h2
/-- A loop that counts up to N. -/
theorem loop_up {b : C} {Q : Ex → St → Prop} (N : Nat) (I : Nat → St → Prop) (hb : ∀ i s, i ≤ N → I i s → Res ((om prim F).a b s) (rndP (fun s' => i < N ∧ I (i + 1) s') Q)) :
    ∀ i s, i ≤ N → I i s → Res ((om prim F).a (.loop b) s) Q := by
  intro i s hi hs
  refine loop_dn (fun n s => ∃ i, i ≤ N ∧ n = N - i ∧ I i s) ?_ (N - i) s ⟨i, hi, rfl, hs⟩
  rintro n s ⟨i, hi, rfl, hs⟩
  refine (hb i s hi hs).mono ?_
  intro e s' h
  cases e with
  | norm => exact ⟨N - (i + 1), by have := h.1; omega, i + 1, by have := h.1; omega, rfl, h.2⟩
  | exit i => exact h
  | ret => exact h

/-- A function's results at its end. -/
def Fin (rs : List RV) (v : AV) (e : Ex) (s : St) : Prop := (match e with | .exit _ => False | _ => True) ∧ ∃ vs, evRVs s rs = some vs ∧ export1 (tupOf vs, s.h) = some v
theorem Fin_exit {rs : List RV} {v : AV} {s : St} {i : Nat} : Fin rs v (.exit i) s = False := by simp [Fin]
theorem Fin_norm {rs : List RV} {v : AV} {s : St} : Fin rs v .norm s = ∃ vs, evRVs s rs = some vs ∧ export1 (tupOf vs, s.h) = some v := by simp [Fin]
theorem Fin_ret {rs : List RV} {v : AV} {s : St} : Fin rs v .ret s = ∃ vs, evRVs s rs = some vs ∧ export1 (tupOf vs, s.h) = some v := by simp [Fin]
theorem call_of {g : Nat} {fn : FnI} (hg : F.get g = some fn) {args : List AV} (hl : args.length = fn.np) {v : AV} (h : Res ((om prim F).a fn.body ⟨Tr.ofL args 0 .lf, E0⟩) (Fin fn.rs v)) : (om prim F).p g args = some v := by
  rw [om_p prim F hg args hl]
  obtain ⟨e, s, h1, h2, vs, h3, h4⟩ := h
  rw [h1]
  cases e with
  | exit i => exact h2.elim
  | norm => simp only [endOf, h3]; exact h4
  | ret => simp only [endOf, h3]; exact h4

/-! ### results' reading -/
def rvC (agg : Bool) (k i j : Nat) : Option AObj → Option AV
  | some (.row _ es _ _) => (match es[i]? with | some cs => cut agg k cs j | none => none)
  | _ => none
def rvV (s : St) (agg : Bool) (k : Nat) : Option AV → Option AV
  | some (.ref cs j) => cut agg k cs j
  | some (.ptr id i j) => rvC agg k i j (s.h.get id)
  | _ => none
theorem evRV_t (s : St) (n : Nat) : evRV s (.t n) = s.t.get n := rfl
theorem evRV_c (s : St) (n : Nat) (agg : Bool) (k : Nat) : evRV s (.c n agg k) = rvV s agg k (s.t.get n) := by
  rw [evRV]
  cases s.t.get n with
  | none => rfl
  | some v => cases v with
    | ptr id i j =>
      simp only [rvV, rowAt]
      cases s.h.get id with
      | none => rfl
      | some o => cases o <;> rfl
    | _ => rfl
theorem rvV_ptr (s : St) (agg : Bool) (k id i j : Nat) : rvV s agg k (some (.ptr id i j)) = rvC agg k i j (s.h.get id) := rfl
theorem rvC_one (agg : Bool) (k j k' : Nat) (cs : List AV) (c : Nat) (sd : Bool) : rvC agg k 0 j (some (.row k' [cs] c sd)) = cut agg k cs j := rfl
theorem evRVs_nil (s : St) : evRVs s [] = some [] := rfl
theorem evRVs_cons (s : St) (x : RV) (r : List RV) : evRVs s (x :: r) = consO (evRV s x) (evRVs s r) := rfl
theorem ofL_nil (i : Nat) (t : Tr AV) : Tr.ofL [] i t = t := rfl
theorem ofL_cons (x : AV) (r : List AV) (i : Nat) (t : Tr AV) : Tr.ofL (x :: r) i t = Tr.ofL r (i + 1) (t.set i x) := rfl
theorem tupOf_one (v : AV) : tupOf [v] = v := rfl
theorem tupOf_two (v w : AV) (r : List AV) : tupOf (v :: w :: r) = .tup (v :: w :: r) := rfl
theorem exP {α : Type} {a : α} {p : α → Prop} : (∃ x, some a = some x ∧ p x) ↔ p a := by simp
theorem get_lf (n : Nat) : (Tr.lf : Tr AV).get n = none := Tr.get_lf n

attribute [local go_sem] Res_some Res_thn Res_blk seqP_norm seqP_exit seqP_ret blkP_norm blkP_exit blkP_ret rndP_norm rndP_exit rndP_ret Fin_norm Fin_ret Fin_exit rvV_ptr rvC_one evRV_t evRV_c evRVs_nil evRVs_cons ofL_nil ofL_cons tupOf_one tupOf_two exP if_true if_false not_false_eq_true not_true_eq_false decide_true decide_false Option.isSome_some eq_self and_self and_true true_and and_false false_and Nat.zero_add Nat.add_zero decide_eq_true_eq decide_eq_false_iff_not ne_eq Bool.false_eq_true Bool.true_eq_false reduceCtorEq Nat.reduceLT Nat.reduceEqDiff Nat.reduceAdd Nat.reduceSub Nat.reduceMul Nat.reduceLeDiff get_lf List.length_map

/-! ### which places a piece of code leaves alone -/
def dstsO : List OpI → List Nat
  | [] => []
  | o :: r => o.dst.toList ++ dstsO r
def dstsC : C → List Nat
  | .reg os => dstsO os
  | .seq a b => dstsC a ++ dstsC b
  | .cond _ a b => dstsC a ++ dstsC b
  | .block _ a => dstsC a
  | .loop a => dstsC a
  | _ => []

theorem putD_other {t : Tr AV} {d : Option Nat} {v : AV} {n : Nat} (h : n ∉ d.toList) (hd : ∀ m ∈ d.toList, m < 65535) : (putD t d v).get n = t.get n := by
  cases d with
  | none => rfl
  | some d =>
    have : d ≠ n := fun e => h (by simp [e])
    show (t.set d v).get n = _
    rw [get_set (hd d (by simp)), if_neg this]

theorem op1_other {P : CallP} {J : CallI} {n0 : Nat} {o : OpI} {s s' : St} (h : op1 P J n0 o s = some s') : ∃ v, s'.t = putD s.t o.dst v := by
  unfold op1 at h
  cases hw : isW o.i with
  | true =>
    rw [hw, cond_true] at h
    cases hq : wop J s.h s.t.get o.i with
    | none => rw [hq] at h; cases h
    | some r => rw [hq] at h; cases h; exact ⟨_, rfl⟩
  | false =>
    rw [hw, cond_false] at h
    cases hq : qop P (bif Nat.beq o.fl 2 then s.h.viewOld n0 else s.h.view) s.t.get o.i with
    | none => rw [hq] at h; cases h
    | some q =>
      rw [hq] at h
      simp only at h
      cases hs : q.sl.isEmpty with
      | true => rw [hs, cond_true] at h; cases h; exact ⟨_, rfl⟩
      | false =>
        rw [hs, cond_false] at h
        cases hf : Nat.beq o.fl 0 with
        | true => rw [hf, cond_true] at h; cases h; exact ⟨_, rfl⟩
        | false => rw [hf, cond_false] at h; cases h
theorem ops_other {P : CallP} {J : CallI} {n0 n : Nat} : ∀ {os : List OpI} {sf : List Nat} {s s' : St}, ops P J n0 sf os s = some s' → n ∉ dstsO os → (∀ m ∈ dstsO os, m < 65535) → s'.t.get n = s.t.get n
  | [], sf, s, s', h, _, _ => by rw [ops] at h; cases h; rfl
  | o :: r, sf, s, s', h, hn, hd => by
    simp only [dstsO, List.mem_append, not_or] at hn hd
    rw [ops] at h
    cases hw : wantI s.t.get o with
    | none => rw [hw] at h; cases h
    | some b =>
      cases b with
      | false =>
        rw [hw] at h
        have := ops_other h hn.2 (fun m hm => hd m (.inr hm))
        rw [this]
        exact putD_other hn.1 (fun m hm => hd m (.inl hm))
      | true =>
        rw [hw] at h
        simp only at h
        cases hc : ((!(isW o.i) || sf.all (spares s.h s.t.get o.i)) && (softOf s.t.get o).all (fun id => Nat.blt id n0)) with
        | false => rw [hc] at h; cases h
        | true =>
          rw [hc, cond_true] at h
          cases ho : op1 P J n0 o s with
          | none => rw [ho] at h; cases h
          | some s1 =>
            rw [ho] at h
            obtain ⟨v, hv⟩ := op1_other ho
            rw [ops_other h hn.2 (fun m hm => hd m (.inr hm)), hv]
            exact putD_other hn.1 (fun m hm => hd m (.inl hm))

theorem code_other {P : CallP} {J : CallI} {again : C → St → Option (Ex × St)} {n : Nat} (ha : ∀ c s e s', again c s = some (e, s') → n ∉ dstsC c → (∀ m ∈ dstsC c, m < 65535) → s'.t.get n = s.t.get n) :
    ∀ (c : C) (s : St) (e : Ex) (s' : St), code P J again c s = some (e, s') → n ∉ dstsC c → (∀ m ∈ dstsC c, m < 65535) → s'.t.get n = s.t.get n := by
  intro c
  induction c with
  | skip => intro s e s' h _ _; rw [code] at h; cases h; rfl
  | reg os =>
    intro s e s' h hn hd
    rw [code] at h
    cases ho : ops P J s.h.next [] os s with
    | none => rw [ho] at h; cases h
    | some s1 => rw [ho] at h; cases h; exact ops_other ho hn hd
  | seq a b iha ihb =>
    intro s e s' h hn hd
    simp only [dstsC, List.mem_append, not_or] at hn hd
    rw [code] at h
    cases hx : code P J again a s with
    | none => rw [hx] at h; cases h
    | some x =>
      rw [hx] at h
      obtain ⟨e1, s1⟩ := x
      have h1 := iha _ _ _ hx hn.1 (fun m hm => hd m (.inl hm))
      cases e1 with
      | norm => exact (ihb _ _ _ h hn.2 (fun m hm => hd m (.inr hm))).trans h1
      | exit i => cases h; exact h1
      | ret => cases h; exact h1
  | cond c a b iha ihb =>
    intro s e s' h hn hd
    simp only [dstsC, List.mem_append, not_or] at hn hd
    rw [code] at h
    cases hv : ev s.t.get c with
    | none => rw [hv] at h; cases h
    | some v =>
      rw [hv] at h
      cases v with
      | bool x => cases x with
        | true => exact iha _ _ _ h hn.1 (fun m hm => hd m (.inl hm))
        | false => exact ihb _ _ _ h hn.2 (fun m hm => hd m (.inr hm))
      | _ => cases h
  | block id a iha =>
    intro s e s' h hn hd
    rw [code] at h
    cases hx : code P J again a s with
    | none => rw [hx] at h; cases h
    | some x =>
      rw [hx] at h
      obtain ⟨e1, s1⟩ := x
      have h1 := iha _ _ _ hx hn hd
      cases e1 with
      | exit i =>
        simp only at h
        cases hb : Nat.beq i id with
        | true => rw [hb] at h; cases h; exact h1
        | false => rw [hb] at h; cases h; exact h1
      | norm => cases h; exact h1
      | ret => cases h; exact h1
  | loop a iha =>
    intro s e s' h hn hd
    rw [code] at h
    cases hx : code P J again a s with
    | none => rw [hx] at h; cases h
    | some x =>
      rw [hx] at h
      obtain ⟨e1, s1⟩ := x
      have h1 := iha _ _ _ hx hn hd
      cases e1 with
      | norm => exact (ha _ _ _ _ h hn hd).trans h1
      | exit i => cases h; exact h1
      | ret => cases h; exact h1
  | exit id => intro s e s' h _ _; rw [code] at h; cases h; rfl
  | ret => intro s e s' h _ _; rw [code] at h; cases h; rfl

theorem lv_other (n : Nat) : ∀ f c s e s', (lv prim F f).a c s = some (e, s') → n ∉ dstsC c → (∀ m ∈ dstsC c, m < 65535) → s'.t.get n = s.t.get n := by
  intro f
  induction f with
  | zero => intro c s e s' h; cases h
  | succ f ih => intro c s e s' h; exact code_other ih c s e s' h

/-- Places that a piece of code does not set are as they were. -/
theorem Res.keep {c : C} {s : St} {Q : Ex → St → Prop} (h : Res ((om prim F).a c s) Q) (hd : (dstsC c).all (fun m => Nat.blt m 65535) = true) :
    Res ((om prim F).a c s) fun e s' => Q e s' ∧ ∀ n, (dstsC c).contains n = false → s'.t.get n = s.t.get n := by
  obtain ⟨e, s', h1, h2⟩ := h
  refine ⟨e, s', h1, h2, fun n hn => ?_⟩
  obtain ⟨f, hf⟩ := (om_a_iff prim F).1 h1
  refine lv_other n f c s e s' hf (by simpa using hn) (fun m hm => ?_)
  have := List.all_eq_true.1 hd m hm
  simpa [Nat.blt_eq] using this
end Go.Ab
namespace Go.Ab

/-! ### calls: what arguments are frozen to -/
def mapC {β : Type} (a : Option (β × List Nat)) (b : Option (List β × List Nat)) : Option (List β × List Nat) := match a with
  | some a => (match b with | some b => some (a.1 :: b.1, a.2 ++ b.2) | none => none)
  | none => none
theorem mapF_nil {α β : Type} (g : α → Option (β × List Nat)) : mapF g [] = some ([], []) := rfl
theorem mapF_cons {α β : Type} (g : α → Option (β × List Nat)) (v : α) (r : List α) : mapF g (v :: r) = mapC (g v) (mapF g r) := rfl
theorem mapC_some {β : Type} (a : β) (l m : List Nat) (b : List β) : mapC (some (a, l)) (some (b, m)) = some (a :: b, l ++ m) := rfl
theorem callQ_fn {P : CallP} {V : View} {g : Nat} {caps args : List AV} : callQ P V (some (.fn g caps)) (some args) = callR P V.next g (mapF (frz V.get 16) (args ++ caps)) := rfl
theorem callR_some {P : CallP} {nx g : Nat} {args : List AV} {cl : List Nat} : callR P nx g (some (args, cl)) = callS nx cl (P g args) := rfl
theorem callS_cint (nx : Nat) (cl : List Nat) (k : IntKind) (n : Int) : callS nx cl (some (.int k n)) = some ⟨.int k n, [], none, []⟩ := by
  simp only [callS, adp, hasRo]; cases cl <;> rfl
theorem callS_cbool (nx : Nat) (cl : List Nat) (b : Bool) : callS nx cl (some (.bool b)) = some ⟨.bool b, [], none, []⟩ := by
  simp only [callS, adp, hasRo]; cases cl <;> rfl
theorem callS_cstr (nx : Nat) (cl : List Nat) (b : List UInt8) : callS nx cl (some (.str b)) = some ⟨.str b, [], none, []⟩ := by
  simp only [callS, adp, hasRo]; cases cl <;> rfl
/-- Only numbers, truth values, strings. -/
def Num : AV → Prop
  | .bool _ | .int _ _ | .str _ | .nils => True
  | _ => False
theorem Num.flat {v : AV} (h : Num v) : Flat v := by cases v <;> first | trivial | exact h.elim
theorem Num.hasRo {v : AV} (h : Num v) (n : Nat) : hasRo (n + 1) v = false := by cases v <;> first | rfl | exact h.elim
theorem callS_nums {nx : Nat} {cl : List Nat} {cs : List AV} (h : ∀ c ∈ cs, Num c) : callS nx cl (some (.agg cs)) = some ⟨.agg cs, [], none, []⟩ := by
  have h1 : hasRo 8 (.agg cs) = false := by
    show cs.any (Go.Ab.hasRo 7) = false
    rw [List.any_eq_false]
    intro x hx
    rw [(h x hx).hasRo 6]; simp
  have h2 : adp nx 4 (.agg cs) = (.agg cs, []) := adp_flatA (fun c hc => (h c hc).flat)
  simp only [callS, h1, h2]
  cases cl <;> rfl
def frzE (k cls : Nat) : Option (List (List AV) × List Nat) → Option (AV × List Nat)
  | some r => some (.ro k r.1, cls :: r.2)
  | none => none
def frzR (g : Nat → Option AObj) (f k i n : Nat) : Option AObj → Option (AV × List Nat)
  | some (.row _ es cls _) => if i + n ≤ es.length then frzE k cls (mapF (mapF (frz g f)) ((es.drop i).take n)) else none
  | _ => none
theorem frz_own (g : Nat → Option AObj) (f k id i n : Nat) : frz g (f + 1) (.own k id i n) = frzR g f k i n (g id) := by
  rw [frz]
  cases g id with
  | none => rfl
  | some o => cases o with
    | row k' es cls sd =>
      simp only [frzR]
      by_cases h : i + n ≤ es.length
      · have h' : Nat.ble (i + n) es.length = true := by simpa using h
        simp only [h', h, cond_true, if_true]
        cases mapF (mapF (frz g f)) ((es.drop i).take n) <;> rfl
      · have h' : Nat.ble (i + n) es.length = false := by rw [Bool.eq_false_iff]; simpa using h
        simp only [h', h, cond_false, if_false]
    | _ => rfl
theorem frzR_row (g : Nat → Option AObj) (f k i n k' : Nat) (es : List (List AV)) (cls : Nat) (sd : Bool) : frzR g f k i n (some (.row k' es cls sd)) = if i + n ≤ es.length then frzE k cls (mapF (mapF (frz g f)) ((es.drop i).take n)) else none := rfl
theorem frzE_some (k cls : Nat) (es : List (List AV)) (l : List Nat) : frzE k cls (some (es, l)) = some (.ro k es, cls :: l) := rfl
def frzA : Option (List AV × List Nat) → Option (AV × List Nat)
  | some r => some (.agg r.1, r.2)
  | none => none
theorem frz_aggC (g : Nat → Option AObj) (f : Nat) (cs : List AV) : frz g (f + 1) (.agg cs) = frzA (mapF (frz g f) cs) := by
  rw [frz]; cases mapF (frz g f) cs <;> rfl
theorem frzA_some (cs : List AV) (l : List Nat) : frzA (some (cs, l)) = some (.agg cs, l) := rfl

/-! ### comparisons -/
def eqC (neg : Bool) : Option Bool → Option QR
  | some r => some ⟨.bool (if neg = true then !r else r), [], none, []⟩
  | none => none
theorem eqsQ_agg (neg : Bool) (ks : List SK) (a b : List AV) : eqsQ neg ks (some (.agg a)) (some (.agg b)) = eqC neg (eqK ks a b) := by
  simp only [eqsQ, eqC]; cases eqK ks a b <;> cases neg <;> rfl
theorem eqC_some (neg r : Bool) : eqC neg (some r) = some ⟨.bool (if neg = true then !r else r), [], none, []⟩ := rfl
def andO : Option Bool → Option Bool → Option Bool
  | some a, some b => some (a && b)
  | _, _ => none
theorem eqK_nil : eqK [] [] [] = some true := rfl
theorem eqK_cons (k : SK) (ks : List SK) (x y : AV) (xs ys : List AV) : eqK (k :: ks) (x :: xs) (y :: ys) = andO (eq1 k x y) (eqK ks xs ys) := by
  rw [eqK]; cases eq1 k x y <;> cases eqK ks xs ys <;> rfl
theorem andO_some (a b : Bool) : andO (some a) (some b) = some (a && b) := rfl
theorem eq1_int (k : IntKind) (x y : Int) : eq1 (.i k) (.int k x) (.int k y) = some (decide (x = y)) := by simp [eq1]; rfl
theorem eq1_bool (x y : Bool) : eq1 .b (.bool x) (.bool y) = some (x == y) := rfl
theorem eq1_str (x y : List UInt8) : eq1 .s (.str x) (.str y) = some (x == y) := rfl
theorem bbQ_some (neg a b : Bool) : bbQ neg (some (.bool a)) (some (.bool b)) = some ⟨.bool (if neg = true then !(a == b) else (a == b)), [], none, []⟩ := by cases neg <;> rfl
theorem mmQ_some (mx : Bool) (v : AV) (r : List AV) : mmQ mx (some (v :: r)) = qv (mm mx v r) := rfl
theorem mm_nil (mx : Bool) (v : AV) : mm mx v [] = some v := by cases v <;> rfl
theorem mm_max (k l : IntKind) (x y : Int) (r : List AV) : mm true (.int k x) (.int l y :: r) = mm true (.int k (max x y)) r := by
  rw [mm]; congr 2
  show (if y > x then y else x) = max x y
  by_cases h : y > x <;> simp [h] <;> omega
theorem mm_min (k l : IntKind) (x y : Int) (r : List AV) : mm false (.int k x) (.int l y :: r) = mm false (.int k (min x y)) r := by
  rw [mm]; congr 2
  show (if y < x then y else x) = min x y
  by_cases h : y < x <;> simp [h] <;> omega
theorem convQ_some (k l : IntKind) (n : Int) : convQ k (some (.int l n)) = some ⟨.int k (k.wrap n), [], none, []⟩ := rfl
theorem mkfQ_some (g : Nat) (vs : List AV) : mkfQ g (some vs) = some ⟨.fn g vs, [], none, []⟩ := rfl
theorem convsQ_some (s : List UInt8) : convsQ (some (.str s)) = some ⟨.str s, [], none, []⟩ := rfl
theorem nilcQ_ptr (id i j : Nat) : nilcQ (some (.ptr id i j)) = some ⟨.ptr id i j, [], none, []⟩ := rfl
theorem nilcQ_ref (cs : List AV) (j : Nat) : nilcQ (some (.ref cs j)) = some ⟨.ref cs j, [], none, []⟩ := rfl

attribute [local go_sem] mapF_nil mapF_cons mapC_some callQ_fn callR_some callS_cint callS_cbool callS_cstr frz_own frzR_row frzE_some frz_aggC frzA_some frz_int frz_bool frz_str frz_ro frz_nils frz_ref frz_slv view_get view_next viewOld_next
  eqsQ_agg eqC_some eqK_nil eqK_cons andO_some eq1_int eq1_bool eq1_str bbQ_some mmQ_some mm_nil mm_max mm_min convQ_some mkfQ_some convsQ_some nilcQ_ptr nilcQ_ref bin_quo bin_rem Int.reduceEq Int.reduceNe Int.reduceNeg
theorem flatA_agg (cs : List AV) : FlatA (.agg cs) ↔ ∀ c ∈ cs, Flat c := Iff.rfl
theorem flatA_int (k : IntKind) (n : Int) : FlatA (.int k n) := trivial
theorem flatA_bool (b : Bool) : FlatA (.bool b) := trivial
theorem flatA_str (b : List UInt8) : FlatA (.str b) := trivial
theorem flatA_nils : FlatA .nils := trivial
theorem flatA_ro (k : Nat) (es : List (List AV)) : FlatA (.ro k es) := trivial
theorem flatA_slv (n : Bool) (k : Nat) (es : List (List AV)) : FlatA (slv n k es) := by
  rcases slv_cases n k es with h | ⟨h, e⟩ <;> rw [h] <;> trivial
theorem flat_int (k : IntKind) (n : Int) : Flat (.int k n) := trivial
theorem flat_bool (b : Bool) : Flat (.bool b) := trivial
theorem flat_str (b : List UInt8) : Flat (.str b) := trivial
theorem flat_nils : Flat .nils := trivial
theorem flat_ro (k : Nat) (es : List (List AV)) : Flat (.ro k es) := trivial
theorem flat_slv (n : Bool) (k : Nat) (es : List (List AV)) : Flat (slv n k es) := by
  rcases slv_cases n k es with h | ⟨h, e⟩ <;> rw [h] <;> trivial
theorem num_int (k : IntKind) (n : Int) : Num (.int k n) := trivial
theorem num_bool (b : Bool) : Num (.bool b) := trivial
theorem num_str (b : List UInt8) : Num (.str b) := trivial
theorem all_mem_cons {p : AV → Prop} {a : AV} {l : List AV} : (∀ x ∈ a :: l, p x) ↔ p a ∧ ∀ x ∈ l, p x := List.forall_mem_cons
theorem all_mem_nil {p : AV → Prop} : (∀ x ∈ ([] : List AV), p x) ↔ True := by simp
attribute [local go_sem] flatA_agg flatA_int flatA_bool flatA_str flatA_nils flatA_ro flatA_slv flat_int flat_bool flat_str flat_nils flat_ro flat_slv num_int num_bool num_str all_mem_cons all_mem_nil export_flat export_tup callS_nums callS_flat callS_tup
  Bool.not_true Bool.not_false Bool.and_false Bool.false_and Bool.or_true Bool.true_or Bool.or_false Bool.false_or Bool.not_eq_true Bool.not_eq_false Bool.not_not Bool.not_eq_eq_eq_not Bool.not_eq_true'
theorem E0_next : E0.next = 0 := rfl
theorem E0_get (j : Nat) : E0.get j = none := rfl
theorem eq_add_one (n m : Nat) : (n = n + (m + 1)) ↔ False := ⟨fun h => absurd h (by omega), False.elim⟩
theorem add_one_eq (n m : Nat) : (n + (m + 1) = n) ↔ False := ⟨fun h => absurd h (by omega), False.elim⟩
theorem add_eq_add (n a b : Nat) : (n + a = n + b) ↔ a = b := by omega
theorem lt_add_self (n a : Nat) : (n < n + a) ↔ 0 < a := by omega
theorem add_lt_add (n a b : Nat) : (n + a < n + b) ↔ a < b := by omega
attribute [local go_sem] E0_next E0_get eq_add_one add_one_eq add_eq_add lt_add_self add_lt_add Nat.add_assoc Nat.reduceEqDiff
end Go.Ab
namespace Go.Ab
def slrC (k n j : Nat) (cs : List AV) (cl : List Nat) : Option Nat → Option Nat → Option QR
  | some a, some b => if j + n * k ≤ cs.length then some ⟨.ro k (((chop k n (cs.drop j)).drop a).take (b - a)), [], none, cl⟩ else none
  | _, _ => none
def slrP (k n : Nat) (lo hi : Option AV) : Option (AV × List Nat) → Option QR
  | some (.ref cs j, cl) => (match bnd hi n n with | some b => slrC k n j cs cl (bnd lo 0 b) (some b) | none => none)
  | _ => none
def frzPt (g : Nat → Option AObj) (f i j : Nat) : Option AObj → Option (AV × List Nat)
  | some (.row _ es cls _) => (match es[i]? with
    | some cs => (match mapF (frz g f) cs with | some r => some (.ref r.1 j, cls :: r.2) | none => none)
    | none => none)
  | _ => none
theorem frz_ptrC (g : Nat → Option AObj) (f id i j : Nat) : frz g (f + 1) (.ptr id i j) = frzPt g f i j (g id) := by
  rw [frz]
  cases g id with
  | none => rfl
  | some o => cases o <;> rfl
def frzPc (cls j : Nat) : Option (List AV × List Nat) → Option (AV × List Nat)
  | some r => some (.ref r.1 j, cls :: r.2)
  | none => none
theorem frzPt_one (g : Nat → Option AObj) (f j k : Nat) (cs : List AV) (cls : Nat) (s : Bool) : frzPt g f 0 j (some (.row k [cs] cls s)) = frzPc cls j (mapF (frz g f) cs) := by
  simp only [frzPt, List.getElem?_cons_zero]
  cases mapF (frz g f) cs <;> rfl
theorem frzPc_some (cls j : Nat) (cs : List AV) (l : List Nat) : frzPc cls j (some (cs, l)) = some (.ref cs j, cls :: l) := rfl
section
variable {P : CallP} {V : View} {t : Nat → Option AV}
def slrQ (V : View) (k n : Nat) : Option AV → Option (Option AV) → Option (Option AV) → Option QR
  | some v, some l, some h => slrP k n l h (frz V.get 16 v)
  | _, _, _ => none
theorem q_slr_ptr {k n : Nat} {x : Opd} {id i j : Nat} (hx : ev t x = some (.ptr id i j)) : qop P V t (.slr k n x none none) = slrQ V k n (some (.ptr id i j)) (some none) (some none) := by
  simp only [qop, hx, evO, slrQ, bnd]
  cases frz V.get 16 (.ptr id i j) with
  | none => rfl
  | some r =>
    obtain ⟨v, cl⟩ := r
    cases v with
    | ref cs j' =>
      simp only [slrP, bnd, slrC]
      by_cases h : j' + n * k ≤ cs.length
      · have h' : Nat.ble (j' + n * k) cs.length = true := by simpa using h
        simp [h, h']
      · have h' : Nat.ble (j' + n * k) cs.length = false := by rw [Bool.eq_false_iff]; simpa using h
        simp [h, h']
    | _ => rfl
end
def slrA (V : View) (k n : Nat) : Option AV → Option QR
  | some (.ptr id i j) => slrQ V k n (some (.ptr id i j)) (some none) (some none)
  | some (.ref cs j) => if j + n * k ≤ cs.length then some ⟨.ro k (chop k n (cs.drop j)), [], none, []⟩ else none
  | _ => none
theorem chop_len (k : Nat) : ∀ (n : Nat) (c : List AV), (chop k n c).length = n
  | 0, _ => rfl
  | n + 1, c => by simp [chop, chop_len k n]
theorem q_slrA {P : CallP} {V : View} {t : Nat → Option AV} {k n : Nat} {x : Opd} : qop P V t (.slr k n x none none) = slrA V k n (ev t x) := by
  cases hx : ev t x with
  | none => simp only [qop, hx]; rfl
  | some v => cases v with
    | ptr id i j => rw [q_slr_ptr hx]; rfl
    | ref cs j =>
      simp only [qop, hx, evO, bnd, slrA]
      by_cases h : j + n * k ≤ cs.length
      · have h' : Nat.ble (j + n * k) cs.length = true := by simpa using h
        simp only [h', h, cond_true, if_true, List.drop_zero, Nat.sub_zero]
        rw [List.take_of_length_le (by rw [chop_len]; exact Nat.le_refl _)]
      · have h' : Nat.ble (j + n * k) cs.length = false := by rw [Bool.eq_false_iff]; simpa using h
        simp [h, h']
    | _ => simp only [qop, hx]; rfl
section
variable {P : CallP} {J : CallI} {n0 : Nat} {sf : List Nat} {d : Option Nat} {r : List OpI} {t : Tr AV} {h : AH}
theorem ops_slr0 {k n : Nat} {x : Opd} : ops P J n0 sf (⟨d, none, 0, .slr k n x none none⟩ :: r) ⟨t, h⟩ = stepQ P J n0 sf 0 d r t h (slrA h.view k n (ev t.get x)) := by
  rw [ops_q rfl (fun _ => soft_not rfl), q_slrA]; rfl
theorem ops_slr1 {k n : Nat} {x : Opd} : ops P J n0 sf (⟨d, none, 1, .slr k n x none none⟩ :: r) ⟨t, h⟩ = stepQ P J n0 sf 1 d r t h (slrA h.view k n (ev t.get x)) := by
  rw [ops_q rfl (fun _ => soft_not rfl), q_slrA]; rfl
end
theorem slrA_ptr (V : View) (k n id i j : Nat) : slrA V k n (some (.ptr id i j)) = slrQ V k n (some (.ptr id i j)) (some none) (some none) := rfl
theorem slrA_ref (V : View) (k n j : Nat) (cs : List AV) : slrA V k n (some (.ref cs j)) = if j + n * k ≤ cs.length then some ⟨.ro k (chop k n (cs.drop j)), [], none, []⟩ else none := rfl
theorem slrQ_some (V : View) (k n : Nat) (v : AV) (l h : Option AV) : slrQ V k n (some v) (some l) (some h) = slrP k n l h (frz V.get 16 v) := rfl
theorem slrP_all (k n j : Nat) (cs : List AV) (cl : List Nat) : slrP k n none none (some (.ref cs j, cl)) = if j + n * k ≤ cs.length then some ⟨.ro k (chop k n (cs.drop j)), [], none, cl⟩ else none := by
  simp only [slrP, bnd, slrC, List.drop_zero, Nat.sub_zero]
  have : (chop k n (cs.drop j)).length = n := by
    generalize cs.drop j = c
    induction n generalizing c with
    | zero => rfl
    | succ n ih => simp [chop, ih]
  rw [List.take_of_length_le (by omega)]
def slO (cl : List Nat) : Option AObj → Option AObj
  | some (.row k es c s) => some (.row k es c (s || cl.contains c))
  | o => o
theorem alook_sealO (cl : List Nat) : ∀ (l : List (Nat × AObj)) (j : Nat), alook (sealO cl l) j = slO cl (alook l j)
  | [], j => rfl
  | p :: r, j => by
    simp only [sealO, alook]
    cases Nat.beq p.1 j with
    | true =>
      simp only [cond_true]
      cases p.2 <;> rfl
    | false => exact alook_sealO cl r j
theorem sealC_get (h : AH) (cl : List Nat) (j : Nat) : (h.sealC cl).get j = slO cl (h.get j) := alook_sealO cl h.objs j
theorem slO_row (cl : List Nat) (k : Nat) (es : List (List AV)) (c : Nat) (s : Bool) : slO cl (some (.row k es c s)) = some (.row k es c (s || cl.contains c)) := rfl
theorem slO_none (cl : List Nat) : slO cl none = none := rfl
theorem slO_map (cl : List Nat) (es : List (AV × AV)) : slO cl (some (.map es)) = some (.map es) := rfl
theorem ixrQ_ptr {k n id a j i : Nat} {kk : IntKind} (h : i < n) : ixrQ k n (some (.ptr id a j)) (some (.int kk (i : Int))) = some ⟨.ptr id a (j + i * k), [], none, []⟩ := by
  simp only [ixrQ, idx_nat, h, if_true]
def mkvC (k n : Nat) : Option (List AV) → Option QR
  | some cs => if cs.all isOne = true ∧ cs.all stv = true then some ⟨.ro k (chop k n cs), [], none, []⟩ else none
  | none => none
def mkvQ (k n : Nat) (z : List AV) : Option (List (Nat × Nat × List AV)) → Option QR
  | some ps => mkvC k n (fillAll (List.replicate n z).flatten ps)
  | none => none
theorem q_mkv {P : CallP} {V : View} {t : Nat → Option AV} {k n : Nat} {z : List AV} {ps : List (Nat × Nat × Opd)} : qop P V t (.mkv k n z ps) = mkvQ k n z (evParts t ps) := by
  rw [qop]
  cases evParts t ps with
  | none => rfl
  | some l =>
    simp only [mkvQ]
    cases fillAll (List.replicate n z).flatten l with
    | none => rfl
    | some cs =>
      simp only [mkvC]
      cases h1 : cs.all isOne <;> cases h2 : cs.all stv <;> simp
section
variable {P : CallP} {J : CallI} {n0 : Nat} {sf : List Nat} {d : Option Nat} {r : List OpI} {t : Tr AV} {h : AH}
theorem ops_mkv {fl k n : Nat} {z : List AV} {ps : List (Nat × Nat × Opd)} : ops P J n0 sf (⟨d, none, fl, .mkv k n z ps⟩ :: r) ⟨t, h⟩ = stepQ P J n0 sf fl d r t h (mkvQ k n z (evParts t.get ps)) := by
  rw [ops_q rfl (fun _ => soft_not rfl), q_mkv]
end
theorem mkvQ_some (k n : Nat) (z : List AV) (ps : List (Nat × Nat × List AV)) : mkvQ k n z (some ps) = mkvC k n (fillAll (List.replicate n z).flatten ps) := rfl
theorem mkvC_some (k n : Nat) (cs : List AV) : mkvC k n (some cs) = if cs.all isOne = true ∧ cs.all stv = true then some ⟨.ro k (chop k n cs), [], none, []⟩ else none := rfl
theorem stv_int (k : IntKind) (n : Int) : stv (.int k n) = true := rfl
theorem stv_bool (b : Bool) : stv (.bool b) = true := rfl
theorem stv_str (b : List UInt8) : stv (.str b) = true := rfl
theorem stv_nils : stv .nils = true := rfl
theorem stv_ro (k : Nat) (es : List (List AV)) : stv (.ro k es) = true := rfl
theorem isOne_ro (k : Nat) (es : List (List AV)) : isOne (.ro k es) = true := rfl
theorem stv_slv (n : Bool) (k : Nat) (es : List (List AV)) : stv (slv n k es) = true := by
  rcases slv_cases n k es with h | ⟨h, _⟩ <;> rw [h] <;> rfl
attribute [local go_sem] ops_mkv mkvQ_some mkvC_some stv_int stv_bool stv_str stv_nils stv_ro stv_slv isOne_ro
attribute [local go_sem] ops_slr0 ops_slr1 slrA_ptr slrA_ref frz_ptrC frzPt_one frzPc_some slrQ_some slrP_all stepQ_seal sealC_get slO_row slO_none slO_map seal_next

/-! ### results with rows handed out -/
def callT (cl : List Nat) (b : Bool) (r : AV × List AObj) : Option QR := match cl, b with
  | [], _ => some ⟨r.1, r.2, none, []⟩
  | _, false => some ⟨r.1, r.2, none, []⟩
  | cl, true => some ⟨r.1, r.2, none, cl⟩
theorem callS_T (nx : Nat) (cl : List Nat) (v : AV) : callS nx cl (some v) = callT cl (hasRo 8 v) (adp nx 4 v) := by
  cases cl with
  | nil => rfl
  | cons c cs =>
    simp only [callS]
    cases hasRo 8 v <;> rfl
theorem callS_tupC (nx : Nat) (cl : List Nat) (v : AV) (r : List AV) : callS nx cl (some (.tup (v :: r))) = callT cl (hasRo 8 (.tup (v :: r))) (adp nx 4 (.tup (v :: r))) := callS_T ..
theorem callS_aggC (nx : Nat) (cl : List Nat) (v : AV) (r : List AV) : callS nx cl (some (.agg (v :: r))) = callT cl (hasRo 8 (.agg (v :: r))) (adp nx 4 (.agg (v :: r))) := callS_T ..
theorem callS_exC (nx : Nat) (cl : List Nat) (k : Nat) (es : List (List AV)) : callS nx cl (some (.ex k es)) = callT cl (hasRo 8 (.ex k es)) (adp nx 4 (.ex k es)) := callS_T ..
theorem callT_nil (b : Bool) (a : AV) (os : List AObj) : callT [] b (a, os) = some ⟨a, os, none, []⟩ := rfl
theorem callT_no (cl : List Nat) (a : AV) (os : List AObj) : callT cl false (a, os) = some ⟨a, os, none, []⟩ := by cases cl <;> rfl
theorem callT_yes (c : Nat) (cl : List Nat) (a : AV) (os : List AObj) : callT (c :: cl) true (a, os) = some ⟨a, os, none, c :: cl⟩ := rfl
def adA (p : List AV × List AObj) : AV × List AObj := (.agg p.1, p.2)
def adT (p : List AV × List AObj) : AV × List AObj := (.tup p.1, p.2)
def adJ (a : AV) (os : List AObj) (p : List AV × List AObj) : List AV × List AObj := (a :: p.1, os ++ p.2)
def adK (f n : Nat) (r : List AV) (p : AV × List AObj) : List AV × List AObj := adJ p.1 p.2 (adp.adpL f (n + p.2.length) r)
theorem adp_ex (n f k : Nat) (es : List (List AV)) : adp n (f + 1) (.ex k es) = (.own k n 0 es.length, [.row k es n false]) := by rw [adp]
theorem adp_agg (n f : Nat) (cs : List AV) : adp n (f + 1) (.agg cs) = adA (adp.adpL f n cs) := by rw [adp]; rfl
theorem adp_tup (n f : Nat) (cs : List AV) : adp n (f + 1) (.tup cs) = adT (adp.adpL f n cs) := by rw [adp]; rfl
theorem adpL_nil (n f : Nat) : adp.adpL f n [] = ([], []) := by rw [adp.adpL]
theorem adpL_cons (n f : Nat) (v : AV) (r : List AV) : adp.adpL f n (v :: r) = adK f n r (adp n f v) := by rw [adp.adpL]; rfl
theorem adK_some (f n : Nat) (r : List AV) (a : AV) (os : List AObj) : adK f n r (a, os) = adJ a os (adp.adpL f (n + os.length) r) := rfl
theorem adJ_some (a : AV) (os : List AObj) (b : List AV) (os' : List AObj) : adJ a os (b, os') = (a :: b, os ++ os') := rfl
theorem adA_some (cs : List AV) (os : List AObj) : adA (cs, os) = (.agg cs, os) := rfl
theorem adT_some (cs : List AV) (os : List AObj) : adT (cs, os) = (.tup cs, os) := rfl
theorem adp_int (n f : Nat) (k : IntKind) (x : Int) : adp n f (.int k x) = (.int k x, []) := adp_flat trivial
theorem adp_bool (n f : Nat) (x : Bool) : adp n f (.bool x) = (.bool x, []) := adp_flat trivial
theorem adp_str (n f : Nat) (x : List UInt8) : adp n f (.str x) = (.str x, []) := adp_flat trivial
theorem adp_nils (n f : Nat) : adp n f .nils = (.nils, []) := adp_flat trivial
theorem adp_ro (n f k : Nat) (es : List (List AV)) : adp n f (.ro k es) = (.ro k es, []) := adp_flat trivial
theorem adp_slv (n f : Nat) (b : Bool) (k : Nat) (es : List (List AV)) : adp n f (slv b k es) = (slv b k es, []) := adp_flat (slv_flat ..)
theorem hasRo_int (n : Nat) (k : IntKind) (x : Int) : hasRo (n + 1) (.int k x) = false := rfl
theorem hasRo_bool (n : Nat) (x : Bool) : hasRo (n + 1) (.bool x) = false := rfl
theorem hasRo_str (n : Nat) (x : List UInt8) : hasRo (n + 1) (.str x) = false := rfl
theorem hasRo_nils (n : Nat) : hasRo (n + 1) .nils = false := rfl
theorem hasRo_ro (n k : Nat) (es : List (List AV)) : hasRo (n + 1) (.ro k es) = true := rfl
theorem hasRo_agg (n : Nat) (cs : List AV) : hasRo (n + 1) (.agg cs) = cs.any (hasRo n) := rfl
theorem hasRo_tup (n : Nat) (cs : List AV) : hasRo (n + 1) (.tup cs) = cs.any (hasRo n) := rfl
theorem hasRo_ex (n k : Nat) (es : List (List AV)) : hasRo (n + 1) (.ex k es) = es.any (fun e => e.any (hasRo n)) := rfl
attribute [local go_sem] callS_tupC callS_aggC callS_exC callT_nil callT_no callT_yes adp_ex adp_agg adp_tup adpL_nil adpL_cons adK_some adJ_some adA_some adT_some adp_int adp_bool adp_str adp_nils adp_ro adp_slv hasRo_int hasRo_bool hasRo_str hasRo_nils hasRo_ro hasRo_agg hasRo_tup hasRo_ex List.any_nil List.any_cons

theorem beq_dec_s (a b : List UInt8) : (a == b) = decide (a = b) := by
  by_cases h : a = b
  · subst h; simp
  · simp [h]
theorem bin_seq (a b : List UInt8) : bin .eql (.str a) (.str b) = some (.bool (decide (a = b))) := by
  show some (AV.bool (a == b)) = _; rw [beq_dec_s]
theorem bin_sne (a b : List UInt8) : bin .neq (.str a) (.str b) = some (.bool (!decide (a = b))) := by
  show some (AV.bool (!(a == b))) = _; rw [beq_dec_s]
attribute [local go_sem] bin_seq bin_sne
end Go.Ab
