/- What a row's reading of its arguments says, as abstract values: slices that carry their contents. -/
import Derived.Test.YtjlbgjodfikplaaGreatXa
import Derived.ChangeOld
import Derived.Carry
import Derived.DataReads
import Derived.WideShapes
import Derived.OpenShut
set_option linter.unusedVariables false
set_option linter.unusedSimpArgs false
namespace Go.Ab
open Go.RowKit (Below)

/-- The kinds of the cells of a plain type. -/
inductive CT where
  | b
  | i (k : IntKind)
  | s
  | sl (ts : List CT)

def fieldsCT (P : Program) (f : TypeId → Option (List CT)) : Nat → List Field → Option (List CT)
  | _, [] => some []
  | n, x :: r => match f x.type with
    | some l => bif Nat.beq x.offset n && Nat.beq (P.cellsOf x.type) l.length then
        (match fieldsCT P f (n + l.length) r with | some m => some (l ++ m) | none => none) else none
    | none => none

def ctOf (P : Program) : Nat → TypeId → Option (List CT)
  | 0, _ => none
  | d + 1, t => match P.underlying t with
    | some .bool => some [.b]
    | some (.int k) => some [.i k]
    | some .string => some [.s]
    | some (.slice e) => match ctOf P d e with
      | some l => bif Nat.beq (P.cellsOf e) l.length && Nat.blt 0 l.length then some [.sl l] else none
      | none => none
    | some (.struct fs) => match fieldsCT P (ctOf P d) 0 fs.toList with
      | some l => bif Nat.beq (P.cellsOf t) l.length then some l else none
      | none => none
    | some (.array n e) => match ctOf P d e with
      | some l => bif Nat.beq (P.cellsOf e) l.length && Nat.beq (P.cellsOf t) (n * l.length) then some (List.replicate n l).flatten else none
      | none => none
    | _ => none

mutual
def OkC : CT → AV → Prop
  | .b, v => ∃ b, v = .bool b
  | .i k, v => ∃ n, v = .int k n ∧ (Lit.int k n).wf = true
  | .s, v => ∃ s : List UInt8, v = .str s ∧ s.length ≤ maxLen
  | .sl ts, v => v = .nils ∨ ∃ es : List (List AV), v = .ro ts.length es ∧ es.length ≤ maxLen ∧ ∀ e ∈ es, OkCs ts e
def OkCs : List CT → List AV → Prop
  | [], vs => vs = []
  | t :: ts, vs => ∃ v r, vs = v :: r ∧ OkC t v ∧ OkCs ts r
end

theorem OkCs.length : ∀ {ts : List CT} {vs : List AV}, OkCs ts vs → vs.length = ts.length
  | [], _, h => by simp only [OkCs] at h; simp [h]
  | t :: ts, _, h => by
    simp only [OkCs] at h
    obtain ⟨v, r, rfl, _, h2⟩ := h
    simp [OkCs.length h2]
theorem OkCs.append : ∀ {ts us : List CT} {vs ws : List AV}, OkCs ts vs → OkCs us ws → OkCs (ts ++ us) (vs ++ ws)
  | [], _, _, _, h, k => by simp only [OkCs] at h; subst h; simpa using k
  | t :: ts, _, _, _, h, k => by
    simp only [OkCs] at h
    obtain ⟨v, r, rfl, h1, h2⟩ := h
    simp only [List.cons_append, OkCs]
    exact ⟨v, _, rfl, h1, h2.append k⟩
theorem OkC.one {t : CT} {v : AV} (h : OkC t v) : isOne v = true := by
  cases t with
  | b => simp only [OkC] at h; obtain ⟨b, rfl⟩ := h; rfl
  | i k => simp only [OkC] at h; obtain ⟨n, rfl, _⟩ := h; rfl
  | s => simp only [OkC] at h; obtain ⟨n, rfl, _⟩ := h; rfl
  | sl ts => simp only [OkC] at h; rcases h with rfl | ⟨es, rfl, _⟩ <;> rfl
theorem OkCs.one : ∀ {ts : List CT} {vs : List AV}, OkCs ts vs → ∀ v ∈ vs, isOne v = true
  | [], _, h => by simp only [OkCs] at h; simp [h]
  | t :: ts, _, h => by
    simp only [OkCs] at h
    obtain ⟨v, r, rfl, h1, h2⟩ := h
    intro x hx
    rcases List.mem_cons.1 hx with rfl | hx
    · exact h1.one
    · exact OkCs.one h2 x hx

variable {H : Type} {enc : TypeId × Value → H} {P : Program} {w : World}

/-- The state of a call's start: all memory stands. -/
def X0 (w : World) : Cx := ⟨w, 0, fun b => b < w.heap.size, fun _ => none⟩

theorem cells?_get {a : Addr} {n : Nat} {cs : List Value} (h : w.cells? 0 a n = some cs) : cs.length = n ∧ ∀ i, i < n → w.cell? (a.add i) = cs[i]? := by
  unfold World.cells? at h
  rw [if_pos (Nat.zero_le _)] at h
  refine ⟨by simpa using mapM_some_length h, fun i hi => ?_⟩
  exact mapM_some_get h i i (by simp [hi])

theorem cell?_spot {a : Addr} {v : Value} (h : w.cell? a = some v) : a.spot = none ∧ a.block < w.heap.size ∧ a = ⟨a.block, a.off, none⟩ := by
  have hb := World.block_lt_of_cell? w a h
  unfold World.cell? at h
  split at h
  · split at h
    · cases h
    · rename_i hs
      have : a.spot = none := by simpa using hs
      exact ⟨this, hb, by cases a; simp at this; simp [this]⟩
  · cases h

theorem Addr.add_eq {a : Addr} (h : a.spot = none) (n : Nat) : a.add n = ⟨a.block, a.off + n, none⟩ := by
  unfold Addr.add
  split
  · rename_i e; subst e; cases a; simp at h; simp [h]
  · rfl

theorem VRs_one {X : Cx} {a : AV} {v : Value} (h : VR X a v) : VRs X [a] [v] := by
  simp only [VRs]; exact ⟨v, [], rfl, h, rfl⟩

theorem fields_read {n : Nat} {sp : Nat → Bool} {held : Bool} {d : Nat}
    (ih : ∀ t cs x, DataW.trod enc P w 0 sp held n t cs = some x → ∀ ts, ctOf P d t = some ts → ∃ avs, OkCs ts avs ∧ VRs (X0 w) avs cs) (cs : List Value) :
    ∀ (fs : List Field) (o : Nat) (ts : List CT), fieldsCT P (ctOf P d) o fs = some ts →
      (∀ f ∈ fs, ∃ x, DataW.trod enc P w 0 sp held n f.type ((cs.drop f.offset).take (P.cellsOf f.type)) = some x) → cs.length = o + ts.length →
      ∃ avs, OkCs ts avs ∧ VRs (X0 w) avs (cs.drop o)
  | [], o, ts, h, _, hl => by
    simp only [fieldsCT, Option.some.injEq] at h
    subst h
    refine ⟨[], by simp [OkCs], ?_⟩
    have : cs.drop o = [] := by apply List.drop_eq_nil_of_le; simp at hl; omega
    simp [VRs, this]
  | f :: fs, o, ts, h, hm, hl => by
    simp only [fieldsCT] at h
    split at h
    · rename_i l hf
      cases hc : (Nat.beq f.offset o && Nat.beq (P.cellsOf f.type) l.length) with
      | false => simp [hc] at h
      | true =>
        simp only [hc, cond_true] at h
        simp only [Bool.and_eq_true] at hc
        have ho := Nat.eq_of_beq_eq_true hc.1
        have hk := Nat.eq_of_beq_eq_true hc.2
        split at h
        · rename_i m hm2
          cases h
          obtain ⟨y, hy⟩ := hm f (by simp)
          rw [ho, hk] at hy
          obtain ⟨a1, a2, a3⟩ := ih _ _ _ hy l hf
          obtain ⟨b1, b2, b3⟩ := fields_read ih cs fs (o + l.length) m hm2 (fun g hg => hm g (by simp [hg])) (by simp at hl; omega)
          refine ⟨a1 ++ b1, a2.append b2, ?_⟩
          have : cs.drop o = (cs.drop o).take l.length ++ cs.drop (o + l.length) := by
            rw [← List.drop_drop]; exact (List.take_append_drop _ _).symm
          rw [this]
          exact a3.append b3
        · cases h
    · cases h

theorem elems_read {k : Nat} {ts : List CT} (cs : List Value) :
    ∀ (m o : Nat), (∀ i, o ≤ i → i < o + m → ∃ avs, OkCs ts avs ∧ VRs (X0 w) avs ((cs.drop (i * k)).take k)) → cs.length = (o + m) * k →
      ∃ avs, OkCs (List.replicate m ts).flatten avs ∧ VRs (X0 w) avs (cs.drop (o * k))
  | 0, o, _, hl => by
    refine ⟨[], by simp [OkCs], ?_⟩
    have : cs.drop (o * k) = [] := by apply List.drop_eq_nil_of_le; simp at hl; omega
    simp [VRs, this]
  | m + 1, o, h, hl => by
    obtain ⟨a1, a2, a3⟩ := h o (Nat.le_refl _) (by omega)
    obtain ⟨b1, b2, b3⟩ := elems_read cs m (o + 1) (fun i h1 h2 => h i (by omega) (by omega)) (by rw [hl]; congr 1; omega)
    refine ⟨a1 ++ b1, by rw [List.replicate_succ, List.flatten_cons]; exact a2.append b2, ?_⟩
    have : cs.drop (o * k) = (cs.drop (o * k)).take k ++ cs.drop ((o + 1) * k) := by
      rw [Nat.add_mul, Nat.one_mul, ← List.drop_drop]; exact (List.take_append_drop _ _).symm
    rw [this]
    exact a3.append b3

theorem list_of {α : Type} {Q : Nat → α → Prop} : ∀ (n : Nat), (∀ i, i < n → ∃ x, Q i x) → ∃ l : List α, l.length = n ∧ ∀ i x, l[i]? = some x → Q i x
  | 0, _ => ⟨[], rfl, by simp⟩
  | n + 1, h => by
    obtain ⟨l, hl, hq⟩ := list_of n (fun i hi => h i (by omega))
    obtain ⟨x, hx⟩ := h n (by omega)
    refine ⟨l ++ [x], by simp [hl], fun i y hy => ?_⟩
    rw [List.getElem?_append] at hy
    split at hy
    · exact hq i y hy
    · rename_i hlt
      have : i - l.length = 0 := by
        cases hj : i - l.length with
        | zero => rfl
        | succ j => rw [hj] at hy; simp at hy
      rw [this] at hy
      simp at hy
      subst hy
      have : i = n := by omega
      subst this
      exact hx

theorem trod_reads (sp : Nat → Bool) (held : Bool) : ∀ (n : Nat) (d : Nat) (t : TypeId) (cs : List Value) (x : DataW H × List MemPlace), DataW.trod enc P w 0 sp held n t cs = some x →
    ∀ ts, ctOf P d t = some ts → ∃ avs, OkCs ts avs ∧ VRs (X0 w) avs cs := by
  intro n
  induction n with
  | zero => intro d t cs x h; simp [DataW.trod] at h
  | succ n ih =>
    intro d t cs x h ts hts
    cases d with
    | zero => simp [ctOf] at hts
    | succ d =>
      rw [ctOf] at hts
      cases hu : P.underlying t with
      | none => rw [hu] at hts; cases hts
      | some u =>
        rw [hu] at hts
        cases u with
        | bool =>
          simp only [Option.some.injEq] at hts
          subst hts
          obtain ⟨b, rfl, _⟩ := DataW.trod_bool hu h
          exact ⟨[.bool b], by simp [OkCs, OkC], VRs_one VR_bool⟩
        | int k =>
          simp only [Option.some.injEq] at hts
          subst hts
          obtain ⟨m, rfl, _, hw⟩ := DataW.trod_int hu h
          exact ⟨[.int k m], by simp [OkCs, OkC, hw], VRs_one VR_int⟩
        | string =>
          simp only [Option.some.injEq] at hts
          subst hts
          obtain ⟨s, rfl, _, hw⟩ := DataW.trod_string hu h
          exact ⟨[.str s.data.toList], by simp only [OkCs, OkC]; exact ⟨_, _, rfl, ⟨_, rfl, by show s.data.toList.length ≤ maxLen; rw [Array.length_toList]; exact hw⟩, rfl⟩, VRs_one (by simp only [VR])⟩
        | struct fs =>
          simp only at hts
          split at hts
          · rename_i l hl
            cases hc : Nat.beq (P.cellsOf t) l.length with
            | false => simp [hc] at hts
            | true =>
              simp only [hc, cond_true, Option.some.injEq] at hts
              subst hts
              have hk := Nat.eq_of_beq_eq_true hc
              obtain ⟨xs, m, hm, _, hlen, hxs, hf⟩ := DataW.trod_struct hu h
              cases hm
              obtain ⟨avs, h1, h2⟩ := fields_read (fun t cs x hx ts ht => ih d t cs x hx ts ht) cs fs.toList 0 l hl (fun f hf' => by
                obtain ⟨i, hi, rfl⟩ := List.getElem_of_mem hf'
                have hi' : i < fs.size := by simpa using hi
                have := hf i fs[i] (by simp [hi'])
                rw [List.getElem?_eq_getElem (by omega)] at this
                refine ⟨xs[i]'(by omega), ?_⟩
                rw [Array.getElem_toList]
                exact this) (by omega)
              exact ⟨avs, h1, by simpa using h2⟩
          · cases hts
        | array m e =>
          simp only at hts
          split at hts
          · rename_i l hl
            cases hc : (Nat.beq (P.cellsOf e) l.length && Nat.beq (P.cellsOf t) (m * l.length)) with
            | false => simp [hc] at hts
            | true =>
              simp only [hc, cond_true, Option.some.injEq] at hts
              subst hts
              simp only [Bool.and_eq_true] at hc
              have hk := Nat.eq_of_beq_eq_true hc.1
              have ht := Nat.eq_of_beq_eq_true hc.2
              obtain ⟨xs, m', hm, _, hlen, hxs, hf⟩ := DataW.trod_array hu h
              cases hm
              obtain ⟨avs, h1, h2⟩ := elems_read (w := w) (k := l.length) (ts := l) cs m 0 (fun i _ hi => by
                have hi' : i < m := by omega
                have := hf i hi'
                rw [hk, List.getElem?_eq_getElem (by omega)] at this
                exact ih d e _ (xs[i]'(by omega)) this l hl) (by rw [hlen, ht]; congr 1; omega)
              exact ⟨avs, h1, by simpa using h2⟩
          · cases hts
        | slice e =>
          simp only at hts
          split at hts
          · rename_i l hl
            cases hc : (Nat.beq (P.cellsOf e) l.length && Nat.blt 0 l.length) with
            | false => simp [hc] at hts
            | true =>
              simp only [hc, cond_true, Option.some.injEq] at hts
              subst hts
              simp only [Bool.and_eq_true] at hc
              have hk := Nat.eq_of_beq_eq_true hc.1
              have hp : 0 < l.length := by simpa [Nat.blt_eq] using hc.2
              rcases DataW.trod_slice hu h with ⟨rfl, _⟩ | ⟨a, len, cap, elems, rest, m, hm, rfl, _, hb, hlc, hcm, hel, hel2, _, _⟩
              · exact ⟨[.nils], by simp [OkCs, OkC], VRs_one (by simp [VR])⟩
              · cases hm
                rw [hk] at hel2
                obtain ⟨es, he1, he2⟩ := list_of (Q := fun i (e' : List AV) => OkCs l e' ∧ ∃ cs, w.cells? 0 (a.add (i * l.length)) l.length = some cs ∧ VRs (X0 w) e' cs) len (fun i hi => by
                  have := hel2 i hi
                  rw [List.getElem?_eq_getElem (by omega)] at this
                  obtain ⟨cs, hcs, hx⟩ := Option.bind_eq_some_iff.1 this
                  obtain ⟨avs, h1, h2⟩ := ih d e cs _ hx l hl
                  exact ⟨avs, h1, cs, hcs, h2⟩)
                refine ⟨[.ro l.length es], ?_, VRs_one ?_⟩
                · simp only [OkCs, OkC]
                  refine ⟨_, _, rfl, .inr ⟨es, rfl, by omega, fun e' he' => ?_⟩, rfl⟩
                  obtain ⟨i, hi, rfl⟩ := List.getElem_of_mem he'
                  exact (he2 i _ (List.getElem?_eq_getElem hi)).1
                · simp only [VR]
                  refine ⟨a, cap, by rw [he1], by omega, ?_⟩
                  cases hes : es with
                  | nil => exact .inl rfl
                  | cons e0 er =>
                    right
                    rw [← hes]
                    have h0 : es[0]? = some e0 := by rw [hes]; rfl
                    obtain ⟨_, cs0, hcs0, _⟩ := he2 0 e0 h0
                    obtain ⟨hl0, hg0⟩ := cells?_get hcs0
                    have hc0 := hg0 0 hp
                    rw [List.getElem?_eq_getElem (by omega)] at hc0
                    have ha : (a.add (0 * l.length)).add 0 = a := by simp [Addr.add]
                    rw [ha] at hc0
                    obtain ⟨hs, hlt, _⟩ := cell?_spot hc0
                    refine ⟨hs, hlt, VRe.of fun i e' he' => ?_⟩
                    obtain ⟨hok, cs', hcs', hv⟩ := he2 i e' he'
                    obtain ⟨hl', hg'⟩ := cells?_get hcs'
                    refine ⟨hok.length, VRc.ofVals hv hok.one fun j u hu => ?_⟩
                    have hj : j < l.length := by
                      have := (List.getElem?_eq_some_iff.1 hu).1; omega
                    have := hg' j hj
                    rw [hu, Addr.add_eq hs, Addr.add_eq rfl] at this
                    exact this
          · cases hts
        | _ => cases hts

/-! ### a call's arguments -/
/-- Is a parameter's value a struct or an array; the kinds of its cells. -/
def ctArgs (P : Program) (d : Nat) : List TypeId → Option (List (Bool × List CT))
  | [] => some []
  | t :: ts => match isAggT P t, ctOf P d t, ctArgs P d ts with
    | some g, some l, some r => some ((g, l) :: r)
    | _, _, _ => none

/-- Arguments of these kinds. -/
def OkArgs : List (Bool × List CT) → List AV → Prop
  | [], vs => vs = []
  | x :: xs, vs => ∃ v r cs, vs = v :: r ∧ (if x.1 = true then v = .agg cs else cs = [v]) ∧ OkCs x.2 cs ∧ OkArgs xs r

theorem args_read {W : World} (sp : Nat → Bool) (held : Bool) {rch : Reach} {b0 d : Nat} : ∀ (ts : List TypeId) (vs : List Value) (ds : List (DataW H)) (ps : List MemPlace) (cts : List (Bool × List CT)),
    DataW.TrodAll enc P W 0 sp held ts vs ds ps → (∀ (j : Nat) t v, ts[j]? = some t → vs[j]? = some v → Value.okWide P W rch b0 t v) → ctArgs P d ts = some cts →
    ∃ avs, OkArgs cts avs ∧ VRs (X0 W) avs vs
  | [], vs, ds, ps, cts, h, _, hc => by
    obtain ⟨rfl, _, _⟩ := Go.ChangeShapes.trodAll_nil h
    simp only [ctArgs, Option.some.injEq] at hc
    subst hc
    exact ⟨[], by simp [OkArgs], by simp [VRs]⟩
  | t :: ts, vs, ds, ps, cts, h, hok, hc => by
    obtain ⟨v, vs', d', ds', p, q, rfl, rfl, rfl, ⟨fuel, h1⟩, h2⟩ := Go.ChangeShapes.trodAll_cons h
    simp only [ctArgs] at hc
    split at hc
    · rename_i g l r hg hl hr
      simp only [Option.some.injEq] at hc
      subst hc
      obtain ⟨avs, a1, a2⟩ := args_read sp held ts vs' ds' q r h2 (fun j t v ht hv => hok (j + 1) t v (by simpa using ht) (by simpa using hv)) hr
      obtain ⟨cs, c1, c2⟩ := trod_reads sp held fuel d t _ _ h1 l hl
      have hv := hok 0 t v rfl rfl
      unfold isAggT at hg
      cases g with
      | true =>
        have : ∃ us : Array Value, v = .agg us := by
          unfold Value.okWide at hv
          split at hg
          · rename_i hu; rw [hu] at hv; obtain ⟨us, h, _⟩ := hv; exact ⟨us, h⟩
          · rename_i hu; rw [hu] at hv; obtain ⟨us, h, _⟩ := hv; exact ⟨us, h⟩
          · cases hg
          · cases hg
        obtain ⟨us, rfl⟩ := this
        refine ⟨.agg cs :: avs, ?_, ?_⟩
        · simp only [OkArgs]; exact ⟨_, _, cs, rfl, by simp, c1, a1⟩
        · simp only [VRs]; exact ⟨_, _, rfl, by simp only [VR]; exact ⟨us, rfl, by simpa [Value.cells] using c2⟩, a2⟩
      | false =>
        have hna : ∀ us, v ≠ .agg us := by
          intro us e
          subst e
          unfold Value.okWide at hv
          cases d with
          | zero => simp [ctOf] at hl
          | succ d =>
            rw [ctOf] at hl
            cases hu : P.underlying t with
            | none => rw [hu] at hl; cases hl
            | some u =>
              rw [hu] at hl hg hv
              cases u <;> first | (cases hl; done) | (cases hg; done) | (simp only [Cell.okWide, Cell.ok, hu] at hv)
        have hcell : v.cells.toList = [v] := by
          cases v <;> first | rfl | exact absurd rfl (hna _)
        rw [hcell] at c2
        have hlen := c2.length
        obtain ⟨c, rfl⟩ : ∃ c, cs = [c] := by
          cases cs with
          | nil => simp at hlen
          | cons c r => cases r with
            | nil => exact ⟨c, rfl⟩
            | cons => simp at hlen
        refine ⟨c :: avs, ?_, ?_⟩
        · simp only [OkArgs]; exact ⟨_, _, [c], rfl, by simp, c1, a1⟩
        · simp only [VRs] at c2 ⊢
          obtain ⟨u, us, hu, hv', rfl⟩ := c2
          simp only [List.cons.injEq, and_true] at hu
          subst hu
          exact ⟨_, _, rfl, hv', a2⟩
    · cases hc
end Go.Ab
