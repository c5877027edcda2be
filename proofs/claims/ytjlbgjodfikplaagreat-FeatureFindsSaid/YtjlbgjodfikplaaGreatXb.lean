/- The writing operations: the machine does what the evaluator says. -/
import Derived.Test.YtjlbgjodfikplaaGreatXa
import Derived.LoopN
import Derived.Scope
set_option linter.unusedVariables false
set_option linter.unusedSimpArgs false
namespace Go.Ab
variable {P : Program}
section
variable {X : Cx} {t : Nat → Option AV} {a : Act} {o : Oper} {tp dom : Nat → Prop} {i : I} {im : Imp} {calli : CallI} {h h' : AH} {r : AV}

theorem get_setKill (h : AH) {id cls : Nat} {x y : AObj} (hx : h.get id = some x) (hy : y ≠ .dead) : (AH.get { h with objs := killO id cls (setO h.objs id y) }) = wG h.get id cls y := by
  funext j
  show alook (killO id cls (setO h.objs id y)) j = _
  rw [alook_killO]
  have hx : alook h.objs id = some x := hx
  simp only [alook_setO hx hy, wG]
  by_cases e : j = id
  · simp [e]
  · simp [e]; rfl

theorem do_st {ty : TypeId} {x v : Operand} (ho : o.op = .store ty x v) (hH : HR X h.get tp dom) (hT : TR X t a) (hi : instr P im o.op = some i) (hq : wop calli h t i = some (r, h')) :
    Does P o a X.w (WPost X r h'.get tp dom) := by
  rw [ho] at hi
  simp only [instr] at hi
  split at hi
  · rename_i x' v' inf hx hv hinf
    simp only [Option.some.injEq] at hi; subst hi
    simp only [wop] at hq
    split at hq
    · rename_i id i' j vv hxv hvv
      split at hq
      · rename_i kk es cls hget
        split at hq
        · rename_i e he
          obtain ⟨hb, hq⟩ := bif_some hq
          simp only [Prod.mk.injEq] at hq
          obtain ⟨rfl, rfl⟩ := hq
          simp only [Bool.and_eq_true, List.all_eq_true] at hb
          obtain ⟨⟨hb1, hb2⟩, hb3⟩ := hb
          have hb1 := Nat.eq_of_beq_eq_true hb1
          have hb3 := Nat.le_of_ble_eq_true hb3
          have e1 := opd_sound hT hx hxv
          have e2 := opd_sound hT hv hvv
          simp only [VR] at e1
          obtain ⟨L, l1, l2⟩ := e1
          have hcs := avCells_VR e2
          obtain ⟨w', h1, h2, h3⟩ := hH.store (P := P) (i := i') (j := j) hget l1 he (by rw [hb1]; exact hb3) hb2 hcs
          have hsz : (a.eval v).cells.size = inf.size := by have := hcs.length; simp at this; omega
          refine Does.of_skip (w' := w') ?_ ⟨_, rfl, h2, by simp [VR], ?_⟩
          · simp [execOp, ho, l2, Instr.storeAt, Instr.sureAddr, storeVar, sizeOf, typeInfo, hinf, hsz, h1]
          · rw [get_setKill h hget (by simp)]; exact h3
        · cases hq
      · cases hq
    · cases hq
  · cases hi

theorem zeroCells_eq (z : Array Value) (n : Nat) : Builtin.zeroCells z n = (Array.range (n * z.size)).map (z[· % z.size]!) := rfl

theorem VRe.split {k b o' : Nat} {es : List (List AV)} (h : VRe X k es b o') (n : Nat) : VRe X k (es.take n) b o' ∧ VRe X k (es.drop n) b (o' + n * k) := ⟨h.take n, h.drop n⟩

/-- A map's block changes. -/
theorem HR.mapset (hH : HR X h.get tp dom) {id : Nat} {es es' : List (AV × AV)} (hg : h.get id = some (.map es)) {L : Loc} (hL : X.loc id = some L) {ents ents' : Array MapEntry} {cl cl' : Nat} (hcur : X.w.heap[L.b]? = some (.map ents cl))
    (hrel : ∀ Y : Cx, Ext X Y → EntRel Y es' ents'.toList) :
    (setObj L.b (.map ents' cl')).run P X.w = .ok () { X.w with heap := X.w.heap.setIfInBounds L.b (.map ents' cl') } ∧ Stp X { X with w := { X.w with heap := X.w.heap.setIfInBounds L.b (.map ents' cl') } } ∧
      HR { X with w := { X.w with heap := X.w.heap.setIfInBounds L.b (.map ents' cl') } } (AH.get { h with objs := setO h.objs id (.map es') }) tp dom := by
  obtain ⟨L', p1, p2, p3, p4⟩ := hH.obj id _ hg
  rw [hL] at p1; cases p1
  have p4 : MapAt X es L := p4
  have hgl : ∀ j, AH.get { h with objs := setO h.objs id (.map es') } j = if j = id then some (.map es') else h.get j := alook_setO (l := h.objs) (id := id) hg (by simp)
  have only : ∀ j ob M, AH.get { h with objs := setO h.objs id (.map es') } j = some ob → X.loc j = some M → M.b = L.b → j = id ∧ ob = .map es' := by
    intro j ob M hj hM hMb
    rw [hgl] at hj
    by_cases e : j = id
    · rw [if_pos e] at hj; exact ⟨e, by simpa using hj.symm⟩
    · rw [if_neg e] at hj
      rcases hH.sep j id ob _ M L hj hg hM hL hMb with h1 | ⟨c, c1, c2⟩
      · exact absurd h1 e
      · simp [clsOf] at c2
  refine ⟨by simp [setObj, Sem.run, hcur], ?_⟩
  refine hH.blkset (b := L.b) ⟨fun k hk => by simp [Ne.symm hk], by simp, rfl, rfl, rfl⟩ p2 p3 p4.free rfl rfl (fun _ _ h => h) hH.dom ?_ ?_ ?_ ?_ ?_ ?_ ?_
  · intro j ob hj
    rw [hgl] at hj
    by_cases e : j = id
    · subst e; exact ⟨L, hL⟩
    · rw [if_neg e] at hj; obtain ⟨M, hM, _⟩ := hH.obj j ob hj; exact ⟨M, hM⟩
  · intro j ob M hj hM hMb
    rw [hgl] at hj
    by_cases e : j = id
    · subst e
      have hM : X.loc j = some M := hM
      rw [hL] at hM; cases hM; exact absurd rfl hMb
    · rw [if_neg e] at hj; exact ⟨hj, hM⟩
  · intro ext j ob M hj hM hMb
    obtain ⟨rfl, rfl⟩ := only j ob M hj hM hMb
    have hM : X.loc j = some M := hM
    rw [hL] at hM; cases hM
    have hr := hrel _ ext
    refine ⟨⟨ents', cl', by simp [p3], by simpa using hr.1, fun n e m he hm => hr.2 n e m he (by simpa using hm)⟩, p4.free⟩
  · intro i1 j1 oi oj Li Lj h1 h2 h3 h4 h5 h6
    exact .inl ((only i1 oi Li h1 h3 h5).1.trans (only j1 oj Lj h2 h4 h6).1.symm)
  · intro i1 j1 k1 es1' c1 s1 k2' es2' c2 s2 Li Lj ht h1 h2 h3 h4' h5 h6
    obtain ⟨_, e1⟩ := only i1 _ Li h1 h3 h5
    cases e1
  · intro i1 j1 oi oj Li Lj _ _ h1 h2 h3 h4 h5 h6
    exact (only i1 oi Li h1 h3 h5).1.trans (only j1 oj Lj h2 h4 h6).1.symm
  · intro j ob M ht _ _ _; exact ht

theorem sb_nat (u : Value) (n : Nat) (h : (∃ b, u = .bool b) ∨ (∃ k x, u = .int k x) ∨ ∃ s, u = .string s) : Instr.sameBits n u u = true := by
  rcases h with ⟨b, rfl⟩ | ⟨k, x, rfl⟩ | ⟨s, rfl⟩
  · simp [Instr.sameBits]
  · simp [Instr.sameBits]
  · simp only [Instr.sameBits]
    show (s.data == s.data) = true
    simp

theorem eqK_same : ∀ {ks : List SK} {xs ys : List AV} {us vs : List Value}, eqK ks xs ys = some true → VRs X xs us → VRs X ys vs → us = vs ∧ ∀ u ∈ us, ∀ n, Instr.sameBits n u u = true
  | [], [], [], us, vs, _, h1, h2 => by
    simp only [VRs] at h1 h2; subst h1; subst h2; simp
  | k :: ks, x :: xs, y :: ys, us, vs, h, h1, h2 => by
    simp only [eqK] at h
    split at h
    · rename_i p q hp hq
      simp only [Option.some.injEq, Bool.and_eq_true] at h
      obtain ⟨rfl, rfl⟩ := h
      simp only [VRs] at h1 h2
      obtain ⟨u, us', rfl, a1, a2⟩ := h1
      obtain ⟨v, vs', rfl, b1, b2⟩ := h2
      obtain ⟨rfl, hrest⟩ := eqK_same hq a2 b2
      have : u = v ∧ ((∃ b, u = .bool b) ∨ (∃ k x, u = .int k x) ∨ ∃ s, u = .string s) := by
        cases k <;> cases x <;> cases y <;> simp only [eq1] at hp <;> (try (cases hp; done)) <;> simp only [VR] at a1 b1 <;> subst a1 <;> subst b1
        · simp only [Option.some.injEq, beq_iff_eq] at hp; subst hp; exact ⟨rfl, .inl ⟨_, rfl⟩⟩
        · split at hp
          · rename_i hc; obtain ⟨rfl, rfl⟩ := hc
            simp only [Option.some.injEq, beq_iff_eq] at hp; subst hp; exact ⟨rfl, .inr (.inl ⟨_, _, rfl⟩)⟩
          · cases hp
        · simp only [Option.some.injEq, beq_iff_eq] at hp; subst hp; exact ⟨rfl, .inr (.inr ⟨_, rfl⟩)⟩
      obtain ⟨rfl, hs⟩ := this
      refine ⟨rfl, fun w hw n => ?_⟩
      rcases List.mem_cons.1 hw with rfl | hw
      · exact sb_nat _ n hs
      · exact hrest w hw n
    · cases h
  | [], _ :: _, _, _, _, h, _, _ | [], [], _ :: _, _, _, h, _, _ | _ :: _, [], _, _, _, h, _, _ | _ :: _, _ :: _, [], _, _, h, _, _ => by simp [eqK] at h

theorem keq_same {ag : Bool} {ks : List SK} {x y : AV} {u v : Value} (h : keq ag ks x y = some true) (hx : VR X x u) (hy : VR X y v) : u = v ∧ Instr.sameBits 10000 u u = true := by
  unfold keq at h
  split at h
  · rename_i xs ys h1 h2
    cases ag with
    | true =>
      cases x <;> simp only [keyCs] at h1 <;> (try (cases h1; done))
      cases y <;> simp only [keyCs] at h2 <;> (try (cases h2; done))
      simp only [Option.some.injEq] at h1 h2
      subst h1; subst h2
      simp only [VR] at hx hy
      obtain ⟨us, rfl, a2⟩ := hx
      obtain ⟨vs, rfl, b2⟩ := hy
      obtain ⟨e1, e2⟩ := eqK_same h a2 b2
      have : us = vs := Array.ext' e1
      subst this
      refine ⟨rfl, ?_⟩
      show Instr.sameBits (9999 + 1) _ _ = true
      simp only [Instr.sameBits, beq_self_eq_true, Bool.true_and, List.all_eq_true]
      rintro ⟨p, q⟩ hpq
      have : p = q := by
        rw [List.mem_iff_getElem?] at hpq
        obtain ⟨n, hn⟩ := hpq
        rw [List.getElem?_zip_eq_some] at hn
        have := hn.1.symm.trans hn.2
        simpa using this
      subst this
      exact e2 p (List.of_mem_zip hpq).1 _
    | false =>
      have c1 : xs = [x] := by cases x <;> simp only [keyCs] at h1 <;> (try (cases h1; done)) <;> (simp only [Option.some.injEq] at h1; exact h1.symm)
      have c2 : ys = [y] := by cases y <;> simp only [keyCs] at h2 <;> (try (cases h2; done)) <;> (simp only [Option.some.injEq] at h2; exact h2.symm)
      subst c1; subst c2
      obtain ⟨e1, e2⟩ := eqK_same h (us := [u]) (vs := [v]) (by simp only [VRs]; exact ⟨u, [], rfl, hx, rfl⟩) (by simp only [VRs]; exact ⟨v, [], rfl, hy, rfl⟩)
      simp only [List.cons.injEq, and_true] at e1
      exact ⟨e1, e2 u (by simp) 10000⟩
  · cases h

theorem EntRel.push {es : List (AV × AV)} {ms : List MapEntry} (h : EntRel X es ms) {k v : AV} {m : MapEntry} (hk : VR X k m.key) (hv : VR X v m.val) : EntRel X (es ++ [(k, v)]) (ms ++ [m]) := by
  refine ⟨by simp [h.1], fun j e x he hx => ?_⟩
  by_cases hj : j < es.length
  · rw [List.getElem?_append_left hj] at he
    rw [List.getElem?_append_left (by rw [h.1]; exact hj)] at hx
    exact h.2 j e x he hx
  · rw [List.getElem?_append_right (by omega)] at he
    rw [List.getElem?_append_right (by rw [h.1]; omega), h.1] at hx
    cases hn : j - es.length with
    | zero => rw [hn] at he hx; simp at he hx; subst he; subst hx; exact ⟨hk, hv⟩
    | succ n => rw [hn] at he; simp at he

theorem EntRel.mono {Y : Cx} {es : List (AV × AV)} {ms : List MapEntry} (h : EntRel X es ms) (e : Ext X Y) : EntRel Y es ms :=
  ⟨h.1, fun j x m hx hm => ⟨VR.mono e _ _ (h.2 j x m hx hm).1, VR.mono e _ _ (h.2 j x m hx hm).2⟩⟩

theorem do_mup {ty kt el : TypeId} {m k v : Operand} {m' k' v' : Opd} {ks : List SK} {ag : Bool} (ho : o.op = .mapUpdate ty m k v ∨ o.op = .insert ty m k v) (hu : P.underlying ty = some (.map kt el)) (hm : opd m = some m') (hk : opd k = some k') (hv : opd v = some v')
    (hf : flatK P 20 kt = some ks) (hg : isAggT P kt = some ag) (hH : HR X h.get tp dom) (hT : TR X t a) (hq : wop calli h t (.mup ag ks m' k' v') = some (r, h')) : Does P o a X.w (WPost X r h'.get tp dom) := by
  have exec : ∀ {w : World}, (execOp a.eval o).run P w = ((Instr.mapUpdate ty (a.eval m) (a.eval k) (a.eval v)).run P w).andThen fun _ w' => .ok .skip w' := by
    intro w
    rcases ho with ho | ho <;> (unfold execOp; rw [ho]; exact Sem.run_bind ..)
  simp only [wop] at hq
  split at hq
  · rename_i id kv vv hmv hkv hvv
    have e1 := opd_sound hT hm hmv
    have e2 := opd_sound hT hk hkv
    have e3 := opd_sound hT hv hvv
    split at hq
    · rename_i es hget
      simp only [VR] at e1
      obtain ⟨L, f1, f2⟩ := e1
      obtain ⟨L', g1, _, _, g4⟩ := hH.obj id _ hget
      rw [f1] at g1; cases g1
      obtain ⟨ents, clock, g5, g6⟩ := MapAt.rel (show MapAt X es L from g4)
      have gob : (getObj L.b).run P X.w = .ok (.map ents clock) X.w := by simp [getObj, Sem.run, g5]
      have ck : ∀ (res : Option Nat), mkeyIdx ag ks es kv 0 = some res → (Instr.checkKey false 10000 kt (a.eval k)).run P X.w = .ok () X.w := by
        intro res hres
        obtain ⟨b, hb⟩ := mkeyIdx_self hres
        unfold keq at hb
        split at hb
        · rename_i xs ys h1 h2
          obtain ⟨us, q1, q2⟩ := key_pv (P := P) hg h1 e2
          rw [q2]
          exact checkKey_ok 20 kt ks hf us (by rw [q1.length]; exact (eqK_len hb).1) 10000 (by omega)
        · cases hb
      split at hq
      · rename_i n hr
        simp only [Option.some.injEq, Prod.mk.injEq] at hq
        obtain ⟨rfl, rfl⟩ := hq
        obtain ⟨r', h1, h2⟩ := findKey_sound (P := P) hg hf e2 g6 hr
        cases r' with
        | none => simp [FoundRel] at h2
        | some p =>
          obtain ⟨j, u⟩ := p
          obtain ⟨rfl, _, e8, h3, h4, h5⟩ := h2
          simp only [Nat.sub_zero] at h3
          have hj : j < ents.size := by have := g6.1; have := (List.getElem?_eq_some_iff.1 h3).1; simp at *; omega
          have hkey := (g6.2 j e8 ents[j] h3 (by simp [hj])).1
          obtain ⟨hsame, hsb⟩ := keq_same h5 e2 hkey
          have kts : (Instr.keyThatStays (((ents[j]?).map (·.key)).getD (a.eval k)) (a.eval k)).run P X.w = .ok (a.eval k) X.w := by
            have : ((ents[j]?).map (·.key)).getD (a.eval k) = a.eval k := by simp [hj, ← hsame]
            rw [this]
            simp [Instr.keyThatStays, hsb]
          obtain ⟨m1, m2, m3⟩ := hH.mapset (P := P) (es' := setNth es j (kv, vv)) hget f1 (cl := clock) (cl' := clock) (ents := ents) (ents' := ents.modify j fun e => { e with key := a.eval k, val := a.eval v }) g5 (by
            intro Y ext
            have g6' := g6.mono ext
            refine ⟨by simp [setNth_len]; simpa using g6.1, fun n x y hx hy => ?_⟩
            rw [setNth_get] at hx
            have hy : (ents.modify j fun e => { e with key := a.eval k, val := a.eval v })[n]? = some y := by rw [Array.getElem?_toList] at hy; exact hy
            rw [Array.getElem?_modify] at hy
            by_cases e : n = j
            · subst e
              rw [if_pos ⟨rfl, (List.getElem?_eq_some_iff.1 h3).1⟩] at hx
              simp only [Option.some.injEq] at hx; subst hx
              rw [if_pos rfl] at hy
              simp [hj] at hy
              subst hy
              exact ⟨VR.mono ext _ _ e2, VR.mono ext _ _ e3⟩
            · rw [if_neg (by simp [e])] at hx
              rw [if_neg (Ne.symm e)] at hy
              exact g6'.2 n x y hx (by simpa using hy))
          refine Does.of_skip ?_ ⟨_, rfl, m2, by simp [VR], m3⟩
          rw [exec, f2]
          simp only [Instr.mapUpdate, Sem.run_bind, run_underlying hu, Result.andThen_ok, gob, ck _ hr, h1, kts, m1]
      · rename_i hr
        simp only [Option.some.injEq, Prod.mk.injEq] at hq
        obtain ⟨rfl, rfl⟩ := hq
        obtain ⟨r', h1, h2⟩ := findKey_sound (P := P) hg hf e2 g6 hr
        have h2 : r' = none := by cases r' <;> simp_all [FoundRel]
        subst h2
        obtain ⟨m1, m2, m3⟩ := hH.mapset (P := P) (es' := es ++ [(kv, vv)]) hget f1 (cl := clock) (cl' := clock + 1) (ents := ents) (ents' := ents.push { key := a.eval k, val := a.eval v, born := clock }) g5 (by
          intro Y ext
          have := (g6.mono ext).push (m := { key := a.eval k, val := a.eval v, born := clock }) (VR.mono ext _ _ e2) (VR.mono ext _ _ e3)
          simpa using this)
        refine Does.of_skip ?_ ⟨_, rfl, m2, by simp [VR], m3⟩
        rw [exec, f2]
        simp only [Instr.mapUpdate, Sem.run_bind, run_underlying hu, Result.andThen_ok, gob, ck _ hr, h1, m1]
      · cases hq
    · cases hq
  · cases hq

theorem do_nxt {it : Operand} {x' : Opd} (ho : o.op = .next it true) (hx : opd it = some x') (hH : HR X h.get tp dom) (hT : TR X t a) (hq : wop calli h t (.nxt x') = some (r, h')) : Does P o a X.w (WPost X r h'.get tp dom) := by
  simp only [wop] at hq
  split at hq
  · rename_i id hv
    have e1 := opd_sound hT hx hv
    split at hq
    · rename_i s pos hget
      simp only [VR] at e1
      obtain ⟨L, f1, f2⟩ := e1
      obtain ⟨L', p1, p2, p3, p4⟩ := hH.obj id _ hget
      rw [f1] at p1; cases p1
      have p4 : SitAt X s pos L := p4
      rw [p4.oo, p4.kk] at f2
      have f2 : a.eval it = .pointer (some ⟨L.b, 0, none⟩) := f2
      have hs : (⟨s.toArray⟩ : ByteArray).size = s.length := by simp [ByteArray.size]
      have gob : (getObj L.b).run P X.w = .ok (.stringIter ⟨s.toArray⟩ pos) X.w := by simp [getObj, Sem.run, p4.blk]
      cases hb : Nat.blt pos s.length with
      | true =>
        rw [hb, cond_true] at hq
        simp only [Option.some.injEq, Prod.mk.injEq] at hq
        obtain ⟨rfl, rfl⟩ := hq
        have hb : pos < s.length := Nat.le_of_ble_eq_true hb
        have hgl : ∀ j, AH.get { h with objs := setO h.objs id (.sit s (pos + (Utf8.decode ⟨s.toArray⟩ pos).2)) } j = if j = id then some (.sit s (pos + (Utf8.decode ⟨s.toArray⟩ pos).2)) else h.get j := alook_setO (l := h.objs) (id := id) hget (by simp)
        have only : ∀ j ob M, AH.get { h with objs := setO h.objs id (.sit s (pos + (Utf8.decode ⟨s.toArray⟩ pos).2)) } j = some ob → X.loc j = some M → M.b = L.b → j = id ∧ ob = .sit s (pos + (Utf8.decode ⟨s.toArray⟩ pos).2) := by
          intro j ob M hj hM hMb
          rw [hgl] at hj
          by_cases e : j = id
          · rw [if_pos e] at hj; exact ⟨e, by simpa using hj.symm⟩
          · rw [if_neg e] at hj
            rcases hH.sep j id ob _ M L hj hget hM f1 hMb with h1 | ⟨c, c1, c2⟩
            · exact absurd h1 e
            · simp [clsOf] at c2
        have hrs := hH.blkset (Y := { X with w := { X.w with heap := X.w.heap.setIfInBounds L.b (.stringIter ⟨s.toArray⟩ (pos + (Utf8.decode ⟨s.toArray⟩ pos).2)) } }) (g' := AH.get { h with objs := setO h.objs id (.sit s (pos + (Utf8.decode ⟨s.toArray⟩ pos).2)) }) (tp' := tp) (dom' := dom) (b := L.b) ⟨fun k hk => by simp [Ne.symm hk], by simp, rfl, rfl, rfl⟩ p2 p3 p4.free rfl rfl (fun _ _ h => h) hH.dom
          (by intro j ob hj
              rw [hgl] at hj
              by_cases e : j = id
              · subst e; exact ⟨L, f1⟩
              · rw [if_neg e] at hj; obtain ⟨M, hM, _⟩ := hH.obj j ob hj; exact ⟨M, hM⟩)
          (by intro j ob M hj hM hMb
              rw [hgl] at hj
              by_cases e : j = id
              · subst e
                have hM : X.loc j = some M := hM
                rw [f1] at hM; cases hM; exact absurd rfl hMb
              · rw [if_neg e] at hj; exact ⟨hj, hM⟩)
          (by intro ext j ob M hj hM hMb
              obtain ⟨rfl, rfl⟩ := only j ob M hj hM hMb
              have hM : X.loc j = some M := hM
              rw [f1] at hM; cases hM
              exact ⟨by simp [p3], p4.free, p4.oo, p4.kk⟩)
          (by intro i1 j1 oi oj Li Lj h1 h2 h3 h4 h5 h6
              exact .inl ((only i1 oi Li h1 h3 h5).1.trans (only j1 oj Lj h2 h4 h6).1.symm))
          (by intro i1 j1 k1 es1' c1 s1 k2' es2' c2 s2 Li Lj ht h1 h2 h3 h4' h5 h6
              obtain ⟨_, e1⟩ := only i1 _ Li h1 h3 h5
              cases e1)
          (by intro i1 j1 oi oj Li Lj _ _ h1 h2 h3 h4 h5 h6
              exact (only i1 oi Li h1 h3 h5).1.trans (only j1 oj Lj h2 h4 h6).1.symm)
          (by intro j ob M ht _ _ _; exact ht)
        refine Does.of_run (v := .tuple #[.bool true, goInt pos, .int .i32 (Utf8.decode ⟨s.toArray⟩ pos).1]) ?_ ⟨_, rfl, hrs.1, ?_, hrs.2⟩
        · simp [execOp, ho, f2, Instr.next, gob, hs, hb, setObj, Sem.run, p4.blk]
        · simp only [VR]
          refine ⟨_, rfl, ?_⟩
          simp only [VRs]
          exact ⟨_, _, rfl, by simp [VR], _, _, rfl, by simp [VR, goInt], _, _, rfl, by simp [VR], rfl⟩
      | false =>
        rw [hb, cond_false] at hq
        simp only [Option.some.injEq, Prod.mk.injEq] at hq
        obtain ⟨rfl, rfl⟩ := hq
        have hb : ¬ pos < s.length := by intro hc; have := Nat.ble_eq_true_of_le hc; rw [show Nat.blt pos s.length = Nat.ble (pos + 1) s.length from rfl] at hb; rw [this] at hb; cases hb
        refine Does.of_run (v := .tuple #[.bool false]) (w' := X.w) ?_ ⟨X, rfl, Stp.refl X, ?_, hH⟩
        · simp [execOp, ho, f2, Instr.next, gob, hs, hb]
        · simp only [VR]; exact ⟨_, rfl, by simp only [VRs]; exact ⟨_, _, rfl, by simp [VR], rfl⟩⟩
    · cases hq
  · cases hq
end
end Go.Ab
namespace Go.Ab
variable {P : Program}

/-- The same state; the rows of some classes count as stable. -/
def Cx.sealB (X : Cx) (g : Nat → Option AObj) (cl : List Nat) : Cx :=
  { X with S := fun b => X.S b ∨ ∃ id k es c s L, g id = some (.row k es c s) ∧ c ∈ cl ∧ X.loc id = some L ∧ L.b = b }

theorem Cx.seal_ext (X : Cx) (g : Nat → Option AObj) (cl : List Nat) : Ext X (X.sealB g cl) := ⟨fun _ h => .inl h, fun _ _ => rfl, fun _ _ h => h⟩
theorem Cx.seal_mono (X : Cx) (g : Nat → Option AObj) {cl cl' : List Nat} (h : ∀ c ∈ cl, c ∈ cl') : Ext (X.sealB g cl) (X.sealB g cl') :=
  ⟨fun _ hb => hb.imp id fun ⟨i, k, es, c, s, L, a, b, d⟩ => ⟨i, k, es, c, s, L, a, h c b, d⟩, fun _ _ => rfl, fun _ _ h => h⟩
theorem Ext.same {X Y : Cx} (hw : Y.w = X.w) (hS : ∀ b, X.S b → Y.S b) (hl : ∀ id L, X.loc id = some L → Y.loc id = some L) : Ext X Y := ⟨hS, fun _ _ => by rw [hw], hl⟩

theorem HR.sealB {X : Cx} {g : Nat → Option AObj} {tp dom : Nat → Prop} (h : HR X g tp dom) (cl : List Nat) : Stp X (X.sealB g cl) ∧ HR (X.sealB g cl) (sealG cl g) tp dom := by
  have gs : ∀ j o, sealG cl g j = some o → ∃ o', g j = some o' ∧ o = seal1 cl o' := by
    intro j o hj
    simp only [sealG, Option.map_eq_some_iff] at hj
    obtain ⟨o', h1, h2⟩ := hj
    exact ⟨o', h1, h2.symm⟩
  have cs : ∀ o, clsOf (seal1 cl o) = clsOf o := by intro o; cases o <;> rfl
  refine ⟨⟨X.seal_ext g cl, rfl, fun _ _ => rfl, Nat.le_refl _, rfl, rfl, rfl, ?_⟩, ?_⟩
  · rintro b (hb | ⟨id, k, es, c, s, L, h1, _, h3, rfl⟩) hl
    · exact hb
    · obtain ⟨L', e1, e2, _⟩ := h.obj id _ h1
      rw [h3] at e1; cases e1; omega
  constructor
  · intro j o hj
    obtain ⟨o', h1, rfl⟩ := gs j o hj
    obtain ⟨L, e1, e2, e3, e4⟩ := h.obj j o' h1
    refine ⟨L, e1, e2, e3, ?_⟩
    have nosame : clsOf o' = none → ¬ X.S L.b → ¬ (X.sealB g cl).S L.b := by
      rintro hn hf (hb | ⟨i, k, es, c, s, M, g1, _, g3, g4⟩)
      · exact hf hb
      · rcases h.sep j i _ _ L M h1 g1 e1 g3 g4.symm with rfl | ⟨c', q1, q2⟩
        · rw [h1] at g1; cases g1; simp [clsOf] at hn
        · rw [hn] at q1; cases q1
    cases o' with
    | row k es c s =>
      have e4 : RowAt X j k es s L := e4
      refine (⟨e4.kk, e4.blk, e4.fit, ?_, VRe.move (X.seal_ext g cl) _ _ _ _ rfl e4.cells⟩ : RowAt (X.sealB g cl) j k es (s || cl.contains c) L)
      intro hs
      simp only [Bool.or_eq_false_iff] at hs
      rintro (hb | ⟨i, k', es', c', s', M, g1, g2, g3, g4⟩)
      · exact e4.free hs.1 hb
      · have hcc : c' = c := by
          rcases h.sep j i _ _ L M h1 g1 e1 g3 g4.symm with rfl | ⟨c2, q1, q2⟩
          · rw [h1] at g1; cases g1; rfl
          · simp only [clsOf, Option.some.injEq] at q1 q2; rw [q1, q2]
        subst hcc
        simp [g2] at hs
    | map es =>
      have e4 : MapAt X es L := e4
      obtain ⟨⟨ents, clock, b1, b2, b3⟩, f⟩ := e4
      exact (⟨⟨ents, clock, b1, b2, fun n x m hx hm => ⟨VR.mono (X.seal_ext g cl) _ _ (b3 n x m hx hm).1, VR.mono (X.seal_ext g cl) _ _ (b3 n x m hx hm).2⟩⟩, nosame rfl f⟩ : MapAt (X.sealB g cl) es L)
    | sit s p =>
      have e4 : SitAt X s p L := e4
      exact (⟨e4.blk, nosame rfl e4.free, e4.oo, e4.kk⟩ : SitAt (X.sealB g cl) s p L)
    | dead => trivial
  · intro i j oi oj Li Lj hi hj hLi hLj hb
    obtain ⟨oi', h1, rfl⟩ := gs i oi hi
    obtain ⟨oj', h2, rfl⟩ := gs j oj hj
    rw [cs, cs]
    exact h.sep i j oi' oj' Li Lj h1 h2 hLi hLj hb
  · intro i j k es c s k' es' c' s' Li Lj ht hi hj hLi hLj hb
    obtain ⟨oi', h1, e1⟩ := gs i _ hi
    obtain ⟨oj', h2, e2⟩ := gs j _ hj
    cases oi' <;> simp [seal1] at e1
    cases oj' <;> simp [seal1] at e2
    obtain ⟨rfl, rfl, rfl, _⟩ := e1
    obtain ⟨rfl, rfl, rfl, _⟩ := e2
    exact h.top i j _ _ _ _ _ _ _ _ Li Lj ht h1 h2 hLi hLj hb
  · intro i j oi oj Li Lj ht ht' hi hj hLi hLj hb
    obtain ⟨oi', h1, rfl⟩ := gs i oi hi
    obtain ⟨oj', h2, rfl⟩ := gs j oj hj
    exact h.uniq i j oi' oj' Li Lj ht ht' h1 h2 hLi hLj hb
  · rintro b (hb | ⟨id, k, es, c, s, L, h1, _, h3, rfl⟩)
    · exact h.stab b hb
    · obtain ⟨L', e1, _, e3, _⟩ := h.obj id _ h1
      rw [h3] at e1; cases e1; exact e3
  · exact h.bs
  · exact h.dom

/-! ### lists of cells -/
theorem mapF_len {α β : Type} {f : α → Option (β × List Nat)} : ∀ {l : List α} {r : List β × List Nat}, mapF f l = some r → r.1.length = l.length
  | [], _, h => by simp only [mapF, Option.some.injEq] at h; subst h; rfl
  | v :: l, r, h => by
    simp only [mapF] at h
    split at h
    · split at h
      · rename_i b hb
        simp only [Option.some.injEq] at h; subst h
        simp [mapF_len hb]
      · cases h
    · cases h

theorem mapF_get {α β : Type} {f : α → Option (β × List Nat)} : ∀ {l : List α} {r : List β × List Nat}, mapF f l = some r → ∀ (j : Nat) (y : β), r.1[j]? = some y → ∃ x c, l[j]? = some x ∧ f x = some (y, c) ∧ ∀ d ∈ c, d ∈ r.2
  | [], _, h, j, y, hy => by simp only [mapF, Option.some.injEq] at h; subst h; simp at hy
  | v :: l, r, h, j, y, hy => by
    simp only [mapF] at h
    split at h
    · rename_i a ha
      split at h
      · rename_i b hb
        simp only [Option.some.injEq] at h; subst h
        cases j with
        | zero => simp at hy; subst hy; exact ⟨v, a.2, rfl, by rw [ha], fun d hd => by simp [hd]⟩
        | succ j =>
          simp at hy
          obtain ⟨x, c, h1, h2, h3⟩ := mapF_get hb j y hy
          exact ⟨x, c, by simpa using h1, h2, fun d hd => by simp [h3 d hd]⟩
      · cases h
    · cases h

theorem VRs.of {X : Cx} : ∀ {cs : List AV} {vs : List Value}, vs.length = cs.length → (∀ (j : Nat) (c : AV) (u : Value), cs[j]? = some c → vs[j]? = some u → VR X c u) → VRs X cs vs
  | [], vs, h, _ => by simp only [VRs]; exact List.eq_nil_of_length_eq_zero (by simpa using h)
  | c :: cs, vs, h, k => by
    cases vs with
    | nil => simp at h
    | cons u us =>
      simp only [VRs]
      exact ⟨u, us, rfl, k 0 c u rfl rfl, VRs.of (by simpa using h) fun j d v h1 h2 => k (j + 1) d v (by simpa using h1) (by simpa using h2)⟩

theorem frz_one {get : Nat → Option AObj} {f : Nat} {c : AV} {r : AV × List Nat} (h : frz get f c = some r) (h1 : isOne c = true) : isOne r.1 = true := by
  cases f with
  | zero => simp [frz] at h
  | succ f =>
    cases c <;> simp only [isOne, Bool.false_eq_true] at h1 <;> simp only [frz] at h <;>
      first
        | (simp only [Option.some.injEq] at h; subst h; rfl)
        | (cases h; done)
        | (split at h
           · first
             | (obtain ⟨_, h⟩ := bif_some' h
                split at h
                · simp only [Option.some.injEq] at h; subst h; rfl
                · cases h)
             | (split at h
                · split at h
                  · simp only [Option.some.injEq] at h; subst h; rfl
                  · cases h
                · cases h)
             | (simp only [Option.some.injEq] at h; subst h; rfl)
           · cases h)

/-- A frozen value stands for the same machine value, in any context where the rows it was read from are stable. -/
theorem frz_sound {X : Cx} {g get : Nat → Option AObj} {tp dom : Nat → Prop} (hH : HR X g tp dom) (hV : ∀ id ob, get id = some ob → g id = some ob) :
    ∀ (f : Nat) (Z : Cx) (_ : Z.w = X.w) (_ : ∀ b, X.S b → Z.S b) (v : AV) (r : AV × List Nat) (u : Value), frz get f v = some r → (∀ b, (X.sealB g r.2).S b → Z.S b) → VR X v u → VR Z r.1 u := by
  intro f
  induction f with
  | zero => intro Z _ _ v r u h; simp [frz] at h
  | succ f ih =>
    intro Z hw hSX
    have cells : ∀ {cs : List AV} {r : List AV × List Nat} {b o : Nat}, mapF (frz get f) cs = some r → (∀ b, (X.sealB g r.2).S b → Z.S b) → VRc X cs b o → VRc Z.bare r.1 b o := by
      intro cs r b o hm hs hc
      refine VRc.of fun j c hj => ?_
      obtain ⟨x, cl, h1, h2, h3⟩ := mapF_get hm j c hj
      obtain ⟨g1, u, g2, g3⟩ := hc.get h1
      exact ⟨frz_one h2 g1, u, by show Z.w.cell? _ = _; rw [hw]; exact g2, ih Z.bare hw hSX x _ u h2 (fun b hb => hs b ((X.seal_mono g h3).S b hb)) g3⟩
    have vals : ∀ {cs : List AV} {r : List AV × List Nat} {us : List Value}, mapF (frz get f) cs = some r → (∀ b, (X.sealB g r.2).S b → Z.S b) → VRs X cs us → VRs Z r.1 us := by
      intro cs r us hm hs hc
      refine VRs.of (by rw [mapF_len hm]; exact hc.length) fun j c u hj hu => ?_
      obtain ⟨x, cl, h1, h2, h3⟩ := mapF_get hm j c hj
      obtain ⟨u', g1, g2⟩ := hc.get h1
      rw [hu] at g1; cases g1
      exact ih Z hw hSX x _ u h2 (fun b hb => hs b ((X.seal_mono g h3).S b hb)) g2
    have eb : Ext X.bare Z.bare := Ext.same hw hSX fun _ _ e => by cases e
    intro v r u h hs hv
    cases v with
    | own k id i n =>
      simp only [frz] at h
      split at h
      · rename_i k2 es cls sl hget
        obtain ⟨hb, h⟩ := bif_some' h
        have hb := Nat.le_of_ble_eq_true hb
        split at h
        · rename_i r' hr
          simp only [Option.some.injEq] at h; subst h
          simp only [VR] at hv
          obtain ⟨L, h1, h2, a, c, rfl, h4, h5⟩ := hv
          have hg := hV _ _ hget
          obtain ⟨L', e1, _, _, e4⟩ := hH.obj id _ hg
          rw [h1] at e1; cases e1
          have e4 : RowAt X id k2 es sl L := e4
          have hk : k2 = k := by rw [← h2]; exact e4.kk.symm
          subst hk
          have hlen : r'.1.length = n := by rw [mapF_len hr]; simp; omega
          have hSb : Z.S L.b := hs _ (.inr ⟨id, k2, es, cls, sl, L, hg, by simp, h1, rfl⟩)
          simp only [VR]
          refine ⟨a, c, by rw [hlen], by rw [hlen]; exact h4, ?_⟩
          rcases h5 with h5 | ⟨rfl, _⟩
          · left; exact List.eq_nil_of_length_eq_zero (by omega)
          · right
            refine ⟨rfl, hSb, VRe.of fun j e hj => ?_⟩
            obtain ⟨x, cl, q1, q2, q3⟩ := mapF_get hr j e hj
            obtain ⟨p1, p2⟩ := ((e4.cells.drop i).take n).get q1
            refine ⟨by rw [mapF_len q2]; exact p1, ?_⟩
            have := cells (r := (e, cl)) q2 (fun b hb => hs b ((X.seal_mono g (fun d hd => by simp [q3 d hd])).S b hb)) p2
            exact this
        · cases h
      · cases h
    | ptr id i j =>
      simp only [frz] at h
      split at h
      · rename_i k2 es cls sl hget
        split at h
        · rename_i cs hcs
          split at h
          · rename_i r' hr
            simp only [Option.some.injEq] at h; subst h
            simp only [VR] at hv
            obtain ⟨L, h1, rfl⟩ := hv
            have hg := hV _ _ hget
            obtain ⟨L', e1, _, _, e4⟩ := hH.obj id _ hg
            rw [h1] at e1; cases e1
            have e4 : RowAt X id k2 es sl L := e4
            have hSb : Z.S L.b := hs _ (.inr ⟨id, k2, es, cls, sl, L, hg, by simp, h1, rfl⟩)
            obtain ⟨p1, p2⟩ := e4.cells.get hcs
            simp only [VR]
            refine ⟨L.b, L.o + i * L.k, rfl, hSb, ?_⟩
            rw [e4.kk]
            exact cells hr (fun b hb => hs b ((X.seal_mono g (fun d hd => by simp [hd])).S b hb)) p2
          · cases h
        · cases h
      · cases h
    | agg cs =>
      simp only [frz] at h
      split at h
      · rename_i r' hr
        simp only [Option.some.injEq] at h; subst h
        simp only [VR] at hv ⊢
        obtain ⟨vs, h1, h2⟩ := hv
        exact ⟨vs, h1, vals hr hs h2⟩
      · cases h
    | tup cs =>
      simp only [frz] at h
      split at h
      · rename_i r' hr
        simp only [Option.some.injEq] at h; subst h
        simp only [VR] at hv ⊢
        obtain ⟨vs, h1, h2⟩ := hv
        exact ⟨vs, h1, vals hr hs h2⟩
      · cases h
    | fn g' cs =>
      simp only [frz] at h
      split at h
      · rename_i r' hr
        simp only [Option.some.injEq] at h; subst h
        simp only [VR] at hv ⊢
        obtain ⟨vs, h1, h2⟩ := hv
        exact ⟨vs, h1, vals hr hs h2⟩
      · cases h
    | map id => simp [frz] at h
    | ex k es => simp [frz] at h
    | ro k es =>
      simp only [frz, Option.some.injEq] at h; subst h
      simp only [VR] at hv ⊢
      obtain ⟨a, c, h1, h2, h3⟩ := hv
      refine ⟨a, c, h1, h2, h3.imp id fun ⟨q1, q2, q3⟩ => ⟨q1, hSX _ q2, VRe.mono eb k es _ _ q2 q3⟩⟩
    | ref cs j =>
      simp only [frz, Option.some.injEq] at h; subst h
      simp only [VR] at hv ⊢
      obtain ⟨b, o, h1, h2, h3⟩ := hv
      exact ⟨b, o, h1, hSX _ h2, VRc.mono eb cs b o h2 h3⟩
    | skip => simp only [frz, Option.some.injEq] at h; subst h; simpa [VR] using hv
    | bool => simp only [frz, Option.some.injEq] at h; subst h; simpa [VR] using hv
    | int => simp only [frz, Option.some.injEq] at h; subst h; simpa [VR] using hv
    | str => simp only [frz, Option.some.injEq] at h; subst h; simpa [VR] using hv
    | nilp => simp only [frz, Option.some.injEq] at h; subst h; simpa [VR] using hv
    | nils => simp only [frz, Option.some.injEq] at h; subst h; simpa [VR] using hv
    | nilf => simp only [frz, Option.some.injEq] at h; subst h; simpa [VR] using hv
    | nilm => simp only [frz, Option.some.injEq] at h; subst h; simpa [VR] using hv
end Go.Ab
namespace Go.Ab
open Go.RowKit (Below)
variable {P : Program}

theorem hasRo_succ {m : Nat} {v : AV} (h : hasRo m v = false) : ∃ n, m = n + 1 := by
  cases m with
  | zero => simp [hasRo] at h
  | succ n => exact ⟨n, rfl⟩

theorem noRo_sound {X Y : Cx} (hl : ∀ id L, X.loc id = some L → Y.loc id = some L) : ∀ (m : Nat) (v : AV) (u : Value), hasRo m v = false → VR X v u → VR Y v u := by
  intro m
  induction m with
  | zero => intro v u h; simp [hasRo] at h
  | succ m ih =>
    have vals : ∀ {cs : List AV} {us : List Value}, cs.any (hasRo m) = false → VRs X cs us → VRs Y cs us := by
      intro cs us h hv
      refine VRs.of hv.length fun j c u h1 h2 => ?_
      obtain ⟨u', g1, g2⟩ := hv.get h1
      rw [h2] at g1; cases g1
      refine ih c u ?_ g2
      have := List.mem_of_getElem? h1
      simpa using List.any_eq_false.1 h c this
    intro v u h hv
    cases v <;> simp only [hasRo, Bool.true_eq_false] at h
    case agg cs => simp only [VR] at hv ⊢; obtain ⟨vs, h1, h2⟩ := hv; exact ⟨vs, h1, vals h h2⟩
    case tup cs => simp only [VR] at hv ⊢; obtain ⟨vs, h1, h2⟩ := hv; exact ⟨vs, h1, vals h h2⟩
    case ptr => simp only [VR] at hv ⊢; obtain ⟨L, h1, h2⟩ := hv; exact ⟨L, hl _ _ h1, h2⟩
    case map => simp only [VR] at hv ⊢; obtain ⟨L, h1, h2⟩ := hv; exact ⟨L, hl _ _ h1, h2⟩
    case own => simp only [VR] at hv ⊢; obtain ⟨L, h1, h2⟩ := hv; exact ⟨L, hl _ _ h1, h2⟩
    case ex => simp [VR] at hv
    all_goals simpa [VR] using hv

/-- A row none of whose cells looks at stable memory. -/
def BareRow : AObj → Prop
  | .row _ es _ _ => ∀ e ∈ es, ∀ c ∈ e, ∃ m, hasRo m c = false
  | _ => True

theorem adp_noRo : ∀ (f : Nat) (n : Nat) (v : AV) (m : Nat), hasRo m v = false → hasRo m (adp n f v).1 = false ∧ ∀ o ∈ (adp n f v).2, BareRow o := by
  intro f
  induction f with
  | zero => intro n v m h; simpa [adp] using h
  | succ f ih =>
    have lst : ∀ (cs : List AV) (n m : Nat), cs.any (hasRo m) = false → (adp.adpL f n cs).1.any (hasRo m) = false ∧ ∀ o ∈ (adp.adpL f n cs).2, BareRow o := by
      intro cs
      induction cs with
      | nil => intro n m h; simp [adp.adpL]
      | cons c cs ihc =>
        intro n m h
        simp only [List.any_cons, Bool.or_eq_false_iff] at h
        obtain ⟨a1, a2⟩ := ih n c m h.1
        obtain ⟨b1, b2⟩ := ihc (n + (adp n f c).2.length) m h.2
        simp only [adp.adpL, List.any_cons, Bool.or_eq_false_iff]
        refine ⟨⟨a1, b1⟩, fun o ho => ?_⟩
        rcases List.mem_append.1 ho with h | h
        · exact a2 o h
        · exact b2 o h
    intro n v m h
    obtain ⟨m, rfl⟩ := hasRo_succ h
    cases v <;> simp only [hasRo, Bool.true_eq_false] at h
    case agg cs =>
      obtain ⟨a1, a2⟩ := lst cs n m h
      exact ⟨by simpa [adp, hasRo] using a1, by simpa [adp] using a2⟩
    case tup cs =>
      obtain ⟨a1, a2⟩ := lst cs n m h
      exact ⟨by simpa [adp, hasRo] using a1, by simpa [adp] using a2⟩
    case ex k es =>
      refine ⟨by simp [adp, hasRo], fun o ho => ?_⟩
      simp only [adp, List.mem_singleton] at ho
      subst ho
      intro e he c hc
      refine ⟨m, ?_⟩
      have h1 := List.any_eq_false.1 h e he
      simp only [Bool.not_eq_true] at h1
      simpa using List.any_eq_false.1 h1 c hc
    all_goals simp [adp, hasRo]

theorem adp_rows : ∀ (f : Nat) (n : Nat) (v : AV), ∀ o ∈ (adp n f v).2, ∃ k es c, o = .row k es c false := by
  intro f
  induction f with
  | zero => intro n v o ho; simp [adp] at ho
  | succ f ih =>
    have lst : ∀ (cs : List AV) (n : Nat), ∀ o ∈ (adp.adpL f n cs).2, ∃ k es c, o = .row k es c false := by
      intro cs
      induction cs with
      | nil => intro n o ho; simp [adp.adpL] at ho
      | cons c cs ihc =>
        intro n o ho
        simp only [adp.adpL] at ho
        rcases List.mem_append.1 ho with h | h
        · exact ih _ _ o h
        · exact ihc _ o h
    intro n v o ho
    cases v <;> simp only [adp] at ho <;> try (simp at ho; done)
    case agg => exact lst _ _ o ho
    case tup => exact lst _ _ o ho
    case ex => simp at ho; subst ho; exact ⟨_, _, _, rfl⟩

/-! ### what a call with frozen arguments does -/
def rng (n0 len : Nat) : Nat → Prop := fun j => n0 ≤ j ∧ j < n0 + len

structure PRes (w : World) (S : Nat → Prop) (res : AV) (v : Value) (w' : World) : Prop where
  below : Below w.heap.size w w'
  res : ∀ n0, ∃ Y : Cx, Y.w = w' ∧ Y.base = w.heap.size ∧ (∀ b, S b → Y.S b) ∧ (∀ b, Y.S b → b < w.heap.size → S b) ∧ VR Y (adp n0 4 res).1 v ∧
    HR Y (addG (fun _ => none) n0 (adp n0 4 res).2) (rng n0 (adp n0 4 res).2.length) (rng n0 (adp n0 4 res).2.length)

def PC (P : Program) (g : FuncId) (args : List AV) (res : AV) : Prop :=
  ∀ (w : World) (S : Nat → Prop) (vs : List Value), (∀ b, S b → b < w.heap.size) → VRs ⟨w, 0, S, fun _ => none⟩ args vs →
    Calls P g vs.toArray w fun e w' => ∃ v, e = .returned v ∧ PRes w S res v w'

theorem ObjAt.move2 {X Y : Cx} {id : Nat} {o : AObj} {L : Loc} (h : ObjAt X id o L) (e : Ext X Y) (hb : Y.w.heap[L.b]? = X.w.heap[L.b]?) (hS : Y.S L.b → X.S L.b) : ObjAt Y id o L := by
  cases o with
  | row k es c sl =>
    obtain ⟨h1, ⟨c', T, h2, h3⟩, h4, h5, h6⟩ := h
    exact ⟨h1, ⟨c', T, by rw [hb]; exact h2, h3⟩, h4, fun hs hy => h5 hs (hS hy), VRe.move e _ _ _ _ hb h6⟩
  | map es =>
    obtain ⟨⟨ents, clock, h1, h2, h3⟩, h4⟩ := h
    exact ⟨⟨ents, clock, by rw [hb]; exact h1, h2, fun i x m hx hm => ⟨VR.mono e _ _ (h3 i x m hx hm).1, VR.mono e _ _ (h3 i x m hx hm).2⟩⟩, fun hy => h4 (hS hy)⟩
  | sit s pos => exact ⟨by rw [hb]; exact h.blk, fun hy => h.free (hS hy), h.oo, h.kk⟩
  | dead => trivial

theorem HR.weak {X : Cx} {g g' : Nat → Option AObj} {tp tp' dom dom' : Nat → Prop} (h : HR X g tp dom) (hg : ∀ id o', g' id = some o' → ∃ o cl, g id = some o ∧ (o' = o ∨ o' = seal1 cl o)) (ht : ∀ j, tp' j → tp j) (hd : ∀ j, dom j → dom' j) : HR X g' tp' dom' := by
  have cs : ∀ {o o' : AObj} {cl}, (o' = o ∨ o' = seal1 cl o) → clsOf o' = clsOf o := by
    rintro o o' cl (rfl | rfl)
    · rfl
    · cases o <;> rfl
  have rs : ∀ {o : AObj} {k es c s cl}, (.row k es c s = o ∨ .row k es c s = seal1 cl o) → ∃ s', o = .row k es c s' := by
    rintro o k es c s cl (rfl | h)
    · exact ⟨_, rfl⟩
    · cases o <;> simp [seal1] at h
      obtain ⟨rfl, rfl, rfl, _⟩ := h; exact ⟨_, rfl⟩
  constructor
  · intro id o' ho
    obtain ⟨o, cl, h1, h2⟩ := hg id o' ho
    obtain ⟨L, e1, e2, e3, e4⟩ := h.obj id o h1
    refine ⟨L, e1, e2, e3, ?_⟩
    rcases h2 with rfl | rfl
    · exact e4
    · cases o with
      | row k es c s =>
        have e4 : RowAt X id k es s L := e4
        exact (⟨e4.kk, e4.blk, e4.fit, fun hs => e4.free (by simp only [Bool.or_eq_false_iff] at hs; exact hs.1), e4.cells⟩ : RowAt X id k es (s || cl.contains c) L)
      | map es => exact e4
      | sit s p => exact e4
      | dead => exact e4
  · intro i j oi oj Li Lj hi hj hLi hLj hb
    obtain ⟨o1, c1, p1, q1⟩ := hg i oi hi
    obtain ⟨o2, c2, p2, q2⟩ := hg j oj hj
    rw [cs q1, cs q2]
    exact h.sep i j o1 o2 Li Lj p1 p2 hLi hLj hb
  · intro i j k es c s k' es' c' s' Li Lj hti hi hj hLi hLj hb
    obtain ⟨o1, c1, p1, q1⟩ := hg i _ hi
    obtain ⟨o2, c2, p2, q2⟩ := hg j _ hj
    obtain ⟨s1, rfl⟩ := rs q1
    obtain ⟨s2, rfl⟩ := rs q2
    exact h.top i j _ _ _ _ _ _ _ _ Li Lj (ht i hti) p1 p2 hLi hLj hb
  · intro i j oi oj Li Lj h1 h2 hi hj hLi hLj hb
    obtain ⟨o1, c1, p1, q1⟩ := hg i oi hi
    obtain ⟨o2, c2, p2, q2⟩ := hg j oj hj
    exact h.uniq i j o1 o2 Li Lj (ht i h1) (ht j h2) p1 p2 hLi hLj hb
  · exact h.stab
  · exact h.bs
  · exact fun id L hl => hd id (h.dom id L hl)

/-- The rows of a call join the caller's. -/
theorem HR.join {X Y Z : Cx} {g gy : Nat → Option AObj} {tp dom ty : Nat → Prop} (h : HR X g tp dom) {w' : World} (hb : Below X.w.heap.size X.w w') (hYw : Y.w = w') (hYb : Y.base = X.w.heap.size) (hY : HR Y gy ty ty) (hfr : ∀ j, ty j → ¬ dom j)
    (hZw : Z.w = w') (hZb : Z.base = X.base) (hZS : ∀ b, Z.S b ↔ X.S b ∨ (Y.S b ∧ X.w.heap.size ≤ b)) (hZ1 : ∀ j, dom j → Z.loc j = X.loc j) (hZ2 : ∀ j, ty j → Z.loc j = Y.loc j) (hZ3 : ∀ j L, Z.loc j = some L → dom j ∨ ty j)
    (hcl : ∀ id o L, gy id = some o → Y.loc id = some L → ObjAt Y id o L → ObjAt Z id o L) {g' : Nat → Option AObj} {tp' dom' : Nat → Prop} (hg : ∀ id o, g' id = some o → (g id = some o) ∨ gy id = some o) (ht : ∀ j, tp' j → tp j ∨ ty j) (hd : ∀ j, dom j ∨ ty j → dom' j) (hty : ∀ id o, gy id = some o → ty id) :
    Stp X Z ∧ HR Z g' tp' dom' := by
  have ext : Ext X Z := ⟨fun b hs => (hZS b).2 (.inl hs), fun b hs => by rw [hZw]; exact hb.block b (h.stab b hs), fun id L hl => by rw [hZ1 id (h.dom id L hl)]; exact hl⟩
  refine ⟨⟨ext, hZb, fun b hl => by rw [hZw]; exact hb.block b (Nat.lt_of_lt_of_le hl h.bs), by rw [hZw]; exact hb.size, by rw [hZw]; exact hb.os, by rw [hZw]; exact hb.tape, by rw [hZw]; exact hb.output, fun b hs hl => ?_⟩, ?_⟩
  · rcases (hZS b).1 hs with h1 | ⟨_, h2⟩
    · exact h1
    · have := h.bs; omega
  have cs : ∀ id o L, g' id = some o → Z.loc id = some L → (g id = some o ∧ X.loc id = some L ∧ L.b < X.w.heap.size) ∨ (gy id = some o ∧ Y.loc id = some L ∧ X.w.heap.size ≤ L.b) := by
    intro id o L hi hl
    rcases hg id o hi with h1 | h1
    · obtain ⟨M, e1, _, e3, _⟩ := h.obj id o h1
      have := hZ1 id (h.dom id M e1)
      rw [hl, e1] at this; cases this
      exact .inl ⟨h1, e1, e3⟩
    · obtain ⟨M, e1, e2, _, _⟩ := hY.obj id o h1
      have := hZ2 id (hY.dom id M e1)
      rw [hl, e1] at this; cases this
      exact .inr ⟨h1, e1, by rw [← hYb]; exact e2⟩
  have tx : ∀ i o L, tp' i → g' i = some o → Z.loc i = some L → (L.b < X.w.heap.size → tp i) ∧ (X.w.heap.size ≤ L.b → ty i) := by
    intro i o L hti hi hl
    rcases cs i o L hi hl with ⟨a1, a2, a3⟩ | ⟨a1, a2, a3⟩
    · refine ⟨fun _ => ?_, fun _ => by omega⟩
      rcases ht i hti with h1 | h1
      · exact h1
      · exact absurd (h.dom i L a2) (hfr i h1)
    · exact ⟨fun _ => by omega, fun _ => hty i o a1⟩
  constructor
  · intro id o hi
    rcases hg id o hi with h1 | h1
    · obtain ⟨L, e1, e2, e3, e4⟩ := h.obj id o h1
      refine ⟨L, by rw [hZ1 id (h.dom id L e1)]; exact e1, by rw [hZb]; exact e2, by rw [hZw]; exact Nat.lt_of_lt_of_le e3 hb.size, e4.move2 ext (by rw [hZw]; exact hb.block _ e3) fun hs => ?_⟩
      rcases (hZS _).1 hs with h2 | ⟨_, h2⟩
      · exact h2
      · omega
    · obtain ⟨L, e1, e2, e3, e4⟩ := hY.obj id o h1
      refine ⟨L, by rw [hZ2 id (hY.dom id L e1)]; exact e1, by rw [hZb]; have := h.bs; omega, by rw [hZw, ← hYw]; exact e3, hcl id o L h1 e1 e4⟩
  · intro i j oi oj Li Lj hi hj hLi hLj hbb
    rcases cs i oi Li hi hLi with ⟨a1, a2, a3⟩ | ⟨a1, a2, a3⟩ <;> rcases cs j oj Lj hj hLj with ⟨b1, b2, b3⟩ | ⟨b1, b2, b3⟩
    · exact h.sep i j oi oj Li Lj a1 b1 a2 b2 hbb
    · omega
    · omega
    · exact hY.sep i j oi oj Li Lj a1 b1 a2 b2 hbb
  · intro i j k es c s k' es' c' s' Li Lj hti hi hj hLi hLj hbb
    obtain ⟨t1, t2⟩ := tx i _ Li hti hi hLi
    rcases cs i _ Li hi hLi with ⟨a1, a2, a3⟩ | ⟨a1, a2, a3⟩ <;> rcases cs j _ Lj hj hLj with ⟨b1, b2, b3⟩ | ⟨b1, b2, b3⟩
    · exact h.top i j _ _ _ _ _ _ _ _ Li Lj (t1 a3) a1 b1 a2 b2 hbb
    · omega
    · omega
    · exact hY.top i j _ _ _ _ _ _ _ _ Li Lj (t2 a3) a1 b1 a2 b2 hbb
  · intro i j oi oj Li Lj h1 h2 hi hj hLi hLj hbb
    obtain ⟨t1, t2⟩ := tx i _ Li h1 hi hLi
    obtain ⟨t1', t2'⟩ := tx j _ Lj h2 hj hLj
    rcases cs i oi Li hi hLi with ⟨a1, a2, a3⟩ | ⟨a1, a2, a3⟩ <;> rcases cs j oj Lj hj hLj with ⟨b1, b2, b3⟩ | ⟨b1, b2, b3⟩
    · exact h.uniq i j oi oj Li Lj (t1 a3) (t1' b3) a1 b1 a2 b2 hbb
    · omega
    · omega
    · exact hY.uniq i j oi oj Li Lj (t2 a3) (t2' b3) a1 b1 a2 b2 hbb
  · intro b hs
    rcases (hZS b).1 hs with h1 | ⟨h1, _⟩
    · rw [hZw]; exact Nat.lt_of_lt_of_le (h.stab b h1) hb.size
    · rw [hZw, ← hYw]; exact hY.stab b h1
  · rw [hZb, hZw]; have := h.bs; have := hb.size; omega
  · exact fun id L hl => hd id (hZ3 id L hl)
end Go.Ab
namespace Go.Ab
open Go.RowKit (Below)
variable {P : Program}

theorem VRe.chop {X : Cx} {k : Nat} : ∀ (n : Nat) {cs : List AV} {b o : Nat}, n * k ≤ cs.length → VRc X cs b o → VRe X k (chop k n cs) b o ∧ (chop k n cs).length = n
  | 0, _, _, _, _, _ => by simp [Ab.chop, VRe]
  | n + 1, cs, b, o, hl, h => by
    rw [Nat.add_mul, Nat.one_mul] at hl
    obtain ⟨h1, h2⟩ := VRe.chop (k := k) n (cs := cs.drop k) (by simp; omega) (h.drop k)
    refine ⟨?_, by simp [Ab.chop, h2]⟩
    simp only [Ab.chop, VRe]
    exact ⟨⟨by simp; omega, h.take k⟩, h1⟩

section
variable {X : Cx} {t : Nat → Option AV} {a : Act} {o : Oper} {nx : Nat} {g : Nat → Option AObj} {tp dom : Nat → Prop} {i : I} {im : Imp} {call : CallP} {V : View} {q : QR}

theorem slr_value {Z : Cx} {cs : List AV} {j k n e b : Nat} {u : Value} (h : VR Z (.ref cs j) u) (hf : j + n * k ≤ cs.length) (h1 : e ≤ b) (h2 : b ≤ n) :
    ∃ ad, u = .pointer (some ad) ∧ VR Z (.ro k (((chop k n (cs.drop j)).drop e).take (b - e))) (.slice (some (if n = e then ad else ad.add (e * k))) (b - e) (n - e)) := by
  simp only [VR] at h
  obtain ⟨bb, o', rfl, hS, hc⟩ := h
  refine ⟨⟨bb, o' + j, none⟩, rfl, ?_⟩
  obtain ⟨c1, c2⟩ := VRe.chop (X := Z.bare) n (cs := cs.drop j) (k := k) (by simp; omega) (hc.drop j)
  have hlen : (((chop k n (cs.drop j)).drop e).take (b - e)).length = b - e := by simp [c2]; omega
  simp only [VR]
  by_cases hz : n = e
  · subst hz
    refine ⟨⟨bb, o' + j, none⟩, n - n, by simp [hlen], by rw [hlen]; omega, .inl (List.eq_nil_of_length_eq_zero (by rw [hlen]; omega))⟩
  · refine ⟨⟨bb, o' + j + e * k, none⟩, n - e, by rw [hlen]; simp [hz, Addr.add_mid], by rw [hlen]; omega, .inr ⟨rfl, hS, (c1.drop e).take _⟩⟩

theorem frz_ptr {get : Nat → Option AObj} {f id i j : Nat} {cs : List AV} {j' : Nat} {cl : List Nat} (h : frz get f (.ptr id i j) = some (.ref cs j', cl)) : j' = j := by
  cases f with
  | zero => simp [frz] at h
  | succ f =>
    simp only [frz] at h
    split at h
    · split at h
      · split at h
        · simp only [Option.some.injEq, Prod.mk.injEq, AV.ref.injEq] at h; exact h.1.2.symm
        · cases h
      · cases h
    · cases h

theorem do_slr {ty el : TypeId} {n : Nat} {inf : TypeInfo} {x : Operand} {lo hi : Option Operand} {x' : Opd} {l' h' : Option Opd} (ho : o.op = .slice ty x lo hi none)
    (hu : P.underlying ty = some (.array n el) ∨ ∃ r, P.underlying ty = some (.pointer r) ∧ P.underlying r = some (.array n el)) (hinf : P.info? el = some inf) (hx : opd x = some x') (hl : opdO lo = some l') (hh : opdO hi = some h')
    (hV : ∀ id ob, V.get id = some ob → g id = some ob) (hH : HR X g tp dom) (hT : TR X t a) (hq : qop call V t (.slr inf.size n x' l' h') = some q) : Does P o a X.w (QPost X q nx g tp dom) := by
  have run : ∀ (ad : Addr) (b e : Nat), (Instr.sliceBounds false n n (lo.map a.eval) (hi.map a.eval) none).run P X.w = .ok (e, b, n) X.w → a.eval x = .pointer (some ad) →
      (execOp a.eval o).run P X.w = .ok (.value (.slice (some (if n = e then ad else ad.add (e * inf.size))) (b - e) (n - e))) X.w := by
    intro ad b e r1 e1
    rcases hu with hu | ⟨r, hu, hr⟩
    · simp [execOp, ho, e1, Instr.sliceAt, run_underlying hu, r1, sizeOf, typeInfo, hinf, Instr.sureAddr]
    · simp [execOp, ho, e1, Instr.sliceAt, Instr.slice, run_underlying hu, run_underlying hr, r1, sizeOf, typeInfo, hinf, asAddr]
  simp only [qop] at hq
  split at hq
  · rename_i cs j l h hv hlv hhv
    split at hq
    · rename_i b hb
      split at hq
      · rename_i e he
        obtain ⟨hk, rfl⟩ := bif_some hq
        have hk := Nat.le_of_ble_eq_true hk
        have e1 := opd_sound hT hx hv
        obtain ⟨r1, r2, r3⟩ := run_bounds (P := P) hT hl hh hlv hhv (Nat.le_refl n) hb he false
        obtain ⟨ad, p1, p2⟩ := slr_value e1 hk r3 r2
        exact do_value hH (run _ _ _ r1 p1) p2
      · cases hq
    · cases hq
  · rename_i id i' j l h hv hlv hhv
    split at hq
    · rename_i b hb
      split at hq
      · rename_i e he
        split at hq
        · rename_i cs j' cl hfr
          obtain ⟨hk, rfl⟩ := bif_some hq
          have hk := Nat.le_of_ble_eq_true hk
          have e1 := opd_sound hT hx hv
          obtain ⟨r1, r2, r3⟩ := run_bounds (P := P) hT hl hh hlv hhv (Nat.le_refl n) hb he false
          have e2 := frz_sound hH hV 16 (X.sealB g cl) rfl (fun _ h => .inl h) _ _ _ hfr (fun _ h => h) e1
          obtain ⟨ad, p1, p2⟩ := slr_value e2 hk r3 r2
          obtain ⟨s1, s2⟩ := hH.sealB cl
          refine Does.of_run (run _ _ _ r1 p1) ⟨X.sealB g cl, rfl, s1, p2, ?_⟩
          have e1 : G' ⟨AV.ro inf.size (((chop inf.size n (cs.drop j')).drop e).take (b - e)), [], none, cl⟩ nx g = sealG cl g := by simp only [G', addG_nil]
          rw [e1]
          refine s2.weak (fun id o' ho => ⟨o', [], ho, .inl rfl⟩) (fun j hj => ?_) (fun j hj => .inl hj)
          rcases hj with h | h
          · exact h.1
          · simp at h; omega
        · cases hq
      · cases hq
    · cases hq
  · cases hq

/-! ### calls -/
def FnOk (P : Program) (g : FuncId) : Prop := ∃ fn, P.funcs[g]? = some fn ∧ fn.body.isSome = true ∧ fn.name ≠ "runtime.NumGoroutine"

theorem exec_call {c : Call} {f : Operand} (ho : o.op = .call c) (hc : c.callee = .value f) {g : FuncId} (hg : FnOk P g) {caps : Array Value} (hf : a.eval f = .func (.func g) #[] caps) (w : World) :
    (execOp a.eval o).run P w = .ok (.enter g (c.args.map a.eval ++ caps)) w := by
  obtain ⟨fn, h1, h2, h3⟩ := hg
  have h2' : fn.body ≠ none := by cases hb : fn.body <;> simp [hb] at h2 ⊢
  unfold execOp; rw [ho]
  simp [resolve, hc, Deferred.ofValue, hf, invoke, callFunc, h1, h2', h3]

theorem alook_number : ∀ (l : List AObj) (n j : Nat), (∀ o ∈ l, o ≠ .dead) → alook (number n l) j = if n ≤ j then l[j - n]? else none
  | [], n, j, _ => by simp [number, alook]
  | o :: r, n, j, h => by
    simp only [number, alook]
    have ho : o ≠ .dead := h o (by simp)
    cases hb : Nat.beq n j with
    | true =>
      have := Nat.eq_of_beq_eq_true hb; subst this
      cases o <;> simp at ho ⊢
    | false =>
      have hn := Nat.ne_of_beq_eq_false hb
      simp only [cond_false]
      rw [alook_number r (n + 1) j (fun x hx => h x (by simp [hx]))]
      by_cases h1 : n + 1 ≤ j
      · rw [if_pos h1, if_pos (by omega)]
        obtain ⟨m, rfl⟩ : ∃ m, j = n + 1 + m := ⟨j - (n + 1), by omega⟩
        rw [show n + 1 + m - (n + 1) = m from by omega, show n + 1 + m - n = m + 1 from by omega]
        simp
      · rw [if_neg h1, if_neg (by omega)]

theorem addG_get {g : Nat → Option AObj} {nx : Nat} {os : List AObj} (h : ∀ o ∈ os, o ≠ .dead) (j : Nat) : addG g nx os j = if nx ≤ j ∧ j < nx + os.length then os[j - nx]? else g j := by
  simp only [addG]
  rw [alook_number os nx j h]
  by_cases h1 : nx ≤ j
  · rw [if_pos h1]
    by_cases h2 : j < nx + os.length
    · rw [if_pos ⟨h1, h2⟩, List.getElem?_eq_getElem (show j - nx < os.length from by omega)]
    · rw [if_neg (by omega), List.getElem?_eq_none (by omega)]
  · rw [if_neg h1, if_neg (by omega)]

/-- Calls with frozen arguments. -/
theorem do_callp {c : Call} {f : Operand} {f' : Opd} {xs : List Opd} {pu : Bool} (ho : o.op = .call c) (hc : c.callee = .value f) (hf : opd f = some f') (hx : opds c.args.toList = some xs)
    (hcall : ∀ gi args res, call gi args = some res → FnOk P gi ∧ PC P gi args res)
    (hV : ∀ id ob, V.get id = some ob → g id = some ob) (hid : ∀ j, V.next ≤ j → j < V.next + q.os.length → ¬ dom j) (hH : HR X g tp dom) (hT : TR X t a) (hq : qop call V t (.call pu f' xs) = some q) : Does P o a X.w (QPost X q V.next g tp dom) := by
  simp only [qop] at hq
  split at hq
  · rename_i fv args hfv hargs
    split at hq
    · rename_i gi caps hsp
      split at hq
      · rename_i r hr
        split at hq
        · rename_i res hres
          simp only [Option.some.injEq] at hq
          obtain ⟨fok, pc⟩ := hcall _ _ _ hres
          have e1 := opd_sound hT hf hfv
          have e2 := opds_sound hT hx hargs
          have hfn : fv = .fn gi caps := by
            cases fv <;> simp only [splitF] at hsp <;> try (cases hsp; done)
            simp only [Option.some.injEq, Prod.mk.injEq] at hsp
            rw [hsp.1, hsp.2]
          subst hfn
          simp only [VR] at e1
          obtain ⟨cv, e3, e4⟩ := e1
          have e5 := e2.append e4
          obtain ⟨s1, s2⟩ := hH.sealB r.2
          have e6 : VRs (X.sealB g r.2).bare r.1 ((c.args.toList.map a.eval) ++ cv.toList) := by
            refine VRs.of (by rw [mapF_len hr]; exact e5.length) fun j y u hj hu => ?_
            obtain ⟨x, cl, h1, h2, h3⟩ := mapF_get hr j y hj
            obtain ⟨u', g1, g2⟩ := e5.get h1
            rw [hu] at g1; cases g1
            exact frz_sound hH hV 16 (X.sealB g r.2).bare rfl (fun _ h => .inl h) x (y, cl) u h2 (fun b hb => (X.seal_mono g h3).S b hb) g2
          have hrun := exec_call ho hc fok e3 X.w
          have hargsEq : c.args.map a.eval ++ cv = (c.args.toList.map a.eval ++ cv.toList).toArray := by
            apply Array.ext'; simp
          rw [hargsEq] at hrun
          refine Does.of_enter hrun ((pc X.w (X.sealB g r.2).S _ s2.stab e6).mono ?_)
          rintro e w' ⟨v, rfl, hb, hres'⟩
          refine ⟨v, rfl, ?_⟩
          obtain ⟨Y, y1, y2, y3, y4, y5, y6⟩ := hres' V.next
          generalize hA : adp V.next 4 res = A at hq y5 y6
          have hrows' := adp_rows 4 V.next res
          rw [hA] at hrows'
          have hrows : ∀ o ∈ A.2, o ≠ AObj.dead := fun o ho' => by obtain ⟨k, es, c, rfl⟩ := hrows' o ho'; simp
          have hosl : q.os = A.2 := by rw [← hq]
          rw [hosl] at hid
          -- the joined state
          let sl : List Nat := bif r.2.isEmpty then [] else bif hasRo 8 res then r.2 else []
          have hsl : q = ⟨A.1, A.2, none, sl⟩ := hq.symm
          let Z : Cx := { w := w', base := X.base, S := fun b => (X.sealB g sl).S b ∨ (Y.S b ∧ X.w.heap.size ≤ b), loc := fun j => if V.next ≤ j ∧ j < V.next + A.2.length then Y.loc j else X.loc j }
          obtain ⟨z1, z2⟩ := hH.sealB sl
          have locY : ∀ j L, Y.loc j = some L → Z.loc j = some L := by
            intro j L hl
            have this : V.next ≤ j ∧ j < V.next + A.2.length := y6.dom j L hl
            show (if _ then _ else _) = _
            rw [if_pos this]; exact hl
          have full : (∀ b, (X.sealB g r.2).S b → (X.sealB g sl).S b) → Ext Y Z := fun hs =>
            ⟨fun b hb' => by
              by_cases hlt : b < X.w.heap.size
              · exact .inl (hs b (y4 b hb' hlt))
              · exact .inr ⟨hb', by omega⟩, fun b _ => by show w'.heap[b]? = _; rw [y1], locY⟩
          have cases3 : (∀ b, (X.sealB g r.2).S b → (X.sealB g sl).S b) ∨ hasRo 8 res = false := by
            cases he : r.2.isEmpty with
            | true =>
              left
              rintro b (h | ⟨i1, k1, es1, c1, s1, L1, q1, q2, _⟩)
              · exact .inl h
              · rw [List.isEmpty_iff.1 he] at q2; cases q2
            | false =>
              cases hro : hasRo 8 res with
              | false => exact .inr rfl
              | true =>
                left
                have : sl = r.2 := by show (bif _ then _ else _) = _; rw [he, hro]; rfl
                rw [this]; exact fun b h => h
          have hval : VR Z A.1 v := by
            rcases cases3 with h | h
            · exact VR.mono (full h) _ _ y5
            · have := (adp_noRo 4 V.next res 8 h).1
              rw [hA] at this
              exact noRo_sound locY 8 _ _ this y5
          have ySb : ∀ b, Y.base ≤ b → Z.S b → Y.S b := by
            rintro b hb' (h | h)
            · have := z2.stab b h
              rw [y2] at hb'
              have : b < X.w.heap.size := this
              omega
            · exact h.1
          have hobj : ∀ id ob L, addG (fun _ => none) V.next A.2 id = some ob → Y.loc id = some L → ObjAt Y id ob L → ObjAt Z id ob L := by
            intro id ob L ho' hl hob
            obtain ⟨L', l1, l2, _, _⟩ := y6.obj id ob ho'
            rw [hl] at l1; cases l1
            rcases cases3 with h | h
            · exact hob.move2 (full h) (by show w'.heap[_]? = _; rw [y1]) (ySb _ l2)
            · have hrw := (adp_noRo 4 V.next res 8 h).2
              rw [hA] at hrw
              rw [addG_get hrows] at ho'
              split at ho'
              · have hbr := hrw ob (List.mem_of_getElem? ho')
                obtain ⟨k, es, c, rfl⟩ := hrows' ob (List.mem_of_getElem? ho')
                have hob : RowAt Y id k es false L := hob
                have hbr : ∀ e ∈ es, ∀ c ∈ e, ∃ m, hasRo m c = false := hbr
                refine (⟨hob.kk, by show ∃ c T, w'.heap[_]? = _ ∧ _; rw [← y1]; exact hob.blk, hob.fit, fun hs hz => hob.free hs (ySb _ l2 hz), VRe.of fun n e he => ?_⟩ : RowAt Z id k es false L)
                obtain ⟨p1, p2⟩ := hob.cells.get he
                refine ⟨p1, VRc.of fun m cc hcc => ?_⟩
                obtain ⟨g1, u, g2, g3⟩ := p2.get hcc
                obtain ⟨mm, hm⟩ := hbr e (List.mem_of_getElem? he) cc (List.mem_of_getElem? hcc)
                exact ⟨g1, u, by show w'.cell? _ = _; rw [← y1]; exact g2, noRo_sound locY mm cc u hm g3⟩
              · cases ho'
          have hj := z2.join (Z := Z) (gy := addG (fun _ => none) V.next A.2) (ty := Ab.rng V.next A.2.length) (g' := addG (sealG sl g) V.next A.2) (tp' := T' q V.next tp) (dom' := D' q V.next dom) hb y1 y2 y6
            (fun j hj => hid j hj.1 hj.2) rfl rfl (fun b => Iff.rfl)
            (fun j hj => by show (if _ then _ else _) = _; rw [if_neg (fun hc => hid j hc.1 hc.2 hj)]; rfl)
            (fun j (hj : V.next ≤ j ∧ j < V.next + A.2.length) => by show (if _ then _ else _) = _; rw [if_pos hj])
            (fun j L hl => by
              have hl : (if V.next ≤ j ∧ j < V.next + A.2.length then Y.loc j else X.loc j) = some L := hl
              split at hl
              · exact .inr (by assumption)
              · exact .inl (hH.dom j L hl)) hobj
            (fun id ob h => by
              rw [addG_get hrows] at h ⊢
              split at h
              · right; rw [if_pos (by assumption)]; exact h
              · exact .inl h)
            (fun j h => by
              rw [hsl] at h
              rcases h with h | h
              · exact .inl h.1
              · exact .inr h)
            (fun j h => by
              rw [hsl]
              exact h)
            (fun id ob h => by
              rw [addG_get hrows] at h
              split at h
              · assumption
              · cases h)
          refine ⟨Z, rfl, z1.trans hj.1, by rw [hsl]; exact hval, hj.2.weak (fun id o' h => ?_) (fun _ h => h) (fun _ h => h)⟩
          rw [hsl] at h
          simp only [G', sealG, Option.map_eq_some_iff] at h
          obtain ⟨o1, h1, rfl⟩ := h
          rw [addG_get hrows] at h1 ⊢
          by_cases hin : V.next ≤ id ∧ id < V.next + A.2.length
          · rw [if_pos hin] at h1 ⊢
            exact ⟨o1, sl, h1, .inr rfl⟩
          · rw [if_neg hin] at h1 ⊢
            exact ⟨seal1 sl o1, [], by simp [sealG, h1], .inl rfl⟩
        · cases hq
      · cases hq
    · cases hq
  · cases hq

/-! ### calls in the caller's own heap, and clearing -/
def HRh (X : Cx) (h : AH) : Prop := HR X h.get (fun j => h.tops.contains j = true) (fun j => j < h.next)

def IPost (X : Cx) (r : AV) (h' : AH) (v : Value) (w' : World) : Prop := ∃ Y, Y.w = w' ∧ Stp X Y ∧ VR Y r v ∧ HRh Y h'

def CI (P : Program) (g : FuncId) (args : List AV) (h : AH) (r : AV) (h' : AH) : Prop :=
  ∀ (X : Cx) (vs : List Value), HRh X h → VRs X args vs → Calls P g vs.toArray X.w fun e w' => ∃ v, e = .returned v ∧ IPost X r h' v w'

theorem do_calli {calli : CallI} {h h' : AH} {r : AV} {c : Call} {f : Operand} {f' : Opd} {xs : List Opd} (ho : o.op = .call c) (hc : c.callee = .value f) (hf : opd f = some f') (hx : opds c.args.toList = some xs)
    (hcall : ∀ gi args h r h', calli gi args h = some (r, h') → FnOk P gi ∧ CI P gi args h r h') (hH : HRh X h) (hT : TR X t a) (hq : wop calli h t (.call false f' xs) = some (r, h')) : Does P o a X.w (IPost X r h') := by
  simp only [wop] at hq
  split at hq
  · rename_i fv args hfv hargs
    split at hq
    · rename_i gi caps hsp
      obtain ⟨fok, pc⟩ := hcall _ _ _ _ _ hq
      have e1 := opd_sound hT hf hfv
      have e2 := opds_sound hT hx hargs
      have hfn : fv = .fn gi caps := by
        cases fv <;> simp only [splitF] at hsp <;> try (cases hsp; done)
        simp only [Option.some.injEq, Prod.mk.injEq] at hsp
        rw [hsp.1, hsp.2]
      subst hfn
      simp only [VR] at e1
      obtain ⟨cv, e3, e4⟩ := e1
      have hrun := exec_call ho hc fok e3 X.w
      have hargsEq : c.args.map a.eval ++ cv = (c.args.toList.map a.eval ++ cv.toList).toArray := by
        apply Array.ext'; simp
      rw [hargsEq] at hrun
      exact Does.of_enter hrun (pc X _ hH (e2.append e4))
    · cases hq
  · cases hq

theorem do_clr {calli : CallI} {h h' : AH} {r : AV} {z : List AV} {ty e : TypeId} {x : Operand} {x' : Opd} {ats : Array TypeId} (ho : o.op = .call { callee := .builtin .clear, args := #[x], argTypes := ats }) (hat : ats[0]? = some ty) (hu : P.underlying ty = some (.slice e)) (hz : zeroCs P e = some z)
    (hx : opd x = some x') (hH : HR X h.get tp dom) (hT : TR X t a) (hq : wop calli h t (.clr z.length z x') = some (r, h')) : Does P o a X.w (WPost X r h'.get tp dom) := by
  obtain ⟨inf, zv, z1, z2, z3, z4, z5, z6⟩ := zeroCs_sound hz
  have z6 := z6 X
  have exec : ∀ {s1 : Sem Value}, Builtin.clear_ ats o.type #[a.eval x] = s1 → (execOp a.eval o).run P X.w = (s1.run P X.w).andThen fun v w' => .ok (.value v) w' := by
    intro s1 h1
    exact exec_builtin ho X.w (fun c => by simp [builtin, h1])
  have hzc : zv.cells.size = z.length := by simpa using z6.length
  simp only [wop] at hq
  split at hq
  · rename_i hv
    simp only [Option.some.injEq, Prod.mk.injEq] at hq
    obtain ⟨rfl, rfl⟩ := hq
    have e1 := opd_sound hT hx hv; simp only [VR] at e1
    refine Does.of_run (v := .tuple #[]) (w' := X.w) ?_ ⟨X, rfl, Stp.refl X, by simp only [VR]; exact ⟨#[], rfl, by simp [VRs]⟩, hH⟩
    rw [exec rfl]
    simp [Builtin.clear_, hat, e1, run_underlying hu]
  · rename_i k2 id i' n hv
    have e1 := opd_sound hT hx hv
    split at hq
    · rename_i kk es cls hget
      obtain ⟨hb, hq⟩ := bif_some hq
      simp only [Prod.mk.injEq] at hq
      obtain ⟨rfl, rfl⟩ := hq
      simp only [Bool.and_eq_true] at hb
      have hb1 := Nat.eq_of_beq_eq_true hb.1
      have hb2 := Nat.le_of_ble_eq_true hb.2
      subst hb1
      simp only [VR] at e1
      obtain ⟨L, l1, l2, ad, c, e2, e3, e4⟩ := e1
      obtain ⟨L', p1, p2, p3, p4⟩ := hH.obj id _ hget
      rw [l1] at p1; cases p1
      have p4 : RowAt X id kk es false L := p4
      have hkk : kk = z.length := by rw [← p4.kk]; exact l2
      subst hkk
      obtain ⟨cur, T, b1, b2⟩ := p4.blk
      have hfit := p4.fit
      have hil : (i' + n) * z.length ≤ es.length * z.length := Nat.mul_le_mul_right _ hb2
      rw [Nat.add_mul] at hil
      -- the zeros
      have hrow := zero_row (X := X) (z := z) (zc := zv.cells) z6 n (n * zv.cells.size) (by rw [hzc])
      generalize hzs : ((Array.range (n * zv.cells.size)).map (zv.cells[· % zv.cells.size]!)).toList = zs at hrow
      have hzl : zs.length = n * z.length := by rw [← hzs]; simp [hzc]
      have hone : ∀ u ∈ zs, u.oneCell' = true := by
        intro u hu'
        obtain ⟨m, hm⟩ := List.getElem?_of_mem hu'
        have hml : m < zs.length := (List.getElem?_eq_some_iff.1 hm).1
        have hl' := hrow.length
        have hmm : m < (List.replicate n z).flatten.length := by rw [← hl']; exact hml
        obtain ⟨u', hu'', hr⟩ := hrow.get (List.getElem?_eq_getElem hmm)
        rw [hm] at hu''; cases hu''
        refine isOne_value (z5 _ ?_) hr
        have := List.getElem_mem hmm
        rw [List.mem_flatten] at this
        obtain ⟨l, h1, h2⟩ := this
        rw [List.mem_replicate] at h1
        rw [h1.2] at h2; exact h2
      generalize hnew : (cur.toList.take (L.o + i' * z.length) ++ zs ++ cur.toList.drop (L.o + i' * z.length + zs.length)).toArray = new
      have hst : L.o + i' * z.length + zs.length ≤ cur.size := by rw [b2, hzl]; omega
      have hrun := run_storeCells_at P L.b (L.o + i' * z.length) T zs 0 cur X.w b1 (by simpa using hst) hone
      simp only [Nat.add_zero] at hrun
      rw [hnew] at hrun
      have hnl : new.toList = cur.toList.take (L.o + i' * z.length) ++ zs ++ cur.toList.drop (L.o + i' * z.length + zs.length) := by rw [← hnew]
      have hsz : new.size = cur.size := by rw [← hnew]; simp; omega
      have hnget : ∀ m, new[m]? = if L.o + i' * z.length ≤ m ∧ m < L.o + i' * z.length + zs.length then zs[m - (L.o + i' * z.length)]? else cur[m]? := by
        intro m
        have := seg_get hnl (by simpa using hst) m
        simpa using this
      have hcell : ∀ m, (X.w.setRow L.b new).cell? ⟨L.b, m, none⟩ = new[m]? := fun m => block_cells (setRow_heap X.w L.b cur new T (0, 0) b1) m
      have hcell0 : ∀ m, X.w.cell? ⟨L.b, m, none⟩ = cur[m]? := fun m => block_cells b1 m
      have hlen : (es.take i' ++ List.replicate n z ++ es.drop (i' + n)).length = es.length := by simp; omega
      obtain ⟨s1, s2⟩ := hH.rewrite (es' := es.take i' ++ List.replicate n z ++ es.drop (i' + n)) hget l1 b1 hsz hlen (by
        intro ext
        refine VRe.of fun m y hy => ?_
        have hml : m < es.length := by have := (List.getElem?_eq_some_iff.1 hy).1; omega
        have htl : (es.take i').length = i' := by simp; omega
        by_cases h1 : i' ≤ m ∧ m < i' + n
        · have hy : y = z := by
            rw [List.append_assoc, List.getElem?_append_right (by omega), htl, List.getElem?_append_left (by simp; omega)] at hy
            rw [List.getElem?_replicate] at hy
            split at hy
            · simpa using hy.symm
            · cases hy
          subst hy
          refine ⟨rfl, VRc.of fun j cc hc => ?_⟩
          have hjl : j < y.length := (List.getElem?_eq_some_iff.1 hc).1
          have hpos : (m - i') * y.length + j < n * y.length := by
            have := Nat.mul_le_mul_right y.length (show m - i' + 1 ≤ n from by omega)
            rw [Nat.add_mul, Nat.one_mul] at this; omega
          have hc' : (List.replicate n y).flatten[(m - i') * y.length + j]? = some cc := by
            rw [rep_get, if_pos hpos, Nat.mul_comm, Nat.mul_add_mod, Nat.mod_eq_of_lt hjl]; exact hc
          obtain ⟨u, hu', hr⟩ := hrow.get hc'
          refine ⟨z5 _ (List.mem_of_getElem? hc), u, ?_, VR.mono ext _ _ hr⟩
          show (X.w.setRow L.b new).cell? _ = _
          have hmi : m * y.length = i' * y.length + (m - i') * y.length := by rw [← Nat.add_mul]; congr 1; omega
          rw [hcell, hnget, if_pos (by omega), show L.o + m * y.length + j - (L.o + i' * y.length) = (m - i') * y.length + j from by omega]
          exact hu'
        · have hy : es[m]? = some y := by
            by_cases h2 : m < i'
            · rw [List.append_assoc, List.getElem?_append_left (by omega), List.getElem?_take, if_pos h2] at hy; exact hy
            · rw [List.getElem?_append_right (by simp; omega), List.getElem?_drop] at hy
              rw [← hy]; congr 1; simp; omega
          obtain ⟨x1, x2⟩ := p4.cells.get hy
          refine ⟨x1, VRc.of fun j cc hc => ?_⟩
          obtain ⟨g1, u, g2, g3⟩ := x2.get hc
          refine ⟨g1, u, ?_, VR.mono ext _ _ g3⟩
          show (X.w.setRow L.b new).cell? _ = _
          have hjl : j < z.length := by have := (List.getElem?_eq_some_iff.1 hc).1; omega
          rw [hcell, hnget, if_neg ?_, ← hcell0]
          · exact g2
          · rcases Nat.lt_or_ge m i' with hlt | hge
            · have := Nat.mul_le_mul_right z.length (show m + 1 ≤ i' from hlt)
              rw [Nat.add_mul, Nat.one_mul] at this; omega
            · have := Nat.mul_le_mul_right z.length (show i' + n ≤ m from by omega)
              rw [Nat.add_mul] at this; omega)
      have hG : (AH.get { h with objs := killO id cls (setO h.objs id (.row z.length (es.take i' ++ List.replicate n z ++ es.drop (i' + n)) cls false)) }) = wG h.get id cls (.row z.length (es.take i' ++ List.replicate n z ++ es.drop (i' + n)) cls false) := get_setKill h hget (by simp)
      by_cases hn : n = 0
      · subst hn
        refine Does.of_run (v := .tuple #[]) (w' := X.w) ?_ ⟨X, rfl, Stp.refl X, by simp only [VR]; exact ⟨#[], rfl, by simp [VRs]⟩, ?_⟩
        · rw [exec rfl]
          simp [Builtin.clear_, hat, e2, run_underlying hu]
        · rw [hG]
          have hnn : new = cur := by
            apply Array.ext'
            rw [hnl]
            have : zs = [] := List.eq_nil_of_length_eq_zero (by rw [hzl]; simp)
            subst this; simp
          refine hH.weak (fun j o' ho' => ?_) (fun _ h => h) (fun _ h => h)
          have hee : es.take i' ++ List.replicate 0 z ++ es.drop (i' + 0) = es := by simp
          rw [hee] at ho'
          simp only [wG] at ho'
          by_cases e : j = id
          · subst e; simp only [if_true, Option.some.injEq] at ho'; exact ⟨_, [], hget, .inl ho'.symm⟩
          · rw [if_neg e] at ho'
            cases hgj : h.get j with
            | none => rw [hgj] at ho'; simp at ho'
            | some ob =>
              rw [hgj] at ho'
              refine ⟨ob, [], rfl, .inl ?_⟩
              cases ob with
              | row k1 e1 c1 s1 =>
                simp only at ho'
                split at ho'
                · cases ho'
                · simpa using ho'.symm
              | map m => simpa using ho'.symm
              | sit s p => simpa using ho'.symm
              | dead => simpa using ho'.symm
      · have hcn : ¬ c = 0 := by omega
        obtain ⟨ha, _⟩ := e4.resolve_left hcn
        refine Does.of_run (v := .tuple #[]) (w' := X.w.setRow L.b new) ?_ ⟨_, rfl, s1, by simp only [VR]; exact ⟨#[], rfl, by simp [VRs]⟩, by rw [hG]; exact s2⟩
        rw [exec rfl]
        obtain ⟨n', rfl⟩ : ∃ n', n = n' + 1 := ⟨n - 1, by omega⟩
        have hzz : (Builtin.zeroCells zv.cells (n' + 1)).toList = zs := by rw [← hzs]; rfl
        simp [Builtin.clear_, hat, e2, ha, run_underlying hu, zeroValue, typeInfo, z1, z2, hzz, hrun]
    · cases hq
  · cases hq
end
end Go.Ab
namespace Go.Ab
open Go.RowKit (Below)
variable {P : Program}
section
variable {X : Cx} {t : Nat → Option AV} {a : Act} {o : Oper} {nx : Nat} {g : Nat → Option AObj} {tp dom : Nat → Prop} {i : I} {im : Imp} {call : CallP} {V : View} {q : QR}

theorem VR_stv {X Y : Cx} (e : Ext X Y) {c : AV} {u : Value} (hc : stv c = true) (h : VR X c u) : VR Y.bare c u := by
  have := VR.mono e c u h
  cases c <;> first | (simp [stv] at hc; done) | (simp only [VR] at this ⊢; exact this)

/-- A new row that stands from its making. -/
theorem ro_new {vals : Array Value} {T : TypeId} {w' : World} (hp : Pushed X.w w' (.cells vals T)) (hH : HR X g tp dom) {k n : Nat} {es : List (List AV)} (hv : VRs X es.flatten vals.toList) (h1 : ∀ c ∈ es.flatten, isOne c = true) (h2 : ∀ c ∈ es.flatten, stv c = true)
    (hk : ∀ e ∈ es, e.length = k) (hn : es.length = n) : QPost X ⟨.ro k es, [], none, []⟩ nx g tp dom (.slice (some ⟨X.w.heap.size, 0, none⟩) n n) w' := by
  let Y : Cx := { w := w', base := X.base, S := fun b => X.S b ∨ b = X.w.heap.size, loc := X.loc }
  have ext : Ext X Y := ⟨fun b h => .inl h, fun b hb => hp.old (hH.stab b hb), fun _ _ h => h⟩
  have hsz : Y.w.heap.size = X.w.heap.size + 1 := hp.size
  have stp : Stp X Y := ⟨ext, rfl, fun b hb => hp.old (Nat.lt_of_lt_of_le hb hH.bs), by rw [hsz]; omega, hp.os, hp.tape, hp.output, fun b hb hl => by
    rcases hb with hb | hb
    · exact hb
    · have := hH.bs; omega⟩
  refine ⟨Y, rfl, stp, ?_, ?_⟩
  · simp only [VR]
    refine ⟨⟨X.w.heap.size, 0, none⟩, n, by rw [hn], by omega, .inr ⟨rfl, .inr rfl, ?_⟩⟩
    refine VRe.ofFlat (VRc.ofVals (vs := vals.toList) ?_ h1 fun j u hu => ?_) hk
    · refine VRs.of hv.length fun j c u hc hu => ?_
      obtain ⟨u', g1, g2⟩ := hv.get hc
      rw [hu] at g1; cases g1
      exact VR_stv ext (h2 c (List.mem_of_getElem? hc)) g2
    · show w'.cell? ⟨X.w.heap.size, 0 + j, none⟩ = some u
      simp only [World.cell?, hp.new]
      simpa using hu
  · have e1 : G' ⟨.ro k es, [], none, []⟩ nx g = g := by simp only [G', addG_nil, sealG_nil]
    have e2 : T' ⟨.ro k es, [], none, []⟩ nx tp = tp := by funext j; simp [T']; intro _ _; omega
    have e3 : D' ⟨.ro k es, [], none, []⟩ nx dom = dom := by funext j; simp [D']; intro _ _; omega
    rw [e1, e2, e3]
    refine ⟨?_, hH.sep, hH.top, hH.uniq, ?_, ?_, hH.dom⟩
    · intro id ob hob
      obtain ⟨L, l1, l2, l3, l4⟩ := hH.obj id ob hob
      refine ⟨L, l1, l2, by rw [hsz]; omega, ObjAt.move2 l4 ext (hp.old l3) ?_⟩
      intro h
      rcases h with h | h
      · exact h
      · omega
    · intro b h
      rcases h with h | h
      · have := hH.stab b h; rw [hsz]; omega
      · rw [hsz]; omega
    · have := hH.bs
      show X.base ≤ _
      rw [hsz]; omega

theorem do_mkv {ty : TypeId} {n : Nat} {ps : Array (Nat × Operand)} (ho : o.op = .buildSlice ty n ps) (hm : im.m = true) (hH : HR X g tp dom) (hT : TR X t a) (hi : instr P im o.op = some i) (hq : qop call V t i = some q) :
    Does P o a X.w (QPost X q V.next g tp dom) := by
  rw [ho] at hi
  simp only [instr, hm, cond_true] at hi
  split at hi
  · rename_i e hu
    split at hi
    · rename_i z l hz hl
      obtain ⟨hb, rfl⟩ := bif_some hi
      simp only [Bool.and_eq_true] at hb
      obtain ⟨hb1, hb2⟩ := hb
      have hb1 := Nat.le_of_ble_eq_true hb1
      have hb2 : 0 < P.cellsOf e := Nat.le_of_ble_eq_true hb2
      simp only [qop] at hq
      split at hq
      · rename_i pv hpv
        split at hq
        · rename_i cs hcs
          obtain ⟨hone, rfl⟩ := bif_some hq
          simp only [Bool.and_eq_true, List.all_eq_true] at hone
          obtain ⟨vs, g2, hvs, hlen, hrun⟩ := mks_run ho hT hu hz hl hb1 hb2 hpv hcs
          obtain ⟨c1, c2, c3⟩ := chop_flat n cs hlen
          exact Does.of_run hrun (ro_new (Pushed.alloc X.w (.cells vs e)) hH (by rw [c1]; exact g2) (by rw [c1]; exact hone.1) (by rw [c1]; exact hone.2) c2 c3)
        · cases hq
      · cases hq
    · cases hi
  · cases hi

theorem qop_sound (hcall : ∀ gi args res, call gi args = some res → FnOk P gi ∧ PC P gi args res) (hi : instr P im o.op = some i) (hw : isW i = false) (hV : ∀ id ob, V.get id = some ob → g id = some ob) (hVt : ∀ id, q.used = some id → tp id)
    (hid : ∀ j, V.next ≤ j → j < V.next + q.os.length → ¬ dom j) (hH : HR X g tp dom) (hT : TR X t a) (hq : qop call V t i = some q) : Does P o a X.w (QPost X q V.next g tp dom) := by
  have hid1 : q.os ≠ [] → ¬ dom V.next := fun h => hid V.next (Nat.le_refl _) (by have := List.length_pos_iff.2 h; omega)
  cases hop : o.op with
  | move x => exact do_mv (.inl hop) hH hT hi hq
  | assign x => exact do_mv (.inr hop) hH hT hi hq
  | pick c x y => exact do_pick hop hH hT hi hq
  | alloc ty =>
    refine do_new hop (hid1 ?_) hH hi hq
    rw [hop] at hi; simp only [instr] at hi; split at hi
    · simp only [Option.some.injEq] at hi; subst hi; simp only [qop, Option.some.injEq] at hq; rw [← hq]; simp
    · cases hi
  | box ty x =>
    refine do_box hop (hid1 ?_) hH hT hi hq
    rw [hop] at hi; simp only [instr] at hi; split at hi
    · obtain ⟨_, rfl⟩ := bif_some hi
      simp only [qop] at hq
      split at hq
      · obtain ⟨_, rfl⟩ := bif_some hq; simp
      · cases hq
    · cases hi
  | build ty ps => exact do_build hop hH hT hi hq
  | buildSlice ty n ps =>
    cases hmm : im.m with
    | true => exact do_mkv hop hmm hH hT hi hq
    | false =>
    refine do_mks hop hmm (hid1 ?_) hH hT hi hq
    rw [hop] at hi; simp only [instr, hmm, cond_false] at hi
    split at hi
    · split at hi
      · obtain ⟨_, rfl⟩ := bif_some hi
        simp only [qop] at hq
        split at hq
        · split at hq
          · obtain ⟨_, rfl⟩ := bif_some hq; simp
          · cases hq
        · cases hq
      · cases hi
    · cases hi
  | load ty x => exact do_ld hop hV hH hT hi hq
  | binOp op ty x y ty' => exact do_bin hop hH hT hi hq
  | unOp op ty x => exact do_un hop hH hT hi hq
  | fieldAddr s x f => exact do_fld hop hH hT hi hq
  | indexAddr ty x y => exact do_ixa hop hH hT hi hq
  | index ty x y => exact do_index hop hH hT hi hq
  | extract x n => exact do_ext hop hH hT hi hq
  | nilCheck x => exact do_nilc hop hH hT hi hq
  | makeFunc fn first caps => exact do_mkf hop hH hT hi hq
  | convert s d x =>
    by_cases hnb : ∀ y, i ≠ .b2s y
    · exact do_conv hop hH hT hi hq hnb
    · have hnb : ∃ y, i = .b2s y := by
        apply Classical.byContradiction
        intro hc; exact hnb fun y hy => hc ⟨y, hy⟩
      obtain ⟨y, rfl⟩ := hnb
      rw [hop] at hi
      simp only [instr] at hi
      split at hi
      · simp at hi
      · simp at hi
      · rename_i a' e hx hs hd
        split at hi
        · rename_i he
          simp only [Option.some.injEq, I.b2s.injEq] at hi; subst hi
          exact do_b2s hop hs hd he hx hV hH hT hq
        · cases hi
      · cases hi
  | slice ty x lo hi' mx =>
    cases mx with
    | some m => rw [hop] at hi; simp [instr] at hi
    | none =>
      rw [hop] at hi
      simp only [instr] at hi
      split at hi
      · rename_i x' l' h' hx hl hh hu
        simp only [Option.some.injEq] at hi; subst hi
        exact do_sls hop hu hx hl hh hH hT hq
      · rename_i x' l' h' e hx hl hh hu
        split at hi
        · rename_i inf hinf
          simp only [Option.some.injEq] at hi; subst hi
          exact do_slc hop hu hinf hx hl hh hH hT hq
        · cases hi
      · rename_i x' l' h' n e hx hl hh hu
        split at hi
        · rename_i inf hinf
          obtain ⟨_, rfl⟩ := bif_some hi
          exact do_slr hop (.inl hu) hinf hx hl hh hV hH hT hq
        · cases hi
      · rename_i x' l' h' r hx hl hh hu
        split at hi
        · rename_i n e hr
          split at hi
          · rename_i inf hinf
            obtain ⟨_, rfl⟩ := bif_some hi
            exact do_slr hop (.inr ⟨r, hu, hr⟩) hinf hx hl hh hV hH hT hq
          · cases hi
        · cases hi
      · cases hi
  | lookup ty m k ok =>
    rw [hop] at hi
    simp only [instr] at hi
    split at hi
    · rename_i m' k' kt e hm hk hu
      split at hi
      · rename_i z ks ag hz hf hg
        simp only [Option.some.injEq] at hi; subst hi
        exact do_lkp hop hu hm hk hz hf hg hV hH hT hq
      · cases hi
    · cases hi
  | makeMap ty r =>
    cases r with
    | some r => rw [hop] at hi; simp [instr] at hi
    | none =>
      rw [hop] at hi
      simp only [instr, Option.some.injEq] at hi; subst hi
      refine do_mkm hop (hid1 ?_) hH hq
      simp only [qop, Option.some.injEq] at hq; rw [← hq]; simp
  | makeSlice ty x y =>
    refine do_mkr hop (hid1 ?_) hH hT hi hq
    rw [hop] at hi; simp only [instr] at hi
    split at hi
    · split at hi
      · obtain ⟨_, rfl⟩ := bif_some hi
        simp only [qop] at hq
        split at hq
        · obtain ⟨_, rfl⟩ := bif_some hq; simp
        · cases hq
      · cases hi
    · cases hi
  | range ty x =>
    rw [hop] at hi
    simp only [instr] at hi
    split at hi
    · rename_i x' hx hu
      simp only [Option.some.injEq] at hi; subst hi
      refine do_rng hop hu hx (hid1 ?_) hH hT hq
      simp only [qop] at hq
      split at hq
      · simp only [Option.some.injEq] at hq; rw [← hq]; simp
      · cases hq
    · cases hi
  | call c =>
    obtain ⟨cal, args, ats⟩ := c
    have hi' := hi
    rw [hop] at hi
    simp only [instr] at hi
    split at hi
    · rename_i xs hxs
      cases cal with
      | value f =>
        simp only at hi
        split at hi
        · rename_i f' hf
          simp only [Option.some.injEq] at hi; subst hi
          exact do_callp hop rfl hf hxs hcall hV hid hH hT hq
        · cases hi
      | invoke r n => cases hi
      | builtin b =>
        cases b <;> simp only at hi <;> try (cases hi; done)
        case append =>
          split at hi
          · rename_i _ s' x' ty u hat
            split at hi
            · rename_i e hu
              split at hi
              · rename_i inf z hinf hz
                obtain ⟨hb, rfl⟩ := bif_some hi
                simp only [Bool.and_eq_true] at hb
                have h1 := Nat.eq_of_beq_eq_true hb.1.1
                have h2 : 0 < inf.bytes := Nat.le_of_ble_eq_true hb.2
                subst h1
                have hats : ats = #[ty, ty] := Array.ext' hat
                subst hats
                obtain ⟨l⟩ := args
                match l, hxs, hop with
                | [], hxs, _ => simp [opds] at hxs
                | [s], hxs, _ => simp only [opds] at hxs; split at hxs <;> simp at hxs
                | s :: x :: y :: r, hxs, _ =>
                  simp only [opds] at hxs
                  split at hxs
                  · split at hxs
                    · rename_i l' hl'
                      simp only [Option.some.injEq, List.cons.injEq] at hxs
                      split at hl'
                      · split at hl'
                        · rename_i l2 hl2
                          split at hl2
                          · split at hl2
                            · simp only [Option.some.injEq] at hl2; subst hl2
                              simp only [Option.some.injEq] at hl'; subst hl'
                              simp at hxs
                            · cases hl2
                          · cases hl2
                        · cases hl'
                      · cases hl'
                    · cases hxs
                  · cases hxs
                | [s, x], hxs, hop =>
                  have hsx : opd s = some s' ∧ opd x = some x' := by
                    simp only [opds] at hxs
                    split at hxs
                    · rename_i a1 ha1
                      split at hxs
                      · rename_i l' hl'
                        split at hl'
                        · rename_i a2 ha2
                          simp only [Option.some.injEq] at hl'; subst hl'
                          simp only [Option.some.injEq, List.cons.injEq, and_true] at hxs
                          exact ⟨by rw [ha1, hxs.1], by rw [ha2, hxs.2]⟩
                        · cases hl'
                      · cases hxs
                    · cases hxs
                  exact do_app hop hu hinf hz h2 hsx.1 hsx.2 hV hVt hid1 hH hT hq
              · cases hi
            · cases hi
          · cases hi
        case clear =>
          split at hi
          · split at hi
            · split at hi
              · obtain ⟨_, rfl⟩ := bif_some hi
                simp [isW] at hw
              · cases hi
            · cases hi
          · cases hi
        case len => exact do_len hop hV hH hT hi' hq
        case max =>
          split at hi
          · cases hi
          · rename_i xs' hne
            simp only [Option.some.injEq] at hi; subst hi
            exact do_mm (mx := true) hop hH hT hxs hq
        case min =>
          split at hi
          · cases hi
          · rename_i xs' hne
            simp only [Option.some.injEq] at hi; subst hi
            exact do_mm (mx := false) hop hH hT hxs hq
    · cases hi
  | store ty x v =>
    rw [hop] at hi; simp only [instr] at hi
    split at hi
    · simp only [Option.some.injEq] at hi; subst hi; simp [isW] at hw
    · cases hi
  | mapUpdate ty m k v | insert ty m k v =>
    rw [hop] at hi; simp only [instr] at hi
    split at hi
    · split at hi
      · simp only [Option.some.injEq] at hi; subst hi; simp [isW] at hw
      · cases hi
    · cases hi
  | next x s =>
    cases s with
    | false => rw [hop] at hi; simp [instr] at hi
    | true =>
      rw [hop] at hi; simp only [instr] at hi
      split at hi
      · simp only [Option.some.injEq] at hi; subst hi; simp [isW] at hw
      · cases hi
  | _ => rw [hop] at hi; simp [instr] at hi

theorem wop_same {calli : CallI} {h h' : AH} {r : AV} {t : Nat → Option AV} {i : I} (hq : wop calli h t i = some (r, h')) (hn : ∀ f xs, i ≠ .call false f xs) : h'.tops = h.tops ∧ h'.next = h.next := by
  cases i <;> simp only [wop] at hq <;> try (cases hq; done)
  case st => (repeat' split at hq) <;> first | (cases hq; done) | (obtain ⟨_, hq⟩ := bif_some hq; cases hq; exact ⟨rfl, rfl⟩)
  case mup => (repeat' split at hq) <;> first | (cases hq; done) | (simp only [Option.some.injEq, Prod.mk.injEq] at hq; obtain ⟨_, rfl⟩ := hq; exact ⟨rfl, rfl⟩)
  case nxt =>
    split at hq
    · split at hq
      · rename_i id s pos _
        cases hb : Nat.blt pos s.length with
        | true => rw [hb, cond_true] at hq; simp only [Option.some.injEq, Prod.mk.injEq] at hq; obtain ⟨_, rfl⟩ := hq; exact ⟨rfl, rfl⟩
        | false => rw [hb, cond_false] at hq; simp only [Option.some.injEq, Prod.mk.injEq] at hq; obtain ⟨_, rfl⟩ := hq; exact ⟨rfl, rfl⟩
      · cases hq
    · cases hq
  case clr =>
    split at hq
    · simp only [Option.some.injEq, Prod.mk.injEq] at hq; obtain ⟨_, rfl⟩ := hq; exact ⟨rfl, rfl⟩
    · split at hq
      · obtain ⟨_, hq⟩ := bif_some hq; cases hq; exact ⟨rfl, rfl⟩
      · cases hq
    · cases hq

theorem wop_sound {calli : CallI} {h h' : AH} {r : AV} (hcall : ∀ gi args h r h', calli gi args h = some (r, h') → FnOk P gi ∧ CI P gi args h r h') (hi : instr P im o.op = some i) (hw : isW i = true) (hH : HRh X h) (hT : TR X t a) (hq : wop calli h t i = some (r, h')) : Does P o a X.w (IPost X r h') := by
  have fin : (∀ f xs, i ≠ .call false f xs) → Does P o a X.w (WPost X r h'.get (fun j => h.tops.contains j = true) (fun j => j < h.next)) → Does P o a X.w (IPost X r h') := by
    intro hn hd
    obtain ⟨e1, e2⟩ := wop_same hq hn
    refine hd.mono ?_
    rintro v w' ⟨Y, h1, h2, h3, h4⟩
    exact ⟨Y, h1, h2, h3, by unfold HRh; rw [e1, e2]; exact h4⟩
  cases hop : o.op with
  | store ty x v =>
    have hi' := hi
    rw [hop] at hi; simp only [instr] at hi
    split at hi
    · simp only [Option.some.injEq] at hi; subst hi
      exact fin (by simp) (do_st hop hH hT hi' hq)
    · cases hi
  | mapUpdate ty m k v =>
    rw [hop] at hi; simp only [instr] at hi
    split at hi
    · rename_i m' k' v' kt e hm hk hv hu
      split at hi
      · rename_i ks ag hf hg
        simp only [Option.some.injEq] at hi; subst hi
        exact fin (by simp) (do_mup (.inl hop) hu hm hk hv hf hg hH hT hq)
      · cases hi
    · cases hi
  | insert ty m k v =>
    rw [hop] at hi; simp only [instr] at hi
    split at hi
    · rename_i m' k' v' kt e hm hk hv hu
      split at hi
      · rename_i ks ag hf hg
        simp only [Option.some.injEq] at hi; subst hi
        exact fin (by simp) (do_mup (.inr hop) hu hm hk hv hf hg hH hT hq)
      · cases hi
    · cases hi
  | next x s =>
    cases s with
    | false => rw [hop] at hi; simp [instr] at hi
    | true =>
      rw [hop] at hi; simp only [instr] at hi
      split at hi
      · rename_i x' hx
        simp only [Option.some.injEq] at hi; subst hi
        exact fin (by simp) (do_nxt hop hx hH hT hq)
      · cases hi
  | call c =>
    obtain ⟨cal, args, ats⟩ := c
    rw [hop] at hi
    simp only [instr] at hi
    split at hi
    · rename_i xs hxs
      cases cal with
      | value f =>
        simp only at hi
        split at hi
        · rename_i f' hf
          simp only [Option.some.injEq] at hi; subst hi
          simp only [isW] at hw
          split at hw <;> try (rename_i hc; cases hc; done)
          all_goals try (cases hw; done)
          rename_i hc
          injection hc with h1 h2 h3
          subst h2; subst h3
          rw [h1] at hq
          exact do_calli hop rfl hf hxs hcall hH hT hq
        · cases hi
      | invoke r n => cases hi
      | builtin b =>
        cases b <;> simp only at hi <;> try (cases hi; done)
        case clear =>
          split at hi
          · rename_i _ _ x' ty hat
            split at hi
            · rename_i e hu
              split at hi
              · rename_i z hz
                obtain ⟨hz0, rfl⟩ := bif_some hi
                obtain ⟨l⟩ := args
                match l, hxs, hop with
                | [], hxs, _ => simp [opds] at hxs
                | [x], hxs, hop =>
                  have hx : opd x = some x' := by
                    simp only [opds] at hxs
                    split at hxs
                    · rename_i a1 ha1
                      simp only [Option.some.injEq, List.cons.injEq, and_true] at hxs
                      rw [ha1, hxs]
                    · cases hxs
                  exact fin (by simp) (do_clr hop hat hu hz hx hH hT hq)
                | x :: y :: r, hxs, _ =>
                  simp only [opds] at hxs
                  split at hxs
                  · split at hxs
                    · rename_i l' hl'
                      simp only [Option.some.injEq, List.cons.injEq] at hxs
                      obtain ⟨_, rfl⟩ := hxs
                      split at hl'
                      · split at hl' <;> simp at hl'
                      · cases hl'
                    · cases hxs
                  · cases hxs
              · cases hi
            · cases hi
          · cases hi
        all_goals
          (repeat' split at hi) <;> first
            | (cases hi; done)
            | (simp only [Option.some.injEq] at hi; subst hi; simp [isW] at hw; done)
            | (obtain ⟨_, rfl⟩ := bif_some hi; simp [isW] at hw; done)
    · cases hi
  | _ =>
    exfalso
    rw [hop] at hi; simp only [instr] at hi
    (try (cases hi; done))
    all_goals
      (repeat' split at hi) <;> first
        | (cases hi; done)
        | contradiction
        | (simp only [Option.some.injEq] at hi; subst hi; simp [isW] at hw; done)
        | (obtain ⟨_, rfl⟩ := bif_some hi; simp [isW] at hw; done)
        | (obtain ⟨_, rfl⟩ := bif_some hi; cases hmm : im.m <;> simp [isW, hmm] at hw; done)
end
end Go.Ab
namespace Go.Ab
open Go.RowKit (Below)
variable {P : Program}

theorem ev_congr {t t' : Nat → Option AV} : ∀ {x : Opd}, (∀ n ∈ tO x, t n = t' n) → ev t x = ev t' x
  | .t n, h => h n (by simp [tO])
  | .c v, _ => rfl
theorem evs_congr {t t' : Nat → Option AV} : ∀ {xs : List Opd}, (∀ n ∈ tL xs, t n = t' n) → evs t xs = evs t' xs
  | [], _ => rfl
  | x :: r, h => by
    simp only [evs]
    rw [ev_congr (x := x) fun n hn => h n (by simp [tL, hn]), evs_congr (xs := r) fun n hn => h n (by simp [tL, hn])]
theorem evParts_congr {t t' : Nat → Option AV} : ∀ {xs : List (Nat × Nat × Opd)}, (∀ n ∈ tP xs, t n = t' n) → evParts t xs = evParts t' xs
  | [], _ => rfl
  | x :: r, h => by
    simp only [evParts]
    rw [ev_congr (x := x.2.2) fun n hn => h n (by simp [tP, hn]), evParts_congr (xs := r) fun n hn => h n (by simp [tP, hn])]
theorem evO_congr {t t' : Nat → Option AV} : ∀ {x : Option Opd}, (∀ n ∈ tM x, t n = t' n) → evO t x = evO t' x
  | none, _ => rfl
  | some x, h => by
    simp only [evO]
    rw [ev_congr (x := x) fun n hn => h n (by simp [tM, hn])]

theorem qop_congr {call : CallP} {V : View} {t t' : Nat → Option AV} {i : I} (h : ∀ n ∈ tmpsI i, t n = t' n) : qop call V t i = qop call V t' i := by
  cases i <;> simp only [tmpsI, List.mem_append] at h <;> simp only [qop]
  case pick c a b => rw [ev_congr (x := c) fun n hn => h n (.inl hn), ev_congr (x := a) fun n hn => h n (.inr (.inl hn)), ev_congr (x := b) fun n hn => h n (.inr (.inr hn))]
  case call b f xs => rw [ev_congr (x := f) fun n hn => h n (.inl hn), evs_congr (xs := xs) fun n hn => h n (.inr hn)]
  case slc k x l r => rw [ev_congr (x := x) fun n hn => h n (.inl hn), evO_congr (x := l) fun n hn => h n (.inr (.inl hn)), evO_congr (x := r) fun n hn => h n (.inr (.inr hn))]
  case slr k m x l r => rw [ev_congr (x := x) fun n hn => h n (.inl hn), evO_congr (x := l) fun n hn => h n (.inr (.inl hn)), evO_congr (x := r) fun n hn => h n (.inr (.inr hn))]
  case sls x l r => rw [ev_congr (x := x) fun n hn => h n (.inl hn), evO_congr (x := l) fun n hn => h n (.inr (.inl hn)), evO_congr (x := r) fun n hn => h n (.inr (.inr hn))]
  all_goals first
    | rw [ev_congr (t := t) (t' := t') h]
    | rw [evs_congr (t := t) (t' := t') h]
    | rw [evParts_congr (t := t) (t' := t') h]
    | (rename_i x y; rw [ev_congr (t := t) (t' := t') (x := x) fun n hn => h n (.inl hn), ev_congr (t := t) (t' := t') (x := y) fun n hn => h n (.inr hn)])
    | skip

theorem wop_congr {calli : CallI} {hp : AH} {t t' : Nat → Option AV} {i : I} (h : ∀ n ∈ tmpsI i, t n = t' n) : wop calli hp t i = wop calli hp t' i := by
  cases i <;> simp only [tmpsI, List.mem_append] at h <;> simp only [wop]
  case st k x v => rw [ev_congr (x := x) fun n hn => h n (.inl hn), ev_congr (x := v) fun n hn => h n (.inr hn)]
  case mup ag ks c a b => rw [ev_congr (x := c) fun n hn => h n (.inl hn), ev_congr (x := a) fun n hn => h n (.inr (.inl hn)), ev_congr (x := b) fun n hn => h n (.inr (.inr hn))]
  case nxt x => rw [ev_congr (t := t) (t' := t') h]
  case clr k z x => rw [ev_congr (t := t) (t' := t') h]
  case call b f xs =>
    cases b <;> simp only []
    rw [ev_congr (x := f) fun n hn => h n (.inl hn), evs_congr (xs := xs) fun n hn => h n (.inr hn)]

theorem qop_made {call : CallP} {V : View} {t : Nat → Option AV} {i : I} {q : QR} (hq : qop call V t i = some q) : (∀ o ∈ q.os, o ≠ .dead) ∧ (mem i = 0 → q.os = [] ∧ q.used = none ∧ q.sl = []) ∧ (∀ id, q.used = some id → V.top id = true ∧ q.sl = [] ∧ ∃ ob, V.get id = some ob) ∧ (makes i = false → q.os = []) := by
  have qvs : ∀ {v : Option AV}, qv v = some q → (∀ o ∈ q.os, o ≠ .dead) ∧ (mem i = 0 → q.os = [] ∧ q.used = none ∧ q.sl = []) ∧ (∀ id, q.used = some id → V.top id = true ∧ q.sl = [] ∧ ∃ ob, V.get id = some ob) ∧ (makes i = false → q.os = []) := by
    intro v h
    obtain ⟨x, _, rfl⟩ := qv_some h
    simp
  cases i <;> simp only [qop] at hq <;> try (cases hq; done)
  case call b f xs =>
    (repeat' split at hq) <;> try (cases hq; done)
    simp only [Option.some.injEq] at hq; subst hq
    refine ⟨fun o ho => ?_, fun hm => ?_, by simp, fun hm => ?_⟩
    · obtain ⟨k, es, c, rfl⟩ := adp_rows 4 _ _ o ho; simp
    · cases b <;> simp [mem, isW] at hm
    · simp [makes] at hm
  case app k b s x =>
    split at hq
    · split at hq
      · rename_i k' xs _
        cases h1 : xs.isEmpty with
        | true =>
          rw [h1, cond_true] at hq
          split at hq <;> first | (cases hq; done) | (simp only [Option.some.injEq] at hq; subst hq; simp)
        | false =>
          rw [h1, cond_false] at hq
          cases h2 : !(Nat.beq k' k) with
          | true => rw [h2] at hq; cases hq
          | false =>
            rw [h2, cond_false] at hq
            split at hq
            · obtain ⟨_, rfl⟩ := bif_some hq; simp [mem, makes]
            · split at hq
              · obtain ⟨hb, rfl⟩ := bif_some hq
                simp only [Bool.and_eq_true] at hb
                rename_i hget
                simp only [mem, makes]
                refine ⟨by simp, by simp, ?_, by simp⟩
                rintro id' hid
                cases hid
                exact ⟨hb.1.1.2, trivial, _, hget⟩
              · cases hq
            · cases hq
      · cases hq
    · cases hq
  all_goals
    (repeat' split at hq) <;> first
      | (cases hq; done)
      | exact qvs hq
      | (simp only [Option.some.injEq] at hq; subst hq; simp [mem, isW, makes]; done)
      | (obtain ⟨_, rfl⟩ := bif_some hq; simp [mem, isW, makes]; done)
      | (obtain ⟨_, hq⟩ := bif_some' hq; exact qvs hq)

/-- An operation that touches no memory does not look at it. -/
theorem qop_view {call : CallP} {V V' : View} {t : Nat → Option AV} {i : I} (hm : mem i = 0) : qop call V t i = qop call V' t i := by
  cases i
  case call b f xs => cases b <;> simp [mem, isW] at hm
  all_goals first | rfl | (simp [mem, isW] at hm; done)

theorem add_get {h : AH} {os : List AObj} {u : Option Nat} (hd : ∀ o ∈ os, o ≠ .dead) : (h.add os u).get = addG h.get h.next os := by
  funext j
  simp only [AH.get, AH.add]
  rw [addG_get hd]
  have key : ∀ (l : List AObj) (n : Nat) (m : List (Nat × AObj)), (∀ o ∈ l, o ≠ .dead) → alook (number n l ++ m) j = if n ≤ j ∧ j < n + l.length then l[j - n]? else alook m j := by
    intro l
    induction l with
    | nil => intro n m _; rw [if_neg (by simp)]; rfl
    | cons o r ih =>
      intro n m h
      have ho : o ≠ .dead := h o (by simp)
      simp only [number, List.cons_append, alook]
      cases hb : Nat.beq n j with
      | true =>
        have := Nat.eq_of_beq_eq_true hb; subst this
        rw [if_pos ⟨Nat.le_refl _, by simp⟩]
        cases o <;> simp at ho ⊢
      | false =>
        have hn := Nat.ne_of_beq_eq_false hb
        simp only [cond_false]
        rw [ih (n + 1) m (fun x hx => h x (by simp [hx]))]
        by_cases h1 : n + 1 ≤ j ∧ j < n + 1 + r.length
        · rw [if_pos h1, if_pos (by simp; omega)]
          obtain ⟨m', rfl⟩ : ∃ m', j = n + 1 + m' := ⟨j - (n + 1), by omega⟩
          rw [show n + 1 + m' - (n + 1) = m' from by omega, show n + 1 + m' - n = m' + 1 from by omega]
          simp
        · rw [if_neg h1, if_neg (by simp; omega)]
  exact key os h.next h.objs hd

theorem seal_get {h : AH} {cl : List Nat} : (h.sealC cl).get = sealG cl h.get := by
  funext j
  simp only [AH.get, AH.sealC, sealG]
  induction h.objs with
  | nil => rfl
  | cons p r ih =>
    simp only [sealO, alook]
    cases hb : Nat.beq p.1 j with
    | true =>
      simp only [cond_true]
      cases p.2 <;> simp [seal1]
    | false => simpa using ih
end Go.Ab
namespace Go.Ab
open Go.RowKit (Below)
variable {P : Program}

/-- What the calls of an evaluator stand for. -/
structure Sound (P : Program) (call : CallP) (calli : CallI) : Prop where
  p : ∀ gi args res, call gi args = some res → FnOk P gi ∧ PC P gi args res
  i : ∀ gi args h r h', calli gi args h = some (r, h') → FnOk P gi ∧ CI P gi args h r h'
  mono : ∀ gi args h r h', calli gi args h = some (r, h') → h.next ≤ h'.next

theorem HRh.of {X : Cx} {h h' : AH} {q : QR} {g : Nat → Option AObj} (hd : ∀ o ∈ q.os, o ≠ .dead) (hg : ∀ id o, h'.get id = some o → G' q h.next h.get id = some o)
    (ht : h'.tops = (List.range' h.next q.os.length) ++ (match q.used with | some u => h.tops.filter (fun x => !(Nat.beq x u)) | none => h.tops)) (hn : h'.next = h.next + q.os.length)
    (hH : HR X (G' q h.next h.get) (T' q h.next (fun j => h.tops.contains j = true)) (D' q h.next (fun j => j < h.next))) : HRh X h' := by
  refine hH.weak (fun id o ho => ⟨o, [], hg id o ho, .inl rfl⟩) (fun j hj => ?_) (fun j hj => ?_)
  · rw [ht] at hj
    have hj : j ∈ (List.range' h.next q.os.length) ++ (match q.used with | some u => h.tops.filter (fun x => !(Nat.beq x u)) | none => h.tops) := by simpa using hj
    rcases List.mem_append.1 hj with h1 | h1
    · rw [List.mem_range'_1] at h1; exact .inr h1
    · left
      cases hu : q.used with
      | none => rw [hu] at h1; exact ⟨by simpa using h1, by simp⟩
      | some u =>
        rw [hu] at h1
        simp only [List.mem_filter, Bool.not_eq_true'] at h1
        exact ⟨by simpa using h1.1, by intro hc; cases hc; simp at h1⟩
  · rw [hn]
    rcases hj with h1 | h1 <;> omega

/-- A quiet step's new heap. -/
def qHeap (h : AH) (q : QR) : AH := bif q.sl.isEmpty then h.add q.os q.used else (h.add q.os q.used).sealC q.sl

theorem qHeap_get {h : AH} {q : QR} (hd : ∀ o ∈ q.os, o ≠ .dead) : (qHeap h q).get = G' q h.next h.get := by
  unfold qHeap G'
  cases he : q.sl.isEmpty with
  | true =>
    have : q.sl = [] := List.isEmpty_iff.1 he
    simp only [cond_true]
    rw [add_get hd, this, sealG_nil]
  | false => simp only [cond_false]; rw [seal_get, add_get hd]
theorem qHeap_tops {h : AH} {q : QR} : (qHeap h q).tops = (List.range' h.next q.os.length) ++ (match q.used with | some u => h.tops.filter (fun x => !(Nat.beq x u)) | none => h.tops) := by
  unfold qHeap; cases q.sl.isEmpty <;> rfl
theorem qHeap_next {h : AH} {q : QR} : (qHeap h q).next = h.next + q.os.length := by
  unfold qHeap; cases q.sl.isEmpty <;> rfl

theorem HRh.quiet {X : Cx} {h : AH} {q : QR} (hd : ∀ o ∈ q.os, o ≠ .dead) (hH : HR X (G' q h.next h.get) (T' q h.next (fun j => h.tops.contains j = true)) (D' q h.next (fun j => j < h.next))) : HRh X (qHeap h q) :=
  HRh.of (g := h.get) hd (fun id o ho => by rw [qHeap_get hd] at ho; exact ho) qHeap_tops qHeap_next hH

/-- The kinds of steps of the text. -/
inductive Eff (call : CallP) (calli : CallI) (n0 : Nat) (o : OpI) (s s' : St) : Prop where
  | quiet (q : QR) (hw : isW o.i = false) (hq : qop call (bif Nat.beq o.fl 2 then s.h.viewOld n0 else s.h.view) s.t.get o.i = some q) (hs : q.sl = [] ∨ o.fl = 0) (h' : s' = ⟨putD s.t o.dst q.v, qHeap s.h q⟩)
  | write (r : AV) (h' : AH) (hw : isW o.i = true) (hq : wop calli s.h s.t.get o.i = some (r, h')) (e : s' = ⟨putD s.t o.dst r, h'⟩)

theorem op1_eff {call : CallP} {calli : CallI} {n0 : Nat} {o : OpI} {s s' : St} (h : op1 call calli n0 o s = some s') : Eff call calli n0 o s s' := by
  unfold op1 at h
  cases hw : isW o.i with
  | true =>
    rw [hw, cond_true] at h
    split at h
    · rename_i r hr
      simp only [Option.some.injEq] at h
      exact .write r.1 r.2 hw hr h.symm
    · cases h
  | false =>
    rw [hw, cond_false] at h
    split at h
    · rename_i q hq
      cases he : q.sl.isEmpty with
      | true =>
        rw [he, cond_true] at h
        simp only [Option.some.injEq] at h
        exact .quiet q hw hq (.inl (List.isEmpty_iff.1 he)) (by rw [← h, qHeap, he, cond_true])
      | false =>
        rw [he, cond_false] at h
        obtain ⟨hf, h⟩ := bif_some h
        exact .quiet q hw hq (.inr (Nat.eq_of_beq_eq_true hf)) (by rw [← h, qHeap, he, cond_false])
    · cases h

def wantedI (t : Nat → Option AV) (o : OpI) (b : Bool) : Prop := wantI t o = some b

/-- One step of the text. -/
inductive Step1 (call : CallP) (calli : CallI) (n0 : Nat) (o : OpI) (s : St) (sf : List Nat) (s' : St) (sf' : List Nat) : Prop where
  | run (hw : wantI s.t.get o = some true) (hs : (isW o.i = true → ∀ id ∈ sf, spares s.h s.t.get o.i id = true) ∧ ∀ id ∈ softOf s.t.get o, id < n0) (h : op1 call calli n0 o s = some s') (hf : sf' = softOf s.t.get o ++ sf)
  | skip (hw : wantI s.t.get o = some false) (h : s' = ⟨putD s.t o.dst .skip, s.h⟩) (hf : sf' = sf)

theorem ops_cons {call : CallP} {calli : CallI} {n0 : Nat} {o : OpI} {r : List OpI} {s sE : St} {sf : List Nat} (h : ops call calli n0 sf (o :: r) s = some sE) :
    ∃ s' sf', Step1 call calli n0 o s sf s' sf' ∧ ops call calli n0 sf' r s' = some sE := by
  simp only [ops] at h
  split at h
  · rename_i hw
    obtain ⟨hb, h⟩ := bif_some' h
    split at h
    · rename_i s' hs'
      simp only [Bool.and_eq_true] at hb
      refine ⟨s', _, .run hw ⟨fun hi id hid => ?_, fun id hid => Nat.le_of_ble_eq_true (List.all_eq_true.1 hb.2 id hid)⟩ hs' rfl, h⟩
      have hb := hb.1
      rw [hi] at hb
      exact List.all_eq_true.1 (by simpa only [Bool.not_true, Bool.false_or] using hb) id hid
    · cases h
  · rename_i hw
    exact ⟨_, sf, .skip hw rfl rfl, h⟩
  · cases h

/-- The compact form of an operation. -/
structure OpOk (P : Program) (im : Imp) (os : Array Oper) (nt : Nat) (o : Oper) (oi : OpI) : Prop where
  dst : oi.dst = o.dst
  ins : oi.i = orBad (instr P im o.op)
  grd : grdTmp os.toList o = some oi.grd
  dok : ∀ d, o.dst = some d → d < nt ∧ d < 65535

theorem orBad_some {x : Option I} {i : I} (h : orBad x = i) (hb : i ≠ .bad) : x = some i := by
  cases x with
  | none => exact absurd h.symm hb
  | some j => simp only [orBad] at h; rw [h]

theorem wanted_sound {os : Array Oper} {o : Oper} {oi : OpI} {X : Cx} {t : Nat → Option AV} {a : Act} {b : Bool} (hg : grdTmp os.toList o = some oi.grd) (hT : TR X t a) (hw : wantI t oi = some b) : Region.wanted o (yielded os a.tmps) = b := by
  unfold grdTmp at hg
  unfold Region.wanted
  cases hgu : o.guard with
  | none =>
    rw [hgu] at hg
    simp only [Option.some.injEq] at hg
    simp only [wantI, ← hg, Option.some.injEq] at hw
    exact hw
  | some p =>
    obtain ⟨j, want⟩ := p
    rw [hgu] at hg
    simp only at hg
    split at hg
    · rename_i d hd
      simp only [Option.some.injEq] at hg
      have hj : ((os[j]?).bind (·.dst)) = some d := by
        have e : os.toList[j]? = os[j]? := by simp
        rw [e] at hd
        cases hoj : os[j]? with
        | none => rw [hoj] at hd; cases hd
        | some g => rw [hoj] at hd; simpa using hd
      simp only [wantI, ← hg] at hw
      have hy : ∀ v, a.tmps[d]? = some v → yielded os a.tmps j = (match v with | .bool b => some b | _ => none) := by
        intro v hv
        simp only [yielded, hj, Option.bind_some, hv]
        cases v <;> rfl
      split at hw
      · rename_i b' hb
        obtain ⟨h1, h2⟩ := hT d _ hb
        simp only [VR] at h2
        have := hy (.bool b') (by rw [← h2]; simp [Array.getD, h1])
        simp only [this]
        simpa using hw
      · rename_i hb
        obtain ⟨h1, h2⟩ := hT d _ hb
        simp only [VR] at h2
        have := hy undef (by rw [← h2]; simp [Array.getD, h1])
        simp only [this]
        simp only [Option.some.injEq] at hw
        rw [← hw]; rfl
      · cases hw
    · cases hg

section
variable {X : Cx} {a : Act} {call : CallP} {calli : CallI} {im : Imp} {os : Array Oper} {nt : Nat}

theorem bad_none {V : View} {t : Nat → Option AV} : qop call V t .bad = none := rfl

def Inv (X0 : Cx) (nt : Nat) (s : St) (a : Act) (w : World) : Prop := ∃ X, X.w = w ∧ Stp X0 X ∧ TR X s.t.get a ∧ HRh X s.h ∧ a.tmps.size = nt ∧ a.defers = []

theorem Act.size_put (a : Act) (d : Option Nat) (v : Value) : (a.put d v).tmps.size = a.tmps.size := by
  cases d <;> simp [Act.put]
theorem Act.defers_put (a : Act) (d : Option Nat) (v : Value) : (a.put d v).defers = a.defers := by
  cases d <;> simp [Act.put]

/-- A step in the order of the text, from the exact state. -/
theorem step_exact (hS : Sound P call calli) {n0 : Nat} {o : Oper} {oi : OpI} (ok : OpOk P im os nt o oi) {X0 : Cx} {s s' : St} {sf sf' : List Nat} (hs : Step1 call calli n0 oi s sf s' sf') {a : Act} {w : World} (hI : Inv X0 nt s a w)
    {Q : Exit → Act → World → Prop} {i : Nat} (hi : os[i]? = some o) {K : Act → World → Prop} (hK : ∀ a w, Inv X0 nt s' a w → K a w) : wpOp P os Q i K a w := by
  obtain ⟨X, rfl, hst, hT, hH, hsz, hdf⟩ := hI
  have put : ∀ {Y : Cx} {av : AV} {v : Value}, Stp X Y → VR Y av v → TR Y (putD s.t oi.dst av).get (a.put o.dst v) := by
    intro Y av v hy hv
    rw [ok.dst]
    exact TR.put (hT.mono hy.toExt) o.dst av v hv fun n hn => by have := ok.dok n hn; rw [hsz]; exact this
  have putsz : ∀ v : Value, (a.put o.dst v).tmps.size = nt ∧ (a.put o.dst v).defers = [] := by intro v; rw [Act.size_put, Act.defers_put]; exact ⟨hsz, hdf⟩
  simp only [wpOp, hi]
  cases hs with
  | skip hw h hf =>
    rw [if_neg (by rw [wanted_sound ok.grd hT hw]; simp)]
    refine hK _ _ ⟨X, rfl, hst, ?_, by rw [h]; exact hH, putsz _⟩
    rw [h]; exact put (Stp.refl X) (by simp [VR])
  | run hw hsp h hf =>
    rw [if_pos (wanted_sound ok.grd hT hw)]
    left
    have hne : oi.i ≠ .bad → instr P im o.op = some oi.i := orBad_some ok.ins.symm
    cases op1_eff h with
    | quiet q hw' hq hsl h' =>
      have hi' := hne (by intro hb; rw [hb] at hq; cases hq)
      obtain ⟨m1, m2, m3, _⟩ := qop_made hq
      have hnx : (bif Nat.beq oi.fl 2 then s.h.viewOld n0 else s.h.view).next = s.h.next := by cases Nat.beq oi.fl 2 <;> rfl
      have hV : ∀ id ob, (bif Nat.beq oi.fl 2 then s.h.viewOld n0 else s.h.view).get id = some ob → s.h.get id = some ob := by
        intro id ob
        cases Nat.beq oi.fl 2 with
        | false => exact fun h => h
        | true =>
          show (bif Nat.blt id n0 then s.h.get id else none) = _ → _
          cases Nat.blt id n0 <;> simp
      have hVt : ∀ id, (bif Nat.beq oi.fl 2 then s.h.viewOld n0 else s.h.view).top id = true → s.h.tops.contains id = true := by
        intro id
        cases Nat.beq oi.fl 2 with
        | false => exact fun h => h
        | true =>
          show (bif Nat.blt id n0 then s.h.tops.contains id else false) = _ → _
          cases Nat.blt id n0 <;> simp
      have := qop_sound (X := X) (g := s.h.get) (tp := fun j => s.h.tops.contains j = true) (dom := fun j => j < s.h.next) hS.p hi' hw' hV (fun id hid => hVt id (m3 id hid).1) (by rw [hnx]; intro j h1 _; omega) hH hT hq
      rw [hnx] at this
      refine this.wp ?_
      rintro v w' ⟨Y, rfl, y2, y3, y4⟩
      refine hK _ _ ⟨Y, rfl, hst.trans y2, ?_, ?_, putsz _⟩
      · rw [h']; exact put y2 y3
      · rw [h']; exact HRh.quiet m1 y4
    | write r h1 hw' hq e =>
      have hi' := hne (by intro hb; rw [hb] at hq; simp [wop] at hq)
      refine (wop_sound hS.i hi' hw' hH hT hq).wp ?_
      rintro v w' ⟨Y, rfl, y2, y3, y4⟩
      refine hK _ _ ⟨Y, rfl, hst.trans y2, ?_, ?_, putsz _⟩
      · rw [e]; exact put y2 y3
      · rw [e]; exact y4

/-- All the steps, in the order of the text. -/
theorem steps_exact (hS : Sound P call calli) {n0 : Nat} {X0 : Cx} {Q : Exit → Act → World → Prop} :
    ∀ (l : List OpI) (k : Nat) (s sE : St) (sf : List Nat) (a : Act) (w : World), ops call calli n0 sf l s = some sE → l.length = os.size - k → (∀ j oi, l[j]? = some oi → ∃ o, os[k + j]? = some o ∧ OpOk P im os nt o oi) → Inv X0 nt s a w →
      (∀ a w, Inv X0 nt sE a w → Q .normal a w) → wpOps P os Q (List.range' k (os.size - k)) a w := by
  intro l
  induction l with
  | nil =>
    intro k s sE sf a w h hl hok hI hQ
    simp only [ops, Option.some.injEq] at h; subst h
    have : os.size - k = 0 := by simpa using hl.symm
    rw [this]; exact hQ a w hI
  | cons oi r ih =>
    intro k s sE sf a w h hl hok hI hQ
    obtain ⟨s', sf', h1, h2⟩ := ops_cons h
    obtain ⟨o, ho, hoo⟩ := hok 0 oi rfl
    simp only [List.length_cons] at hl
    rw [← hl, List.range'_succ, wpOps_cons]
    refine step_exact hS hoo h1 hI ho fun a w hI' => ?_
    have := ih (k + 1) s' sE sf' a w h2 (by omega) (fun j oi' hj => by
      obtain ⟨o', p1, p2⟩ := hok (j + 1) oi' (by simpa using hj)
      exact ⟨o', by rw [show k + 1 + j = k + (j + 1) from by omega]; exact p1, p2⟩) hI' hQ
    rw [show os.size - (k + 1) = r.length from by omega] at this
    exact this
end
end Go.Ab
namespace Go.Ab
open Go.RowKit (Below)
variable {P : Program}

theorem infs_spec {im : Imp} {os : List Oper} : ∀ {l : List Oper} {bs : List Nat} {xs : List Inf}, infs P im os bs l = some xs → xs.length = l.length ∧
    ∀ (k : Nat) (o : Oper), l[k]? = some o → ∃ x, xs[k]? = some x ∧ x.o = o ∧ x.i = orBad (instr P im o.op) ∧ grdTmp os o = some x.grd ∧ x.names = namesOf o x.i x.grd ∧ x.before = bs.getD k 0
  | [], bs, xs, h => by simp only [infs, Option.some.injEq] at h; subst h; simp
  | o :: r, bs, xs, h => by
    simp only [infs] at h
    split at h
    · rename_i g l hg hl
      simp only [Option.some.injEq] at h; subst h
      obtain ⟨h1, h2⟩ := infs_spec hl
      refine ⟨by simp [h1], fun k o' hk => ?_⟩
      cases k with
      | zero =>
        simp only [List.getElem?_cons_zero, Option.some.injEq] at hk; subst hk
        exact ⟨_, rfl, rfl, rfl, hg, rfl, by cases bs <;> rfl⟩
      | succ k =>
        simp only [List.getElem?_cons_succ] at hk
        obtain ⟨x, p1, p2, p3, p4, p5, p6⟩ := h2 k o' hk
        exact ⟨x, by simpa using p1, p2, p3, p4, p5, by rw [p6]; cases bs <;> simp⟩
    · cases h

theorem edgesOk_spec : ∀ {l : List Oper} {k : Nat}, edgesOk k l = true → ∀ (j : Nat) (o : Oper), l[j]? = some o → ∀ e ∈ o.after, Region.binds .any e = true → e.on < k + j
  | [], _, _, j, o, h, _, _, _ => by simp at h
  | x :: r, k, h, j, o, hj, e, he, hb => by
    simp only [edgesOk, Bool.and_eq_true] at h
    cases j with
    | zero =>
      simp only [List.getElem?_cons_zero, Option.some.injEq] at hj; subst hj
      have := List.all_eq_true.1 h.1 e (by simpa using he)
      rw [hb] at this
      simp only [Bool.not_true, Bool.false_or] at this
      have := Nat.le_of_ble_eq_true this
      omega
    | succ j =>
      simp only [List.getElem?_cons_succ] at hj
      have := edgesOk_spec h.2 j o hj e he hb
      omega

/-! ### 'before' -/
def oneB (A : Array Nat) (o : Oper) : Nat := o.after.foldl (fun s e => if Region.binds .any e then s ||| 2 ^ e.on ||| A.getD e.on 0 else s) 0

theorem oneB_bit (A : Array Nat) (o : Oper) {j : Nat} (h : (oneB A o).testBit j = true) : ∃ e ∈ o.after, Region.binds .any e = true ∧ (j = e.on ∨ (A.getD e.on 0).testBit j = true) := by
  have key : ∀ (l : List Edge) (s : Nat), (l.foldl (fun s e => if Region.binds .any e then s ||| 2 ^ e.on ||| A.getD e.on 0 else s) s).testBit j = true → s.testBit j = true ∨ ∃ e ∈ l, Region.binds .any e = true ∧ (j = e.on ∨ (A.getD e.on 0).testBit j = true) := by
    intro l
    induction l with
    | nil => intro s h; exact .inl h
    | cons e r ih =>
      intro s h
      rw [List.foldl_cons] at h
      rcases ih _ h with h1 | ⟨e', h2, h3⟩
      · by_cases hb : Region.binds .any e = true
        · rw [if_pos hb] at h1
          simp only [Nat.testBit_or, Bool.or_eq_true] at h1
          rcases h1 with (h1 | h1) | h1
          · exact .inl h1
          · right; refine ⟨e, by simp, hb, .inl ?_⟩
            rw [Nat.testBit_two_pow] at h1
            simpa using (of_decide_eq_true h1).symm
          · right; exact ⟨e, by simp, hb, .inr h1⟩
        · rw [if_neg hb] at h1; exact .inl h1
      · right; exact ⟨e', by simp [h2], h3⟩
  unfold oneB at h
  rw [← Array.foldl_toList] at h
  rcases key o.after.toList 0 h with h1 | ⟨e, h2, h3⟩
  · simp at h1
  · exact ⟨e, by simpa using h2, h3⟩

theorem foldl_push (l : List Oper) : ∀ (A : Array Nat), (l.foldl (fun acc o => acc.push (oneB acc o)) A).size = A.size + l.length ∧ ∀ j, j < A.size → (l.foldl (fun acc o => acc.push (oneB acc o)) A).getD j 0 = A.getD j 0 := by
  induction l with
  | nil => intro A; simp
  | cons o r ih =>
    intro A
    obtain ⟨h1, h2⟩ := ih (A.push (oneB A o))
    refine ⟨by rw [List.foldl_cons, h1]; simp; omega, fun j hj => ?_⟩
    rw [List.foldl_cons, h2 j (by simp; omega)]
    simp [Array.getD, hj, Nat.lt_succ_of_lt hj, Array.getElem_push]

theorem before_eq (ops : Array Oper) : Region.before ops = ops.toList.foldl (fun acc o => acc.push (oneB acc o)) #[] := by
  unfold Region.before
  rw [← Array.foldl_toList]
  rfl

/-- What a number of 'before' says: an edge, or what stands before an edge's end. -/
theorem before_bit {ops : Array Oper} (he : edgesOk 0 ops.toList = true) {k : Nat} {o : Oper} (ho : ops[k]? = some o) {j : Nat} (h : ((Region.before ops).getD k 0).testBit j = true) :
    ∃ e ∈ o.after, Region.binds .any e = true ∧ e.on < k ∧ (j = e.on ∨ ((Region.before ops).getD e.on 0).testBit j = true) := by
  have hk : k < ops.toList.length := by have := (Array.getElem?_eq_some_iff.1 ho).1; simpa using this
  have hsplit : ops.toList = ops.toList.take k ++ o :: ops.toList.drop (k + 1) := by
    have : ops.toList[k] = o := by
      have := (Array.getElem?_eq_some_iff.1 ho).2; simpa using this
    rw [← this, List.getElem_cons_drop, List.take_append_drop]
  let A := (ops.toList.take k).foldl (fun acc o => acc.push (oneB acc o)) #[]
  have hA : A.size = k := by
    have := (foldl_push (ops.toList.take k) #[]).1
    show ((ops.toList.take k).foldl _ #[]).size = k
    rw [this]; simp; have : k < ops.size := by { simpa using hk }; omega
  have hB : Region.before ops = (ops.toList.drop (k + 1)).foldl (fun acc o => acc.push (oneB acc o)) (A.push (oneB A o)) := by
    rw [before_eq]
    conv => lhs; rw [hsplit]
    rw [List.foldl_append, List.foldl_cons]
  have hlow : ∀ i, i < k → (Region.before ops).getD i 0 = A.getD i 0 := by
    intro i hi
    rw [hB, (foldl_push _ _).2 i (by simp; omega)]
    have hi' : i < A.size := by omega
    simp [Array.getD, hi', Nat.lt_succ_of_lt hi', Array.getElem_push]
  have hat : (Region.before ops).getD k 0 = oneB A o := by
    rw [hB, (foldl_push _ _).2 k (by simp; omega)]
    simp [Array.getD, Array.getElem_push, hA]
  rw [hat] at h
  obtain ⟨e, h1, h2, h3⟩ := oneB_bit A o h
  have h4 : e.on < k := by
    have := edgesOk_spec he k o (by simpa using ho) e h1 h2
    omega
  exact ⟨e, h1, h2, h4, by rw [hlow _ h4]; exact h3⟩

/-! ### flags -/
def Ord (x : Inf) (j : Nat) : Prop := x.before.testBit j = true

/-- What a flag says. -/
inductive FlagOk (l : List Inf) (k : Nat) (x : Inf) (f : Nat) : Prop where
  | none (h : mem x.i = 0) (hf : f = 1)
  | write (hf : f = 0) (h : mem x.i = 2) (h1 : ∀ j y, j < k → l[j]? = some y → Ord x j ∨ mem y.i = 0 ∨ isLd y.i = true) (h2 : ∀ j y, k < j → l[j]? = some y → Ord y k ∨ mem y.i = 0)
  | pivot (hf : f = 0) (h : mem x.i ≠ 0) (h1 : ∀ j y, j < k → l[j]? = some y → Ord x j ∨ mem y.i = 0) (h2 : ∀ j y, k < j → l[j]? = some y → Ord y k ∨ mem y.i = 0)
  | all (hf : f = 1) (h : mem x.i ≠ 0) (hn : mem x.i ≠ 2) (h1 : ∀ j y, j < k → l[j]? = some y → Ord x j ∨ makes y.i = false) (h2 : ∀ j y, k < j → l[j]? = some y → Ord y k ∨ mem y.i ≠ 2)
  | old (hf : f = 2) (h : mem x.i ≠ 0) (hn : mem x.i ≠ 2) (h2 : ∀ j y, k < j → l[j]? = some y → Ord y k ∨ mem y.i ≠ 2)
  | soft (hf : f = 3) (h : isLd x.i = true) (h1 : ∀ j y, j < k → l[j]? = some y → Ord x j ∨ makes y.i = false)

structure DAt (l : List Inf) (r : List OpI) (k : Nat) (x : Inf) (oi : OpI) : Prop where
  dst : oi.dst = x.o.dst
  grd : oi.grd = x.grd
  ins : oi.i = x.i
  tmps : ∀ j y, j < k → l[j]? = some y → Ord x j ∨ ((∀ d, y.o.dst = some d → d ∉ x.names) ∧ (∀ d, x.o.dst = some d → d ∉ y.names))
  flag : FlagOk l k x oi.fl

theorem zipIdxFrom_mem {α : Type} : ∀ {l : List α} {n : Nat} {p : Nat × α}, p ∈ zipIdxFrom n l ↔ ∃ j, p.1 = n + j ∧ l[j]? = some p.2
  | [], n, p => by simp [zipIdxFrom]
  | x :: r, n, p => by
    simp only [zipIdxFrom, List.mem_cons, zipIdxFrom_mem (l := r)]
    constructor
    · rintro (rfl | ⟨j, h1, h2⟩)
      · exact ⟨0, rfl, rfl⟩
      · exact ⟨j + 1, by omega, by simpa using h2⟩
    · rintro ⟨j, h1, h2⟩
      cases j with
      | zero => simp at h2; left; cases p; simp at h1 h2; simp [h1, h2]
      | succ j => right; exact ⟨j, by omega, by simpa using h2⟩

theorem drawn_spec (l : List Inf) : ∀ (m : Nat) (prev : List (Nat × Inf)) (r : List OpI), (∀ p, p ∈ prev ↔ p.1 < m ∧ l[p.1]? = some p.2) → drawn prev (zipIdxFrom m (l.drop m)) = some r →
    r.length = l.length - m ∧ ∀ k x, m ≤ k → l[k]? = some x → ∃ oi, r[k - m]? = some oi ∧ DAt l r k x oi := by
  intro m
  induction h : l.length - m generalizing m with
  | zero =>
    intro prev r hp hd
    have : l.drop m = [] := by simp; omega
    rw [this] at hd
    simp only [zipIdxFrom, drawn, Option.some.injEq] at hd; subst hd
    refine ⟨rfl, fun k x hk hx => ?_⟩
    have := (List.getElem?_eq_some_iff.1 hx).1; omega
  | succ n ih =>
    intro prev r hp hd
    have hm : m < l.length := by omega
    have hdrop : l.drop m = l[m] :: l.drop (m + 1) := (List.getElem_cons_drop hm).symm
    rw [hdrop] at hd
    simp only [zipIdxFrom, drawn] at hd
    obtain ⟨ht, hd⟩ := bif_some' hd
    split at hd
    · rename_i f r' hf hr
      simp only [Option.some.injEq] at hd; subst hd
      have hx : l[m]? = some l[m] := List.getElem?_eq_getElem hm
      obtain ⟨q1, q2⟩ := ih (m + 1) (by omega) ((m, l[m]) :: prev) r' (by
        intro p
        rw [List.mem_cons, hp]
        constructor
        · rintro (rfl | ⟨h1, h2⟩)
          · exact ⟨by simp, hx⟩
          · exact ⟨by omega, h2⟩
        · rintro ⟨h1, h2⟩
          by_cases e : p.1 = m
          · left; rw [e, hx] at h2; cases p; simp at e h2; simp [e, h2]
          · right; exact ⟨by omega, h2⟩) hr
      refine ⟨by simp [q1], fun k x hk hkx => ?_⟩
      by_cases e : k = m
      · subst e
        rw [hx] at hkx; cases hkx
        refine ⟨⟨l[k].o.dst, l[k].grd, f, l[k].i⟩, by simp, rfl, rfl, rfl, ?_, ?_⟩
        · intro j y hj hy
          have := List.all_eq_true.1 ht (j, y) ((hp _).2 ⟨hj, hy⟩)
          simp only [Bool.or_eq_true, Bool.and_eq_true, Bool.not_eq_true'] at this
          rcases this with h1 | ⟨h1, h2⟩
          · exact .inl h1
          · right
            constructor
            · intro d hd hc
              rw [hd] at h1
              simp [hc] at h1
            · intro d hd hc
              rw [hd] at h2
              simp [hc] at h2
        · -- the flag
          have prevs : ∀ {φ : Nat → Inf → Bool}, prev.all (fun p => φ p.1 p.2) = true → ∀ j y, j < k → l[j]? = some y → φ j y = true := fun ha j y hj hy => List.all_eq_true.1 ha (j, y) ((hp _).2 ⟨hj, hy⟩)
          have rests : ∀ {φ : Nat → Inf → Bool}, (zipIdxFrom (k + 1) (l.drop (k + 1))).all (fun p => φ p.1 p.2) = true → ∀ j y, k < j → l[j]? = some y → φ j y = true := fun ha j y hj hy => by
            refine List.all_eq_true.1 ha (j, y) (zipIdxFrom_mem.2 ⟨j - (k + 1), by show j = _; omega, ?_⟩)
            rw [List.getElem?_drop, show k + 1 + (j - (k + 1)) = j from by omega]; exact hy
          have o1 : ∀ {a b : Bool}, (a || b) = true → a = true ∨ b = true := fun h => by simpa using h
          simp only [flagOf] at hf
          cases h0 : Nat.beq (mem l[k].i) 0 with
          | true =>
            rw [h0, cond_true] at hf
            simp only [Option.some.injEq] at hf
            exact .none (Nat.eq_of_beq_eq_true h0) hf.symm
          | false =>
            have h0' := Nat.ne_of_beq_eq_false h0
            rw [h0, cond_false] at hf
            cases h2 : Nat.beq (mem l[k].i) 2 with
            | true =>
              rw [h2, cond_true] at hf
              obtain ⟨hb, rfl⟩ := bif_some hf
              simp only [Bool.and_eq_true] at hb
              refine .write rfl (Nat.eq_of_beq_eq_true h2) (fun j y hj hy => ?_) (fun j y hj hy => ?_)
              · have := prevs (φ := fun n p => Nat.testBit l[k].before n || Nat.beq (mem p.i) 0 || isLd p.i) hb.1 j y hj hy
                rcases o1 this with h | h
                · rcases o1 h with h | h
                  · exact .inl h
                  · exact .inr (.inl (Nat.eq_of_beq_eq_true h))
                · exact .inr (.inr h)
              · have := rests (φ := fun _ y => Nat.testBit y.before k || Nat.beq (mem y.i) 0) hb.2 j y hj hy
                rcases o1 this with h | h
                · exact .inl h
                · exact .inr (Nat.eq_of_beq_eq_true h)
            | false =>
              have h2' := Nat.ne_of_beq_eq_false h2
              rw [h2, cond_false] at hf
              cases h3 : allMem prev l[k] && nextAll (k, l[k]) (zipIdxFrom (k + 1) (l.drop (k + 1))) with
              | true =>
                rw [h3, cond_true] at hf
                simp only [Option.some.injEq] at hf
                simp only [Bool.and_eq_true] at h3
                refine .pivot hf.symm h0' (fun j y hj hy => ?_) (fun j y hj hy => ?_)
                · have := prevs (φ := fun n p => Nat.testBit l[k].before n || Nat.beq (mem p.i) 0) h3.1 j y hj hy
                  rcases o1 this with h | h
                  · exact .inl h
                  · exact .inr (Nat.eq_of_beq_eq_true h)
                · have := rests (φ := fun _ y => Nat.testBit y.before k || Nat.beq (mem y.i) 0) h3.2 j y hj hy
                  rcases o1 this with h | h
                  · exact .inl h
                  · exact .inr (Nat.eq_of_beq_eq_true h)
              | false =>
                rw [h3, cond_false] at hf
                have am : allMakes prev l[k] = true → ∀ j y, j < k → l[j]? = some y → Ord l[k] j ∨ makes y.i = false := fun h j y hj hy => by
                  have := prevs (φ := fun n p => Nat.testBit l[k].before n || !(makes p.i)) h j y hj hy
                  rcases o1 this with h | h
                  · exact .inl h
                  · exact .inr (by simpa using h)
                cases h4 : nextW (k, l[k]) (zipIdxFrom (k + 1) (l.drop (k + 1))) with
                | true =>
                  rw [h4, cond_true] at hf
                  have nw : ∀ j y, k < j → l[j]? = some y → Ord y k ∨ mem y.i ≠ 2 := fun j y hj hy => by
                    have := rests (φ := fun _ y => Nat.testBit y.before k || !(Nat.beq (mem y.i) 2)) h4 j y hj hy
                    rcases o1 this with h | h
                    · exact .inl h
                    · right; intro hc; rw [hc] at h; simp at h
                  cases h5 : allMakes prev l[k] with
                  | true =>
                    rw [h5, cond_true] at hf
                    simp only [Option.some.injEq] at hf
                    exact .all hf.symm h0' h2' (am h5) nw
                  | false =>
                    rw [h5, cond_false] at hf
                    simp only [Option.some.injEq] at hf
                    exact .old hf.symm h0' h2' nw
                | false =>
                  rw [h4, cond_false] at hf
                  obtain ⟨hb, rfl⟩ := bif_some hf
                  simp only [Bool.and_eq_true] at hb
                  exact .soft rfl hb.1 (am hb.2)
      · obtain ⟨oi, p1, p2⟩ := q2 k x (by omega) hkx
        refine ⟨oi, ?_, p2.dst, p2.grd, p2.ins, p2.tmps, p2.flag⟩
        obtain ⟨d, rfl⟩ : ∃ d, k = m + 1 + d := ⟨k - (m + 1), by omega⟩
        rw [show m + 1 + d - (m + 1) = d from by omega] at p1
        rw [show m + 1 + d - m = d + 1 from by omega]
        simpa using p1
    · cases hd
end Go.Ab
namespace Go.Ab
open Go.RowKit (Below)
variable {P : Program}

/-- A step that makes objects and changes none. -/
structure Qt (s s' : AH) : Prop where
  next : s.next ≤ s'.next
  get : ∀ id, (id < s.next ∨ s'.next ≤ id) → s'.get id = s.get id
  top1 : ∀ id, s'.tops.contains id = true → (s.next ≤ id ∧ id < s'.next) ∨ s.tops.contains id = true
  usd : ∀ id, s.tops.contains id = true → ¬ (s'.tops.contains id = true) → ∃ ob, s.get id = some ob

theorem Qt.refl (s : AH) : Qt s s := ⟨Nat.le_refl _, fun _ _ => rfl, fun _ h => .inr h, fun _ h h' => absurd h h'⟩

theorem Qt.of {h : AH} {q : QR} (hd : ∀ o ∈ q.os, o ≠ .dead) (hs : q.sl = []) (hu : ∀ id, q.used = some id → ∃ ob, h.get id = some ob) : Qt h (qHeap h q) := by
  have hn := qHeap_next (h := h) (q := q)
  have hg := qHeap_get (h := h) hd
  have ht := qHeap_tops (h := h) (q := q)
  refine ⟨by omega, fun id hi => ?_, fun id hi => ?_, fun id h1 h2 => ?_⟩
  · rw [hg, G', hs, sealG_nil, addG_get hd, if_neg (by omega)]
  · rw [ht] at hi
    have hi : id ∈ (List.range' h.next q.os.length) ++ (match q.used with | some u => h.tops.filter (fun x => !(Nat.beq x u)) | none => h.tops) := List.contains_iff_mem.1 hi
    rcases List.mem_append.1 hi with h1 | h1
    · rw [List.mem_range'_1] at h1; left; omega
    · right
      cases hq : q.used with
      | none => rw [hq] at h1; simpa using h1
      | some u => rw [hq] at h1; simp only [List.mem_filter] at h1; simpa using h1.1
  · cases hq : q.used with
    | none =>
      exfalso; apply h2; rw [ht, hq]
      simp at h1 ⊢; exact .inr h1
    | some u =>
      by_cases e : id = u
      · subst e; exact hu id hq
      · exfalso; apply h2; rw [ht, hq]
        simp at h1 ⊢
        exact .inr ⟨h1, by cases hb : Nat.beq id u with
          | false => rfl
          | true => exact absurd (Nat.eq_of_beq_eq_true hb) e⟩

structure Reg (P : Program) (im : Imp) (os : Array Oper) (nt : Nat) (l : List Inf) (r : List OpI) (call : CallP) (calli : CallI) (n0 : Nat) (σ : Nat → St) (φ : Nat → List Nat) : Prop where
  len : l.length = os.size
  at_ : ∀ k o, os[k]? = some o → ∃ x oi, l[k]? = some x ∧ r[k]? = some oi ∧ x.o = o ∧ OpOk P im os nt o oi ∧ x.names = namesOf o x.i x.grd ∧ x.before = (Region.before os).getD k 0 ∧ DAt l r k x oi ∧
    Step1 call calli n0 oi (σ k) (φ k) (σ (k + 1)) (φ (k + 1))
  edges : edgesOk 0 os.toList = true
  n0 : n0 = (σ 0).h.next
  mono : ∀ k, k < os.size → (σ k).h.next ≤ (σ (k + 1)).h.next

section
variable {im : Imp} {os : Array Oper} {nt : Nat} {l : List Inf} {r : List OpI} {call : CallP} {calli : CallI} {n0 : Nat} {σ : Nat → St} {φ : Nat → List Nat}

def Done (L : Array Bool) (k : Nat) : Prop := L.getD k false = true

theorem Reg.nx (R : Reg P im os nt l r call calli n0 σ φ) : ∀ {i j : Nat}, i ≤ j → j ≤ os.size → (σ i).h.next ≤ (σ j).h.next := by
  intro i j hij
  induction hij with
  | refl => intro _; exact Nat.le_refl _
  | step h ih => intro hj; exact Nat.le_trans (ih (by omega)) (R.mono _ (by omega))

/-- All that is known of the operation at a place. -/
structure At (P : Program) (im : Imp) (os : Array Oper) (nt : Nat) (l : List Inf) (r : List OpI) (call : CallP) (calli : CallI) (n0 : Nat) (σ : Nat → St) (φ : Nat → List Nat) (k : Nat) (o : Oper) (x : Inf) (oi : OpI) : Prop where
  ho : os[k]? = some o
  hx : l[k]? = some x
  hoi : r[k]? = some oi
  xo : x.o = o
  ok : OpOk P im os nt o oi
  names : x.names = namesOf o x.i x.grd
  before : x.before = (Region.before os).getD k 0
  d : DAt l r k x oi
  st : Step1 call calli n0 oi (σ k) (φ k) (σ (k + 1)) (φ (k + 1))

theorem Reg.get (R : Reg P im os nt l r call calli n0 σ φ) {k : Nat} (hk : k < os.size) : ∃ o x oi, At P im os nt l r call calli n0 σ φ k o x oi := by
  obtain ⟨x, oi, h1, h2, h3, h4, h5, h6, h7, h8⟩ := R.at_ k _ (Array.getElem?_eq_getElem hk)
  exact ⟨_, x, oi, Array.getElem?_eq_getElem hk, h1, h2, h3, h4, h5, h6, h7, h8⟩

/-- The places: what the step lays there. -/
theorem At.put {k : Nat} {o : Oper} {x : Inf} {oi : OpI} (A : At P im os nt l r call calli n0 σ φ k o x oi) : ∃ av, (σ (k + 1)).t = putD (σ k).t o.dst av := by
  rw [← A.ok.dst]
  cases A.st with
  | skip hw h hf => exact ⟨.skip, by rw [h]⟩
  | run hw hs h hf =>
    cases op1_eff h with
    | quiet q _ _ _ h' => exact ⟨q.v, by rw [h']⟩
    | write r h1 _ _ e => exact ⟨r, by rw [e]⟩

theorem putD_ne {t : Tr AV} {d : Option Nat} {v : AV} {n : Nat} (h : d ≠ some n) (hd : ∀ m, d = some m → m < 65535) : (putD t d v).get n = t.get n := by
  cases d with
  | none => rfl
  | some m => simp only [putD]; rw [Tr.get_set _ _ _ _ (hd m rfl), if_neg (fun e => h (by rw [e]))]
theorem putD_eq {t : Tr AV} {d : Option Nat} {v : AV} {n : Nat} (h : d = some n) (hd : n < 65535) : (putD t d v).get n = some v := by
  subst h; simp only [putD]; rw [Tr.get_set _ _ _ _ hd, if_pos rfl]

theorem Reg.frame (R : Reg P im os nt l r call calli n0 σ φ) {n : Nat} : ∀ {i j : Nat}, i ≤ j → j ≤ os.size → (∀ m x, i ≤ m → m < j → l[m]? = some x → x.o.dst ≠ some n) → (σ j).t.get n = (σ i).t.get n := by
  intro i j hij
  induction hij with
  | refl => intro _ _; rfl
  | @step j h ih =>
    intro hj hn
    obtain ⟨o, x, oi, A⟩ := R.get (k := j) (by omega)
    obtain ⟨av, hav⟩ := A.put
    rw [hav, putD_ne (by rw [← A.xo]; exact hn j x h (by omega) A.hx) (fun m hm => (A.ok.dok m hm).2)]
    exact ih (by omega) fun m y h1 h2 => hn m y h1 (by omega)

/-- Not a quiet step: a pivot. -/
theorem At.pivot {k : Nat} {o : Oper} {x : Inf} {oi : OpI} (A : At P im os nt l r call calli n0 σ φ k o x oi) (h : ¬ Qt (σ k).h (σ (k + 1)).h) : mem x.i ≠ 0 ∧ (mem x.i = 2 ∨ oi.fl = 0) ∧ ∀ j y, k < j → l[j]? = some y → Ord y k ∨ mem y.i = 0 := by
  cases A.st with
  | skip hw h' hf => exact absurd (by rw [h']; exact Qt.refl _) h
  | run hw hs h' hf =>
    cases op1_eff h' with
    | quiet q hw' hq hsl e =>
      obtain ⟨m1, m2, m3, m4⟩ := qop_made hq
      have hsl' : q.sl ≠ [] := by
        intro hc
        apply h
        rw [e]
        refine Qt.of m1 hc fun id hid => ?_
        obtain ⟨_, _, ob, hob⟩ := m3 id hid
        refine ⟨ob, ?_⟩
        cases hb : Nat.beq oi.fl 2 with
        | false => rw [hb] at hob; exact hob
        | true =>
          rw [hb] at hob
          have hob : (bif Nat.blt id n0 then (σ k).h.get id else none) = some ob := hob
          cases hb2 : Nat.blt id n0 with
          | false => rw [hb2] at hob; cases hob
          | true => rw [hb2] at hob; exact hob
      have hf0 : oi.fl = 0 := hsl.resolve_left hsl'
      have hm0 : mem x.i ≠ 0 := by
        intro hc
        rw [← A.d.ins] at hc
        exact hsl' (m2 hc).2.2
      refine ⟨hm0, .inr hf0, ?_⟩
      cases A.d.flag with
      | none h _ => exact absurd h hm0
      | write _ _ _ h2 => exact h2
      | pivot _ _ _ h2 => exact h2
      | all hf => omega
      | old hf => omega
      | soft hf => omega
    | write r h1 hw' hq e =>
      have hm2 : mem x.i = 2 := by
        rw [← A.d.ins]
        cases hi : oi.i <;> rw [hi] at hw' hq <;> simp [isW] at hw' <;> try rfl
        rename_i b f xs
        cases b with
        | true => simp [wop] at hq
        | false => rfl
      refine ⟨by omega, .inl hm2, ?_⟩
      cases A.d.flag with
      | none h _ => omega
      | write _ _ _ h2 => exact h2
      | pivot _ _ _ h2 => exact h2
      | all _ _ hn => exact absurd hm2 hn
      | old _ _ hn => exact absurd hm2 hn
      | soft _ h => exfalso; cases hi : x.i <;> rw [hi] at h hm2 <;> simp [isLd] at h <;> simp [mem] at hm2

/-- A step that makes nothing leaves the counter; one that touches no memory leaves the heap. -/
theorem At.still {k : Nat} {o : Oper} {x : Inf} {oi : OpI} (A : At P im os nt l r call calli n0 σ φ k o x oi) (hw2 : mem x.i ≠ 2) :
    (makes x.i = false → (σ (k + 1)).h.next = (σ k).h.next) ∧ (mem x.i = 0 → (σ (k + 1)).h = (σ k).h) := by
  cases A.st with
  | skip hw h' hf => rw [h']; exact ⟨fun _ => rfl, fun _ => rfl⟩
  | run hw hs h' hf =>
    cases op1_eff h' with
    | quiet q hw' hqq hsl e =>
      obtain ⟨m1, m2, m3, m4⟩ := qop_made hqq
      rw [A.d.ins] at m2 m4
      rw [e]
      refine ⟨fun hm => ?_, fun hm => ?_⟩
      · rw [qHeap_next, m4 hm]; rfl
      · obtain ⟨e1, e2, e3⟩ := m2 hm
        simp only [qHeap, e1, e2, e3]
        rfl
    | write r h1 hw' hqq e =>
      exfalso
      apply hw2
      rw [← A.d.ins]
      cases hi : oi.i <;> rw [hi] at hw' hqq <;> simp [isW] at hw' <;> try rfl
      rename_i b f xs
      cases b with
      | true => simp [wop] at hqq
      | false => rfl

theorem At.same {k : Nat} {o : Oper} {x : Inf} {oi : OpI} (A : At P im os nt l r call calli n0 σ φ k o x oi) (hm : makes x.i = false) : (σ (k + 1)).h.next = (σ k).h.next := by
  cases A.st with
  | skip hw h' hf => rw [h']
  | run hw hs h' hf =>
    cases op1_eff h' with
    | quiet q hw' hqq hsl e =>
      obtain ⟨m1, m2, m3, m4⟩ := qop_made hqq
      rw [A.d.ins] at m4
      rw [e]
      show (qHeap _ q).next = _
      rw [qHeap_next, m4 hm]; rfl
    | write r h1 hw' hqq e =>
      rw [e]
      refine (wop_same hqq ?_).2
      intro f xs hc
      rw [← A.d.ins, hc] at hm
      simp [makes] at hm
end
end Go.Ab
namespace Go.Ab
open Go.RowKit (Below)
variable {P : Program}
section
variable {im : Imp} {os : Array Oper} {nt : Nat} {l : List Inf} {r : List OpI} {call : CallP} {calli : CallI} {n0 : Nat} {σ : Nat → St} {φ : Nat → List Nat}

/-- The rows that stand: those of the cut, and those that operations behind it made. -/
def Rel (os : Array Oper) (σ : Nat → St) (p : Nat) (L : Array Bool) (id : Nat) (o : AObj) : Prop :=
  (id < (σ p).h.next ∧ (σ p).h.get id = some o) ∨ ∃ j, p ≤ j ∧ j < os.size ∧ Done L j ∧ (σ j).h.next ≤ id ∧ id < (σ (j + 1)).h.next ∧ (σ (j + 1)).h.get id = some o

open Classical in
noncomputable def gw (os : Array Oper) (σ : Nat → St) (p : Nat) (L : Array Bool) : Nat → Option AObj := fun id => if h : ∃ o, Rel os σ p L id o then some h.choose else none
def dw (os : Array Oper) (σ : Nat → St) (p : Nat) (L : Array Bool) (id : Nat) : Prop :=
  id < (σ p).h.next ∨ ∃ j, p ≤ j ∧ j < os.size ∧ Done L j ∧ (σ j).h.next ≤ id ∧ id < (σ (j + 1)).h.next
def usedBy (σ : Nat → St) (j id : Nat) : Prop := (σ j).h.tops.contains id = true ∧ ¬ ((σ (j + 1)).h.tops.contains id = true)
def tw (os : Array Oper) (σ : Nat → St) (p : Nat) (L : Array Bool) (id : Nat) : Prop :=
  ((σ p).h.tops.contains id = true ∨ ∃ j, p ≤ j ∧ j < os.size ∧ Done L j ∧ (σ j).h.next ≤ id ∧ id < (σ (j + 1)).h.next) ∧ ∀ j, p ≤ j → j < os.size → Done L j → ¬ usedBy σ j id

theorem gw_rel {p : Nat} {L : Array Bool} {id : Nat} {o : AObj} (h : gw os σ p L id = some o) : Rel os σ p L id o := by
  unfold gw at h
  split at h
  · rename_i hx
    simp only [Option.some.injEq] at h
    rw [← h]; exact hx.choose_spec
  · cases h

theorem Reg.range_eq (R : Reg P im os nt l r call calli n0 σ φ) {i j id : Nat} (hi : i < os.size) (hj : j < os.size) (h1 : (σ i).h.next ≤ id ∧ id < (σ (i + 1)).h.next) (h2 : (σ j).h.next ≤ id ∧ id < (σ (j + 1)).h.next) : i = j := by
  rcases Nat.lt_trichotomy i j with h | h | h
  · have := R.nx (i := i + 1) (j := j) h (by omega); omega
  · exact h
  · have := R.nx (i := j + 1) (j := i) h (by omega); omega

theorem Reg.rel_gw (R : Reg P im os nt l r call calli n0 σ φ) {p : Nat} {L : Array Bool} {id : Nat} {o : AObj} (h : Rel os σ p L id o) : gw os σ p L id = some o := by
  have hx : ∃ o, Rel os σ p L id o := ⟨o, h⟩
  unfold gw
  rw [dif_pos hx]
  have h' := hx.choose_spec
  generalize hx.choose = o' at h'
  congr 1
  rcases h with ⟨h1, h2⟩ | ⟨j, a1, a2, a3, a4, a5, a6⟩ <;> rcases h' with ⟨k1, k2⟩ | ⟨j', b1, b2, b3, b4, b5, b6⟩
  · rw [h2] at k2; cases k2; rfl
  · have := R.nx (i := p) (j := j') b1 (by omega); omega
  · have := R.nx (i := p) (j := j) a1 (by omega); omega
  · have := R.range_eq a2 b2 ⟨a4, a5⟩ ⟨b4, b5⟩
    subst this
    rw [a6] at b6; cases b6; rfl

/-- Quiet steps from the cut on: what the text's heap holds. -/
theorem text_get {p : Nat} (hb : ∀ id o, (σ p).h.get id = some o → id < (σ p).h.next) : ∀ {k : Nat}, p ≤ k → k ≤ os.size → (∀ j, p ≤ j → j < k → Qt (σ j).h (σ (j + 1)).h) → ∀ id o, (σ k).h.get id = some o →
    (id < (σ p).h.next ∧ (σ p).h.get id = some o) ∨ ∃ j, p ≤ j ∧ j < k ∧ (σ j).h.next ≤ id ∧ id < (σ (j + 1)).h.next ∧ (σ (j + 1)).h.get id = some o := by
  intro k hk
  induction hk with
  | refl => intro _ _ id o h; exact .inl ⟨hb id o h, h⟩
  | @step k hpk ih =>
    intro hks hq id o h
    by_cases hin : (σ k).h.next ≤ id ∧ id < (σ (k + 1)).h.next
    · exact .inr ⟨k, hpk, Nat.lt_succ_self k, hin.1, hin.2, h⟩
    · have q := hq k hpk (Nat.lt_succ_self k)
      rw [q.get id (by omega)] at h
      rcases ih (by omega) (fun j h1 h2 => hq j h1 (by omega)) id o h with h1 | ⟨j, a1, a2, a3⟩
      · exact .inl h1
      · exact .inr ⟨j, a1, by omega, a3⟩

theorem Reg.text_bnd (R : Reg P im os nt l r call calli n0 σ φ) {p : Nat} (hb : ∀ id o, (σ p).h.get id = some o → id < (σ p).h.next) {k : Nat} (hpk : p ≤ k) (hk : k ≤ os.size) (hq : ∀ j, p ≤ j → j < k → Qt (σ j).h (σ (j + 1)).h) : ∀ id o, (σ k).h.get id = some o → id < (σ k).h.next := by
  intro id o h
  rcases text_get hb hpk hk hq id o h with ⟨h1, _⟩ | ⟨j, a1, a2, a3, a4, _⟩
  · have := R.nx hpk hk; omega
  · have := R.nx (i := j + 1) (j := k) a2 hk; omega

theorem Reg.text_top (R : Reg P im os nt l r call calli n0 σ φ) {p : Nat} (hb : ∀ id o, (σ p).h.get id = some o → id < (σ p).h.next) : ∀ {k : Nat}, p ≤ k → k ≤ os.size → (∀ j, p ≤ j → j < k → Qt (σ j).h (σ (j + 1)).h) → ∀ id, (σ k).h.tops.contains id = true →
    ((σ p).h.tops.contains id = true ∨ ∃ j, p ≤ j ∧ j < k ∧ (σ j).h.next ≤ id ∧ id < (σ (j + 1)).h.next) ∧ ∀ j, p ≤ j → j < k → ¬ usedBy σ j id := by
  intro k hk
  induction hk with
  | refl => intro _ _ id h; exact ⟨.inl h, fun j h1 h2 => by omega⟩
  | @step k hpk ih =>
    intro hks hq id h
    have q := hq k hpk (Nat.lt_succ_self k)
    have hq' : ∀ j, p ≤ j → j < k → Qt (σ j).h (σ (j + 1)).h := fun j h1 h2 => hq j h1 (by omega)
    rcases q.top1 id h with h1 | h1
    · refine ⟨.inr ⟨k, hpk, Nat.lt_succ_self k, h1.1, h1.2⟩, fun j j1 j2 hu => ?_⟩
      obtain ⟨ob, hob⟩ := (hq j j1 j2).usd id hu.1 hu.2
      have := R.text_bnd hb j1 (by omega) (fun i i1 i2 => hq i i1 (by omega)) id ob hob
      have := R.nx (i := j) (j := k) (by omega) (by omega)
      omega
    · obtain ⟨a1, a2⟩ := ih (by omega) hq' id h1
      refine ⟨?_, fun j j1 j2 hu => ?_⟩
      · rcases a1 with a1 | ⟨j, b1, b2, b3⟩
        · exact .inl a1
        · exact .inr ⟨j, b1, by omega, b3⟩
      · by_cases e : j = k
        · subst e; exact hu.2 h
        · exact a2 j j1 (by omega) hu

structure DInv (P : Program) (im : Imp) (os : Array Oper) (nt : Nat) (l : List Inf) (r : List OpI) (σ : Nat → St) (X0 : Cx) (L : Array Bool) (a : Act) (X : Cx) (p : Nat) : Prop where
  closed : ∀ k o, os[k]? = some o → Done L k → ∀ j, ((Region.before os).getD k 0).testBit j = true → Done L j
  stp : Stp X0 X
  hp : p ≤ os.size
  c1 : ∀ j x oi, j < p → l[j]? = some x → r[j]? = some oi → mem x.i ≠ 0 → oi.fl ≠ 3 → Done L j
  c2 : ∀ j, p ≤ j → j < os.size → Done L j → Qt (σ j).h (σ (j + 1)).h
  bnd : ∀ id o, (σ p).h.get id = some o → id < (σ p).h.next
  hr : HR X (gw os σ p L) (tw os σ p L) (dw os σ p L)
  tmp : ∀ n i, i ≤ os.size → (∀ j x, j < i → l[j]? = some x → x.o.dst = some n → Done L j) → (∀ j x, i ≤ j → l[j]? = some x → x.o.dst = some n → ¬ Done L j) → ∀ v, (σ i).t.get n = some v → n < a.tmps.size ∧ VR X v (a.tmps.getD n undef)
  asz : a.tmps.size = nt
  dfs : a.defers = []

variable {X0 X : Cx} {L : Array Bool} {a : Act} {p : Nat} {k : Nat} {o : Oper} {x : Inf} {oi : OpI}

/-- An operation's predecessors are done. -/
def Pre (os : Array Oper) (L : Array Bool) (k : Nat) : Prop := ∀ j, ((Region.before os).getD k 0).testBit j = true → Done L j

theorem pre_of_ready (R : Reg P im os nt l r call calli n0 σ φ) (hcl : ∀ k o, os[k]? = some o → Done L k → ∀ j, ((Region.before os).getD k 0).testBit j = true → Done L j) (h : k ∈ Region.ready .any os L) : Pre os L k ∧ L.getD k true = false ∧ k < os.size := by
  obtain ⟨h1, o, h2, h3⟩ := mem_ready.1 h
  refine ⟨fun j hj => ?_, h1, (Array.getElem?_eq_some_iff.1 h2).1⟩
  obtain ⟨e, e1, e2, e3, e4⟩ := before_bit R.edges h2 hj
  have he := h3 e e1 e2
  rcases e4 with rfl | e4
  · exact he
  · have : e.on < os.size := by have := (Array.getElem?_eq_some_iff.1 h2).1; omega
    exact hcl e.on _ (Array.getElem?_eq_getElem this) he j e4

/-- The places that an operation names are as the text has them. -/
theorem DInv.names (R : Reg P im os nt l r call calli n0 σ φ) (D : DInv P im os nt l r σ X0 L a X p) (A : At P im os nt l r call calli n0 σ φ k o x oi) (hpre : Pre os L k) (hk : k < os.size) (hun : ¬ Done L k) {n : Nat} (hn : n ∈ x.names) {v : AV} (hv : (σ k).t.get n = some v) :
    n < a.tmps.size ∧ VR X v (a.tmps.getD n undef) := by
  refine D.tmp n k (by omega) (fun j y hj hy hd => ?_) (fun j y hj hy hd => ?_) v hv
  · rcases A.d.tmps j y hj hy with h | ⟨h, _⟩
    · exact hpre j (by rw [← A.before]; exact h)
    · exact absurd hn (h n hd)
  · intro hdn
    by_cases e : j = k
    · subst e; exact hun hdn
    · have hj' : j < os.size := by rw [← R.len]; exact (List.getElem?_eq_some_iff.1 hy).1
      obtain ⟨o', x', oi', A'⟩ := R.get hj'
      have : x' = y := by have := A'.hx; rw [hy] at this; cases this; rfl
      subst this
      rcases A'.d.tmps k x (by omega) A.hx with h | ⟨_, h⟩
      · exact hun (D.closed j o' A'.ho hdn k (by rw [← A'.before]; exact h))
      · exact h n hd hn

theorem done_set {L : Array Bool} {k j : Nat} : Done (L.setIfInBounds k true) j → j = k ∨ Done L j := by
  intro h
  by_cases e : j = k
  · exact .inl e
  · right
    unfold Done at h ⊢
    rwa [getD_set_ne false (Ne.symm e)] at h
theorem done_keep {L : Array Bool} {k j : Nat} (h : Done L j) : Done (L.setIfInBounds k true) j := getD_set_true h
theorem done_self {L : Array Bool} {k : Nat} (h : k < L.size) : Done (L.setIfInBounds k true) k := by
  unfold Done; simp [Array.getD, h]

/-- After an operation: the state in between, with it done. -/
theorem DInv.next (R : Reg P im os nt l r call calli n0 σ φ) (D : DInv P im os nt l r σ X0 L a X p) (A : At P im os nt l r call calli n0 σ φ k o x oi) (hpre : Pre os L k) (hk : k < os.size) (hun : ¬ Done L k)
    {Y : Cx} {p' : Nat} {av : AV} {v : Value} (hXY : Stp X Y) (ht : (σ (k + 1)).t = putD (σ k).t o.dst av) (hv : VR Y av v) (hp' : p' ≤ os.size)
    (c1 : ∀ j x oi, j < p' → l[j]? = some x → r[j]? = some oi → mem x.i ≠ 0 → oi.fl ≠ 3 → j ≠ k → Done L j)
    (c2 : ∀ j, p' ≤ j → j < os.size → (j = k ∨ Done L j) → Qt (σ j).h (σ (j + 1)).h) (bnd : ∀ id o, (σ p').h.get id = some o → id < (σ p').h.next) (hLk : k < L.size)
    (hr : HR Y (gw os σ p' (L.setIfInBounds k true)) (tw os σ p' (L.setIfInBounds k true)) (dw os σ p' (L.setIfInBounds k true))) :
    DInv P im os nt l r σ X0 (L.setIfInBounds k true) (a.put o.dst v) Y p' := by
  refine ⟨fun m o' ho hm j hj => ?_, D.stp.trans hXY, hp', fun j x oi h1 h2 h3 h4 h5 => ?_, fun j h1 h2 h3 => c2 j h1 h2 (done_set h3), bnd, hr, fun n i hi h1 h2 w hw => ?_, by rw [Act.size_put]; exact D.asz, by rw [Act.defers_put]; exact D.dfs⟩
  · rcases done_set hm with rfl | hm
    · exact done_keep (hpre j hj)
    · exact done_keep (D.closed m o' ho hm j hj)
  · by_cases e : j = k
    · subst e; exact done_self hLk
    · exact done_keep (c1 j x oi h1 h2 h3 h4 h5 e)
  · by_cases hd : o.dst = some n
    · have hki : k < i := by
        apply Classical.byContradiction
        intro hc
        exact h2 k x (by omega) A.hx (by rw [A.xo]; exact hd) (done_self hLk)
      have hfr := R.frame (n := n) (i := k + 1) (j := i) hki hi (fun m y hm1 hm2 hy hdy => by
        have hdm := h1 m y hm2 hy hdy
        rcases done_set hdm with e | hdm
        · omega
        · have hm' : m < os.size := by omega
          obtain ⟨o', x', oi', A'⟩ := R.get hm'
          have : x' = y := by have := A'.hx; rw [hy] at this; cases this; rfl
          subst this
          rcases A'.d.tmps k x (by omega) A.hx with h | ⟨h, _⟩
          · exact hun (D.closed m o' A'.ho hdm k (by rw [← A'.before]; exact h))
          · have := h n (by rw [A.xo]; exact hd)
            apply this
            rw [A'.names]
            simp [namesOf, ← A'.xo, hdy])
      rw [hfr, ht, putD_eq hd (A.ok.dok n hd).2] at hw
      cases hw
      have hn := (A.ok.dok n hd).1
      rw [← D.asz] at hn
      rw [hd]
      exact ⟨by simpa [Act.put] using hn, by simpa [Act.put, Array.getD, hn] using hv⟩
    · have := D.tmp n i hi (fun j y hj hy hdy => by
          rcases done_set (h1 j y hj hy hdy) with e | h
          · subst e
            rw [A.hx] at hy; cases hy
            rw [A.xo] at hdy; exact absurd hdy hd
          · exact h) (fun j y hj hy hdy hc => h2 j y hj hy hdy (done_keep hc)) w hw
      refine ⟨by rw [Act.size_put]; exact this.1, ?_⟩
      have hg : (a.put o.dst v).tmps.getD n undef = a.tmps.getD n undef := by
        cases hdd : o.dst with
        | none => rfl
        | some d =>
          have : d ≠ n := by intro e; rw [hdd, e] at hd; exact hd rfl
          simp only [Act.put]
          rw [Array.getD_eq_getD_getElem?, Array.getD_eq_getD_getElem?, Array.getElem?_setIfInBounds_ne this]
      rw [hg]
      exact VR.mono hXY.toExt _ _ this.2
end
end Go.Ab
namespace Go.Ab
open Go.RowKit (Below)
variable {P : Program}
section
variable {im : Imp} {os : Array Oper} {nt : Nat} {l : List Inf} {r : List OpI} {call : CallP} {calli : CallI} {n0 : Nat} {σ : Nat → St} {φ : Nat → List Nat}
variable {X0 X : Cx} {L : Array Bool} {a : Act} {p : Nat} {k : Nat} {o : Oper} {x : Inf} {oi : OpI}

/-- From the cut to an operation that touches memory: quiet steps only. -/
theorem DInv.quiet (R : Reg P im os nt l r call calli n0 σ φ) (D : DInv P im os nt l r σ X0 L a X p) (A : At P im os nt l r call calli n0 σ φ k o x oi) (hpre : Pre os L k ∨ Done L k) (hk : k < os.size) (hm : mem x.i ≠ 0) : ∀ j, p ≤ j → j < k → Qt (σ j).h (σ (j + 1)).h := by
  intro j h1 h2
  apply Classical.byContradiction
  intro hc
  obtain ⟨o', x', oi', A'⟩ := R.get (k := j) (by omega)
  obtain ⟨_, _, h3⟩ := A'.pivot hc
  rcases h3 k x h2 A.hx with h | h
  · have hb : ((Region.before os).getD k 0).testBit j = true := by rw [← A.before]; exact h
    have hd : Done L j := by
      rcases hpre with hp | hp
      · exact hp j hb
      · exact D.closed k o A.ho hp j hb
    exact hc (D.c2 j h1 (by omega) hd)
  · exact hm h

/-- An operation whose earlier makers are done: what the text's heap holds, stands. -/
theorem DInv.view (R : Reg P im os nt l r call calli n0 σ φ) (D : DInv P im os nt l r σ X0 L a X p) (hpk : p ≤ k) (hk : k ≤ os.size) (hq : ∀ j, p ≤ j → j < k → Qt (σ j).h (σ (j + 1)).h)
    (hmk : ∀ j y, p ≤ j → j < k → l[j]? = some y → Done L j ∨ makes y.i = false) : ∀ id ob, (σ k).h.get id = some ob → gw os σ p L id = some ob := by
  intro id ob h
  apply R.rel_gw
  rcases text_get D.bnd hpk hk hq id ob h with h1 | ⟨j, a1, a2, a3, a4, a5⟩
  · exact .inl h1
  · obtain ⟨o', x', oi', A'⟩ := R.get (k := j) (by omega)
    rcases hmk j x' a1 a2 A'.hx with hd | hd
    · exact .inr ⟨j, a1, by omega, hd, a3, a4, a5⟩
    · exfalso
      have := A'.same hd; omega

theorem DInv.makers (A : At P im os nt l r call calli n0 σ φ k o x oi) (hpre : Pre os L k) (h : ∀ j y, j < k → l[j]? = some y → Ord x j ∨ makes y.i = false) : ∀ j y, p ≤ j → j < k → l[j]? = some y → Done L j ∨ makes y.i = false := by
  intro j y _ h2 hy
  rcases h j y h2 hy with h | h
  · exact .inl (hpre j (by rw [← A.before]; exact h))
  · exact .inr h

/-- Tops, likewise. -/
theorem DInv.tops (R : Reg P im os nt l r call calli n0 σ φ) (D : DInv P im os nt l r σ X0 L a X p) (hpk : p ≤ k) (hk : k ≤ os.size) (hq : ∀ j, p ≤ j → j < k → Qt (σ j).h (σ (j + 1)).h) {id : Nat} (h : (σ k).h.tops.contains id = true)
    (hmk : ∀ j y, p ≤ j → j < k → l[j]? = some y → (σ j).h.next ≤ id → id < (σ (j + 1)).h.next → Done L j) (hlater : ∀ j, k ≤ j → j < os.size → Done L j → ¬ usedBy σ j id) : tw os σ p L id := by
  obtain ⟨h1, h2⟩ := R.text_top D.bnd hpk hk hq id h
  refine ⟨?_, fun j j1 j2 j3 => ?_⟩
  · rcases h1 with h1 | ⟨j, a1, a2, a3, a4⟩
    · exact .inl h1
    · obtain ⟨o', x', oi', A'⟩ := R.get (k := j) (by omega)
      exact .inr ⟨j, a1, by omega, hmk j x' a1 a2 A'.hx a3 a4, a3, a4⟩
  · by_cases e : j < k
    · exact h2 j j1 e
    · exact hlater j (by omega) j2 j3

theorem At.memOf (A : At P im os nt l r call calli n0 σ φ k o x oi) {id : Nat} (h : usedBy σ k id ∨ ((σ k).h.next ≤ id ∧ id < (σ (k + 1)).h.next)) : mem x.i ≠ 0 := by
  intro hm
  have he := (A.still (by omega)).2 hm
  rcases h with h | h
  · unfold usedBy at h; rw [he] at h; exact h.2 h.1
  · rw [he] at h; omega

/-- The state in between, seen as the text's state before a pivot. -/
theorem DInv.exact (R : Reg P im os nt l r call calli n0 σ φ) (D : DInv P im os nt l r σ X0 L a X p) (hpk : p ≤ k) (hk : k ≤ os.size) (hq : ∀ j, p ≤ j → j < k → Qt (σ j).h (σ (j + 1)).h)
    (hmk : ∀ j y, p ≤ j → j < k → l[j]? = some y → Done L j ∨ makes y.i = false) (hlater : ∀ j y, k ≤ j → l[j]? = some y → Done L j → mem y.i = 0) : HRh X (σ k).h := by
  have mk2 : ∀ j y id, p ≤ j → j < k → l[j]? = some y → (σ j).h.next ≤ id → id < (σ (j + 1)).h.next → Done L j := by
    intro j y id h1 h2 hy h3 h4
    rcases hmk j y h1 h2 hy with h | h
    · exact h
    · exfalso
      obtain ⟨o', x', oi', A'⟩ := R.get (k := j) (by omega)
      have : x' = y := by have := A'.hx; rw [hy] at this; cases this; rfl
      subst this
      have := A'.same h; omega
  refine D.hr.weak (fun id ob h => ⟨ob, [], D.view R hpk hk hq hmk id ob h, .inl rfl⟩) (fun id h => D.tops R hpk hk hq h (fun j y h1 h2 hy h3 h4 => mk2 j y id h1 h2 hy h3 h4) fun j h1 h2 h3 hu => ?_) (fun id h => ?_)
  · obtain ⟨o', x', oi', A'⟩ := R.get (k := j) h2
    exact A'.memOf (.inl hu) (hlater j x' h1 A'.hx h3)
  · rcases h with h | ⟨j, h1, h2, h3, h4, h5⟩
    · exact Nat.lt_of_lt_of_le h (R.nx hpk hk)
    · by_cases e : j < k
      · exact Nat.lt_of_lt_of_le h5 (R.nx e hk)
      · exfalso
        obtain ⟨o', x', oi', A'⟩ := R.get (k := j) h2
        exact A'.memOf (.inr ⟨h4, h5⟩) (hlater j x' (by omega) A'.hx h3)
end
end Go.Ab
namespace Go.Ab
open Go.RowKit (Below)
variable {P : Program}
section
variable {im : Imp} {os : Array Oper} {nt : Nat} {l : List Inf} {r : List OpI} {call : CallP} {calli : CallI} {n0 : Nat} {σ : Nat → St} {φ : Nat → List Nat}
variable {X0 X : Cx} {L : Array Bool} {a : Act} {p : Nat} {k : Nat} {o : Oper} {x : Inf} {oi : OpI}

theorem rel_same (hs : (σ (k + 1)).h = (σ k).h) {id : Nat} {ob : AObj} (h : Rel os σ p (L.setIfInBounds k true) id ob) : Rel os σ p L id ob := by
  rcases h with h | ⟨j, a1, a2, a3, a4, a5, a6⟩
  · exact .inl h
  · rcases done_set a3 with e | hd
    · subst e; rw [hs] at a5; omega
    · exact .inr ⟨j, a1, a2, hd, a4, a5, a6⟩

theorem tw_same (hs : (σ (k + 1)).h = (σ k).h) {id : Nat} (h : tw os σ p (L.setIfInBounds k true) id) : tw os σ p L id := by
  refine ⟨?_, fun j h1 h2 h3 => h.2 j h1 h2 (done_keep h3)⟩
  rcases h.1 with h | ⟨j, a1, a2, a3, a4, a5⟩
  · exact .inl h
  · rcases done_set a3 with e | hd
    · subst e; rw [hs] at a5; omega
    · exact .inr ⟨j, a1, a2, hd, a4, a5⟩

theorem dw_keep {id : Nat} (h : dw os σ p L id) : dw os σ p (L.setIfInBounds k true) id := by
  rcases h with h | ⟨j, a1, a2, a3, a4⟩
  · exact .inl h
  · exact .inr ⟨j, a1, a2, done_keep a3, a4⟩

theorem hr_still (R : Reg P im os nt l r call calli n0 σ φ) (hs : (σ (k + 1)).h = (σ k).h) {Y : Cx} (h : HR Y (gw os σ p L) (tw os σ p L) (dw os σ p L)) :
    HR Y (gw os σ p (L.setIfInBounds k true)) (tw os σ p (L.setIfInBounds k true)) (dw os σ p (L.setIfInBounds k true)) :=
  h.weak (fun id ob hg => ⟨ob, [], R.rel_gw (rel_same hs (gw_rel hg)), .inl rfl⟩) (fun id ht => tw_same hs ht) (fun id hd => dw_keep hd)

theorem mem0_makes {i : I} (h : mem i = 0) : makes i = false := by
  cases i
  case call b f xs => cases b <;> simp [mem, isW] at h
  all_goals first | rfl | (simp [mem, isW] at h; done)

theorem ld_still {V : View} {t : Nat → Option AV} {i : I} {q : QR} (hl : isLd i = true) (hq : qop call V t i = some q) : q.os = [] ∧ q.used = none ∧ q.sl = [] := by
  cases i <;> simp only [isLd, Bool.false_eq_true] at hl
  simp only [qop] at hq
  split at hq
  · obtain ⟨_, _, rfl⟩ := qv_some hq; exact ⟨rfl, rfl, rfl⟩
  · split at hq
    · obtain ⟨_, _, rfl⟩ := qv_some hq; exact ⟨rfl, rfl, rfl⟩
    · cases hq
  · cases hq

theorem qHeap_same {h : AH} {q : QR} (e : q.os = [] ∧ q.used = none ∧ q.sl = []) : qHeap h q = h := by
  simp only [qHeap, e.1, e.2.1, e.2.2]; rfl

theorem nonW_mem2 {V : View} {t : Nat → Option AV} {i : I} {q : QR} (hw : isW i = false) (hq : qop call V t i = some q) : mem i ≠ 2 := by
  intro hm
  cases i <;> simp only [mem] at hm <;> try (rw [hw] at hm; simp at hm; done)
  all_goals first | (simp at hm; done) | (cases hq; done) | skip
  rename_i b f xs
  cases b <;> simp [mem, isW] at hm hw

theorem spares_keep {h h' : AH} {t : Nat → Option AV} {i : I} {id : Nat} {rr : AV} {kk : Nat} {es : List (List AV)} {c : Nat} {s : Bool} (hs : spares h t i id = true) (hq : wop calli h t i = some (rr, h')) (hg : h.get id = some (.row kk es c s)) : h'.get id = h.get id := by
  cases i <;> simp only [spares, Bool.false_eq_true] at hs
  case mup ag ks m key v =>
    simp only [wop] at hq
    split at hq
    · rename_i id' kv vv hm hk hv
      split at hq
      · rename_i es' hget
        have hne : id ≠ id' := by intro e; subst e; rw [hget] at hg; cases hg
        have set : ∀ es2, AH.get { h with objs := setO h.objs id' (.map es2) } id = h.get id := by
          intro es2
          have := alook_setO (l := h.objs) (id := id') (y := .map es2) hget (by simp) id
          rw [if_neg hne] at this
          exact this
        split at hq
        · simp only [Option.some.injEq, Prod.mk.injEq] at hq
          obtain ⟨_, rfl⟩ := hq
          exact set _
        · simp only [Option.some.injEq, Prod.mk.injEq] at hq
          obtain ⟨_, rfl⟩ := hq
          exact set _
        · cases hq
      · cases hq
    · cases hq
  case st k x v =>
    simp only [wop] at hq
    split at hq
    · rename_i id' i' j vv hx hv
      rw [hx] at hs
      simp only at hs
      split at hq
      · rename_i kk' es' cls hget
        rw [hget, hg] at hs
        simp only [Bool.not_eq_true'] at hs
        have hne := Nat.ne_of_beq_eq_false hs
        split at hq
        · obtain ⟨_, hq⟩ := bif_some hq
          simp only [Prod.mk.injEq] at hq
          obtain ⟨_, rfl⟩ := hq
          rw [get_setKill h hget (by simp), hg]
          have : id ≠ id' := by
            intro e; subst e; rw [hget] at hg; cases hg; exact hne rfl
          simp only [wG, if_neg this, hg, if_neg hne]
        · cases hq
      · cases hq
    · cases hq

/-- What the step does to the rows that stand, when it makes objects only. -/
theorem DInv.made (R : Reg P im os nt l r call calli n0 σ φ) (D : DInv P im os nt l r σ X0 L a X p) (A : At P im os nt l r call calli n0 σ φ k o x oi) (hk : k < os.size) (hLk : k < L.size) (hpk : p ≤ k) (hun : ¬ Done L k) {q : QR} (hd : ∀ o ∈ q.os, o ≠ .dead) (hsl : q.sl = []) (he : (σ (k + 1)).h = qHeap (σ k).h q)
    (hus : ∀ id, q.used = some id → usedBy σ k id) {Y : Cx} (h : HR Y (G' q (σ k).h.next (gw os σ p L)) (T' q (σ k).h.next (tw os σ p L)) (D' q (σ k).h.next (dw os σ p L))) :
    HR Y (gw os σ p (L.setIfInBounds k true)) (tw os σ p (L.setIfInBounds k true)) (dw os σ p (L.setIfInBounds k true)) := by
  have hn : (σ (k + 1)).h.next = (σ k).h.next + q.os.length := by rw [he, qHeap_next]
  have hg : ∀ id, (σ k).h.next ≤ id → id < (σ (k + 1)).h.next → (σ (k + 1)).h.get id = q.os[id - (σ k).h.next]? := by
    intro id h1 h2
    rw [he, qHeap_get hd, G', hsl, sealG_nil, addG_get hd, if_pos (by omega)]
  refine h.weak (fun id ob hid => ⟨ob, [], ?_, .inl rfl⟩) (fun id hid => ?_) (fun id hid => ?_)
  · rw [G', hsl, sealG_nil, addG_get hd]
    rcases gw_rel hid with h1 | ⟨j, a1, a2, a3, a4, a5, a6⟩
    · have := R.nx hpk (by omega)
      rw [if_neg (by omega)]
      exact R.rel_gw (.inl h1)
    · rcases done_set a3 with e | hdn
      · subst e
        rw [if_pos (by omega), ← hg id a4 a5]; exact a6
      · have hjk : ¬ ((σ k).h.next ≤ id ∧ id < (σ (k + 1)).h.next) := by
          intro hc
          have := R.range_eq a2 hk ⟨a4, a5⟩ hc
          subst this; exact hun hdn
        rw [if_neg (by omega)]
        exact R.rel_gw (.inr ⟨j, a1, a2, hdn, a4, a5, a6⟩)
  · obtain ⟨h1, h2⟩ := hid
    have huk := h2 k hpk hk
    rcases h1 with h1 | ⟨j, a1, a2, a3, a4, a5⟩
    · by_cases hin : (σ k).h.next ≤ id ∧ id < (σ (k + 1)).h.next
      · exact .inr (by omega)
      · refine .inl ⟨⟨.inl h1, fun j b1 b2 b3 => h2 j b1 b2 (done_keep b3)⟩, fun hc => ?_⟩
        exact huk (done_self hLk) (hus id hc)
    · rcases done_set a3 with e | hdn
      · subst e; exact .inr (by omega)
      · refine .inl ⟨⟨.inr ⟨j, a1, a2, hdn, a4, a5⟩, fun j b1 b2 b3 => h2 j b1 b2 (done_keep b3)⟩, fun hc => ?_⟩
        exact huk (done_self hLk) (hus id hc)
  · rcases hid with h1 | h1
    · exact dw_keep h1
    · exact .inr ⟨k, hpk, hk, done_self hLk, by omega, by omega⟩

/-- The places of the text before the operation, as far as the operation names them. -/
def tn (σ : Nat → St) (k : Nat) (x : Inf) : Nat → Option AV := fun n => if n ∈ x.names then (σ k).t.get n else none

theorem DInv.tr (R : Reg P im os nt l r call calli n0 σ φ) (D : DInv P im os nt l r σ X0 L a X p) (A : At P im os nt l r call calli n0 σ φ k o x oi) (hpre : Pre os L k) (hk : k < os.size) (hun : ¬ Done L k) : TR X (tn σ k x) a := by
  intro n v hv
  unfold tn at hv
  split at hv
  · rename_i hn; exact D.names R A hpre hk hun hn hv
  · cases hv

theorem At.tmps (A : At P im os nt l r call calli n0 σ φ k o x oi) : ∀ n ∈ tmpsI oi.i, (σ k).t.get n = tn σ k x n := by
  intro n hn
  unfold tn
  rw [if_pos]
  rw [A.names, ← A.d.ins]
  simp [namesOf, hn]

theorem At.want (A : At P im os nt l r call calli n0 σ φ k o x oi) : wantI (tn σ k x) oi = wantI (σ k).t.get oi := by
  unfold wantI
  cases hg : oi.grd with
  | none => rfl
  | some g =>
    obtain ⟨d, b⟩ := g
    have : tn σ k x d = (σ k).t.get d := by
      unfold tn
      rw [if_pos]
      rw [A.names, ← A.d.grd, hg]
      simp [namesOf]
    simp only [this]

theorem At.ins (A : At P im os nt l r call calli n0 σ φ k o x oi) (hb : oi.i ≠ .bad) : instr P im o.op = some oi.i := orBad_some A.ok.ins.symm hb

/-- After a pivot the text's heap is the state's. -/
theorem hr_cut (R : Reg P im os nt l r call calli n0 σ φ) (hk : k < os.size) {Y : Cx} (h : HRh Y (σ (k + 1)).h) (hlater : ∀ j y, k < j → l[j]? = some y → Done L j → mem y.i = 0) :
    HR Y (gw os σ (k + 1) (L.setIfInBounds k true)) (tw os σ (k + 1) (L.setIfInBounds k true)) (dw os σ (k + 1) (L.setIfInBounds k true)) ∧ ∀ id o, (σ (k + 1)).h.get id = some o → id < (σ (k + 1)).h.next := by
  have no : ∀ j id, k + 1 ≤ j → j < os.size → Done (L.setIfInBounds k true) j → ¬ ((σ j).h.next ≤ id ∧ id < (σ (j + 1)).h.next) := by
    intro j id h1 h2 h3 hc
    rcases done_set h3 with e | hd
    · omega
    · obtain ⟨o', x', oi', A'⟩ := R.get (k := j) h2
      exact A'.memOf (.inr hc) (hlater j x' h1 A'.hx hd)
  refine ⟨h.weak (fun id ob hg => ⟨ob, [], ?_, .inl rfl⟩) (fun id ht => ?_) (fun id hd => .inl hd), fun id o ho => ?_⟩
  · rcases gw_rel hg with h1 | ⟨j, a1, a2, a3, a4, a5, _⟩
    · exact h1.2
    · exact absurd ⟨a4, a5⟩ (no j id a1 a2 a3)
  · rcases ht.1 with h1 | ⟨j, a1, a2, a3, a4, a5⟩
    · exact h1
    · exact absurd ⟨a4, a5⟩ (no j id a1 a2 a3)
  · obtain ⟨L', h1, _⟩ := h.obj id o ho
    exact h.dom id L' h1

theorem At.writer (A : At P im os nt l r call calli n0 σ φ k o x oi) (hm : mem x.i = 2) (hq : ¬ Qt (σ k).h (σ (k + 1)).h) : wantI (σ k).t.get oi = some true ∧ (∀ id ∈ φ k, spares (σ k).h (σ k).t.get oi.i id = true) ∧ ∃ rr h1, wop calli (σ k).h (σ k).t.get oi.i = some (rr, h1) ∧ (σ (k + 1)).h = h1 := by
  cases A.st with
  | skip hw h' hf => exact absurd (by rw [h']; exact Qt.refl _) hq
  | run hw hs h' hf =>
    cases op1_eff h' with
    | quiet q hw' hqq _ _ => exact absurd (by rw [← A.d.ins] at hm; exact hm) (nonW_mem2 hw' hqq)
    | write rr h1 hw' hqq e => exact ⟨hw, hs.1 hw', rr, h1, hqq, by rw [e]⟩

theorem Reg.soft (R : Reg P im os nt l r call calli n0 σ φ) {id : Nat} : ∀ {i j : Nat}, i ≤ j → j ≤ os.size → id ∈ φ i → id ∈ φ j := by
  intro i j hij
  induction hij with
  | refl => intro _ h; exact h
  | @step j h ih =>
    intro hj hi
    have := ih (by omega) hi
    obtain ⟨o, x, oi, A⟩ := R.get (k := j) (by omega)
    cases A.st with
    | skip _ _ hf => rw [hf]; exact this
    | run _ _ _ hf => rw [hf]; simp [this]

/-- A row that a soft load looked at stands as it was, as long as the load is not done. -/
theorem DInv.softRow (R : Reg P im os nt l r call calli n0 σ φ) (D : DInv P im os nt l r σ X0 L a X p) (A : At P im os nt l r call calli n0 σ φ k o x oi) (hun : ¬ Done L k) (hl : isLd x.i = true) {id : Nat} (hid : id < n0) (hsf : id ∈ φ (k + 1)) (hs : (σ (k + 1)).h = (σ k).h)
    {kk : Nat} {es : List (List AV)} {c : Nat} {s : Bool} (hg : (σ k).h.get id = some (.row kk es c s)) : ∀ {m : Nat}, k + 1 ≤ m → m ≤ p → (σ m).h.get id = some (.row kk es c s) := by
  intro m hm
  induction hm with
  | refl => intro _; rw [hs]; exact hg
  | @step j h ih =>
    intro hjp
    have hjp' := D.hp
    have hrow := ih (by omega)
    have hmx : mem x.i ≠ 0 := by cases hi : x.i <;> rw [hi] at hl <;> simp [isLd] at hl; simp [mem]
    obtain ⟨o', x', oi', A'⟩ := R.get (k := j) (by omega)
    have hnx : id < (σ j).h.next := by
      have := R.nx (i := 0) (j := j) (Nat.zero_le _) (by omega)
      rw [R.n0] at hid; omega
    by_cases hq : Qt (σ j).h (σ (j + 1)).h
    · rw [hq.get id (.inl hnx)]; exact hrow
    · obtain ⟨p1, p2, p3⟩ := A'.pivot hq
      by_cases hm2 : mem x'.i = 2
      · obtain ⟨_, w2, rr, h1, w3, w4⟩ := A'.writer hm2 hq
        rw [w4, spares_keep (w2 id (R.soft h (by omega) hsf)) w3 hrow]; exact hrow
      · exfalso
        have hf0 := p2.resolve_left hm2
        have hd : Done L j := D.c1 j x' oi' hjp A'.hx A'.hoi p1 (by omega)
        cases A'.d.flag with
        | none h _ => exact p1 h
        | write _ h => exact hm2 h
        | pivot _ _ h1 _ =>
          rcases h1 k x h A.hx with h2 | h2
          · exact hun (D.closed j o' A'.ho hd k (by rw [← A'.before]; exact h2))
          · exact hmx h2
        | all hf => omega
        | old hf => omega
        | soft hf => omega

theorem dstep (hS : Sound P call calli) (R : Reg P im os nt l r call calli n0 σ φ) (D : DInv P im os nt l r σ X0 L a X p) (hLs : L.size = os.size) (hready : k ∈ Region.ready .any os L) {Q : Exit → Act → World → Prop} {K : Act → World → Prop}
    (hK : ∀ a' w', (∃ Y p', Y.w = w' ∧ DInv P im os nt l r σ X0 (L.setIfInBounds k true) a' Y p') → K a' w') : wpOp P os Q k K a X.w := by
  obtain ⟨hpre, hun0, hk⟩ := pre_of_ready R D.closed hready
  obtain ⟨o, x, oi, A⟩ := R.get hk
  have hLk : k < L.size := by omega
  have hun : ¬ Done L k := by
    unfold Done
    intro h
    have e1 : L.getD k true = L[k] := by simp [Array.getD, hLk]
    have e2 : L.getD k false = L[k] := by simp [Array.getD, hLk]
    rw [e1] at hun0; rw [e2, hun0] at h; cases h
  have hT := D.tr R A hpre hk hun
  have c1old : ∀ {p' : Nat}, p' ≤ p → ∀ j x oi, j < p' → l[j]? = some x → r[j]? = some oi → mem x.i ≠ 0 → oi.fl ≠ 3 → j ≠ k → Done L j := fun hp j x oi h1 h2 h3 h4 h5 _ => D.c1 j x oi (by omega) h2 h3 h4 h5
  simp only [wpOp, A.ho]
  cases hst : A.st with
  | skip hw h hf =>
    rw [if_neg (by rw [wanted_sound A.ok.grd hT (by rw [A.want]; exact hw)]; simp)]
    have hs : (σ (k + 1)).h = (σ k).h := by rw [h]
    refine hK _ _ ⟨X, p, rfl, D.next R A hpre hk hun (Stp.refl X) (av := .skip) (by rw [h, A.ok.dst]) (by simp [VR]) D.hp (c1old (Nat.le_refl p)) (fun j h1 h2 h3 => ?_) D.bnd hLk (hr_still R hs D.hr)⟩
    rcases h3 with e | h3
    · subst e; rw [hs]; exact Qt.refl _
    · exact D.c2 j h1 h2 h3
  | run hw hsp h hf =>
    rw [if_pos (wanted_sound A.ok.grd hT (by rw [A.want]; exact hw))]
    left
    cases op1_eff h with
    | quiet q hw' hq hsl e =>
      have hne : oi.i ≠ .bad := by intro hb; rw [hb] at hq; cases hq
      have hin := A.ins hne
      obtain ⟨m1, m2, m3, m4⟩ := qop_made hq
      have hm2 : mem x.i ≠ 2 := by rw [← A.d.ins]; exact nonW_mem2 hw' hq
      have ht : (σ (k + 1)).t = putD (σ k).t o.dst q.v := by rw [e, A.ok.dst]
      have he : (σ (k + 1)).h = qHeap (σ k).h q := by rw [e]
      -- what needs no heap of its own
      have still : ∀ (V : View), q.os = [] ∧ q.used = none ∧ q.sl = [] → qop call V (tn σ k x) oi.i = some q → (∀ id ob, V.get id = some ob → gw os σ p L id = some ob) → Does P o a X.w (fun v w' => ∃ Y p', Y.w = w' ∧ DInv P im os nt l r σ X0 (L.setIfInBounds k true) (a.put o.dst v) Y p') := by
        intro V hem hqV hV
        have hs : (σ (k + 1)).h = (σ k).h := by rw [he]; exact qHeap_same hem
        refine (qop_sound (X := X) (g := gw os σ p L) (tp := tw os σ p L) (dom := dw os σ p L) hS.p hin hw' hV (fun id hid => by rw [hem.2.1] at hid; cases hid) (fun j h1 h2 => by rw [hem.1] at h2; simp at h2; omega) D.hr hT hqV).mono ?_
        rintro v w' ⟨Y, rfl, y2, y3, y4⟩
        have y4' : HR Y (gw os σ p L) (tw os σ p L) (dw os σ p L) := by
          refine y4.weak (fun id ob hg => ⟨ob, [], ?_, .inl rfl⟩) (fun id ht => .inl ⟨ht, by rw [hem.2.1]; simp⟩) (fun id hd => ?_)
          · rw [G', hem.1, hem.2.2, addG_nil, sealG_nil]; exact hg
          · rcases hd with hd | hd
            · exact hd
            · rw [hem.1] at hd; simp at hd; omega
        refine ⟨Y, p, rfl, D.next R A hpre hk hun y2 ht y3 D.hp (c1old (Nat.le_refl p)) (fun j h1 h2 h3 => ?_) D.bnd hLk (hr_still R hs y4')⟩
        rcases h3 with e | h3
        · subst e; rw [hs]; exact Qt.refl _
        · exact D.c2 j h1 h2 h3
      have fin : Does P o a X.w (fun v w' => ∃ Y p', Y.w = w' ∧ DInv P im os nt l r σ X0 (L.setIfInBounds k true) (a.put o.dst v) Y p') → o.wp P a X.w K Q := fun hd => hd.wp fun v w' hvw => hK _ _ hvw
      apply fin
      by_cases hm0 : mem oi.i = 0
      · -- no memory
        refine still ⟨fun _ => none, fun _ => false, 0⟩ (m2 hm0) ?_ (fun id ob h => by cases h)
        rw [qop_view (V' := (bif Nat.beq oi.fl 2 then (σ k).h.viewOld n0 else (σ k).h.view)) hm0, ← qop_congr A.tmps]; exact hq
      · have hmx : mem x.i ≠ 0 := by rw [← A.d.ins]; exact hm0
        have hvg : ∀ id ob, (bif Nat.beq oi.fl 2 then (σ k).h.viewOld n0 else (σ k).h.view).get id = some ob → (σ k).h.get id = some ob ∧ (oi.fl = 2 → id < n0) := by
          intro id ob hob
          cases hb : Nat.beq oi.fl 2 with
          | false => rw [hb] at hob; exact ⟨hob, fun hc => by rw [hc] at hb; simp at hb⟩
          | true =>
            rw [hb] at hob
            have hob : (bif Nat.blt id n0 then (σ k).h.get id else none) = some ob := hob
            cases hb2 : Nat.blt id n0 with
            | false => rw [hb2] at hob; cases hob
            | true => rw [hb2] at hob; exact ⟨hob, fun _ => Nat.le_of_ble_eq_true hb2⟩
        have hvt : ∀ id, (bif Nat.beq oi.fl 2 then (σ k).h.viewOld n0 else (σ k).h.view).top id = true → (σ k).h.tops.contains id = true ∧ (oi.fl = 2 → id < n0) := by
          intro id hob
          cases hb : Nat.beq oi.fl 2 with
          | false => rw [hb] at hob; exact ⟨hob, fun hc => by rw [hc] at hb; simp at hb⟩
          | true =>
            rw [hb] at hob
            have hob : (bif Nat.blt id n0 then (σ k).h.tops.contains id else false) = true := hob
            cases hb2 : Nat.blt id n0 with
            | false => rw [hb2] at hob; cases hob
            | true => rw [hb2] at hob; exact ⟨hob, fun _ => Nat.le_of_ble_eq_true hb2⟩
        have hvn : (bif Nat.beq oi.fl 2 then (σ k).h.viewOld n0 else (σ k).h.view).next = (σ k).h.next := by cases Nat.beq oi.fl 2 <;> rfl
        have hqT : qop call (bif Nat.beq oi.fl 2 then (σ k).h.viewOld n0 else (σ k).h.view) (tn σ k x) oi.i = some q := by rw [← qop_congr A.tmps]; exact hq
        by_cases hf3 : oi.fl = 3
        · -- a soft load
          have hld : isLd x.i = true := by
            cases A.d.flag with
            | soft _ h => exact h
            | none _ hf => omega
            | write hf => omega
            | pivot hf => omega
            | all hf => omega
            | old hf => omega
          have hmk : ∀ j y, j < k → l[j]? = some y → Ord x j ∨ makes y.i = false := by
            cases A.d.flag with
            | soft _ _ h => exact h
            | none _ hf => omega
            | write hf => omega
            | pivot hf => omega
            | all hf => omega
            | old hf => omega
          have hem := ld_still (by rw [A.d.ins]; exact hld) hq
          have hs : (σ (k + 1)).h = (σ k).h := by rw [he]; exact qHeap_same hem
          have hb2 : Nat.beq oi.fl 2 = false := by rw [hf3]; rfl
          rw [hb2] at hqT
          have hqT : qop call (σ k).h.view (tn σ k x) oi.i = some q := hqT
          cases hii : oi.i with
          | ld ag kk xo =>
            have hwn : ev (σ k).t.get xo = ev (tn σ k x) xo := ev_congr fun n hn => A.tmps n (by rw [hii]; exact hn)
            cases hev : ev (tn σ k x) xo with
            | none => rw [hii] at hqT; simp only [qop, hev] at hqT; cases hqT
            | some v =>
              by_cases hp : ∃ id i j, v = .ptr id i j
              · obtain ⟨id, i, j, rfl⟩ := hp
                have hrow : ∃ kk2 es c s, (σ k).h.get id = some (.row kk2 es c s) := by
                  rw [hii] at hqT
                  simp only [qop, hev] at hqT
                  unfold rowAt at hqT
                  cases hgg : (σ k).h.view.get id with
                  | none => rw [hgg] at hqT; cases hqT
                  | some ob =>
                    rw [hgg] at hqT
                    cases ob with
                    | row kk2 es c s => exact ⟨kk2, es, c, s, hgg⟩
                    | map _ => cases hqT
                    | sit _ _ => cases hqT
                    | dead => cases hqT
                obtain ⟨kk2, es, c, s, hrow⟩ := hrow
                have hsof : softOf (σ k).t.get oi = [id] := by
                  simp only [softOf, hf3, hii, hwn, hev]; rfl
                have hidn : id < n0 := hsp.2 id (by rw [hsof]; simp)
                have hphi : id ∈ φ (k + 1) := by rw [hf, hsof]; simp
                have hgw : gw os σ p L id = some (.row kk2 es c s) := by
                  by_cases hpk : p ≤ k
                  · exact D.view R hpk (by omega) (D.quiet R A (.inl hpre) hk hmx) (DInv.makers A hpre hmk) id _ hrow
                  · refine R.rel_gw (.inl ⟨?_, D.softRow R A hun hld hidn hphi hs hrow (m := p) (by omega) (Nat.le_refl p)⟩)
                    have := R.nx (i := 0) (j := p) (Nat.zero_le _) D.hp
                    rw [R.n0] at hidn; omega
                refine still ⟨fun m => if m = id then (σ k).h.get id else none, fun _ => false, (σ k).h.next⟩ hem ?_ (fun m ob hm => ?_)
                · rw [hii] at hqT ⊢
                  simp only [qop, hev] at hqT ⊢
                  have : rowAt (fun m => if m = id then (σ k).h.get id else none) id i = rowAt (σ k).h.view.get id i := by
                    simp only [rowAt, if_true]; rfl
                  rw [this]; exact hqT
                · have hm : (if m = id then (σ k).h.get id else none) = some ob := hm
                  split at hm
                  · rename_i e'; subst e'; rw [hrow] at hm; cases hm; exact hgw
                  · cases hm
              · refine still ⟨fun _ => none, fun _ => false, 0⟩ hem ?_ (fun id ob h => by cases h)
                rw [hii] at hqT ⊢
                simp only [qop, hev] at hqT ⊢
                cases v <;> first | exact hqT | exact absurd ⟨_, _, _, rfl⟩ hp
          | _ => rw [← A.d.ins, hii] at hld; simp [isLd] at hld
        · have hpk : p ≤ k := by
            apply Classical.byContradiction
            intro hc
            exact hun (D.c1 k x oi (by omega) A.hx A.hoi hmx hf3)
          have hqt := D.quiet R A (.inl hpre) hk hmx
          have hbk := R.text_bnd D.bnd hpk (by omega) hqt
          have hn0p : n0 ≤ (σ p).h.next := by rw [R.n0]; exact R.nx (Nat.zero_le _) D.hp
          have hmk : oi.fl ≠ 2 → ∀ j y, p ≤ j → j < k → l[j]? = some y → Done L j ∨ makes y.i = false := by
            intro hf2
            cases A.d.flag with
            | none h _ => exact absurd h hmx
            | write _ h => exact absurd h hm2
            | pivot _ _ h1 _ => exact DInv.makers A hpre fun j y hj hy => (h1 j y hj hy).imp id mem0_makes
            | all _ _ _ h1 _ => exact DInv.makers A hpre h1
            | old hf => omega
            | soft hf => omega
          by_cases hsl0 : q.sl = []
          · have hus : ∀ id, q.used = some id → usedBy σ k id := by
              intro id hid
              obtain ⟨u1, _, ob, u3⟩ := m3 id hid
              refine ⟨(hvt id u1).1, fun hc => ?_⟩
              have hlt := hbk id ob (hvg id ob u3).1
              rw [he, qHeap_tops, hid] at hc
              have hc := List.contains_iff_mem.1 hc
              rcases List.mem_append.1 hc with hc | hc
              · rw [List.mem_range'_1] at hc; omega
              · simp [List.mem_filter] at hc
            have hV : ∀ id ob, (bif Nat.beq oi.fl 2 then (σ k).h.viewOld n0 else (σ k).h.view).get id = some ob → gw os σ p L id = some ob := by
              intro id ob hob
              obtain ⟨v1, v2⟩ := hvg id ob hob
              by_cases hf2 : oi.fl = 2
              · rcases text_get (os := os) D.bnd hpk (Nat.le_of_lt hk) hqt id ob v1 with h1 | ⟨j, a1, a2, a3, _⟩
                · exact R.rel_gw (.inl h1)
                · have := v2 hf2
                  have := R.nx a1 (show j ≤ os.size by omega)
                  omega
              · exact D.view R hpk (by omega) hqt (hmk hf2) id ob v1
            have hVt : ∀ id, q.used = some id → tw os σ p L id := by
              intro id hid
              obtain ⟨u1, _, ob, u3⟩ := m3 id hid
              obtain ⟨v1, v2⟩ := hvt id u1
              refine D.tops R hpk (by omega) hqt v1 (fun j y h1 h2 hy h3 h4 => ?_) (fun j h1 h2 h3 hu => ?_)
              · by_cases hf2 : oi.fl = 2
                · have := v2 hf2
                  have := R.nx h1 (show j ≤ os.size by omega)
                  omega
                · rcases hmk hf2 j y h1 h2 hy with h | h
                  · exact h
                  · obtain ⟨o', x', oi', A'⟩ := R.get (k := j) (by omega)
                    have : x' = y := by have := A'.hx; rw [hy] at this; cases this; rfl
                    subst this
                    have := A'.same h; omega
              · by_cases ejk : j = k
                · subst ejk; exact hun h3
                · obtain ⟨o', x', oi', A'⟩ := R.get (k := j) h2
                  have hqj := D.quiet R A' (.inr h3) h2 (A'.memOf (.inl hu))
                  exact (R.text_top D.bnd (by omega) (by omega) hqj id hu.1).2 k hpk (by omega) (hus id hid)
            have hrun := qop_sound (X := X) (g := gw os σ p L) (tp := tw os σ p L) (dom := dw os σ p L) hS.p hin hw' hV hVt (by
              rw [hvn]
              intro j h1 h2 hd
              have hn : (σ (k + 1)).h.next = (σ k).h.next + q.os.length := by rw [he, qHeap_next]
              rcases hd with hd | ⟨i, a1, a2, a3, a4, a5⟩
              · have := R.nx hpk (show k ≤ os.size by omega); omega
              · have := R.range_eq a2 hk ⟨a4, a5⟩ ⟨h1, by omega⟩
                subst this; exact hun a3) D.hr hT hqT
            rw [hvn] at hrun
            refine hrun.mono ?_
            rintro v w' ⟨Y, rfl, y2, y3, y4⟩
            refine ⟨Y, p, rfl, D.next R A hpre hk hun y2 ht y3 D.hp (c1old (Nat.le_refl p)) (fun j h1 h2 h3 => ?_) D.bnd hLk (D.made R A hk hLk hpk hun m1 hsl0 he hus y4)⟩
            rcases h3 with ejk | h3
            · subst ejk
              rw [he]
              exact Qt.of m1 hsl0 fun id hid => by
                obtain ⟨_, _, ob, u3⟩ := m3 id hid
                exact ⟨ob, (hvg id ob u3).1⟩
            · exact D.c2 j h1 h2 h3
          · -- a step that seals
            have hf0 : oi.fl = 0 := hsl.resolve_left hsl0
            have hpv : (∀ j y, j < k → l[j]? = some y → Ord x j ∨ mem y.i = 0) ∧ ∀ j y, k < j → l[j]? = some y → Ord y k ∨ mem y.i = 0 := by
              cases A.d.flag with
              | none h _ => exact absurd h hmx
              | write _ h => exact absurd h hm2
              | pivot _ _ h1 h2 => exact ⟨h1, h2⟩
              | all hf => omega
              | old hf => omega
              | soft hf => omega
            have hlater : ∀ j y, k < j → l[j]? = some y → Done L j → mem y.i = 0 := by
              intro j y h1 hy hd
              rcases hpv.2 j y h1 hy with h | h
              · exfalso
                obtain ⟨o', x', oi', A'⟩ := R.get (k := j) (by rw [← R.len]; exact (List.getElem?_eq_some_iff.1 hy).1)
                have : x' = y := by have := A'.hx; rw [hy] at this; cases this; rfl
                subst this
                exact hun (D.closed j o' A'.ho hd k (by rw [← A'.before]; exact h))
              · exact h
            have hex := D.exact R hpk (by omega) hqt (hmk (by omega)) (fun j y h1 hy hd => by
              by_cases ejk : j = k
              · subst ejk; exact absurd hd hun
              · exact hlater j y (by omega) hy hd)
            have hb2 : Nat.beq oi.fl 2 = false := by rw [hf0]; rfl
            rw [hb2] at hqT m3
            have hqT : qop call (σ k).h.view (tn σ k x) oi.i = some q := hqT
            have hrun := qop_sound (X := X) (g := (σ k).h.get) (tp := fun j => (σ k).h.tops.contains j = true) (dom := fun j => j < (σ k).h.next) hS.p hin hw' (fun id ob h => h) (fun id hid => (m3 id hid).1) (fun j (h1 : (σ k).h.next ≤ j) _ h2 => by omega) hex hT hqT
            refine hrun.mono ?_
            rintro v w' ⟨Y, rfl, y2, y3, y4⟩
            have hY : HRh Y (σ (k + 1)).h := by rw [he]; exact HRh.quiet m1 y4
            obtain ⟨z1, z2⟩ := hr_cut (L := L) R hk hY hlater
            refine ⟨Y, k + 1, rfl, D.next R A hpre hk hun y2 ht y3 (by omega) (fun j x' oi' h1 h2 h3 h4 h5 h6 => ?_) (fun j h1 h2 h3 => ?_) z2 hLk z1⟩
            · rcases hpv.1 j x' (by omega) h2 with h | h
              · exact hpre j (by rw [← A.before]; exact h)
              · exact absurd h h4
            · rcases h3 with ejk | h3
              · omega
              · exact D.c2 j (by omega) h2 h3
    | write rv h1 hw' hq e =>
      have hne : oi.i ≠ .bad := by intro hb; rw [hb] at hw'; cases hw'
      have hin := A.ins hne
      have ht : (σ (k + 1)).t = putD (σ k).t o.dst rv := by rw [e, A.ok.dst]
      have he : (σ (k + 1)).h = h1 := by rw [e]
      have hm2 : mem x.i = 2 := by
        rw [← A.d.ins]
        cases hi : oi.i <;> rw [hi] at hw' hq <;> simp [isW] at hw' <;> try rfl
        rename_i b f xs
        cases b with
        | true => simp [wop] at hq
        | false => rfl
      have hqT : wop calli (σ k).h (tn σ k x) oi.i = some (rv, h1) := by rw [← wop_congr A.tmps]; exact hq
      have hpv : oi.fl = 0 ∧ (∀ j y, j < k → l[j]? = some y → Ord x j ∨ mem y.i = 0 ∨ isLd y.i = true) ∧ ∀ j y, k < j → l[j]? = some y → Ord y k ∨ mem y.i = 0 := by
        cases A.d.flag with
        | none h _ => omega
        | write hf _ h1 h2 => exact ⟨hf, h1, h2⟩
        | pivot hf _ h1 h2 => exact ⟨hf, fun j y hj hy => (h1 j y hj hy).imp id .inl, h2⟩
        | all _ _ hn => exact absurd hm2 hn
        | old _ _ hn => exact absurd hm2 hn
        | soft _ h => exfalso; cases hi : x.i <;> rw [hi] at h hm2 <;> simp [isLd] at h <;> simp [mem] at hm2
      have hlater : ∀ j y, k < j → l[j]? = some y → Done L j → mem y.i = 0 := by
        intro j y h1 hy hd
        rcases hpv.2.2 j y h1 hy with h | h
        · exfalso
          obtain ⟨o', x', oi', A'⟩ := R.get (k := j) (by rw [← R.len]; exact (List.getElem?_eq_some_iff.1 hy).1)
          have : x' = y := by have := A'.hx; rw [hy] at this; cases this; rfl
          subst this
          exact hun (D.closed j o' A'.ho hd k (by rw [← A'.before]; exact h))
        · exact h
      have hpk : p ≤ k := by
        apply Classical.byContradiction
        intro hc
        exact hun (D.c1 k x oi (by omega) A.hx A.hoi (by omega) (by omega))
      have hqt := D.quiet R A (.inl hpre) hk (by omega)
      have hex := D.exact R hpk (by omega) hqt (DInv.makers A hpre fun j y hj hy => by
        rcases hpv.2.1 j y hj hy with h | h | h
        · exact .inl h
        · exact .inr (mem0_makes h)
        · right; cases hi : y.i <;> rw [hi] at h <;> simp [isLd] at h; rfl) (fun j y h1 hy hd => by
        by_cases ejk : j = k
        · subst ejk; exact absurd hd hun
        · exact hlater j y (by omega) hy hd)
      refine (wop_sound hS.i hin hw' hex hT hqT).wp ?_
      rintro v w' ⟨Y, rfl, y2, y3, y4⟩
      have hY : HRh Y (σ (k + 1)).h := by rw [he]; exact y4
      obtain ⟨z1, z2⟩ := hr_cut (L := L) R hk hY hlater
      refine hK _ _ ⟨Y, k + 1, rfl, D.next R A hpre hk hun y2 ht y3 (by omega) (fun j x' oi' h1 h2 h3 h4 h5 h6 => ?_) (fun j h1 h2 h3 => ?_) z2 hLk z1⟩
      · have hjk : j < k := by omega
        rcases hpv.2.1 j x' hjk h2 with h | h | h
        · exact hpre j (by rw [← A.before]; exact h)
        · exact absurd h h4
        · obtain ⟨o', x2, oi2, A'⟩ := R.get (k := j) (by omega)
          have e1 : x2 = x' := by have := A'.hx; rw [h2] at this; cases this; rfl
          have e2 : oi2 = oi' := by have := A'.hoi; rw [h3] at this; cases this; rfl
          subst e1; subst e2
          have ord : Ord x j → Done L j := fun hh => hpre j (by rw [← A.before]; exact hh)
          cases A'.d.flag with
          | none h' _ => exact absurd h' h4
          | write _ h' => exfalso; cases hi : x2.i <;> rw [hi] at h h' <;> simp [isLd] at h <;> simp [mem] at h'
          | pivot _ _ _ g2 =>
            rcases g2 k x hjk A.hx with g | g
            · exact ord g
            · omega
          | all _ _ _ _ g2 =>
            rcases g2 k x hjk A.hx with g | g
            · exact ord g
            · exact absurd hm2 g
          | old _ _ _ g2 =>
            rcases g2 k x hjk A.hx with g | g
            · exact ord g
            · exact absurd hm2 g
          | soft g _ => exact absurd g h5
      · rcases h3 with ejk | h3
        · omega
        · exact D.c2 j (by omega) h2 h3
end
end Go.Ab
namespace Go.Ab
open Go.RowKit (Below)
variable {P : Program}

theorem trace_of {call : CallP} {calli : CallI} {n0 : Nat} : ∀ {r : List OpI} {s sE : St} {sf : List Nat}, ops call calli n0 sf r s = some sE →
    ∃ (σ : Nat → St) (φ : Nat → List Nat), σ 0 = s ∧ φ 0 = sf ∧ σ r.length = sE ∧ ∀ k oi, r[k]? = some oi → Step1 call calli n0 oi (σ k) (φ k) (σ (k + 1)) (φ (k + 1))
  | [], s, sE, sf, h => by
    simp only [ops, Option.some.injEq] at h; subst h
    exact ⟨fun _ => s, fun _ => sf, rfl, rfl, rfl, fun k oi hk => by simp at hk⟩
  | o :: r, s, sE, sf, h => by
    obtain ⟨s', sf', h1, h2⟩ := ops_cons h
    obtain ⟨σ, φ, e1, e2, e3, e4⟩ := trace_of h2
    refine ⟨fun n => match n with | 0 => s | m + 1 => σ m, fun n => match n with | 0 => sf | m + 1 => φ m, rfl, rfl, e3, fun k oi hk => ?_⟩
    cases k with
    | zero =>
      simp only [List.getElem?_cons_zero, Option.some.injEq] at hk; subst hk
      show Step1 call calli n0 o s sf (σ 0) (φ 0)
      rw [e1, e2]; exact h1
    | succ k => exact e4 k oi (by simpa using hk)

theorem step_mono {call : CallP} {calli : CallI} (hmono : ∀ gi args h r h', calli gi args h = some (r, h') → h.next ≤ h'.next) {n0 : Nat} {oi : OpI} {s s' : St} {sf sf' : List Nat} (h : Step1 call calli n0 oi s sf s' sf') : s.h.next ≤ s'.h.next := by
  cases h with
  | skip _ h _ => rw [h]; exact Nat.le_refl _
  | run _ _ h _ =>
    cases op1_eff h with
    | quiet q _ _ _ e => rw [e]; show _ ≤ (qHeap s.h q).next; rw [qHeap_next]; omega
    | write rv h1 hw hq e =>
      rw [e]
      show s.h.next ≤ h1.next
      by_cases hc : ∃ f xs, oi.i = .call false f xs
      · obtain ⟨f, xs, hc⟩ := hc
        rw [hc] at hq
        simp only [wop] at hq
        split at hq
        · split at hq
          · exact hmono _ _ _ _ _ hq
          · cases hq
        · cases hq
      · rw [(wop_same hq fun f xs e => hc ⟨f, xs, e⟩).2]; exact Nat.le_refl _

theorem HR.world {X Y : Cx} {g : Nat → Option AObj} {tp dom : Nat → Prop} (h : HR X g tp dom) (hw : Y.w.heap = X.w.heap) (hb : Y.base = X.base) (hS : Y.S = X.S) (hl : Y.loc = X.loc) (ho : Y.w.os = X.w.os) (ht : Y.w.tape = X.w.tape) (hu : Y.w.output = X.w.output) : Stp X Y ∧ HR Y g tp dom := by
  have ext : Ext X Y := ⟨fun b hb => by rw [hS]; exact hb, fun b _ => by rw [hw], fun id L h => by rw [hl]; exact h⟩
  refine ⟨⟨ext, hb, fun b _ => by rw [hw], by rw [hw]; exact Nat.le_refl _, ho, ht, hu, fun b h _ => by rw [hS] at h; exact h⟩, ?_⟩
  constructor
  · intro id o hi
    obtain ⟨L, h1, h2, h3, h4⟩ := h.obj id o hi
    exact ⟨L, by rw [hl]; exact h1, by rw [hb]; exact h2, by rw [hw]; exact h3, h4.move2 ext (by rw [hw]) (by rw [hS]; exact fun h => h)⟩
  · intro i j oi oj Li Lj h1 h2 h3 h4; rw [hl] at h3 h4; exact h.sep i j oi oj Li Lj h1 h2 h3 h4
  · intro i j k es c s k' es' c' s' Li Lj h0 h1 h2 h3 h4; rw [hl] at h3 h4; exact h.top i j k es c s k' es' c' s' Li Lj h0 h1 h2 h3 h4
  · intro i j oi oj Li Lj t1 t2 h1 h2 h3 h4; rw [hl] at h3 h4; exact h.uniq i j oi oj Li Lj t1 t2 h1 h2 h3 h4
  · intro b h1; rw [hS] at h1; rw [hw]; exact h.stab b h1
  · rw [hb, hw]; exact h.bs
  · intro id L h1; rw [hl] at h1; exact h.dom id L h1

section
variable {im : Imp} {os : Array Oper} {nt : Nat} {l : List Inf} {r : List OpI} {call : CallP} {calli : CallI} {n0 : Nat} {σ : Nat → St} {φ : Nat → List Nat} {X0 : Cx}

def todo (os : Array Oper) (L : Array Bool) : Nat := (List.range os.size).countP fun k => !(L.getD k false)

theorem countP_lt {α : Type} {p q : α → Bool} : ∀ {l : List α} {x : α}, (∀ y, q y = true → p y = true) → x ∈ l → p x = true → q x = false → l.countP q < l.countP p
  | [], _, _, h, _, _ => by simp at h
  | y :: l, x, hpq, hx, h1, h2 => by
    have hle : ∀ l : List α, l.countP q ≤ l.countP p := fun l => List.countP_mono_left (fun y _ hy => hpq y hy)
    rcases List.mem_cons.1 hx with rfl | hx
    · have := hle l
      rw [List.countP_cons, List.countP_cons, h1, h2]; simp; omega
    · have := countP_lt hpq hx h1 h2
      rw [List.countP_cons, List.countP_cons]
      by_cases hq : q y = true
      · rw [hq, hpq y hq]; simpa using this
      · simp only [hq]
        have : (if p y = true then 1 else 0) ≥ 0 := Nat.zero_le _
        simp only [Bool.false_eq_true, if_false]; omega

theorem todo_set {L : Array Bool} {k : Nat} (hk : k < os.size) (hL : L.size = os.size) (hun : ¬ Done L k) : todo os (L.setIfInBounds k true) < todo os L := by
  unfold todo
  refine countP_lt (x := k) (fun y hy => ?_) (by simpa using hk) ?_ ?_
  · simp only [Bool.not_eq_true'] at hy ⊢
    cases h : L.getD y false with
    | false => rfl
    | true => rw [show (L.setIfInBounds k true).getD y false = true from done_keep h] at hy; cases hy
  · unfold Done at hun; cases h : L.getD k false with
    | false => rfl
    | true => exact absurd h hun
  · rw [show (L.setIfInBounds k true).getD k false = true from done_self (by omega)]; rfl

theorem all_done (R : Reg P im os nt l r call calli n0 σ φ) {L : Array Bool} (hL : L.size = os.size) (h : Region.ready .any os L = []) : ∀ k, k < os.size → Done L k := by
  intro k
  induction k using Nat.strongRecOn with
  | _ k ih =>
    intro hk
    apply Classical.byContradiction
    intro hc
    have : k ∈ Region.ready .any os L := by
      refine mem_ready.2 ⟨?_, os[k], Array.getElem?_eq_getElem hk, fun e he hb => ?_⟩
      · have hkl : k < L.size := by omega
        unfold Done at hc
        have e1 : L.getD k true = L[k] := by simp [Array.getD, hkl]
        have e2 : L.getD k false = L[k] := by simp [Array.getD, hkl]
        rw [e2] at hc; rw [e1]; simpa using hc
      · have := edgesOk_spec R.edges k os[k] (by simp [hk]) e he hb
        exact ih e.on (by omega) (by omega)
    rw [h] at this; cases this

theorem fin_inv (R : Reg P im os nt l r call calli n0 σ φ) {L : Array Bool} {a : Act} {X : Cx} {p : Nat} (D : DInv P im os nt l r σ X0 L a X p) (hall : ∀ k, k < os.size → Done L k) : Inv X0 nt (σ os.size) a X.w := by
  have none_ : ∀ j y, os.size ≤ j → l[j]? = some y → False := by
    intro j y h1 h2
    have := (List.getElem?_eq_some_iff.1 h2).1
    rw [R.len] at this; omega
  refine ⟨X, rfl, D.stp, fun n v hv => ?_, D.exact R D.hp (Nat.le_refl _) (fun j h1 h2 => D.c2 j h1 h2 (hall j h2)) (fun j y h1 h2 _ => .inl (hall j h2)) (fun j y h1 h2 _ => (none_ j y h1 h2).elim), D.asz, D.dfs⟩
  refine D.tmp n os.size (Nat.le_refl _) (fun j x h1 _ _ => hall j h1) (fun j x h1 h2 _ => (none_ j x h1 h2).elim) v hv

theorem any_sound (hS : Sound P call calli) (R : Reg P im os nt l r call calli n0 σ φ) {Q : Exit → Act → World → Prop} (hQ : ∀ a w, Inv X0 nt (σ os.size) a w → Q .normal a w) :
    ∀ (fuel : Nat) (L : Array Bool) (a : Act) (w : World), L.size = os.size → todo os L ≤ fuel → (∃ X p, X.w = w ∧ DInv P im os nt l r σ X0 L a X p) → wpAny P .any os Q fuel L a w := by
  intro fuel
  induction fuel with
  | zero =>
    rintro L a w hL ht ⟨X, p, rfl, D⟩
    have hall : ∀ k, k < os.size → Done L k := by
      intro k hk
      have h0 : todo os L = 0 := by omega
      unfold todo at h0
      rw [List.countP_eq_zero] at h0
      have := h0 k (by simpa using hk)
      simpa [Done] using this
    refine ⟨?_, hQ a _ (fin_inv R D hall)⟩
    cases hr : Region.ready .any os L with
    | nil => rfl
    | cons k ks =>
      exfalso
      have hm : k ∈ Region.ready .any os L := by rw [hr]; simp
      obtain ⟨_, h2, h3⟩ := pre_of_ready R D.closed hm
      have := hall k h3
      unfold Done at this
      have hkl : k < L.size := by omega
      have e1 : L.getD k true = L[k] := by simp [Array.getD, hkl]
      have e2 : L.getD k false = L[k] := by simp [Array.getD, hkl]
      rw [e1] at h2; rw [e2, h2] at this; cases this
  | succ fuel ih =>
    rintro L a w hL ht ⟨X, p, rfl, D⟩
    refine ⟨fun hr => hQ a _ (fin_inv R D (all_done R hL hr)), fun k hk => ?_⟩
    refine dstep hS R D hL hk fun a' w' h => ih _ _ _ (by simpa using hL) ?_ h
    obtain ⟨_, h2, h3⟩ := pre_of_ready R D.closed hk
    have hun : ¬ Done L k := by
      unfold Done
      intro h
      have hkl : k < L.size := by omega
      have e1 : L.getD k true = L[k] := by simp [Array.getD, hkl]
      have e2 : L.getD k false = L[k] := by simp [Array.getD, hkl]
      rw [e1] at h2; rw [e2, h2] at h; cases h
    have := todo_set h3 hL hun
    omega

theorem first_inv (R : Reg P im os nt l r call calli n0 σ φ) {a : Act} {w : World} (hI : Inv X0 nt (σ 0) a w) : ∃ X p, X.w = { w with drawn := w.drawn + 1 } ∧ DInv P im os nt l r σ X0 (Array.replicate os.size false) a X p := by
  obtain ⟨X, rfl, hst, hT, hH, hsz, hdf⟩ := hI
  have nd : ∀ k, ¬ Done (Array.replicate os.size false) k := by
    intro k h
    unfold Done at h
    by_cases hk : k < os.size <;> simp [Array.getD, hk] at h
  obtain ⟨s1, s2⟩ := HR.world (Y := { X with w := { X.w with drawn := X.w.drawn + 1 } }) hH rfl rfl rfl rfl rfl rfl rfl
  refine ⟨{ X with w := { X.w with drawn := X.w.drawn + 1 } }, 0, rfl, ?_⟩
  refine ⟨fun k o _ h => absurd h (nd k), hst.trans s1, Nat.zero_le _, fun j x oi h => by omega, fun j _ _ h => absurd h (nd j), fun id o h => ?_, ?_, fun n i hi h1 h2 v hv => ?_, hsz, hdf⟩
  · obtain ⟨L, h1, _⟩ := hH.obj id o h
    exact hH.dom id L h1
  · refine s2.weak (fun id ob h => ⟨ob, [], ?_, .inl rfl⟩) (fun id h => ?_) (fun id h => .inl h)
    · rcases gw_rel h with h | ⟨j, _, _, h, _⟩
      · exact h.2
      · exact absurd h (nd j)
    · rcases h.1 with h | ⟨j, _, _, h, _⟩
      · exact h
      · exact absurd h (nd j)
  · have := R.frame (n := n) (i := 0) (j := i) (Nat.zero_le _) hi (fun m x _ h4 h5 h6 => nd m (h1 m x h4 h5 h6))
    rw [this] at hv
    have := hT n v hv
    exact ⟨this.1, VR.mono s1.toExt _ _ this.2⟩
end
end Go.Ab
namespace Go.Ab
open Go.RowKit (Below)
variable {P : Program}
section
variable {im : Imp} {nt : Nat} {call : CallP} {calli : CallI} {X0 : Cx}

theorem undrawn_spec : ∀ {l : List Inf}, (undrawn l).length = l.length ∧ ∀ (k : Nat) (x : Inf), l[k]? = some x → (undrawn l)[k]? = some (⟨x.o.dst, x.grd, 0, x.i⟩ : OpI)
  | [] => by simp [undrawn]
  | x :: r => by
    obtain ⟨h1, h2⟩ := undrawn_spec (l := r)
    refine ⟨by simp [undrawn, h1], fun k y hk => ?_⟩
    cases k with
    | zero => simp at hk; subst hk; rfl
    | succ k => simpa [undrawn] using h2 k y (by simpa using hk)

theorem region_sound (hm : P.follows .mixedOrders = true) (hS : Sound P call calli) {id : Nat} {os : Array Oper} {draw : Bool} {c : C} (hc : region P im nt os draw = some c) {again : C → St → Option (Ex × St)} {s s' : St} {e : Ex} (hrun : code call calli again c s = some (e, s'))
    {Q : Exit → Act → World → Prop} {a : Act} {w : World} (hI : Inv X0 nt s a w) (hQ : ∀ a w, Inv X0 nt s' a w → Q .normal a w) : e = .norm ∧ (Code.region id os draw).wp P Q a w := by
  simp only [region] at hc
  split at hc
  · rename_i l hl
    rw [CheckFast.beforeF_eq] at hl
    obtain ⟨hb, hc⟩ := bif_some' hc
    simp only [Bool.and_eq_true] at hb
    obtain ⟨h1, h2⟩ := infs_spec hl
    have hlen : l.length = os.size := by rw [h1]; simp
    have dok : ∀ (k : Nat) (o : Oper), os[k]? = some o → ∀ d, o.dst = some d → d < nt ∧ d < 65535 := by
      intro k o ho d hd
      have hmem : o ∈ os.toList := by
        have := List.mem_of_getElem? (l := os.toList) (i := k) (a := o) (by simpa using ho)
        exact this
      have := List.all_eq_true.1 hb.1 o hmem
      simp only [dstOk, hd, Bool.and_eq_true] at this
      exact ⟨Nat.le_of_ble_eq_true this.1, Nat.le_of_ble_eq_true this.2⟩
    have fromReg : ∀ r, code call calli again (.reg r) s = some (e, s') → e = .norm ∧ ops call calli s.h.next [] r s = some s' := by
      intro r h
      simp only [code] at h
      split at h
      · simp only [Option.some.injEq, Prod.mk.injEq] at h
        obtain ⟨rfl, rfl⟩ := h
        rename_i h2; exact ⟨rfl, h2⟩
      · cases h
    cases draw with
    | false =>
      simp only [cond_false, Option.some.injEq] at hc
      subst hc
      obtain ⟨rfl, hops⟩ := fromReg _ hrun
      obtain ⟨u1, u2⟩ := undrawn_spec (l := l)
      refine ⟨rfl, wp_region ?_⟩
      have := steps_exact (P := P) (im := im) (os := os) (nt := nt) hS (X0 := X0) (Q := Q) (undrawn l) 0 s s' [] a w hops (by rw [u1, hlen]; omega) (fun j oi hj => by
        have hjl : j < os.size := by have := (List.getElem?_eq_some_iff.1 hj).1; rw [u1, hlen] at this; exact this
        have ho : os[j]? = some os[j] := Array.getElem?_eq_getElem hjl
        obtain ⟨x, p1, p2, p3, p4, p5, p6⟩ := h2 j os[j] (by simp)
        rw [u2 j x p1] at hj
        simp only [Option.some.injEq] at hj
        subst hj
        exact ⟨os[j], by rw [Nat.zero_add]; exact ho, by simp [p2], by simp [p3], p4, dok j _ ho⟩) hI hQ
      rw [List.range_eq_range']
      simpa using this
    | true =>
      simp only [cond_true] at hc
      split at hc
      · rename_i r hr
        simp only [Option.some.injEq] at hc
        subst hc
        obtain ⟨rfl, hops⟩ := fromReg _ hrun
        refine ⟨rfl, wp_region_any hm ?_⟩
        obtain ⟨d1, d2⟩ := drawn_spec l 0 [] r (by simp) (by simpa using hr)
        obtain ⟨σ, φ, t1, t2, t3, t4⟩ := trace_of hops
        have R : Reg P im os nt l r call calli s.h.next σ φ := by
          have get : ∀ k o, os[k]? = some o → ∃ x oi, l[k]? = some x ∧ r[k]? = some oi ∧ x.o = o ∧ OpOk P im os nt o oi ∧ x.names = namesOf o x.i x.grd ∧ x.before = (Region.before os).getD k 0 ∧ DAt l r k x oi ∧ Step1 call calli s.h.next oi (σ k) (φ k) (σ (k + 1)) (φ (k + 1)) := by
            intro k o ho
            obtain ⟨x, p1, p2, p3, p4, p5, p6⟩ := h2 k o (by simpa using ho)
            obtain ⟨oi, q1, q2⟩ := d2 k x (Nat.zero_le _) p1
            rw [Nat.sub_zero] at q1
            refine ⟨x, oi, p1, q1, p2, ⟨by rw [q2.dst, p2], by rw [q2.ins, p3], by rw [q2.grd]; exact p4, dok k o ho⟩, p5, by rw [p6, List.getD_eq_getElem?_getD, Array.getD_eq_getD_getElem?, Array.getElem?_toList], q2, t4 k oi q1⟩
          refine ⟨hlen, get, hb.2, by rw [t1], fun k hk => ?_⟩
          obtain ⟨x, oi, _, _, _, _, _, _, _, hst⟩ := get k _ (Array.getElem?_eq_getElem hk)
          exact step_mono hS.mono hst
        have hI' : Inv X0 nt (σ 0) a w := by rw [t1]; exact hI
        have hrl : r.length = os.size := by rw [d1, hlen]; omega
        exact any_sound hS R (by rw [← hrl, t3]; exact hQ) os.size _ a _ (by simp) (by
          unfold todo
          exact Nat.le_trans List.countP_le_length (by simp)) (first_inv R hI')
      · cases hc
  · cases hc

def exO : Ex → Exit
  | .norm => .normal
  | .exit id => .exit id
  | .ret => .ret

/-- What 'again' stands for: some rounds of the loop. -/
def LoopOk (P : Program) (again : C → St → Option (Ex × St)) : Prop :=
  ∀ (im : Imp) (nt : Nat) (x : Code) (y : C) (s s' : St) (e : Ex), comp P im nt x = some y → again (.loop y) s = some (e, s') → ∃ n, ∀ (X0 : Cx) (Q : Exit → Act → World → Prop) (a : Act) (w : World), Inv X0 nt s a w → (∀ a w, Inv X0 nt s' a w → Q (exO e) a w) → Code.rounds P x Q n a w

theorem code_sound (hm : P.follows .mixedOrders = true) (hS : Sound P call calli) {again : C → St → Option (Ex × St)} (hA : LoopOk P again) : ∀ (x : Code) (y : C), comp P im nt x = some y → ∀ (s s' : St) (e : Ex), code call calli again y s = some (e, s') →
    ∀ (Q : Exit → Act → World → Prop) (a : Act) (w : World), Inv X0 nt s a w → (∀ a w, Inv X0 nt s' a w → Q (exO e) a w) → x.wp P Q a w := by
  intro x
  induction x with
  | skip =>
    intro y hy s s' e h Q a w hI hQ
    simp only [comp, Option.some.injEq] at hy; subst hy
    simp only [code, Option.some.injEq, Prod.mk.injEq] at h
    obtain ⟨rfl, rfl⟩ := h
    exact wp_skip (hQ a w hI)
  | label n =>
    intro y hy s s' e h Q a w hI hQ
    simp only [comp, Option.some.injEq] at hy; subst hy
    simp only [code, Option.some.injEq, Prod.mk.injEq] at h
    obtain ⟨rfl, rfl⟩ := h
    exact wp_label (hQ a w hI)
  | region id os d =>
    intro y hy s s' e h Q a w hI hQ
    simp only [comp] at hy
    have hr : ∀ (he : e = .norm), ∀ a w, Inv X0 nt s' a w → Q .normal a w := fun he a w hi => by have := hQ a w hi; rw [he] at this; exact this
    have he : e = .norm := (region_sound (id := id) (X0 := X0) (Q := fun _ _ _ => True) hm hS hy h hI (fun _ _ _ => trivial)).1
    exact (region_sound hm hS hy h hI (hr he)).2
  | seq x1 x2 ih1 ih2 =>
    intro y hy s s' e h Q a w hI hQ
    simp only [comp] at hy
    split at hy
    · rename_i y1 y2 h1 h2
      simp only [Option.some.injEq] at hy; subst hy
      simp only [code] at h
      refine wp_seq ?_
      cases hc : code call calli again y1 s with
      | none => rw [hc] at h; cases h
      | some r =>
        obtain ⟨e1, s1⟩ := r
        rw [hc] at h
        cases e1 with
        | norm => exact ih1 y1 h1 s s1 .norm hc _ a w hI fun a1 w1 hI1 => ih2 y2 h2 s1 s' e h Q a1 w1 hI1 hQ
        | exit n =>
          simp only [Option.some.injEq, Prod.mk.injEq] at h
          obtain ⟨rfl, rfl⟩ := h
          exact ih1 y1 h1 s s1 (.exit n) hc _ a w hI hQ
        | ret =>
          simp only [Option.some.injEq, Prod.mk.injEq] at h
          obtain ⟨rfl, rfl⟩ := h
          exact ih1 y1 h1 s s1 .ret hc _ a w hI hQ
    · cases hy
  | cond c x1 x2 ih1 ih2 =>
    intro y hy s s' e h Q a w hI hQ
    simp only [comp] at hy
    split at hy
    · rename_i c' y1 y2 hc h1 h2
      simp only [Option.some.injEq] at hy; subst hy
      simp only [code] at h
      obtain ⟨X, rfl, _, hT, _⟩ := id hI
      split at h
      · rename_i hb
        have := opd_sound hT hc hb; simp only [VR] at this
        exact wp_cond_true this (ih1 y1 h1 s s' e h Q a _ hI hQ)
      · rename_i hb
        have := opd_sound hT hc hb; simp only [VR] at this
        exact wp_cond_false this (ih2 y2 h2 s s' e h Q a _ hI hQ)
      · cases h
    · cases hy
  | block n x ih =>
    intro y hy s s' e h Q a w hI hQ
    simp only [comp] at hy
    split at hy
    · rename_i y1 h1
      simp only [Option.some.injEq] at hy; subst hy
      simp only [code] at h
      refine wp_block ?_
      cases hc : code call calli again y1 s with
      | none => rw [hc] at h; cases h
      | some r =>
        obtain ⟨e1, s1⟩ := r
        rw [hc] at h
        cases e1 with
        | norm =>
          simp only [Option.some.injEq, Prod.mk.injEq] at h
          obtain ⟨rfl, rfl⟩ := h
          exact ih y1 h1 s s1 .norm hc _ a w hI hQ
        | exit m =>
          simp only at h
          cases hb : Nat.beq m n with
          | true =>
            rw [hb, cond_true] at h
            simp only [Option.some.injEq, Prod.mk.injEq] at h
            obtain ⟨rfl, rfl⟩ := h
            have := Nat.eq_of_beq_eq_true hb; subst this
            refine ih y1 h1 s s1 (.exit m) hc _ a w hI fun a w hi => ?_
            simp only [exO, Exit.inBlock, if_true]
            exact hQ a w hi
          | false =>
            rw [hb, cond_false] at h
            simp only [Option.some.injEq, Prod.mk.injEq] at h
            obtain ⟨rfl, rfl⟩ := h
            have hne := Nat.ne_of_beq_eq_false hb
            refine ih y1 h1 s s1 (.exit m) hc _ a w hI fun a w hi => ?_
            simp only [exO, Exit.inBlock, if_neg hne]
            exact hQ a w hi
        | ret =>
          simp only [Option.some.injEq, Prod.mk.injEq] at h
          obtain ⟨rfl, rfl⟩ := h
          exact ih y1 h1 s s1 .ret hc _ a w hI hQ
    · cases hy
  | loop x ih =>
    intro y hy s s' e h Q a w hI hQ
    simp only [comp] at hy
    split at hy
    · rename_i y1 h1
      simp only [Option.some.injEq] at hy; subst hy
      simp only [code] at h
      cases hc : code call calli again y1 s with
      | none => rw [hc] at h; cases h
      | some r =>
        obtain ⟨e1, s1⟩ := r
        rw [hc] at h
        cases e1 with
        | norm =>
          obtain ⟨n, hn⟩ := hA im nt x y1 s1 s' e h1 h
          exact wp_loop_rounds (n + 1) (ih y1 h1 s s1 .norm hc _ a w hI fun a w hi => hn X0 Q a w hi hQ)
        | exit m =>
          simp only [Option.some.injEq, Prod.mk.injEq] at h
          obtain ⟨rfl, rfl⟩ := h
          exact wp_loop_rounds 1 (ih y1 h1 s s1 (.exit m) hc _ a w hI hQ)
        | ret =>
          simp only [Option.some.injEq, Prod.mk.injEq] at h
          obtain ⟨rfl, rfl⟩ := h
          exact wp_loop_rounds 1 (ih y1 h1 s s1 .ret hc _ a w hI hQ)
    · cases hy
  | scope x ih =>
    intro y hy s s' e h Q a w hI hQ
    simp only [comp] at hy
    refine wp_scope_straight (ih y hy s s' e h _ a w hI fun a w hi => ?_)
    have := hQ a w hi
    cases e <;> exact this
  | exit n =>
    intro y hy s s' e h Q a w hI hQ
    simp only [comp, Option.some.injEq] at hy; subst hy
    simp only [code, Option.some.injEq, Prod.mk.injEq] at h
    obtain ⟨rfl, rfl⟩ := h
    exact wp_exit (hQ a w hI)
  | ret =>
    intro y hy s s' e h Q a w hI hQ
    simp only [comp, Option.some.injEq] at hy; subst hy
    simp only [code, Option.some.injEq, Prod.mk.injEq] at h
    obtain ⟨rfl, rfl⟩ := h
    exact wp_ret (hQ a w hI)
  | _ => intro y hy; simp [comp] at hy
end
end Go.Ab
namespace Go.Ab
open Go.RowKit (Below)
variable {P : Program}

/-- A row handed out: where it lies, and what is known of it. -/
structure OutRow (Y : Cx) (g : Nat → Option AObj) (Sx : Nat → Prop) (n cls : Nat) (o : AObj) (L : Loc) : Prop where
  row : ∃ k es, o = .row k es n false ∧ L.k = k ∧ L.o + es.length * k ≤ L.sz ∧ ∀ W : Cx, W.w = Y.w → W.S = Sx → VRe W k es L.b L.o
  blk : ∃ c T, Y.w.heap[L.b]? = some (.cells c T (0, 0)) ∧ c.size = L.sz
  src : ∃ id k es L0, g id = some (.row k es cls false) ∧ Y.loc id = some L0 ∧ L0.b = L.b

def Out (Y : Cx) (g : Nat → Option AObj) (Sx : Nat → Prop) (n0 : Nat) (ex : List Nat) (rows : List AObj) (locs : List Loc) : Prop :=
  locs.length = rows.length ∧ ex.length = rows.length ∧ ∀ (m : Nat) (o : AObj), rows[m]? = some o → ∃ L c, locs[m]? = some L ∧ ex[m]? = some c ∧ OutRow Y g Sx (n0 + m) c o L

def At0 (W : Cx) (n0 : Nat) (locs : List Loc) : Prop := ∀ (m : Nat) (L : Loc), locs[m]? = some L → W.loc (n0 + m) = some L

theorem Out.append {Y : Cx} {g : Nat → Option AObj} {Sx : Nat → Prop} {n0 : Nat} {e1 e2 : List Nat} {r1 r2 : List AObj} {l1 l2 : List Loc} (h1 : Out Y g Sx n0 e1 r1 l1) (h2 : Out Y g Sx (n0 + r1.length) e2 r2 l2) : Out Y g Sx n0 (e1 ++ e2) (r1 ++ r2) (l1 ++ l2) := by
  refine ⟨by simp [h1.1, h2.1], by simp [h1.2.1, h2.2.1], fun m o hm => ?_⟩
  by_cases h : m < r1.length
  · rw [List.getElem?_append_left h] at hm
    obtain ⟨L, c, a1, a2, a3⟩ := h1.2.2 m o hm
    exact ⟨L, c, by rw [List.getElem?_append_left (by rw [h1.1]; exact h)]; exact a1, by rw [List.getElem?_append_left (by rw [h1.2.1]; exact h)]; exact a2, a3⟩
  · rw [List.getElem?_append_right (by omega)] at hm
    obtain ⟨L, c, a1, a2, a3⟩ := h2.2.2 _ o hm
    refine ⟨L, c, by rw [List.getElem?_append_right (by rw [h1.1]; omega), h1.1]; exact a1, by rw [List.getElem?_append_right (by rw [h1.2.1]; omega), h1.2.1]; exact a2, ?_⟩
    rwa [show n0 + r1.length + (m - r1.length) = n0 + m from by omega] at a3

theorem At0.left {W : Cx} {n0 : Nat} {l1 l2 : List Loc} (h : At0 W n0 (l1 ++ l2)) : At0 W n0 l1 := fun m L hm =>
  h m L (by rw [List.getElem?_append_left (List.getElem?_eq_some_iff.1 hm).1]; exact hm)
theorem At0.right {W : Cx} {n0 : Nat} {l1 l2 : List Loc} (h : At0 W n0 (l1 ++ l2)) : At0 W (n0 + l1.length) l2 := fun m L hm => by
  rw [show n0 + l1.length + m = n0 + (l1.length + m) from by omega]
  refine h _ L ?_
  rw [List.getElem?_append_right (by omega), show l1.length + m - l1.length = m from by omega]; exact hm

theorem frz_plain {get : Nat → Option AObj} {v : AV} {r : AV × List Nat} {n : Nat} (h : frz get 17 v = some r) (h1 : ∀ cs, v ≠ .agg cs) (h2 : ∀ cs, v ≠ .tup cs) (f : Nat) : adp n f r.1 = (r.1, []) := by
  cases f with
  | zero => simp [adp]
  | succ f =>
    cases v <;> simp only [frz] at h <;>
      first
        | (simp only [Option.some.injEq] at h; subst h; rfl)
        | (cases h; done)
        | exact absurd rfl (h1 _)
        | exact absurd rfl (h2 _)
        | (split at h
           · first
             | (obtain ⟨_, h⟩ := bif_some' h
                split at h
                · simp only [Option.some.injEq] at h; subst h; rfl
                · cases h)
             | (split at h
                · split at h
                  · simp only [Option.some.injEq] at h; subst h; rfl
                  · cases h
                · cases h)
             | (simp only [Option.some.injEq] at h; subst h; rfl)
           · cases h)

theorem xpt_sound {Y : Cx} {g : Nat → Option AObj} {tp dom : Nat → Prop} (hH : HR Y g tp dom) {Sx : Nat → Prop} (hSx : ∀ b, Y.S b → Sx b) :
    ∀ (f : Nat) (v : AV) (res : AV) (ex fz : List Nat) (u : Value) (n0 : Nat), xpt g f v = some (res, ex, fz) → (∀ b, (Y.sealB g fz).S b → Sx b) → VR Y v u →
      ∃ locs, Out Y g Sx n0 ex (adp n0 f res).2 locs ∧ ∀ W : Cx, W.w = Y.w → W.S = Sx → At0 W n0 locs → VR W (adp n0 f res).1 u := by
  intro f
  induction f with
  | zero => intro v res ex fz u n0 h; simp [xpt] at h
  | succ f ih =>
    have emp : ∀ n0, Out Y g Sx n0 [] [] [] := fun n0 => ⟨rfl, rfl, fun m o h => by simp at h⟩
    have lst : ∀ (cs : List AV) (r : List AV × List Nat × List Nat) (us : List Value) (n0 : Nat), xptL (xpt g f) cs = some r → (∀ b, (Y.sealB g r.2.2).S b → Sx b) → VRs Y cs us →
        ∃ locs, Out Y g Sx n0 r.2.1 (adp.adpL f n0 r.1).2 locs ∧ ∀ W : Cx, W.w = Y.w → W.S = Sx → At0 W n0 locs → VRs W (adp.adpL f n0 r.1).1 us := by
      intro cs
      induction cs with
      | nil =>
        intro r us n0 h hs hv
        simp only [xptL, Option.some.injEq] at h; subst h
        exact ⟨[], emp n0, fun W _ _ _ => by simpa [adp.adpL, VRs] using hv⟩
      | cons c cs ihc =>
        intro r us n0 h hs hv
        simp only [xptL] at h
        split at h
        · rename_i a ha
          split at h
          · rename_i b hb
            simp only [Option.some.injEq] at h; subst h
            simp only [VRs] at hv
            obtain ⟨u, us', rfl, v1, v2⟩ := hv
            obtain ⟨l1, o1, w1⟩ := ih c a.1 a.2.1 a.2.2 u n0 ha (fun b' hb' => hs b' ((Y.seal_mono g fun d hd => by simp [hd]).S b' hb')) v1
            obtain ⟨l2, o2, w2⟩ := ihc b us' (n0 + (adp n0 f a.1).2.length) hb (fun b' hb' => hs b' ((Y.seal_mono g fun d hd => by simp [hd]).S b' hb')) v2
            refine ⟨l1 ++ l2, by simp only [adp.adpL]; exact o1.append o2, fun W hw hS hat => ?_⟩
            simp only [adp.adpL, VRs]
            refine ⟨u, us', rfl, w1 W hw hS hat.left, w2 W hw hS ?_⟩
            have := hat.right
            rwa [o1.1] at this
          · cases h
        · cases h
    intro v res ex fz u n0 h hs hv
    have dflt : (∀ cs, v ≠ .agg cs) → (∀ cs, v ≠ .tup cs) → (∃ r, frz g 17 v = some r ∧ (r.1, ([] : List Nat), r.2) = (res, ex, fz)) → ∃ locs, Out Y g Sx n0 ex (adp n0 (f + 1) res).2 locs ∧ ∀ W : Cx, W.w = Y.w → W.S = Sx → At0 W n0 locs → VR W (adp n0 (f + 1) res).1 u := by
      intro h1 h2 h3
      obtain ⟨r, hr, h3⟩ := h3
      · simp only [Prod.mk.injEq] at h3
        obtain ⟨rfl, rfl, rfl⟩ := h3
        rw [frz_plain hr h1 h2]
        exact ⟨[], emp n0, fun W hw hS _ => frz_sound hH (fun _ _ h => h) 17 W hw (by rw [hS]; exact hSx) v r u hr (by rw [hS]; exact hs) hv⟩
    cases v with
    | agg cs =>
      simp only [xpt] at h
      split at h
      · rename_i r hr
        simp only [Option.some.injEq, Prod.mk.injEq] at h
        obtain ⟨rfl, h⟩ := h
        simp only [VR] at hv
        obtain ⟨vs, rfl, hv⟩ := hv
        have e1 : r.2.1 = ex := by rw [h]
        have e2 : r.2.2 = fz := by rw [h]
        obtain ⟨locs, o1, w1⟩ := lst cs r vs.toList n0 hr (by rw [e2]; exact hs) hv
        refine ⟨locs, by simp only [adp]; rw [← e1]; exact o1, fun W hw hS hat => ?_⟩
        simp only [adp, VR]
        exact ⟨vs, rfl, w1 W hw hS hat⟩
      · cases h
    | tup cs =>
      simp only [xpt] at h
      split at h
      · rename_i r hr
        simp only [Option.some.injEq, Prod.mk.injEq] at h
        obtain ⟨rfl, h⟩ := h
        simp only [VR] at hv
        obtain ⟨vs, rfl, hv⟩ := hv
        have e1 : r.2.1 = ex := by rw [h]
        have e2 : r.2.2 = fz := by rw [h]
        obtain ⟨locs, o1, w1⟩ := lst cs r vs.toList n0 hr (by rw [e2]; exact hs) hv
        refine ⟨locs, by simp only [adp]; rw [← e1]; exact o1, fun W hw hS hat => ?_⟩
        simp only [adp, VR]
        exact ⟨vs, rfl, w1 W hw hS hat⟩
      · cases h
    | own k id i n =>
      simp only [xpt] at h
      split at h
      · rename_i k2 es cls sl hget
        obtain ⟨hb, h⟩ := bif_some' h
        split at h
        · rename_i r hr
          cases sl with
          | true =>
            simp only [cond_true, Option.some.injEq, Prod.mk.injEq] at h
            obtain ⟨rfl, rfl, rfl⟩ := h
            refine ⟨[], by simp only [adp]; exact emp n0, fun W hw hS _ => ?_⟩
            have hz : frz g (16 + 1) (.own k id i n) = some (.ro k r.1, cls :: r.2) := by
              generalize 16 = m16 at hr
              simp only [frz, hget, hb, cond_true, hr]
            have := frz_sound hH (fun _ _ h => h) 17 W hw (by rw [hS]; exact hSx) _ _ u hz (by rw [hS]; exact hs) hv
            simp only [adp]; exact this
          | false =>
            simp only [cond_false, Option.some.injEq, Prod.mk.injEq] at h
            obtain ⟨rfl, rfl, rfl⟩ := h
            simp only [VR] at hv
            obtain ⟨L, v1, v2, ad, c, rfl, v3, v4⟩ := hv
            have hb := Nat.le_of_ble_eq_true hb
            obtain ⟨L', e1, e2, e3, e4⟩ := hH.obj id _ hget
            rw [v1] at e1; cases e1
            have e4 : RowAt Y id k2 es false L := e4
            have hkk : k2 = k := by rw [← v2]; exact e4.kk.symm
            subst hkk
            have hlen : r.1.length = n := by rw [mapF_len hr]; simp; omega
            have hin : (i + n) * k2 ≤ es.length * k2 := Nat.mul_le_mul_right _ hb
            rw [Nat.add_mul] at hin
            have hfit := e4.fit
            refine ⟨[⟨L.b, L.o + i * k2, k2, L.sz⟩], ⟨by simp [adp], by simp [adp], fun m o hm => ?_⟩, fun W hw hS hat => ?_⟩
            · simp only [adp] at hm
              cases m with
              | succ m => simp at hm
              | zero =>
                simp only [List.getElem?_cons_zero, Option.some.injEq] at hm
                subst hm
                refine ⟨_, cls, rfl, rfl, ⟨k2, r.1, rfl, rfl, by show L.o + i * k2 + r.1.length * k2 ≤ L.sz; rw [hlen]; omega, fun W hw hS => VRe.of fun j e hj => ?_⟩, e4.blk, ⟨id, k2, es, L, hget, v1, rfl⟩⟩
                obtain ⟨x, cl, q1, q2, q3⟩ := mapF_get hr j e hj
                obtain ⟨p1, p2⟩ := ((e4.cells.drop i).take n).get q1
                refine ⟨by rw [mapF_len q2]; exact p1, VRc.of fun mm cc hcc => ?_⟩
                obtain ⟨y, cl', t1, t2, t3⟩ := mapF_get q2 mm cc hcc
                obtain ⟨g1, w0, g2, g3⟩ := p2.get t1
                refine ⟨frz_one t2 g1, w0, by rw [hw]; exact g2, frz_sound hH (fun _ _ h => h) 16 W hw (by rw [hS]; exact hSx) y (cc, cl') w0 t2 (fun b hb' => ?_) g3⟩
                rw [hS]
                exact hs b ((Y.seal_mono g fun d hd => q3 d (t3 d hd)).S b hb')
            · simp only [adp, VR]
              have hloc := hat 0 _ rfl
              refine ⟨_, hloc, rfl, ad, c, by rw [hlen], by rw [hlen]; exact v3, ?_⟩
              rcases v4 with v4 | ⟨v4, v5⟩
              · exact .inl v4
              · right
                refine ⟨by rw [v4]; simp, ?_⟩
                show L.o + i * k2 + (0 + c) * k2 ≤ L.sz
                rw [Nat.add_mul] at v5
                rw [Nat.zero_add]; omega
        · cases h
      · cases h
    | _ =>
      simp only [xpt] at h
      split at h
      · rename_i r hr
        exact dflt (by simp) (by simp) ⟨r, hr, by simpa only [Option.some.injEq] using h⟩
      · cases h
end Go.Ab
namespace Go.Ab
open Go.RowKit (Below)
variable {P : Program}

theorem ofL_get : ∀ (l : List AV) (i : Nat) (t : Tr AV) (n : Nat), i + l.length ≤ 65535 → (Tr.ofL l i t).get n = if i ≤ n ∧ n < i + l.length then l[n - i]? else t.get n
  | [], i, t, n, _ => by rw [if_neg (by simp)]; rfl
  | x :: r, i, t, n, h => by
    simp only [List.length_cons] at h
    rw [Tr.ofL, ofL_get r (i + 1) _ n (by omega), Tr.get_set _ _ _ _ (by omega)]
    by_cases h1 : i + 1 ≤ n ∧ n < i + 1 + r.length
    · rw [if_pos h1, if_pos (by simp; omega)]
      obtain ⟨m, rfl⟩ : ∃ m, n = i + 1 + m := ⟨n - (i + 1), by omega⟩
      rw [show i + 1 + m - (i + 1) = m from by omega, show i + 1 + m - i = m + 1 from by omega]
      simp
    · rw [if_neg h1]
      by_cases h2 : i = n
      · subst h2
        rw [if_pos rfl, if_pos (by simp)]
        simp
      · rw [if_neg h2, if_neg (by simp; omega)]

theorem entry_inv {X : Cx} {h : AH} {args : List AV} {vs : List Value} {nt : Nat} (hH : HRh X h) (hv : VRs X args vs) (hn : args.length ≤ nt) (hb : nt < 65535) :
    Inv X nt ⟨Tr.ofL args 0 .lf, h⟩ { tmps := vs.toArray ++ Array.replicate (nt - vs.toArray.size) undef, defers := [] } X.w := by
  have hl := hv.length
  refine ⟨X, rfl, Stp.refl X, fun n v hg => ?_, hH, by simp; omega, rfl⟩
  have hg : (Tr.ofL args 0 .lf).get n = some v := hg
  rw [ofL_get args 0 .lf n (by omega)] at hg
  split at hg
  · rename_i hin
    obtain ⟨u, hu, hr⟩ := hv.get (by simpa using hg)
    have hnl : n < vs.length := by omega
    refine ⟨by simp; omega, ?_⟩
    rw [Array.getD_eq_getD_getElem?, Array.getElem?_append_left (by simpa using hnl)]
    simp [hu]; exact hr
  · rw [Tr.get_lf] at hg; cases hg

/-- One result's reading. -/
def rvF (tmps : Array Value) : ResultVar → Sem Value
  | .tmp t => pure (tmps.getD t undef)
  | .cell ad t => do loadVar t (← asAddr (tmps.getD ad undef))

theorem results_eq (fn : Func) (tmps : Array Value) : results fn tmps = (do
    let vs ← fn.results.mapM (rvF tmps)
    pure (if h : vs.size = 1 then vs[0] else .tuple vs)) := by
  unfold results
  congr 1

theorem rvs_run {X : Cx} {s : St} {a : Act} {tp dom : Nat → Prop} (hH : HR X s.h.get tp dom) (hT : TR X s.t.get a) : ∀ {l : List ResultVar} {rs : List RV} {vs : List AV}, rvs P l = some rs → evRVs s rs = some vs →
    ∃ us : List Value, VRs X vs us ∧ (l.mapM (rvF a.tmps)).run P X.w = .ok us X.w
  | [], rs, vs, h1, h2 => by
    simp only [rvs, Option.some.injEq] at h1; subst h1
    simp only [evRVs, Option.some.injEq] at h2; subst h2
    exact ⟨[], by simp [VRs], by simp [Sem.run_pure]⟩
  | .tmp n :: r, rs, vs, h1, h2 => by
    simp only [rvs] at h1
    split at h1
    · rename_i l' hl
      simp only [Option.some.injEq] at h1; subst h1
      simp only [evRVs, evRV] at h2
      split at h2
      · rename_i v hv
        split at h2
        · rename_i vs' hvs
          simp only [Option.some.injEq] at h2; subst h2
          obtain ⟨us, g1, g2⟩ := rvs_run hH hT hl hvs
          refine ⟨a.tmps.getD n undef :: us, by simp only [VRs]; exact ⟨_, _, rfl, (hT n v hv).2, g1⟩, ?_⟩
          rw [List.mapM_cons]
          have q5 : (rvF a.tmps (.tmp n)).run P X.w = .ok (a.tmps.getD n undef) X.w := by simp only [rvF, Sem.run_pure]
          simp only [Sem.run_bind, q5, Sem.run_pure, Result.andThen_ok, g2]
        · cases h2
      · cases h2
    · cases h1
  | .cell n ty :: r, rs, vs, h1, h2 => by
    simp only [rvs] at h1
    split at h1
    · rename_i ag inf l' hg hinf hl
      obtain ⟨hk, rfl⟩ := bif_some h1
      simp only [evRVs] at h2
      split at h2
      · rename_i v hv
        split at h2
        · rename_i vs' hvs
          simp only [Option.some.injEq] at h2; subst h2
          obtain ⟨us, g1, g2⟩ := rvs_run hH hT hl hvs
          have ld : ∃ u ad, VR X v u ∧ a.tmps.getD n undef = .pointer (some ad) ∧ (loadVar ty ad).run P X.w = .ok u X.w := by
            simp only [evRV] at hv
            split at hv
            · rename_i cs j hn
              have e := (hT n _ hn).2
              simp only [VR] at e
              obtain ⟨b, o', e1, _, e3⟩ := e
              have e3 := VRc.move (Ext.unbare X) _ _ _ rfl e3
              obtain ⟨u, q1, q2⟩ := run_ld (P := P) hg hinf hk e3 hv
              exact ⟨u, _, q1, e1, by simpa [Instr.loadAt, Instr.sureAddr] using q2⟩
            · rename_i id i j hn
              split at hv
              · rename_i cs hcs
                have e := (hT n _ hn).2
                simp only [VR] at e
                obtain ⟨L, l1, e1⟩ := e
                unfold rowAt at hcs
                split at hcs
                · rename_i k es cls sl hget
                  obtain ⟨L', p1, _, _, p4⟩ := hH.obj id _ hget
                  rw [l1] at p1; cases p1
                  have p4 : RowAt X id k es sl L := p4
                  obtain ⟨_, ec⟩ := p4.cells.get hcs
                  rw [← p4.kk] at ec
                  obtain ⟨u, q1, q2⟩ := run_ld (P := P) hg hinf hk ec hv
                  exact ⟨u, _, q1, e1, by simpa [Instr.loadAt, Instr.sureAddr] using q2⟩
                · cases hcs
              · cases hv
            · cases hv
          obtain ⟨u, ad, q1, q2, q3⟩ := ld
          refine ⟨u :: us, by simp only [VRs]; exact ⟨_, _, rfl, q1, g1⟩, ?_⟩
          rw [List.mapM_cons]
          have q4 : (asAddr (a.tmps.getD n undef)).run P X.w = .ok ad X.w := by rw [q2]; simp [asAddr]
          have q5 : (rvF a.tmps (.cell n ty)).run P X.w = .ok u X.w := by simp only [rvF, Sem.run_bind, q4, Result.andThen_ok, q3]
          simp only [Sem.run_bind, q5, Sem.run_pure, Result.andThen_ok, g2]
        · cases h2
      · cases h2
    · cases h1

theorem results_run {X : Cx} {s : St} {a : Act} {fn : Func} {rs : List RV} {vs : List AV} (hH : HRh X s.h) (hT : TR X s.t.get a) (h1 : rvs P fn.results.toList = some rs) (h2 : evRVs s rs = some vs) : ∃ v, (results fn a.tmps).run P X.w = .ok v X.w ∧ VR X (tupOf vs) v := by
  obtain ⟨us, g1, g2⟩ := rvs_run hH hT h1 h2
  have hl := g1.length
  rw [results_eq, Array.mapM_eq_mapM_toList]
  have e1 : ((List.toArray <$> fn.results.toList.mapM (rvF a.tmps) : Sem (Array Value))).run P X.w = .ok us.toArray X.w := by
    rw [map_eq_pure_bind, Sem.run_bind, g2]; rfl
  rw [Sem.run_bind, e1, Result.andThen_ok, Sem.run_pure]
  refine ⟨_, rfl, ?_⟩
  match vs, us, g1, hl with
  | [v], [u], g1, _ =>
    simp only [VRs] at g1
    obtain ⟨u', us', e, h, _⟩ := g1
    cases e
    simpa [tupOf] using h
  | [], [], g1, _ => simp only [tupOf, VR]; exact ⟨#[], by simp, by simp [VRs]⟩
  | v :: v2 :: r, u :: u2 :: r2, g1, _ => simp only [tupOf, VR]; exact ⟨(u :: u2 :: r2).toArray, by simp, g1⟩
end Go.Ab
namespace Go.Ab
open Go.RowKit (Below)
variable {P : Program}

theorem fnOf_spec {im : Imp} {fn : Func} {ir : FnI} (h : fnOf P im fn = some ir) : ∃ c, fn.body = some c ∧ comp P im fn.ntmps c = some ir.body ∧ rvs P fn.results.toList = some ir.rs ∧ ir.np ≤ fn.ntmps ∧ fn.ntmps < 65535 ∧ fn.name ≠ "runtime.NumGoroutine" := by
  simp only [fnOf] at h
  split at h
  · rename_i c hb
    split at h
    · rename_i x r hx hr
      obtain ⟨hk, rfl⟩ := bif_some h
      simp only [Bool.and_eq_true] at hk
      exact ⟨c, hb, hx, hr, Nat.le_of_ble_eq_true hk.1.1, Nat.le_of_ble_eq_true hk.1.2, by simpa using hk.2⟩
    · cases h
  · cases h

/-- The compact functions are the program's. -/
def EnvOk (P : Program) (im : Nat → Imp) (F : Tr FnI) : Prop := ∀ g ir, F.get g = some ir → ∃ fn, P.funcs[g]? = some fn ∧ fnOf P (im g) fn = some ir

/-- What is taken for granted of some functions is so. -/
def PrimOk (P : Program) (prim : Nat → List AV → Option AV) : Prop := ∀ g args res, prim g args = some res → FnOk P g ∧ PC P g args res

theorem endOf_spec {fn : FnI} {x : Option (Ex × St)} {r : AV} {h' : AH} (h : endOf fn x = some (r, h')) : ∃ e s vs, x = some (e, s) ∧ (e = .norm ∨ e = .ret) ∧ evRVs s fn.rs = some vs ∧ r = tupOf vs ∧ h' = s.h := by
  unfold endOf at h
  split at h
  · rename_i s
    split at h
    · rename_i vs hv
      simp only [Option.some.injEq, Prod.mk.injEq] at h
      exact ⟨_, s, vs, rfl, .inl rfl, hv, h.1.symm, h.2.symm⟩
    · cases h
  · rename_i s
    split at h
    · rename_i vs hv
      simp only [Option.some.injEq, Prod.mk.injEq] at h
      exact ⟨_, s, vs, rfl, .inr rfl, hv, h.1.symm, h.2.symm⟩
    · cases h
  · cases h

/-- A body's run, from related arguments. -/
theorem body_sound (hm : P.follows .mixedOrders = true) {im : Imp} {fn : Func} {ir : FnI} {g : FuncId} (hg : P.funcs[g]? = some fn) (hir : fnOf P im fn = some ir) {call : CallP} {calli : CallI} (hS : Sound P call calli) {again : C → St → Option (Ex × St)} (hA : LoopOk P again)
    {args : List AV} {h h' : AH} {r : AV} (hl : args.length = ir.np) (hrun : endOf ir (code call calli again ir.body ⟨Tr.ofL args 0 .lf, h⟩) = some (r, h')) : CI P g args h r h' := by
  obtain ⟨c, hb, hc, hr, hn, hnb, _⟩ := fnOf_spec hir
  obtain ⟨e, s, vs, hcode, he, hvs, rfl, rfl⟩ := endOf_spec hrun
  intro X us hH hv
  refine calls_of_wp hg hb ?_
  refine code_sound (X0 := X) hm hS hA c ir.body hc _ s e hcode _ _ _ (entry_inv hH hv (by omega) hnb) fun a w hI => ?_
  obtain ⟨Y, rfl, y1, y2, y3, _, y5⟩ := hI
  obtain ⟨v, v1, v2⟩ := results_run y3 y2 hr hvs
  rcases he with rfl | rfl
  · exact ⟨y5, v, v1, v, rfl, Y, rfl, y1, v2, y3⟩
  · exact ⟨y5, v, v1, v, rfl, Y, rfl, y1, v2, y3⟩

theorem nodup_get : ∀ {l : List Nat}, nodup l = true → ∀ (i j c : Nat), l[i]? = some c → l[j]? = some c → i = j
  | [], _, i, j, c, h, _ => by simp at h
  | x :: r, h, i, j, c, hi, hj => by
    simp only [nodup, Bool.and_eq_true, Bool.not_eq_true'] at h
    cases i with
    | zero =>
      cases j with
      | zero => rfl
      | succ j =>
        simp at hi hj; subst hi
        have := List.mem_of_getElem? hj
        simp [this] at h
    | succ i =>
      cases j with
      | zero =>
        simp at hi hj; subst hj
        have := List.mem_of_getElem? hi
        simp [this] at h
      | succ j =>
        have := nodup_get h.2 i j c (by simpa using hi) (by simpa using hj)
        omega

/-- From a run in an empty heap to a call with frozen arguments. -/
theorem pc_of_ci {g : FuncId} {args : List AV} {r : AV} {h' : AH} {res : AV} (hc : CI P g args E0 r h') (hx : export1 (r, h') = some res) : PC P g args res := by
  intro w S vs hS hv
  let X0 : Cx := ⟨w, w.heap.size, S, fun _ => none⟩
  have hH : HRh X0 E0 := by
    constructor
    · intro id o h; simp [AH.get, E0, alook] at h
    · intro i j oi oj Li Lj h; simp [AH.get, E0, alook] at h
    · intro i j k es c s k' es' c' s' Li Lj _ h; simp [AH.get, E0, alook] at h
    · intro i j oi oj Li Lj _ _ h; simp [AH.get, E0, alook] at h
    · exact hS
    · exact Nat.le_refl _
    · intro id L h; cases h
  have hv' : VRs X0 args vs := VRs.mono (Ext.same (X := ⟨w, 0, S, fun _ => none⟩) (Y := X0) rfl (fun _ h => h) (fun _ _ h => by cases h)) _ _ hv
  refine (hc X0 vs hH hv').mono ?_
  rintro e w' ⟨v, rfl, Y, rfl, y1, y2, y3⟩
  refine ⟨v, rfl, ⟨⟨y1.os, y1.tape, y1.output, y1.size, y1.below⟩, fun n0 => ?_⟩⟩
  unfold export1 at hx
  split at hx
  · rename_i x hxp
    obtain ⟨hb, rfl⟩ := bif_some hx
    simp only [Bool.and_eq_true] at hb
    obtain ⟨res, ex, fz⟩ := x
    obtain ⟨z1, z2⟩ := y3.sealB fz
    obtain ⟨locs, o1, w1⟩ := xpt_sound (Sx := (Y.sealB h'.get fz).S) y3 (fun b hb => .inl hb) 4 r res ex fz v n0 hxp (fun b h => h) y2
    generalize hA : adp n0 4 res = A at o1 w1
    obtain ⟨q1, q2, q3⟩ := o1
    have hdead : ∀ o ∈ A.2, o ≠ AObj.dead := by
      intro o ho
      have := adp_rows 4 n0 res
      rw [hA] at this
      obtain ⟨k, es, c, rfl⟩ := this o ho; simp
    let W : Cx := ⟨Y.w, w.heap.size, (Y.sealB h'.get fz).S, fun j => if n0 ≤ j ∧ j < n0 + A.2.length then locs[j - n0]? else none⟩
    have hat : At0 W n0 locs := by
      intro m L hm
      have hml : m < locs.length := (List.getElem?_eq_some_iff.1 hm).1
      show (if _ then _ else _) = _
      rw [if_pos (by rw [← q1]; omega), show n0 + m - n0 = m from by omega]; exact hm
    have row : ∀ id o, addG (fun _ => none) n0 A.2 id = some o → ∃ L c, n0 ≤ id ∧ id < n0 + A.2.length ∧ W.loc id = some L ∧ ex[id - n0]? = some c ∧ OutRow Y h'.get (Y.sealB h'.get fz).S id c o L := by
      intro id o h
      rw [addG_get hdead] at h
      split at h
      · rename_i hin
        obtain ⟨L, c, p1, p2, p3⟩ := q3 _ o h
        refine ⟨L, c, hin.1, hin.2, ?_, p2, by rwa [show n0 + (id - n0) = id from by omega] at p3⟩
        show (if _ then _ else _) = _
        rw [if_pos hin]; exact p1
      · cases h
    have src : ∀ {id c o L}, OutRow Y h'.get (Y.sealB h'.get fz).S id c o L → w.heap.size ≤ L.b ∧ L.b < Y.w.heap.size := by
      intro id c o L h
      obtain ⟨id', k, es, L0, s1, s2, s3⟩ := h.src
      obtain ⟨M, m1, m2, m3, _⟩ := y3.obj id' _ s1
      rw [s2] at m1; cases m1
      rw [← s3]
      exact ⟨by rw [y1.base] at m2; exact m2, m3⟩
    have diff : ∀ {i j ci cj oi oj Li Lj}, OutRow Y h'.get (Y.sealB h'.get fz).S i ci oi Li → OutRow Y h'.get (Y.sealB h'.get fz).S j cj oj Lj → Li.b = Lj.b → ci = cj := by
      intro i j ci cj oi oj Li Lj h1 h2 hbb
      obtain ⟨a1, a2, a3, a4, s1, s2, s3⟩ := h1.src
      obtain ⟨b1, b2, b3, b4, t1, t2, t3⟩ := h2.src
      rcases y3.sep a1 b1 _ _ a4 b4 s1 t1 s2 t2 (by rw [s3, t3, hbb]) with e | ⟨c, c1, c2⟩
      · subst e; rw [s1] at t1; cases t1; rfl
      · simp only [clsOf, Option.some.injEq] at c1 c2; rw [c1, c2]
    have same : ∀ {i j oi oj Li Lj}, addG (fun _ => none) n0 A.2 i = some oi → addG (fun _ => none) n0 A.2 j = some oj → W.loc i = some Li → W.loc j = some Lj → Li.b = Lj.b → i = j := by
      intro i j oi oj Li Lj h1 h2 h3 h4 hbb
      obtain ⟨L1, c1, a1, a2, a3, a4, a5⟩ := row i oi h1
      obtain ⟨L2, c2, b1, b2, b3, b4, b5⟩ := row j oj h2
      rw [h3] at a3; cases a3
      rw [h4] at b3; cases b3
      have := diff a5 b5 hbb
      subst this
      have := nodup_get hb.1 _ _ _ a4 b4
      omega
    refine ⟨W, rfl, rfl, fun b hs => .inl (y1.S b hs), fun b hs hl => y1.sub b (z1.sub b hs (by rw [y1.base]; exact hl)) hl, w1 W rfl rfl hat, ?_⟩
    constructor
    · intro id o h
      obtain ⟨L, c, a1, a2, a3, a4, a5⟩ := row id o h
      obtain ⟨k, es, rfl, k1, k2, k3⟩ := a5.row
      obtain ⟨d1, d2⟩ := src a5
      refine ⟨L, a3, d1, d2, (⟨k1, a5.blk, k2, fun _ hs => ?_, k3 W rfl rfl⟩ : RowAt W id k es false L)⟩
      obtain ⟨id', k', es', L0, s1, s2, s3⟩ := a5.src
      have hcl : c ∉ fz := by
        have := List.all_eq_true.1 hb.2 c (List.mem_of_getElem? a4)
        simpa using this
      obtain ⟨M, m1, _, _, m4⟩ := z2.obj id' (seal1 fz (.row k' es' c false)) (by simp [sealG, s1])
      have m1' : Y.loc id' = some M := m1
      rw [s2] at m1'; cases m1'
      have m4 : RowAt (Y.sealB h'.get fz) id' k' es' (false || fz.contains c) L0 := m4
      have hs : (Y.sealB h'.get fz).S L.b := hs
      rw [← s3] at hs
      exact m4.free (by simp [hcl]) hs
    · intro i j oi oj Li Lj h1 h2 h3 h4 hbb; exact .inl (same h1 h2 h3 h4 hbb)
    · intro i j k es c s k' es' c' s' Li Lj _ h1 h2 h3 h4 hbb
      have := same h1 h2 h3 h4 hbb
      subst this
      rw [h1] at h2; cases h2
      rw [h3] at h4; cases h4
      exact Nat.le_refl _
    · intro i j oi oj Li Lj _ _ h1 h2 h3 h4 hbb; exact same h1 h2 h3 h4 hbb
    · exact fun b hs => z2.stab b hs
    · exact y1.size
    · intro id L h
      have h : (if n0 ≤ id ∧ id < n0 + A.2.length then locs[id - n0]? else none) = some L := h
      split at h
      · assumption
      · cases h
  · cases hx

theorem code_mono {call : CallP} {calli : CallI} (hmono : ∀ gi args h r h', calli gi args h = some (r, h') → h.next ≤ h'.next) {again : C → St → Option (Ex × St)} (hA : ∀ y s e s', again y s = some (e, s') → s.h.next ≤ s'.h.next) :
    ∀ (y : C) (s s' : St) (e : Ex), code call calli again y s = some (e, s') → s.h.next ≤ s'.h.next := by
  intro y
  induction y with
  | skip | exit | ret => intro s s' e h; simp only [code, Option.some.injEq, Prod.mk.injEq] at h; rw [← h.2]; exact Nat.le_refl _
  | reg r =>
    intro s s' e h
    simp only [code] at h
    split at h
    · rename_i h2
      simp only [Option.some.injEq, Prod.mk.injEq] at h
      obtain ⟨σ, φ, t1, _, t3, t4⟩ := trace_of h2
      have : ∀ k, k ≤ r.length → s.h.next ≤ (σ k).h.next := by
        intro k
        induction k with
        | zero => intro _; rw [t1]; exact Nat.le_refl _
        | succ k ih => intro hk; exact Nat.le_trans (ih (by omega)) (step_mono hmono (t4 k r[k] (List.getElem?_eq_getElem (by omega))))
      have := this r.length (Nat.le_refl _)
      rw [t3] at this
      rw [← h.2]; exact this
    · cases h
  | seq a b iha ihb =>
    intro s s' e h
    simp only [code] at h
    cases hc : code call calli again a s with
    | none => rw [hc] at h; cases h
    | some r =>
      obtain ⟨e1, s1⟩ := r
      have h1 := iha s s1 e1 hc
      rw [hc] at h
      cases e1 with
      | norm => exact Nat.le_trans h1 (ihb s1 s' e h)
      | exit n => simp only [Option.some.injEq, Prod.mk.injEq] at h; rw [← h.2]; exact h1
      | ret => simp only [Option.some.injEq, Prod.mk.injEq] at h; rw [← h.2]; exact h1
  | cond c a b iha ihb =>
    intro s s' e h
    simp only [code] at h
    split at h
    · exact iha s s' e h
    · exact ihb s s' e h
    · cases h
  | block n a ih =>
    intro s s' e h
    simp only [code] at h
    cases hc : code call calli again a s with
    | none => rw [hc] at h; cases h
    | some r =>
      obtain ⟨e1, s1⟩ := r
      have h1 := ih s s1 e1 hc
      rw [hc] at h
      cases e1 with
      | norm => simp only [Option.some.injEq, Prod.mk.injEq] at h; rw [← h.2]; exact h1
      | exit m =>
        simp only at h
        cases hb : Nat.beq m n with
        | true => rw [hb, cond_true] at h; simp only [Option.some.injEq, Prod.mk.injEq] at h; rw [← h.2]; exact h1
        | false => rw [hb, cond_false] at h; simp only [Option.some.injEq, Prod.mk.injEq] at h; rw [← h.2]; exact h1
      | ret => simp only [Option.some.injEq, Prod.mk.injEq] at h; rw [← h.2]; exact h1
  | loop a ih =>
    intro s s' e h
    simp only [code] at h
    cases hc : code call calli again a s with
    | none => rw [hc] at h; cases h
    | some r =>
      obtain ⟨e1, s1⟩ := r
      have h1 := ih s s1 e1 hc
      rw [hc] at h
      cases e1 with
      | norm => exact Nat.le_trans h1 (hA _ s1 e s' h)
      | exit n => simp only [Option.some.injEq, Prod.mk.injEq] at h; rw [← h.2]; exact h1
      | ret => simp only [Option.some.injEq, Prod.mk.injEq] at h; rw [← h.2]; exact h1

/-- Every level is sound. -/
theorem lv_sound (hm : P.follows .mixedOrders = true) {im : Nat → Imp} {F : Tr FnI} {prim : Nat → List AV → Option AV} (hF : EnvOk P im F) (hp : PrimOk P prim) :
    ∀ f, Sound P (lv prim F f).p (lv prim F f).i ∧ LoopOk P (lv prim F f).a ∧ ∀ y s e s', (lv prim F f).a y s = some (e, s') → s.h.next ≤ s'.h.next := by
  intro f
  induction f with
  | zero => exact ⟨⟨fun _ _ _ h => (by cases h), fun _ _ _ _ _ h => (by cases h), fun _ _ _ _ _ h => (by cases h)⟩, fun _ _ _ _ _ _ _ _ h => (by cases h), fun _ _ _ _ h => (by cases h)⟩
  | succ f ih =>
    obtain ⟨i1, i2, i3⟩ := ih
    have fok : ∀ g ir, F.get g = some ir → FnOk P g := by
      intro g ir h
      obtain ⟨fn, h1, h2⟩ := hF g ir h
      obtain ⟨c, hb, _, _, _, _, hn⟩ := fnOf_spec h2
      exact ⟨fn, h1, by rw [hb]; rfl, hn⟩
    refine ⟨⟨fun g args res h => ?_, fun g args h0 r h' h => ?_, fun g args h0 r h' h => ?_⟩, ?_, ?_⟩
    · have h : (match F.get g with
        | some fn => bif Nat.beq args.length fn.np then (match endOf fn (code (lv prim F f).p (lv prim F f).i (lv prim F f).a fn.body ⟨Tr.ofL args 0 .lf, E0⟩) with | some r => export1 r | none => none) else none
        | none => prim g args) = some res := h
      split at h
      · rename_i ir hg
        obtain ⟨hl, h⟩ := bif_some' h
        split at h
        · rename_i r hr
          obtain ⟨r, h'⟩ := r
          obtain ⟨fn, h1, h2⟩ := hF g ir hg
          exact ⟨fok g ir hg, pc_of_ci (body_sound hm h1 h2 i1 i2 (Nat.eq_of_beq_eq_true hl) hr) h⟩
        · cases h
      · exact hp g args res h
    · have h : (match F.get g with
        | some fn => bif Nat.beq args.length fn.np then endOf fn (code (lv prim F f).p (lv prim F f).i (lv prim F f).a fn.body ⟨Tr.ofL args 0 .lf, h0⟩) else none
        | none => none) = some (r, h') := h
      split at h
      · rename_i ir hg
        obtain ⟨hl, h⟩ := bif_some' h
        obtain ⟨fn, h1, h2⟩ := hF g ir hg
        exact ⟨fok g ir hg, body_sound hm h1 h2 i1 i2 (Nat.eq_of_beq_eq_true hl) h⟩
      · cases h
    · have h : (match F.get g with
        | some fn => bif Nat.beq args.length fn.np then endOf fn (code (lv prim F f).p (lv prim F f).i (lv prim F f).a fn.body ⟨Tr.ofL args 0 .lf, h0⟩) else none
        | none => none) = some (r, h') := h
      split at h
      · rename_i ir hg
        obtain ⟨hl, h⟩ := bif_some' h
        obtain ⟨e, s, vs, hcode, _, _, _, rfl⟩ := endOf_spec h
        exact code_mono i1.mono i3 _ _ _ _ hcode
      · cases h
    · intro im' nt x y s s' e hc h
      have h : code (lv prim F f).p (lv prim F f).i (lv prim F f).a (.loop y) s = some (e, s') := h
      simp only [code] at h
      cases hcc : code (lv prim F f).p (lv prim F f).i (lv prim F f).a y s with
      | none => rw [hcc] at h; cases h
      | some r =>
        obtain ⟨e1, s1⟩ := r
        rw [hcc] at h
        cases e1 with
        | norm =>
          obtain ⟨n, hn⟩ := i2 im' nt x y s1 s' e hc h
          refine ⟨n + 1, fun X0 Q a w hI hQ => ?_⟩
          exact code_sound (X0 := X0) hm i1 i2 x y hc s s1 .norm hcc _ a w hI fun a w hi => hn X0 Q a w hi hQ
        | exit m =>
          simp only [Option.some.injEq, Prod.mk.injEq] at h
          obtain ⟨rfl, rfl⟩ := h
          exact ⟨1, fun X0 Q a w hI hQ => code_sound (X0 := X0) hm i1 i2 x y hc s s1 (.exit m) hcc _ a w hI hQ⟩
        | ret =>
          simp only [Option.some.injEq, Prod.mk.injEq] at h
          obtain ⟨rfl, rfl⟩ := h
          exact ⟨1, fun X0 Q a w hI hQ => code_sound (X0 := X0) hm i1 i2 x y hc s s1 .ret hcc _ a w hI hQ⟩
    · intro y s e s' h
      exact code_mono i1.mono i3 y s s' e h
end Go.Ab
