/- Which functions run in the caller's heap; a tree's entries, one by one. -/
import Derived.Test.YtjlbgjodfikplaaGreatXf0
import Derived.Test.YtjlbgjodfikplaaGreatXf1
import Derived.Test.YtjlbgjodfikplaaGreatXb
set_option linter.unusedVariables false
set_option linter.unusedSimpArgs false
namespace Go.Ab
def F : Tr FnI := (.nd none (.nd none (.nd none (.nd none (.nd none (.nd (some c31) .lf (.nd (some c95) (.nd (some c159) (.nd (some c287) .lf .lf) .lf) (.nd (some c223) .lf .lf))) (.nd (some c47) (.nd (some c79) (.nd (some c143) .lf .lf) (.nd (some c207) .lf .lf)) (.nd (some c111) (.nd none (.nd (some c303) .lf .lf) .lf) (.nd (some c239) .lf .lf)))) (.nd none (.nd (some c39) (.nd (some c71) (.nd (some c135) (.nd (some c263) .lf .lf) .lf) .lf) (.nd none (.nd (some c167) (.nd (some c295) .lf .lf) .lf) .lf)) (.nd none (.nd none (.nd none (.nd (some c279) .lf .lf) .lf) .lf) (.nd (some c119) (.nd (some c183) .lf .lf) (.nd (some c247) .lf .lf))))) (.nd none (.nd none (.nd (some c35) (.nd (some c67) (.nd (some c131) (.nd (some c259) .lf .lf) .lf) .lf) (.nd none (.nd (some c163) (.nd (some c291) .lf .lf) .lf) .lf)) (.nd none (.nd (some c83) (.nd (some c147) (.nd (some c275) .lf .lf) .lf) (.nd (some c211) .lf .lf)) (.nd none (.nd (some c179) .lf .lf) (.nd (some c243) .lf .lf)))) (.nd none (.nd (some c43) (.nd (some c75) (.nd none (.nd (some c267) .lf .lf) .lf) (.nd (some c203) .lf .lf)) (.nd (some c107) .lf .lf)) (.nd none (.nd (some c91) (.nd none (.nd (some c283) .lf .lf) .lf) (.nd (some c219) .lf .lf)) (.nd (some c123) (.nd (some c187) .lf .lf) (.nd (some c251) .lf .lf)))))) (.nd none (.nd (some c9) (.nd none (.nd (some c33) (.nd (some c65) (.nd none (.nd (some c257) .lf .lf) .lf) .lf) (.nd (some c97) (.nd (some c161) (.nd (some c289) .lf .lf) .lf) .lf)) (.nd none (.nd (some c81) (.nd (some c145) .lf .lf) (.nd (some c209) .lf .lf)) (.nd none (.nd none (.nd (some c305) .lf .lf) .lf) (.nd (some c241) .lf .lf)))) (.nd none (.nd (some c41) (.nd (some c73) (.nd (some c137) (.nd (some c265) .lf .lf) .lf) .lf) (.nd (some c105) (.nd (some c169) .lf .lf) .lf)) (.nd none (.nd (some c89) (.nd none (.nd (some c281) .lf .lf) .lf) (.nd (some c217) .lf .lf)) (.nd (some c121) (.nd (some c185) .lf .lf) (.nd (some c249) .lf .lf))))) (.nd none (.nd none (.nd (some c37) (.nd (some c69) (.nd none (.nd (some c261) .lf .lf) .lf) .lf) (.nd none (.nd (some c165) (.nd (some c293) .lf .lf) .lf) .lf)) (.nd (some c53) (.nd none (.nd none (.nd (some c277) .lf .lf) .lf) (.nd (some c213) .lf .lf)) (.nd (some c117) (.nd (some c181) (.nd (some c309) .lf .lf) .lf) (.nd (some c245) .lf .lf)))) (.nd none (.nd (some c45) (.nd (some c77) (.nd (some c141) .lf .lf) (.nd (some c205) .lf .lf)) (.nd (some c109) (.nd none (.nd (some c301) .lf .lf) .lf) .lf)) (.nd none (.nd (some c93) (.nd (some c157) (.nd (some c285) .lf .lf) .lf) (.nd (some c221) .lf .lf)) (.nd (some c125) (.nd (some c189) .lf .lf) .lf)))))) (.nd none (.nd none (.nd none (.nd none (.nd (some c32) (.nd (some c64) .lf .lf) (.nd (some c96) (.nd (some c160) (.nd (some c288) .lf .lf) .lf) (.nd (some c224) .lf .lf))) (.nd none (.nd (some c80) (.nd (some c144) .lf .lf) (.nd (some c208) .lf .lf)) (.nd (some c112) (.nd (some c176) (.nd (some c304) .lf .lf) .lf) (.nd (some c240) .lf .lf)))) (.nd (some c24) (.nd (some c40) (.nd (some c72) (.nd (some c136) .lf .lf) .lf) (.nd (some c104) (.nd (some c168) (.nd (some c296) .lf .lf) .lf) .lf)) (.nd none (.nd none (.nd none (.nd (some c280) .lf .lf) .lf) .lf) (.nd (some c120) (.nd (some c184) .lf .lf) (.nd (some c248) .lf .lf))))) (.nd none (.nd none (.nd (some c36) (.nd (some c68) (.nd none (.nd (some c260) .lf .lf) .lf) .lf) (.nd none (.nd (some c164) (.nd (some c292) .lf .lf) .lf) .lf)) (.nd none (.nd (some c84) (.nd none (.nd (some c276) .lf .lf) .lf) (.nd (some c212) .lf .lf)) (.nd (some c116) (.nd (some c180) (.nd (some c308) .lf .lf) .lf) (.nd (some c244) .lf .lf)))) (.nd none (.nd none (.nd (some c76) (.nd (some c140) (.nd (some c268) .lf .lf) .lf) (.nd (some c204) .lf .lf)) (.nd (some c108) .lf .lf)) (.nd none (.nd none (.nd (some c156) .lf .lf) (.nd (some c220) .lf .lf)) (.nd (some c124) (.nd (some c188) .lf .lf) (.nd (some c252) .lf .lf)))))) (.nd none (.nd none (.nd none (.nd (some c34) (.nd (some c66) (.nd none (.nd (some c258) .lf .lf) .lf) .lf) (.nd (some c98) (.nd (some c162) (.nd (some c290) .lf .lf) .lf) .lf)) (.nd (some c50) (.nd (some c82) (.nd (some c146) (.nd (some c274) .lf .lf) .lf) (.nd (some c210) .lf .lf)) (.nd none (.nd (some c178) (.nd (some c306) .lf .lf) .lf) (.nd (some c242) .lf .lf)))) (.nd none (.nd (some c42) (.nd (some c74) .lf (.nd (some c202) .lf .lf)) (.nd (some c106) (.nd (some c170) (.nd (some c298) .lf .lf) .lf) .lf)) (.nd none (.nd (some c90) (.nd none (.nd (some c282) .lf .lf) .lf) (.nd (some c218) .lf .lf)) (.nd (some c122) (.nd (some c186) .lf .lf) (.nd (some c250) .lf .lf))))) (.nd none (.nd none (.nd (some c38) (.nd (some c70) (.nd (some c134) (.nd (some c262) .lf .lf) .lf) .lf) (.nd none (.nd (some c166) (.nd (some c294) .lf .lf) .lf) .lf)) (.nd none (.nd none (.nd none (.nd (some c278) .lf .lf) .lf) .lf) (.nd (some c118) (.nd (some c182) (.nd (some c310) .lf .lf) .lf) (.nd (some c246) .lf .lf)))) (.nd (some c30) (.nd none (.nd (some c78) (.nd (some c142) .lf .lf) (.nd (some c206) .lf .lf)) (.nd (some c110) (.nd none (.nd (some c302) .lf .lf) .lf) (.nd (some c238) .lf .lf))) (.nd none (.nd none (.nd (some c158) (.nd (some c286) .lf .lf) .lf) (.nd (some c222) .lf .lf)) (.nd none (.nd (some c190) .lf .lf) .lf)))))))
end Go.Ab
namespace Go.Ab
def impL : List Nat := [104, 140, 141, 166, 181, 182, 183, 187, 204, 205, 218, 219, 238, 239, 240, 241, 242, 243, 244, 245, 257, 260, 274, 276, 277, 278, 285, 287, 288, 289, 290, 291, 292, 294, 295, 301, 302, 303, 304, 305, 306, 308, 309, 310]
def inL : List Nat → Nat → Bool
  | [], _ => false
  | x :: r, n => Nat.beq x n || inL r n
/-- Functions whose composite slices stand from their making. -/
def mkvL : List Nat := [35, 82]
def imG (g : Nat) : Imp := ⟨inL impL, Nat.beq g 179, inL mkvL g⟩

def TAll (p : Nat → FnI → Prop) : (Nat → Nat) → Tr FnI → Prop
  | _, .lf => True
  | φ, .nd v l r => (∀ x, v = some x → p (φ 0) x) ∧ TAll p (fun j => φ (2 * j + 1)) l ∧ TAll p (fun j => φ (2 * j + 2)) r

theorem TAll.get {p : Nat → FnI → Prop} : ∀ {t : Tr FnI} {φ : Nat → Nat}, TAll p φ t → ∀ n x, t.get n = some x → p (φ n) x
  | .lf, _, _, n, x, h => by simp [Tr.get] at h
  | .nd v l r, φ, ha, n, x, h => by
    cases n with
    | zero => exact ha.1 x h
    | succ m =>
      simp only [Tr.get] at h
      cases hb : Nat.beq (m % 2) 0 with
      | true =>
        rw [hb, cond_true] at h
        have := TAll.get ha.2.1 _ x h
        have hm := Nat.eq_of_beq_eq_true hb
        rwa [show 2 * (m / 2) + 1 = m + 1 from by omega] at this
      | false =>
        rw [hb, cond_false] at h
        have := TAll.get ha.2.2 _ x h
        have hm := Nat.ne_of_beq_eq_false hb
        rwa [show 2 * (m / 2) + 2 = m + 1 from by omega] at this

def EntOk (P : Program) (g : Nat) (ir : FnI) : Prop := (P.funcs[g]?).bind (fnOf P (imG g)) = some ir

theorem TAll.env {P : Program} {F : Tr FnI} (h : TAll (EntOk P) (fun j => j) F) : EnvOk P imG F := by
  intro g ir hg
  have := h.get g ir hg
  unfold EntOk at this
  cases hf : P.funcs[g]? with
  | none => rw [hf] at this; cases this
  | some fn => rw [hf] at this; exact ⟨fn, rfl, this⟩
end Go.Ab
