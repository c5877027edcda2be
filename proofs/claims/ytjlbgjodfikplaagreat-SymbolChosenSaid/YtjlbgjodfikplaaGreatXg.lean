/- Which functions run in the caller's heap; a tree's entries, one by one. -/
import Derived.Test.YtjlbgjodfikplaaGreatXf0
import Derived.Test.YtjlbgjodfikplaaGreatXf1
import Derived.Test.YtjlbgjodfikplaaGreatXf2
import Derived.Test.YtjlbgjodfikplaaGreatXb
set_option linter.unusedVariables false
set_option linter.unusedSimpArgs false
namespace Go.Ab
def F : Tr FnI := (.nd none (.nd none (.nd (some c3) (.nd (some c7) (.nd none (.nd (some c31) (.nd (some c63) (.nd (some c127) (.nd (some c255) .lf .lf) .lf) (.nd (some c191) .lf .lf)) (.nd none (.nd (some c159) (.nd (some c287) .lf .lf) .lf) (.nd (some c223) .lf .lf))) (.nd none (.nd (some c79) (.nd (some c143) (.nd (some c271) .lf .lf) .lf) (.nd (some c207) .lf .lf)) (.nd (some c111) (.nd (some c175) (.nd (some c303) .lf .lf) .lf) (.nd (some c239) .lf .lf)))) (.nd (some c23) (.nd none (.nd (some c71) (.nd none (.nd (some c263) .lf .lf) .lf) (.nd (some c199) .lf .lf)) (.nd (some c103) (.nd (some c167) (.nd (some c295) .lf .lf) .lf) (.nd (some c231) .lf .lf))) (.nd none (.nd (some c87) (.nd (some c151) (.nd (some c279) .lf .lf) .lf) (.nd (some c215) .lf .lf)) (.nd (some c119) (.nd (some c183) .lf .lf) (.nd (some c247) .lf .lf))))) (.nd none (.nd (some c19) (.nd none (.nd (some c67) (.nd (some c131) (.nd (some c259) .lf .lf) .lf) (.nd (some c195) .lf .lf)) (.nd none (.nd (some c163) (.nd (some c291) .lf .lf) .lf) (.nd (some c227) .lf .lf))) (.nd none (.nd none (.nd (some c147) (.nd (some c275) .lf .lf) .lf) (.nd (some c211) .lf .lf)) (.nd (some c115) (.nd (some c179) (.nd (some c307) .lf .lf) .lf) (.nd (some c243) .lf .lf)))) (.nd (some c27) (.nd none (.nd (some c75) (.nd (some c139) (.nd (some c267) .lf .lf) .lf) (.nd (some c203) .lf .lf)) (.nd (some c107) (.nd (some c171) (.nd (some c299) .lf .lf) .lf) (.nd (some c235) .lf .lf))) (.nd (some c59) (.nd none (.nd (some c155) (.nd (some c283) .lf .lf) .lf) (.nd (some c219) .lf .lf)) (.nd (some c123) (.nd (some c187) .lf .lf) (.nd (some c251) .lf .lf)))))) (.nd (some c5) (.nd none (.nd (some c17) (.nd (some c33) (.nd (some c65) (.nd (some c129) (.nd (some c257) .lf .lf) .lf) (.nd (some c193) .lf .lf)) (.nd none (.nd (some c161) (.nd (some c289) .lf .lf) .lf) (.nd (some c225) .lf .lf))) (.nd none (.nd none (.nd (some c145) (.nd (some c273) .lf .lf) .lf) (.nd (some c209) .lf .lf)) (.nd (some c113) (.nd none (.nd (some c305) .lf .lf) .lf) (.nd (some c241) .lf .lf)))) (.nd (some c25) (.nd none (.nd (some c73) (.nd none (.nd (some c265) .lf .lf) .lf) (.nd (some c201) .lf .lf)) (.nd (some c105) (.nd (some c169) .lf .lf) (.nd (some c233) .lf .lf))) (.nd (some c57) (.nd (some c89) (.nd (some c153) (.nd (some c281) .lf .lf) .lf) (.nd (some c217) .lf .lf)) (.nd (some c121) (.nd (some c185) .lf .lf) (.nd (some c249) .lf .lf))))) (.nd none (.nd (some c21) (.nd none (.nd (some c69) (.nd (some c133) (.nd (some c261) .lf .lf) .lf) (.nd (some c197) .lf .lf)) (.nd (some c101) (.nd (some c165) (.nd (some c293) .lf .lf) .lf) (.nd (some c229) .lf .lf))) (.nd none (.nd (some c85) (.nd (some c149) (.nd (some c277) .lf .lf) .lf) (.nd (some c213) .lf .lf)) (.nd (some c117) (.nd (some c181) (.nd (some c309) .lf .lf) .lf) (.nd (some c245) .lf .lf)))) (.nd (some c29) (.nd none (.nd (some c77) (.nd (some c141) (.nd (some c269) .lf .lf) .lf) (.nd (some c205) .lf .lf)) (.nd (some c109) (.nd (some c173) (.nd (some c301) .lf .lf) .lf) (.nd (some c237) .lf .lf))) (.nd (some c61) (.nd (some c93) (.nd (some c157) (.nd (some c285) .lf .lf) .lf) (.nd (some c221) .lf .lf)) (.nd (some c125) (.nd (some c189) .lf .lf) (.nd (some c253) .lf .lf))))))) (.nd none (.nd (some c4) (.nd (some c8) (.nd none (.nd (some c32) (.nd (some c64) (.nd (some c128) (.nd (some c256) .lf .lf) .lf) (.nd (some c192) .lf .lf)) (.nd none (.nd (some c160) (.nd (some c288) .lf .lf) .lf) (.nd (some c224) .lf .lf))) (.nd none (.nd (some c80) (.nd (some c144) (.nd (some c272) .lf .lf) .lf) (.nd (some c208) .lf .lf)) (.nd (some c112) (.nd none (.nd (some c304) .lf .lf) .lf) (.nd (some c240) .lf .lf)))) (.nd (some c24) (.nd (some c40) (.nd (some c72) .lf (.nd (some c200) .lf .lf)) (.nd (some c104) (.nd (some c168) (.nd (some c296) .lf .lf) .lf) (.nd (some c232) .lf .lf))) (.nd none (.nd (some c88) (.nd (some c152) (.nd (some c280) .lf .lf) .lf) (.nd (some c216) .lf .lf)) (.nd (some c120) (.nd (some c184) .lf .lf) (.nd (some c248) .lf .lf))))) (.nd none (.nd (some c20) (.nd none (.nd (some c68) (.nd (some c132) (.nd (some c260) .lf .lf) .lf) (.nd (some c196) .lf .lf)) (.nd (some c100) (.nd (some c164) (.nd (some c292) .lf .lf) .lf) (.nd (some c228) .lf .lf))) (.nd none (.nd (some c84) (.nd (some c148) (.nd (some c276) .lf .lf) .lf) (.nd (some c212) .lf .lf)) (.nd (some c116) (.nd (some c180) (.nd (some c308) .lf .lf) .lf) (.nd (some c244) .lf .lf)))) (.nd (some c28) (.nd (some c44) (.nd (some c76) (.nd (some c140) (.nd (some c268) .lf .lf) .lf) (.nd (some c204) .lf .lf)) (.nd (some c108) (.nd (some c172) (.nd (some c300) .lf .lf) .lf) (.nd (some c236) .lf .lf))) (.nd (some c60) (.nd (some c92) (.nd (some c156) (.nd (some c284) .lf .lf) .lf) (.nd (some c220) .lf .lf)) (.nd (some c124) (.nd (some c188) .lf .lf) (.nd (some c252) .lf .lf)))))) (.nd (some c6) (.nd none (.nd (some c18) (.nd none (.nd (some c66) (.nd (some c130) (.nd (some c258) .lf .lf) .lf) (.nd (some c194) .lf .lf)) (.nd (some c98) (.nd (some c162) (.nd (some c290) .lf .lf) .lf) (.nd (some c226) .lf .lf))) (.nd (some c50) (.nd none (.nd (some c146) (.nd (some c274) .lf .lf) .lf) (.nd (some c210) .lf .lf)) (.nd (some c114) (.nd (some c178) (.nd (some c306) .lf .lf) .lf) (.nd (some c242) .lf .lf)))) (.nd (some c26) (.nd none (.nd (some c74) .lf (.nd (some c202) .lf .lf)) (.nd (some c106) (.nd (some c170) (.nd (some c298) .lf .lf) .lf) (.nd (some c234) .lf .lf))) (.nd (some c58) (.nd (some c90) (.nd (some c154) (.nd (some c282) .lf .lf) .lf) (.nd (some c218) .lf .lf)) (.nd (some c122) (.nd (some c186) .lf .lf) (.nd (some c250) .lf .lf))))) (.nd none (.nd (some c22) (.nd none (.nd (some c70) (.nd (some c134) (.nd (some c262) .lf .lf) .lf) (.nd (some c198) .lf .lf)) (.nd (some c102) (.nd (some c166) (.nd (some c294) .lf .lf) .lf) (.nd (some c230) .lf .lf))) (.nd none (.nd (some c86) (.nd (some c150) (.nd (some c278) .lf .lf) .lf) (.nd (some c214) .lf .lf)) (.nd (some c118) (.nd (some c182) (.nd (some c310) .lf .lf) .lf) (.nd (some c246) .lf .lf)))) (.nd (some c30) (.nd none (.nd (some c78) (.nd (some c142) (.nd (some c270) .lf .lf) .lf) (.nd (some c206) .lf .lf)) (.nd (some c110) (.nd (some c174) (.nd (some c302) .lf .lf) .lf) (.nd (some c238) .lf .lf))) (.nd (some c62) (.nd none (.nd (some c158) (.nd (some c286) .lf .lf) .lf) (.nd (some c222) .lf .lf)) (.nd (some c126) (.nd (some c190) .lf .lf) (.nd (some c254) .lf .lf))))))))
end Go.Ab
namespace Go.Ab
def impL : List Nat := [104, 140, 141, 166, 181, 182, 183, 187, 204, 205, 218, 219, 238, 239, 240, 241, 242, 243, 244, 245, 257, 260, 274, 276, 277, 278, 285, 287, 288, 289, 290, 291, 292, 294, 295, 301, 302, 303, 304, 305, 306, 308, 309, 310]
def inL : List Nat → Nat → Bool
  | [], _ => false
  | x :: r, n => Nat.beq x n || inL r n
def imG (g : Nat) : Imp := ⟨inL impL, Nat.beq g 179⟩

def TAll (p : Nat → FnI → Prop) : (Nat → Nat) → Tr FnI → Prop
  | _, .lf => True
  | φ, .nd v l r => (∀ x, v = some x → p (φ 0) x) ∧ TAll p (fun j => φ (2 * j + 1)) l ∧ TAll p (fun j => φ (2 * j + 2)) r

theorem TAll.get {p : Nat → FnI → Prop} : ∀ {t : Tr FnI} {φ : Nat → Nat}, TAll p φ t → ∀ n x, t.get n = some x → p (φ n) x
  | .lf, _, _, n, x, h => by simp [Tr.get] at h
  | .nd v l r, φ, ha, n, x, h => by
    cases n with
    | zero => exact ha.1 x h
    | succ m =>
      simp only [Tr.get] at h
      cases hb : Nat.beq (m % 2) 0 with
      | true =>
        rw [hb, cond_true] at h
        have := TAll.get ha.2.1 _ x h
        have hm := Nat.eq_of_beq_eq_true hb
        rwa [show 2 * (m / 2) + 1 = m + 1 from by omega] at this
      | false =>
        rw [hb, cond_false] at h
        have := TAll.get ha.2.2 _ x h
        have hm := Nat.ne_of_beq_eq_false hb
        rwa [show 2 * (m / 2) + 2 = m + 1 from by omega] at this

def EntOk (P : Program) (g : Nat) (ir : FnI) : Prop := (P.funcs[g]?).bind (fnOf P (imG g)) = some ir

theorem TAll.env {P : Program} {F : Tr FnI} (h : TAll (EntOk P) (fun j => j) F) : EnvOk P imG F := by
  intro g ir hg
  have := h.get g ir hg
  unfold EntOk at this
  cases hf : P.funcs[g]? with
  | none => rw [hf] at this; cases this
  | some fn => rw [hf] at this; exact ⟨fn, rfl, this⟩
end Go.Ab
