/- Part of the proof of FeatureFinds: my own evaluator over abstract values, and what it answers. -/
import Derived.Test.YtjlbgjodfikplaaGreatXg
import Derived.Test.YtjlbgjodfikplaaGreatProg
import Derived.KernelRfl
set_option linter.unusedVariables false
set_option linter.unusedSimpArgs false
namespace Go.Ab
open Go.Proofs
set_option maxRecDepth 10000
theorem e9 : (Tryz.prog.funcs[9]?).bind (fnOf Tryz.prog (imG 9)) = some c9 := by kernel_rfl
theorem e24 : (Tryz.prog.funcs[24]?).bind (fnOf Tryz.prog (imG 24)) = some c24 := by kernel_rfl
theorem e30 : (Tryz.prog.funcs[30]?).bind (fnOf Tryz.prog (imG 30)) = some c30 := by kernel_rfl
theorem e31 : (Tryz.prog.funcs[31]?).bind (fnOf Tryz.prog (imG 31)) = some c31 := by kernel_rfl
theorem e32 : (Tryz.prog.funcs[32]?).bind (fnOf Tryz.prog (imG 32)) = some c32 := by kernel_rfl
theorem e33 : (Tryz.prog.funcs[33]?).bind (fnOf Tryz.prog (imG 33)) = some c33 := by kernel_rfl
theorem e34 : (Tryz.prog.funcs[34]?).bind (fnOf Tryz.prog (imG 34)) = some c34 := by kernel_rfl
theorem e35 : (Tryz.prog.funcs[35]?).bind (fnOf Tryz.prog (imG 35)) = some c35 := by kernel_rfl
theorem e36 : (Tryz.prog.funcs[36]?).bind (fnOf Tryz.prog (imG 36)) = some c36 := by kernel_rfl
theorem e37 : (Tryz.prog.funcs[37]?).bind (fnOf Tryz.prog (imG 37)) = some c37 := by kernel_rfl
theorem e38 : (Tryz.prog.funcs[38]?).bind (fnOf Tryz.prog (imG 38)) = some c38 := by kernel_rfl
theorem e39 : (Tryz.prog.funcs[39]?).bind (fnOf Tryz.prog (imG 39)) = some c39 := by kernel_rfl
theorem e40 : (Tryz.prog.funcs[40]?).bind (fnOf Tryz.prog (imG 40)) = some c40 := by kernel_rfl
theorem e41 : (Tryz.prog.funcs[41]?).bind (fnOf Tryz.prog (imG 41)) = some c41 := by kernel_rfl
theorem e42 : (Tryz.prog.funcs[42]?).bind (fnOf Tryz.prog (imG 42)) = some c42 := by kernel_rfl
theorem e43 : (Tryz.prog.funcs[43]?).bind (fnOf Tryz.prog (imG 43)) = some c43 := by kernel_rfl
theorem e45 : (Tryz.prog.funcs[45]?).bind (fnOf Tryz.prog (imG 45)) = some c45 := by kernel_rfl
theorem e47 : (Tryz.prog.funcs[47]?).bind (fnOf Tryz.prog (imG 47)) = some c47 := by kernel_rfl
theorem e50 : (Tryz.prog.funcs[50]?).bind (fnOf Tryz.prog (imG 50)) = some c50 := by kernel_rfl
theorem e53 : (Tryz.prog.funcs[53]?).bind (fnOf Tryz.prog (imG 53)) = some c53 := by kernel_rfl
theorem e64 : (Tryz.prog.funcs[64]?).bind (fnOf Tryz.prog (imG 64)) = some c64 := by kernel_rfl
theorem e65 : (Tryz.prog.funcs[65]?).bind (fnOf Tryz.prog (imG 65)) = some c65 := by kernel_rfl
theorem e66 : (Tryz.prog.funcs[66]?).bind (fnOf Tryz.prog (imG 66)) = some c66 := by kernel_rfl
theorem e67 : (Tryz.prog.funcs[67]?).bind (fnOf Tryz.prog (imG 67)) = some c67 := by kernel_rfl
theorem e68 : (Tryz.prog.funcs[68]?).bind (fnOf Tryz.prog (imG 68)) = some c68 := by kernel_rfl
theorem e69 : (Tryz.prog.funcs[69]?).bind (fnOf Tryz.prog (imG 69)) = some c69 := by kernel_rfl
theorem e70 : (Tryz.prog.funcs[70]?).bind (fnOf Tryz.prog (imG 70)) = some c70 := by kernel_rfl
theorem e71 : (Tryz.prog.funcs[71]?).bind (fnOf Tryz.prog (imG 71)) = some c71 := by kernel_rfl
theorem e72 : (Tryz.prog.funcs[72]?).bind (fnOf Tryz.prog (imG 72)) = some c72 := by kernel_rfl
theorem e73 : (Tryz.prog.funcs[73]?).bind (fnOf Tryz.prog (imG 73)) = some c73 := by kernel_rfl
theorem e74 : (Tryz.prog.funcs[74]?).bind (fnOf Tryz.prog (imG 74)) = some c74 := by kernel_rfl
theorem e75 : (Tryz.prog.funcs[75]?).bind (fnOf Tryz.prog (imG 75)) = some c75 := by kernel_rfl
theorem e76 : (Tryz.prog.funcs[76]?).bind (fnOf Tryz.prog (imG 76)) = some c76 := by kernel_rfl
theorem e77 : (Tryz.prog.funcs[77]?).bind (fnOf Tryz.prog (imG 77)) = some c77 := by kernel_rfl
theorem e78 : (Tryz.prog.funcs[78]?).bind (fnOf Tryz.prog (imG 78)) = some c78 := by kernel_rfl
theorem e79 : (Tryz.prog.funcs[79]?).bind (fnOf Tryz.prog (imG 79)) = some c79 := by kernel_rfl
theorem e80 : (Tryz.prog.funcs[80]?).bind (fnOf Tryz.prog (imG 80)) = some c80 := by kernel_rfl
theorem e81 : (Tryz.prog.funcs[81]?).bind (fnOf Tryz.prog (imG 81)) = some c81 := by kernel_rfl
theorem e82 : (Tryz.prog.funcs[82]?).bind (fnOf Tryz.prog (imG 82)) = some c82 := by kernel_rfl
theorem e83 : (Tryz.prog.funcs[83]?).bind (fnOf Tryz.prog (imG 83)) = some c83 := by kernel_rfl
theorem e84 : (Tryz.prog.funcs[84]?).bind (fnOf Tryz.prog (imG 84)) = some c84 := by kernel_rfl
theorem e89 : (Tryz.prog.funcs[89]?).bind (fnOf Tryz.prog (imG 89)) = some c89 := by kernel_rfl
theorem e90 : (Tryz.prog.funcs[90]?).bind (fnOf Tryz.prog (imG 90)) = some c90 := by kernel_rfl
theorem e91 : (Tryz.prog.funcs[91]?).bind (fnOf Tryz.prog (imG 91)) = some c91 := by kernel_rfl
theorem e93 : (Tryz.prog.funcs[93]?).bind (fnOf Tryz.prog (imG 93)) = some c93 := by kernel_rfl
theorem e95 : (Tryz.prog.funcs[95]?).bind (fnOf Tryz.prog (imG 95)) = some c95 := by kernel_rfl
theorem e96 : (Tryz.prog.funcs[96]?).bind (fnOf Tryz.prog (imG 96)) = some c96 := by kernel_rfl
theorem e97 : (Tryz.prog.funcs[97]?).bind (fnOf Tryz.prog (imG 97)) = some c97 := by kernel_rfl
theorem e98 : (Tryz.prog.funcs[98]?).bind (fnOf Tryz.prog (imG 98)) = some c98 := by kernel_rfl
theorem e104 : (Tryz.prog.funcs[104]?).bind (fnOf Tryz.prog (imG 104)) = some c104 := by kernel_rfl
theorem e105 : (Tryz.prog.funcs[105]?).bind (fnOf Tryz.prog (imG 105)) = some c105 := by kernel_rfl
theorem e106 : (Tryz.prog.funcs[106]?).bind (fnOf Tryz.prog (imG 106)) = some c106 := by kernel_rfl
theorem e107 : (Tryz.prog.funcs[107]?).bind (fnOf Tryz.prog (imG 107)) = some c107 := by kernel_rfl
theorem e108 : (Tryz.prog.funcs[108]?).bind (fnOf Tryz.prog (imG 108)) = some c108 := by kernel_rfl
theorem e109 : (Tryz.prog.funcs[109]?).bind (fnOf Tryz.prog (imG 109)) = some c109 := by kernel_rfl
theorem e110 : (Tryz.prog.funcs[110]?).bind (fnOf Tryz.prog (imG 110)) = some c110 := by kernel_rfl
theorem e111 : (Tryz.prog.funcs[111]?).bind (fnOf Tryz.prog (imG 111)) = some c111 := by kernel_rfl
theorem e112 : (Tryz.prog.funcs[112]?).bind (fnOf Tryz.prog (imG 112)) = some c112 := by kernel_rfl
theorem e116 : (Tryz.prog.funcs[116]?).bind (fnOf Tryz.prog (imG 116)) = some c116 := by kernel_rfl
theorem e117 : (Tryz.prog.funcs[117]?).bind (fnOf Tryz.prog (imG 117)) = some c117 := by kernel_rfl
theorem e118 : (Tryz.prog.funcs[118]?).bind (fnOf Tryz.prog (imG 118)) = some c118 := by kernel_rfl
theorem e119 : (Tryz.prog.funcs[119]?).bind (fnOf Tryz.prog (imG 119)) = some c119 := by kernel_rfl
theorem e120 : (Tryz.prog.funcs[120]?).bind (fnOf Tryz.prog (imG 120)) = some c120 := by kernel_rfl
theorem e121 : (Tryz.prog.funcs[121]?).bind (fnOf Tryz.prog (imG 121)) = some c121 := by kernel_rfl
theorem e122 : (Tryz.prog.funcs[122]?).bind (fnOf Tryz.prog (imG 122)) = some c122 := by kernel_rfl
theorem e123 : (Tryz.prog.funcs[123]?).bind (fnOf Tryz.prog (imG 123)) = some c123 := by kernel_rfl
theorem e124 : (Tryz.prog.funcs[124]?).bind (fnOf Tryz.prog (imG 124)) = some c124 := by kernel_rfl
theorem e125 : (Tryz.prog.funcs[125]?).bind (fnOf Tryz.prog (imG 125)) = some c125 := by kernel_rfl
theorem e131 : (Tryz.prog.funcs[131]?).bind (fnOf Tryz.prog (imG 131)) = some c131 := by kernel_rfl
theorem e134 : (Tryz.prog.funcs[134]?).bind (fnOf Tryz.prog (imG 134)) = some c134 := by kernel_rfl
end Go.Ab
