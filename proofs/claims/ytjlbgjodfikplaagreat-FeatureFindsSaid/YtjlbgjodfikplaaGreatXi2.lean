/- Part of the proof of FeatureFinds: my own evaluator over abstract values, and what it answers. -/
import Derived.Test.YtjlbgjodfikplaaGreatXg
import Derived.Test.YtjlbgjodfikplaaGreatProg
import Derived.KernelRfl
set_option linter.unusedVariables false
set_option linter.unusedSimpArgs false
namespace Go.Ab
open Go.Proofs
set_option maxRecDepth 10000
theorem e248 : (Tryz.prog.funcs[248]?).bind (fnOf Tryz.prog (imG 248)) = some c248 := by kernel_rfl
theorem e249 : (Tryz.prog.funcs[249]?).bind (fnOf Tryz.prog (imG 249)) = some c249 := by kernel_rfl
theorem e250 : (Tryz.prog.funcs[250]?).bind (fnOf Tryz.prog (imG 250)) = some c250 := by kernel_rfl
theorem e251 : (Tryz.prog.funcs[251]?).bind (fnOf Tryz.prog (imG 251)) = some c251 := by kernel_rfl
theorem e252 : (Tryz.prog.funcs[252]?).bind (fnOf Tryz.prog (imG 252)) = some c252 := by kernel_rfl
theorem e257 : (Tryz.prog.funcs[257]?).bind (fnOf Tryz.prog (imG 257)) = some c257 := by kernel_rfl
theorem e258 : (Tryz.prog.funcs[258]?).bind (fnOf Tryz.prog (imG 258)) = some c258 := by kernel_rfl
theorem e259 : (Tryz.prog.funcs[259]?).bind (fnOf Tryz.prog (imG 259)) = some c259 := by kernel_rfl
theorem e260 : (Tryz.prog.funcs[260]?).bind (fnOf Tryz.prog (imG 260)) = some c260 := by kernel_rfl
theorem e261 : (Tryz.prog.funcs[261]?).bind (fnOf Tryz.prog (imG 261)) = some c261 := by kernel_rfl
theorem e262 : (Tryz.prog.funcs[262]?).bind (fnOf Tryz.prog (imG 262)) = some c262 := by kernel_rfl
theorem e263 : (Tryz.prog.funcs[263]?).bind (fnOf Tryz.prog (imG 263)) = some c263 := by kernel_rfl
theorem e265 : (Tryz.prog.funcs[265]?).bind (fnOf Tryz.prog (imG 265)) = some c265 := by kernel_rfl
theorem e267 : (Tryz.prog.funcs[267]?).bind (fnOf Tryz.prog (imG 267)) = some c267 := by kernel_rfl
theorem e268 : (Tryz.prog.funcs[268]?).bind (fnOf Tryz.prog (imG 268)) = some c268 := by kernel_rfl
theorem e274 : (Tryz.prog.funcs[274]?).bind (fnOf Tryz.prog (imG 274)) = some c274 := by kernel_rfl
theorem e275 : (Tryz.prog.funcs[275]?).bind (fnOf Tryz.prog (imG 275)) = some c275 := by kernel_rfl
theorem e276 : (Tryz.prog.funcs[276]?).bind (fnOf Tryz.prog (imG 276)) = some c276 := by kernel_rfl
theorem e277 : (Tryz.prog.funcs[277]?).bind (fnOf Tryz.prog (imG 277)) = some c277 := by kernel_rfl
theorem e278 : (Tryz.prog.funcs[278]?).bind (fnOf Tryz.prog (imG 278)) = some c278 := by kernel_rfl
theorem e279 : (Tryz.prog.funcs[279]?).bind (fnOf Tryz.prog (imG 279)) = some c279 := by kernel_rfl
theorem e280 : (Tryz.prog.funcs[280]?).bind (fnOf Tryz.prog (imG 280)) = some c280 := by kernel_rfl
theorem e281 : (Tryz.prog.funcs[281]?).bind (fnOf Tryz.prog (imG 281)) = some c281 := by kernel_rfl
theorem e282 : (Tryz.prog.funcs[282]?).bind (fnOf Tryz.prog (imG 282)) = some c282 := by kernel_rfl
theorem e283 : (Tryz.prog.funcs[283]?).bind (fnOf Tryz.prog (imG 283)) = some c283 := by kernel_rfl
theorem e285 : (Tryz.prog.funcs[285]?).bind (fnOf Tryz.prog (imG 285)) = some c285 := by kernel_rfl
theorem e286 : (Tryz.prog.funcs[286]?).bind (fnOf Tryz.prog (imG 286)) = some c286 := by kernel_rfl
theorem e287 : (Tryz.prog.funcs[287]?).bind (fnOf Tryz.prog (imG 287)) = some c287 := by kernel_rfl
theorem e288 : (Tryz.prog.funcs[288]?).bind (fnOf Tryz.prog (imG 288)) = some c288 := by kernel_rfl
theorem e289 : (Tryz.prog.funcs[289]?).bind (fnOf Tryz.prog (imG 289)) = some c289 := by kernel_rfl
theorem e290 : (Tryz.prog.funcs[290]?).bind (fnOf Tryz.prog (imG 290)) = some c290 := by kernel_rfl
theorem e291 : (Tryz.prog.funcs[291]?).bind (fnOf Tryz.prog (imG 291)) = some c291 := by kernel_rfl
theorem e292 : (Tryz.prog.funcs[292]?).bind (fnOf Tryz.prog (imG 292)) = some c292 := by kernel_rfl
theorem e293 : (Tryz.prog.funcs[293]?).bind (fnOf Tryz.prog (imG 293)) = some c293 := by kernel_rfl
theorem e294 : (Tryz.prog.funcs[294]?).bind (fnOf Tryz.prog (imG 294)) = some c294 := by kernel_rfl
theorem e295 : (Tryz.prog.funcs[295]?).bind (fnOf Tryz.prog (imG 295)) = some c295 := by kernel_rfl
theorem e296 : (Tryz.prog.funcs[296]?).bind (fnOf Tryz.prog (imG 296)) = some c296 := by kernel_rfl
theorem e298 : (Tryz.prog.funcs[298]?).bind (fnOf Tryz.prog (imG 298)) = some c298 := by kernel_rfl
theorem e301 : (Tryz.prog.funcs[301]?).bind (fnOf Tryz.prog (imG 301)) = some c301 := by kernel_rfl
theorem e302 : (Tryz.prog.funcs[302]?).bind (fnOf Tryz.prog (imG 302)) = some c302 := by kernel_rfl
theorem e303 : (Tryz.prog.funcs[303]?).bind (fnOf Tryz.prog (imG 303)) = some c303 := by kernel_rfl
theorem e304 : (Tryz.prog.funcs[304]?).bind (fnOf Tryz.prog (imG 304)) = some c304 := by kernel_rfl
theorem e305 : (Tryz.prog.funcs[305]?).bind (fnOf Tryz.prog (imG 305)) = some c305 := by kernel_rfl
theorem e306 : (Tryz.prog.funcs[306]?).bind (fnOf Tryz.prog (imG 306)) = some c306 := by kernel_rfl
theorem e308 : (Tryz.prog.funcs[308]?).bind (fnOf Tryz.prog (imG 308)) = some c308 := by kernel_rfl
theorem e309 : (Tryz.prog.funcs[309]?).bind (fnOf Tryz.prog (imG 309)) = some c309 := by kernel_rfl
theorem e310 : (Tryz.prog.funcs[310]?).bind (fnOf Tryz.prog (imG 310)) = some c310 := by kernel_rfl
end Go.Ab
