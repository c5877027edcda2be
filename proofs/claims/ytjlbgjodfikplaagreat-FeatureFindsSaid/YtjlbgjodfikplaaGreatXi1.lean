/- Part of the proof of FeatureFinds: my own evaluator over abstract values, and what it answers. -/
import Derived.Test.YtjlbgjodfikplaaGreatXg
import Derived.Test.YtjlbgjodfikplaaGreatProg
import Derived.KernelRfl
set_option linter.unusedVariables false
set_option linter.unusedSimpArgs false
namespace Go.Ab
open Go.Proofs
set_option maxRecDepth 10000
theorem e135 : (Tryz.prog.funcs[135]?).bind (fnOf Tryz.prog (imG 135)) = some c135 := by kernel_rfl
theorem e136 : (Tryz.prog.funcs[136]?).bind (fnOf Tryz.prog (imG 136)) = some c136 := by kernel_rfl
theorem e137 : (Tryz.prog.funcs[137]?).bind (fnOf Tryz.prog (imG 137)) = some c137 := by kernel_rfl
theorem e140 : (Tryz.prog.funcs[140]?).bind (fnOf Tryz.prog (imG 140)) = some c140 := by kernel_rfl
theorem e141 : (Tryz.prog.funcs[141]?).bind (fnOf Tryz.prog (imG 141)) = some c141 := by kernel_rfl
theorem e142 : (Tryz.prog.funcs[142]?).bind (fnOf Tryz.prog (imG 142)) = some c142 := by kernel_rfl
theorem e143 : (Tryz.prog.funcs[143]?).bind (fnOf Tryz.prog (imG 143)) = some c143 := by kernel_rfl
theorem e144 : (Tryz.prog.funcs[144]?).bind (fnOf Tryz.prog (imG 144)) = some c144 := by kernel_rfl
theorem e145 : (Tryz.prog.funcs[145]?).bind (fnOf Tryz.prog (imG 145)) = some c145 := by kernel_rfl
theorem e146 : (Tryz.prog.funcs[146]?).bind (fnOf Tryz.prog (imG 146)) = some c146 := by kernel_rfl
theorem e147 : (Tryz.prog.funcs[147]?).bind (fnOf Tryz.prog (imG 147)) = some c147 := by kernel_rfl
theorem e156 : (Tryz.prog.funcs[156]?).bind (fnOf Tryz.prog (imG 156)) = some c156 := by kernel_rfl
theorem e157 : (Tryz.prog.funcs[157]?).bind (fnOf Tryz.prog (imG 157)) = some c157 := by kernel_rfl
theorem e158 : (Tryz.prog.funcs[158]?).bind (fnOf Tryz.prog (imG 158)) = some c158 := by kernel_rfl
theorem e159 : (Tryz.prog.funcs[159]?).bind (fnOf Tryz.prog (imG 159)) = some c159 := by kernel_rfl
theorem e160 : (Tryz.prog.funcs[160]?).bind (fnOf Tryz.prog (imG 160)) = some c160 := by kernel_rfl
theorem e161 : (Tryz.prog.funcs[161]?).bind (fnOf Tryz.prog (imG 161)) = some c161 := by kernel_rfl
theorem e162 : (Tryz.prog.funcs[162]?).bind (fnOf Tryz.prog (imG 162)) = some c162 := by kernel_rfl
theorem e163 : (Tryz.prog.funcs[163]?).bind (fnOf Tryz.prog (imG 163)) = some c163 := by kernel_rfl
theorem e164 : (Tryz.prog.funcs[164]?).bind (fnOf Tryz.prog (imG 164)) = some c164 := by kernel_rfl
theorem e165 : (Tryz.prog.funcs[165]?).bind (fnOf Tryz.prog (imG 165)) = some c165 := by kernel_rfl
theorem e166 : (Tryz.prog.funcs[166]?).bind (fnOf Tryz.prog (imG 166)) = some c166 := by kernel_rfl
theorem e167 : (Tryz.prog.funcs[167]?).bind (fnOf Tryz.prog (imG 167)) = some c167 := by kernel_rfl
theorem e168 : (Tryz.prog.funcs[168]?).bind (fnOf Tryz.prog (imG 168)) = some c168 := by kernel_rfl
theorem e169 : (Tryz.prog.funcs[169]?).bind (fnOf Tryz.prog (imG 169)) = some c169 := by kernel_rfl
theorem e170 : (Tryz.prog.funcs[170]?).bind (fnOf Tryz.prog (imG 170)) = some c170 := by kernel_rfl
theorem e176 : (Tryz.prog.funcs[176]?).bind (fnOf Tryz.prog (imG 176)) = some c176 := by kernel_rfl
theorem e178 : (Tryz.prog.funcs[178]?).bind (fnOf Tryz.prog (imG 178)) = some c178 := by kernel_rfl
theorem e179 : (Tryz.prog.funcs[179]?).bind (fnOf Tryz.prog (imG 179)) = some c179 := by kernel_rfl
theorem e180 : (Tryz.prog.funcs[180]?).bind (fnOf Tryz.prog (imG 180)) = some c180 := by kernel_rfl
theorem e181 : (Tryz.prog.funcs[181]?).bind (fnOf Tryz.prog (imG 181)) = some c181 := by kernel_rfl
theorem e182 : (Tryz.prog.funcs[182]?).bind (fnOf Tryz.prog (imG 182)) = some c182 := by kernel_rfl
theorem e183 : (Tryz.prog.funcs[183]?).bind (fnOf Tryz.prog (imG 183)) = some c183 := by kernel_rfl
theorem e184 : (Tryz.prog.funcs[184]?).bind (fnOf Tryz.prog (imG 184)) = some c184 := by kernel_rfl
theorem e185 : (Tryz.prog.funcs[185]?).bind (fnOf Tryz.prog (imG 185)) = some c185 := by kernel_rfl
theorem e186 : (Tryz.prog.funcs[186]?).bind (fnOf Tryz.prog (imG 186)) = some c186 := by kernel_rfl
theorem e187 : (Tryz.prog.funcs[187]?).bind (fnOf Tryz.prog (imG 187)) = some c187 := by kernel_rfl
theorem e188 : (Tryz.prog.funcs[188]?).bind (fnOf Tryz.prog (imG 188)) = some c188 := by kernel_rfl
theorem e189 : (Tryz.prog.funcs[189]?).bind (fnOf Tryz.prog (imG 189)) = some c189 := by kernel_rfl
theorem e190 : (Tryz.prog.funcs[190]?).bind (fnOf Tryz.prog (imG 190)) = some c190 := by kernel_rfl
theorem e202 : (Tryz.prog.funcs[202]?).bind (fnOf Tryz.prog (imG 202)) = some c202 := by kernel_rfl
theorem e203 : (Tryz.prog.funcs[203]?).bind (fnOf Tryz.prog (imG 203)) = some c203 := by kernel_rfl
theorem e204 : (Tryz.prog.funcs[204]?).bind (fnOf Tryz.prog (imG 204)) = some c204 := by kernel_rfl
theorem e205 : (Tryz.prog.funcs[205]?).bind (fnOf Tryz.prog (imG 205)) = some c205 := by kernel_rfl
theorem e206 : (Tryz.prog.funcs[206]?).bind (fnOf Tryz.prog (imG 206)) = some c206 := by kernel_rfl
theorem e207 : (Tryz.prog.funcs[207]?).bind (fnOf Tryz.prog (imG 207)) = some c207 := by kernel_rfl
theorem e208 : (Tryz.prog.funcs[208]?).bind (fnOf Tryz.prog (imG 208)) = some c208 := by kernel_rfl
theorem e209 : (Tryz.prog.funcs[209]?).bind (fnOf Tryz.prog (imG 209)) = some c209 := by kernel_rfl
theorem e210 : (Tryz.prog.funcs[210]?).bind (fnOf Tryz.prog (imG 210)) = some c210 := by kernel_rfl
theorem e211 : (Tryz.prog.funcs[211]?).bind (fnOf Tryz.prog (imG 211)) = some c211 := by kernel_rfl
theorem e212 : (Tryz.prog.funcs[212]?).bind (fnOf Tryz.prog (imG 212)) = some c212 := by kernel_rfl
theorem e213 : (Tryz.prog.funcs[213]?).bind (fnOf Tryz.prog (imG 213)) = some c213 := by kernel_rfl
theorem e217 : (Tryz.prog.funcs[217]?).bind (fnOf Tryz.prog (imG 217)) = some c217 := by kernel_rfl
theorem e218 : (Tryz.prog.funcs[218]?).bind (fnOf Tryz.prog (imG 218)) = some c218 := by kernel_rfl
theorem e219 : (Tryz.prog.funcs[219]?).bind (fnOf Tryz.prog (imG 219)) = some c219 := by kernel_rfl
theorem e220 : (Tryz.prog.funcs[220]?).bind (fnOf Tryz.prog (imG 220)) = some c220 := by kernel_rfl
theorem e221 : (Tryz.prog.funcs[221]?).bind (fnOf Tryz.prog (imG 221)) = some c221 := by kernel_rfl
theorem e222 : (Tryz.prog.funcs[222]?).bind (fnOf Tryz.prog (imG 222)) = some c222 := by kernel_rfl
theorem e223 : (Tryz.prog.funcs[223]?).bind (fnOf Tryz.prog (imG 223)) = some c223 := by kernel_rfl
theorem e224 : (Tryz.prog.funcs[224]?).bind (fnOf Tryz.prog (imG 224)) = some c224 := by kernel_rfl
theorem e238 : (Tryz.prog.funcs[238]?).bind (fnOf Tryz.prog (imG 238)) = some c238 := by kernel_rfl
theorem e239 : (Tryz.prog.funcs[239]?).bind (fnOf Tryz.prog (imG 239)) = some c239 := by kernel_rfl
theorem e240 : (Tryz.prog.funcs[240]?).bind (fnOf Tryz.prog (imG 240)) = some c240 := by kernel_rfl
theorem e241 : (Tryz.prog.funcs[241]?).bind (fnOf Tryz.prog (imG 241)) = some c241 := by kernel_rfl
theorem e242 : (Tryz.prog.funcs[242]?).bind (fnOf Tryz.prog (imG 242)) = some c242 := by kernel_rfl
theorem e243 : (Tryz.prog.funcs[243]?).bind (fnOf Tryz.prog (imG 243)) = some c243 := by kernel_rfl
theorem e244 : (Tryz.prog.funcs[244]?).bind (fnOf Tryz.prog (imG 244)) = some c244 := by kernel_rfl
theorem e245 : (Tryz.prog.funcs[245]?).bind (fnOf Tryz.prog (imG 245)) = some c245 := by kernel_rfl
theorem e246 : (Tryz.prog.funcs[246]?).bind (fnOf Tryz.prog (imG 246)) = some c246 := by kernel_rfl
theorem e247 : (Tryz.prog.funcs[247]?).bind (fnOf Tryz.prog (imG 247)) = some c247 := by kernel_rfl
end Go.Ab
