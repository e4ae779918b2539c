/- What the library functions of the program that are met by contract return: the layings of the shelf in plain words, and the contracts of the evaluator. -/
import Derived.Test.YtbbkdnmcjpdikaaGreatDoorSga
import Derived.WalkKit
import Derived.Ground.Names2Prog
import Derived.Ground.Names8Prog
import Derived.Ground.NamesProg
import Derived.Ground.SlgnProg
import Derived.Shelf.SlicesE.Clone
import Derived.Shelf.LaysC
import Derived.Shelf.Strconv.ParseIntPublic10
set_option linter.all false
set_option linter.unusedVariables false
set_option linter.unusedSimpArgs false
namespace Go.Proofs

open Go.Shelf

def Tryz.laysCompact_ren : Go.Shelf.Ren := ⟨fun | 194 => 156 | n => n, fun | 31 => 60 | 9 => 9 | 3 => 3 | 4 => 4 | 0 => 0 | n => n, fun | n => n⟩

theorem Tryz.laysCompact : Go.Proofs.Lays.n194 Tryz.prog Tryz.laysCompact_ren := {
  mixed := by kernel_rfl
  f194 := Tryz.func156.trans (congrArg some (by kernel_rfl))
  t0 := Tryz.underlying0
  a0 := Tryz.isAgg0
  z0 := Tryz.sizeOf0
  v0 := Tryz.zeroValue0
  t3 := Tryz.underlying3
  a3 := Tryz.isAgg3
  z3 := Tryz.sizeOf3
  v3 := Tryz.zeroValue3
  t4 := Tryz.underlying4
  a4 := Tryz.isAgg4
  z4 := Tryz.sizeOf4
  v4 := Tryz.zeroValue4
  t9 := Tryz.underlying9
  a9 := Tryz.isAgg9
  z9 := Tryz.sizeOf9
  v9 := Tryz.zeroValue9
  t31 := Tryz.underlying60
  a31 := Tryz.isAgg60
  z31 := Tryz.sizeOf60
  v31 := Tryz.zeroValue60 }

def Tryz.laysSort_ren : Go.Shelf.Ren := ⟨fun | 190 => 155 | 125 => 201 | 258 => 200 | 128 => 242 | 129 => 243 | 302 => 233 | 303 => 234 | 304 => 235 | 305 => 236 | 306 => 237 | 307 => 238 | 308 => 239 | 309 => 240 | 310 => 241 | 333 => 269 | 329 => 270 | 330 => 271 | 334 => 272 | 335 => 273 | 336 => 274 | 344 => 296 | n => n, fun | 31 => 60 | 9 => 9 | 3 => 3 | 46 => 174 | 0 => 0 | 51 => 213 | 53 => 108 | 4 => 4 | 183 => 206 | 182 => 205 | 131 => 210 | 5 => 5 | 218 => 227 | 222 => 231 | 228 => 248 | 229 => 249 | n => n, fun | n => n⟩

theorem Tryz.laysSort : Go.Proofs.Lays.n190 Tryz.prog Tryz.laysSort_ren := {
  mixed := by kernel_rfl
  f125 := Tryz.func201.trans (congrArg some (by kernel_rfl))
  f128 := Tryz.func242.trans (congrArg some (by kernel_rfl))
  f129 := Tryz.func243.trans (congrArg some (by kernel_rfl))
  f190 := Tryz.func155.trans (congrArg some (by kernel_rfl))
  f258 := Tryz.func200.trans (congrArg some (by kernel_rfl))
  f302 := Tryz.func233.trans (congrArg some (by kernel_rfl))
  f303 := Tryz.func234.trans (congrArg some (by kernel_rfl))
  f304 := Tryz.func235.trans (congrArg some (by kernel_rfl))
  f305 := Tryz.func236.trans (congrArg some (by kernel_rfl))
  f306 := Tryz.func237.trans (congrArg some (by kernel_rfl))
  f307 := Tryz.func238.trans (congrArg some (by kernel_rfl))
  f308 := Tryz.func239.trans (congrArg some (by kernel_rfl))
  f309 := Tryz.func240.trans (congrArg some (by kernel_rfl))
  f310 := Tryz.func241.trans (congrArg some (by kernel_rfl))
  f329 := Tryz.func270.trans (congrArg some (by kernel_rfl))
  f330 := Tryz.func271.trans (congrArg some (by kernel_rfl))
  f333 := Tryz.func269.trans (congrArg some (by kernel_rfl))
  f334 := Tryz.func272.trans (congrArg some (by kernel_rfl))
  f335 := Tryz.func273.trans (congrArg some (by kernel_rfl))
  f336 := Tryz.func274.trans (congrArg some (by kernel_rfl))
  f344 := Tryz.func296.trans (congrArg some (by kernel_rfl))
  t0 := Tryz.underlying0
  a0 := Tryz.isAgg0
  z0 := Tryz.sizeOf0
  v0 := Tryz.zeroValue0
  t3 := Tryz.underlying3
  a3 := Tryz.isAgg3
  z3 := Tryz.sizeOf3
  v3 := Tryz.zeroValue3
  t4 := Tryz.underlying4
  a4 := Tryz.isAgg4
  z4 := Tryz.sizeOf4
  v4 := Tryz.zeroValue4
  t5 := Tryz.underlying5
  a5 := Tryz.isAgg5
  z5 := Tryz.sizeOf5
  v5 := Tryz.zeroValue5
  t9 := Tryz.underlying9
  a9 := Tryz.isAgg9
  z9 := Tryz.sizeOf9
  v9 := Tryz.zeroValue9
  t31 := Tryz.underlying60
  a31 := Tryz.isAgg60
  z31 := Tryz.sizeOf60
  v31 := Tryz.zeroValue60
  t46 := Tryz.underlying174
  a46 := Tryz.isAgg174
  z46 := Tryz.sizeOf174
  v46 := Tryz.zeroValue174
  t51 := Tryz.underlying213
  a51 := Tryz.isAgg213
  z51 := Tryz.sizeOf213
  v51 := Tryz.zeroValue213
  t53 := Tryz.underlying108
  a53 := Tryz.isAgg108
  z53 := Tryz.sizeOf108
  v53 := Tryz.zeroValue108
  t131 := Tryz.underlying210
  a131 := Tryz.isAgg210
  z131 := Tryz.sizeOf210
  v131 := Tryz.zeroValue210
  t182 := Tryz.underlying205
  a182 := Tryz.isAgg205
  z182 := Tryz.sizeOf205
  v182 := Tryz.zeroValue205
  t183 := Tryz.underlying206
  a183 := Tryz.isAgg206
  z183 := Tryz.sizeOf206
  v183 := Tryz.zeroValue206
  t218 := Tryz.underlying227
  a218 := Tryz.isAgg227
  z218 := Tryz.sizeOf227
  v218 := Tryz.zeroValue227
  t222 := Tryz.underlying231
  a222 := Tryz.isAgg231
  z222 := Tryz.sizeOf231
  v222 := Tryz.zeroValue231
  t228 := Tryz.underlying248
  a228 := Tryz.isAgg248
  z228 := Tryz.sizeOf248
  v228 := Tryz.zeroValue248
  t229 := Tryz.underlying249
  a229 := Tryz.isAgg249
  z229 := Tryz.sizeOf249
  v229 := Tryz.zeroValue249 }

def Tryz.lays145_ren : Go.Shelf.Ren := ⟨fun | 145 => 57 | 220 => 123 | 219 => 183 | 217 => 209 | 225 => 215 | 224 => 216 | 267 => 217 | 266 => 251 | 314 => 255 | n => n, fun | 9 => 9 | 4 => 4 | 59 => 75 | 3 => 3 | 5 => 5 | 46 => 174 | 146 => 221 | 51 => 213 | n => n, fun | 1 => 0 | n => n⟩

theorem Tryz.lays145 : Go.Proofs.Lays.n145 Tryz.prog Tryz.lays145_ren := {
  mixed := by kernel_rfl
  f145 := Tryz.func57.trans (congrArg some (by kernel_rfl))
  f217 := Tryz.func209.trans (congrArg some (by kernel_rfl))
  f219 := Tryz.func183.trans (congrArg some (by kernel_rfl))
  f220 := Tryz.func123.trans (congrArg some (by kernel_rfl))
  f224 := Tryz.func216.trans (congrArg some (by kernel_rfl))
  f225 := Tryz.func215.trans (congrArg some (by kernel_rfl))
  f266 := Tryz.func251.trans (congrArg some (by kernel_rfl))
  f267 := Tryz.func217.trans (congrArg some (by kernel_rfl))
  f314 := Tryz.func255.trans (congrArg some (by kernel_rfl))
  t3 := Tryz.underlying3
  a3 := Tryz.isAgg3
  z3 := Tryz.sizeOf3
  v3 := Tryz.zeroValue3
  t4 := Tryz.underlying4
  a4 := Tryz.isAgg4
  z4 := Tryz.sizeOf4
  v4 := Tryz.zeroValue4
  t5 := Tryz.underlying5
  a5 := Tryz.isAgg5
  z5 := Tryz.sizeOf5
  v5 := Tryz.zeroValue5
  t9 := Tryz.underlying9
  a9 := Tryz.isAgg9
  z9 := Tryz.sizeOf9
  v9 := Tryz.zeroValue9
  t46 := Tryz.underlying174
  a46 := Tryz.isAgg174
  z46 := Tryz.sizeOf174
  v46 := Tryz.zeroValue174
  t51 := Tryz.underlying213
  a51 := Tryz.isAgg213
  z51 := Tryz.sizeOf213
  v51 := Tryz.zeroValue213
  t59 := Tryz.underlying75
  a59 := Tryz.isAgg75
  z59 := Tryz.sizeOf75
  v59 := Tryz.zeroValue75
  t146 := Tryz.underlying221
  a146 := Tryz.isAgg221
  z146 := Tryz.sizeOf221
  v146 := Tryz.zeroValue221
  g1 := by kernel_rfl }

def Tryz.lays156_ren : Go.Shelf.Ren := ⟨fun | 156 => 97 | 165 => 161 | 166 => 131 | 169 => 132 | 240 => 189 | 241 => 206 | 276 => 219 | 277 => 248 | n => n, fun | 31 => 60 | 9 => 9 | 3 => 3 | 4 => 4 | 0 => 0 | 20 => 20 | 72 => 143 | 76 => 146 | 70 => 141 | 37 => 22 | 75 => 145 | 127 => 175 | 164 => 189 | 5 => 5 | 80 => 66 | n => n, fun | n => n⟩

theorem Tryz.lays156 : Go.Proofs.Lays.n156 Tryz.prog Tryz.lays156_ren := {
  mixed := by kernel_rfl
  f156 := Tryz.func97.trans (congrArg some (by kernel_rfl))
  f165 := Tryz.func161.trans (congrArg some (by kernel_rfl))
  f166 := Tryz.func131.trans (congrArg some (by kernel_rfl))
  f169 := Tryz.func132.trans (congrArg some (by kernel_rfl))
  f240 := Tryz.func189.trans (congrArg some (by kernel_rfl))
  f241 := Tryz.func206.trans (congrArg some (by kernel_rfl))
  f276 := Tryz.func219.trans (congrArg some (by kernel_rfl))
  f277 := Tryz.func248.trans (congrArg some (by kernel_rfl))
  t0 := Tryz.underlying0
  a0 := Tryz.isAgg0
  z0 := Tryz.sizeOf0
  v0 := Tryz.zeroValue0
  t3 := Tryz.underlying3
  a3 := Tryz.isAgg3
  z3 := Tryz.sizeOf3
  v3 := Tryz.zeroValue3
  t4 := Tryz.underlying4
  a4 := Tryz.isAgg4
  z4 := Tryz.sizeOf4
  v4 := Tryz.zeroValue4
  t9 := Tryz.underlying9
  a9 := Tryz.isAgg9
  z9 := Tryz.sizeOf9
  v9 := Tryz.zeroValue9
  t20 := Tryz.underlying20
  a20 := Tryz.isAgg20
  z20 := Tryz.sizeOf20
  v20 := Tryz.zeroValue20
  t31 := Tryz.underlying60
  a31 := Tryz.isAgg60
  z31 := Tryz.sizeOf60
  v31 := Tryz.zeroValue60
  t37 := Tryz.underlying22
  a37 := Tryz.isAgg22
  z37 := Tryz.sizeOf22
  v37 := Tryz.zeroValue22
  t70 := Tryz.underlying141
  a70 := Tryz.isAgg141
  z70 := Tryz.sizeOf141
  v70 := Tryz.zeroValue141
  t72 := Tryz.underlying143
  a72 := Tryz.isAgg143
  z72 := Tryz.sizeOf143
  v72 := Tryz.zeroValue143
  t75 := Tryz.underlying145
  a75 := Tryz.isAgg145
  z75 := Tryz.sizeOf145
  v75 := Tryz.zeroValue145
  t76 := Tryz.underlying146
  a76 := Tryz.isAgg146
  z76 := Tryz.sizeOf146
  v76 := Tryz.zeroValue146
  t127 := Tryz.underlying175
  a127 := Tryz.isAgg175
  z127 := Tryz.sizeOf175
  v127 := Tryz.zeroValue175
  t164 := Tryz.underlying189
  a164 := Tryz.isAgg189
  z164 := Tryz.sizeOf189
  v164 := Tryz.zeroValue189 }

theorem Tryz.Builder_Extra_156 : Builder.Extra Tryz.prog Tryz.lays156_ren := {
  sizeBuilder := by kernel_rfl
  liesBuilder := by kernel_rfl
  t5 := Tryz.underlying5
  a5 := Tryz.isAgg5
  z5 := Tryz.sizeOf5
  v5 := Tryz.zeroValue5
  infoByte := by kernel_rfl
  cellsByte := by kernel_rfl
  sizeByte := by kernel_rfl
  neB5 := by decide }

def Tryz.lays144_ren : Go.Shelf.Ren := ⟨fun | 144 => 159 | 143 => 204 | 219 => 183 | 217 => 209 | 225 => 215 | 224 => 216 | 267 => 217 | 266 => 251 | 314 => 255 | n => n, fun | 9 => 9 | 4 => 4 | 3 => 3 | 5 => 5 | 46 => 174 | 146 => 221 | 51 => 213 | n => n, fun | 1 => 0 | n => n⟩

theorem Tryz.lays144 : Go.Proofs.Lays.n144 Tryz.prog Tryz.lays144_ren := {
  mixed := by kernel_rfl
  f143 := Tryz.func204.trans (congrArg some (by kernel_rfl))
  f144 := Tryz.func159.trans (congrArg some (by kernel_rfl))
  f217 := Tryz.func209.trans (congrArg some (by kernel_rfl))
  f219 := Tryz.func183.trans (congrArg some (by kernel_rfl))
  f224 := Tryz.func216.trans (congrArg some (by kernel_rfl))
  f225 := Tryz.func215.trans (congrArg some (by kernel_rfl))
  f266 := Tryz.func251.trans (congrArg some (by kernel_rfl))
  f267 := Tryz.func217.trans (congrArg some (by kernel_rfl))
  f314 := Tryz.func255.trans (congrArg some (by kernel_rfl))
  t3 := Tryz.underlying3
  a3 := Tryz.isAgg3
  z3 := Tryz.sizeOf3
  v3 := Tryz.zeroValue3
  t4 := Tryz.underlying4
  a4 := Tryz.isAgg4
  z4 := Tryz.sizeOf4
  v4 := Tryz.zeroValue4
  t5 := Tryz.underlying5
  a5 := Tryz.isAgg5
  z5 := Tryz.sizeOf5
  v5 := Tryz.zeroValue5
  t9 := Tryz.underlying9
  a9 := Tryz.isAgg9
  z9 := Tryz.sizeOf9
  v9 := Tryz.zeroValue9
  t46 := Tryz.underlying174
  a46 := Tryz.isAgg174
  z46 := Tryz.sizeOf174
  v46 := Tryz.zeroValue174
  t51 := Tryz.underlying213
  a51 := Tryz.isAgg213
  z51 := Tryz.sizeOf213
  v51 := Tryz.zeroValue213
  t146 := Tryz.underlying221
  a146 := Tryz.isAgg221
  z146 := Tryz.sizeOf221
  v146 := Tryz.zeroValue221
  g1 := by kernel_rfl }

def Tryz.laysM173_ren : Go.Shelf.Ren := ⟨fun | 173 => 160 | 246 => 205 | 283 => 244 | 284 => 245 | 285 => 246 | 286 => 247 | 129 => 243 | 317 => 275 | 318 => 276 | 319 => 277 | 320 => 278 | 337 => 297 | 338 => 298 | n => n, fun | 2 => 2 | 3 => 3 | 9 => 9 | 4 => 4 | 171 => 215 | 0 => 0 | 53 => 108 | 37 => 22 | 5 => 5 | 173 => 217 | 212 => 234 | 51 => 213 | 20 => 20 | 213 => 235 | 46 => 174 | 232 => 260 | 233 => 261 | n => n, fun | 17 => 1 | 18 => 6 | 19 => 7 | n => n⟩

theorem Tryz.laysM173 : Go.Proofs.LaysM.n173 Tryz.prog Tryz.laysM173_ren := {
  mixed := by kernel_rfl
  f129 := Tryz.func243.trans (congrArg some (by kernel_rfl))
  f173 := Tryz.func160.trans (congrArg some (by kernel_rfl))
  f246 := Tryz.func205.trans (congrArg some (by kernel_rfl))
  f283 := Tryz.func244.trans (congrArg some (by kernel_rfl))
  f284 := Tryz.func245.trans (congrArg some (by kernel_rfl))
  f285 := Tryz.func246.trans (congrArg some (by kernel_rfl))
  f286 := Tryz.func247.trans (congrArg some (by kernel_rfl))
  f317 := Tryz.func275.trans (congrArg some (by kernel_rfl))
  f318 := Tryz.func276.trans (congrArg some (by kernel_rfl))
  f319 := Tryz.func277.trans (congrArg some (by kernel_rfl))
  f320 := Tryz.func278.trans (congrArg some (by kernel_rfl))
  f337 := Tryz.func297.trans (congrArg some (by kernel_rfl))
  f338 := Tryz.func298.trans (congrArg some (by kernel_rfl))
  t0 := Tryz.underlying0
  a0 := Tryz.isAgg0
  z0 := Tryz.sizeOf0
  v0 := Tryz.zeroValue0
  t2 := Tryz.underlying2
  a2 := Tryz.isAgg2
  z2 := Tryz.sizeOf2
  v2 := Tryz.zeroValue2
  t3 := Tryz.underlying3
  a3 := Tryz.isAgg3
  z3 := Tryz.sizeOf3
  v3 := Tryz.zeroValue3
  t4 := Tryz.underlying4
  a4 := Tryz.isAgg4
  z4 := Tryz.sizeOf4
  v4 := Tryz.zeroValue4
  t5 := Tryz.underlying5
  a5 := Tryz.isAgg5
  z5 := Tryz.sizeOf5
  v5 := Tryz.zeroValue5
  t9 := Tryz.underlying9
  a9 := Tryz.isAgg9
  z9 := Tryz.sizeOf9
  v9 := Tryz.zeroValue9
  t20 := Tryz.underlying20
  a20 := Tryz.isAgg20
  z20 := Tryz.sizeOf20
  v20 := Tryz.zeroValue20
  t37 := Tryz.underlying22
  a37 := Tryz.isAgg22
  z37 := Tryz.sizeOf22
  v37 := Tryz.zeroValue22
  t46 := Tryz.underlying174
  a46 := Tryz.isAgg174
  z46 := Tryz.sizeOf174
  v46 := Tryz.zeroValue174
  t51 := Tryz.underlying213
  a51 := Tryz.isAgg213
  z51 := Tryz.sizeOf213
  v51 := Tryz.zeroValue213
  t53 := Tryz.underlying108
  a53 := Tryz.isAgg108
  z53 := Tryz.sizeOf108
  v53 := Tryz.zeroValue108
  t171 := Tryz.underlying215
  a171 := Tryz.isAgg215
  z171 := Tryz.sizeOf215
  v171 := Tryz.zeroValue215
  t173 := Tryz.underlying217
  a173 := Tryz.isAgg217
  z173 := Tryz.sizeOf217
  v173 := Tryz.zeroValue217
  t212 := Tryz.underlying234
  a212 := Tryz.isAgg234
  z212 := Tryz.sizeOf234
  v212 := Tryz.zeroValue234
  t213 := Tryz.underlying235
  a213 := Tryz.isAgg235
  z213 := Tryz.sizeOf235
  t232 := Tryz.underlying260
  a232 := Tryz.isAgg260
  z232 := Tryz.sizeOf260
  v232 := Tryz.zeroValue260
  t233 := Tryz.underlying261
  a233 := Tryz.isAgg261
  z233 := Tryz.sizeOf261
  v233 := Tryz.zeroValue261
  g17 := by kernel_rfl
  g18 := by kernel_rfl
  g19 := by kernel_rfl
  i0 := by kernel_rfl
  i2 := by kernel_rfl
  i3 := by kernel_rfl
  i4 := by kernel_rfl
  i5 := by kernel_rfl
  i9 := by kernel_rfl
  i20 := by kernel_rfl
  i37 := by kernel_rfl
  i46 := by kernel_rfl
  i51 := by kernel_rfl
  i53 := by kernel_rfl
  i171 := by kernel_rfl
  i173 := by kernel_rfl
  i212 := by kernel_rfl
  i232 := by kernel_rfl
  i233 := by kernel_rfl
  m17 := by kernel_rfl
  m18 := by kernel_rfl
  m19 := by kernel_rfl }

def Tryz.laysC174_ren : Go.Shelf.Ren := ⟨fun | 174 => 208 | 247 => 249 | 245 => 250 | 287 => 279 | 279 => 280 | 280 => 281 | 281 => 282 | 282 => 283 | 321 => 299 | 322 => 300 | 316 => 301 | 171 => 303 | 205 => 302 | 243 => 306 | 246 => 205 | 283 => 244 | 284 => 245 | 285 => 246 | 286 => 247 | 129 => 243 | 317 => 275 | 318 => 276 | 319 => 277 | 320 => 278 | 337 => 297 | 338 => 298 | n => n, fun | 9 => 9 | 3 => 3 | 2 => 2 | 75 => 145 | 85 => 182 | 4 => 4 | 167 => 237 | 5 => 5 | 53 => 108 | 175 => 238 | 46 => 174 | 168 => 240 | 37 => 22 | 0 => 0 | 210 => 253 | 21 => 21 | 127 => 175 | 145 => 264 | 143 => 262 | 171 => 215 | 173 => 217 | 212 => 234 | 51 => 213 | 20 => 20 | 213 => 235 | 232 => 260 | 233 => 261 | 80 => 66 | n => n, fun | 15 => 2 | 16 => 3 | 17 => 1 | 18 => 6 | 19 => 7 | n => n⟩

theorem Tryz.laysC174 : Go.Proofs.LaysC.n174 Tryz.prog Tryz.laysC174_ren := {
  mixed := by kernel_rfl
  f129 := Tryz.func243.trans (congrArg some (by kernel_rfl))
  f171 := Tryz.func303.trans (congrArg some (by kernel_rfl))
  f174 := Tryz.func208.trans (congrArg some (by kernel_rfl))
  f205 := Tryz.func302.trans (congrArg some (by kernel_rfl))
  f243 := Tryz.func306.trans (congrArg some (by kernel_rfl))
  f245 := Tryz.func250.trans (congrArg some (by kernel_rfl))
  f246 := Tryz.func205.trans (congrArg some (by kernel_rfl))
  f247 := Tryz.func249.trans (congrArg some (by kernel_rfl))
  f279 := Tryz.func280.trans (congrArg some (by kernel_rfl))
  f280 := Tryz.func281.trans (congrArg some (by kernel_rfl))
  f281 := Tryz.func282.trans (congrArg some (by kernel_rfl))
  f282 := Tryz.func283.trans (congrArg some (by kernel_rfl))
  f283 := Tryz.func244.trans (congrArg some (by kernel_rfl))
  f284 := Tryz.func245.trans (congrArg some (by kernel_rfl))
  f285 := Tryz.func246.trans (congrArg some (by kernel_rfl))
  f286 := Tryz.func247.trans (congrArg some (by kernel_rfl))
  f287 := Tryz.func279.trans (congrArg some (by kernel_rfl))
  f316 := Tryz.func301.trans (congrArg some (by kernel_rfl))
  f317 := Tryz.func275.trans (congrArg some (by kernel_rfl))
  f318 := Tryz.func276.trans (congrArg some (by kernel_rfl))
  f319 := Tryz.func277.trans (congrArg some (by kernel_rfl))
  f320 := Tryz.func278.trans (congrArg some (by kernel_rfl))
  f321 := Tryz.func299.trans (congrArg some (by kernel_rfl))
  f322 := Tryz.func300.trans (congrArg some (by kernel_rfl))
  f337 := Tryz.func297.trans (congrArg some (by kernel_rfl))
  f338 := Tryz.func298.trans (congrArg some (by kernel_rfl))
  t0 := Tryz.underlying0
  a0 := Tryz.isAgg0
  z0 := Tryz.sizeOf0
  v0 := Tryz.zeroValue0
  t2 := Tryz.underlying2
  a2 := Tryz.isAgg2
  z2 := Tryz.sizeOf2
  v2 := Tryz.zeroValue2
  t3 := Tryz.underlying3
  a3 := Tryz.isAgg3
  z3 := Tryz.sizeOf3
  v3 := Tryz.zeroValue3
  t4 := Tryz.underlying4
  a4 := Tryz.isAgg4
  z4 := Tryz.sizeOf4
  v4 := Tryz.zeroValue4
  t5 := Tryz.underlying5
  a5 := Tryz.isAgg5
  z5 := Tryz.sizeOf5
  v5 := Tryz.zeroValue5
  t9 := Tryz.underlying9
  a9 := Tryz.isAgg9
  z9 := Tryz.sizeOf9
  v9 := Tryz.zeroValue9
  t20 := Tryz.underlying20
  a20 := Tryz.isAgg20
  z20 := Tryz.sizeOf20
  v20 := Tryz.zeroValue20
  t21 := Tryz.underlying21
  a21 := Tryz.isAgg21
  z21 := Tryz.sizeOf21
  v21 := Tryz.zeroValue21
  t37 := Tryz.underlying22
  a37 := Tryz.isAgg22
  z37 := Tryz.sizeOf22
  v37 := Tryz.zeroValue22
  t46 := Tryz.underlying174
  a46 := Tryz.isAgg174
  z46 := Tryz.sizeOf174
  v46 := Tryz.zeroValue174
  t51 := Tryz.underlying213
  a51 := Tryz.isAgg213
  z51 := Tryz.sizeOf213
  v51 := Tryz.zeroValue213
  t53 := Tryz.underlying108
  a53 := Tryz.isAgg108
  z53 := Tryz.sizeOf108
  v53 := Tryz.zeroValue108
  t75 := Tryz.underlying145
  a75 := Tryz.isAgg145
  z75 := Tryz.sizeOf145
  v75 := Tryz.zeroValue145
  t85 := Tryz.underlying182
  a85 := Tryz.isAgg182
  z85 := Tryz.sizeOf182
  v85 := Tryz.zeroValue182
  t127 := Tryz.underlying175
  a127 := Tryz.isAgg175
  z127 := Tryz.sizeOf175
  v127 := Tryz.zeroValue175
  t143 := Tryz.underlying262
  a143 := Tryz.isAgg262
  z143 := Tryz.sizeOf262
  v143 := Tryz.zeroValue262
  t145 := Tryz.underlying264
  a145 := Tryz.isAgg264
  z145 := Tryz.sizeOf264
  v145 := Tryz.zeroValue264
  t167 := Tryz.underlying237
  a167 := Tryz.isAgg237
  z167 := Tryz.sizeOf237
  v167 := Tryz.zeroValue237
  t168 := Tryz.underlying240
  a168 := Tryz.isAgg240
  z168 := Tryz.sizeOf240
  v168 := Tryz.zeroValue240
  t171 := Tryz.underlying215
  a171 := Tryz.isAgg215
  z171 := Tryz.sizeOf215
  v171 := Tryz.zeroValue215
  t173 := Tryz.underlying217
  a173 := Tryz.isAgg217
  z173 := Tryz.sizeOf217
  v173 := Tryz.zeroValue217
  t175 := Tryz.underlying238
  a175 := Tryz.isAgg238
  z175 := Tryz.sizeOf238
  v175 := Tryz.zeroValue238
  t210 := Tryz.underlying253
  a210 := Tryz.isAgg253
  z210 := Tryz.sizeOf253
  v210 := Tryz.zeroValue253
  t212 := Tryz.underlying234
  a212 := Tryz.isAgg234
  z212 := Tryz.sizeOf234
  v212 := Tryz.zeroValue234
  t213 := Tryz.underlying235
  a213 := Tryz.isAgg235
  z213 := Tryz.sizeOf235
  t232 := Tryz.underlying260
  a232 := Tryz.isAgg260
  z232 := Tryz.sizeOf260
  v232 := Tryz.zeroValue260
  t233 := Tryz.underlying261
  a233 := Tryz.isAgg261
  z233 := Tryz.sizeOf261
  v233 := Tryz.zeroValue261
  g15 := by kernel_rfl
  g16 := by kernel_rfl
  g17 := by kernel_rfl
  g18 := by kernel_rfl
  g19 := by kernel_rfl
  t80 := Tryz.underlying66
  a80 := Tryz.isAgg66
  z80 := Tryz.sizeOf66
  v80 := Tryz.zeroValue66
  i0 := by kernel_rfl
  i2 := by kernel_rfl
  i3 := by kernel_rfl
  i4 := by kernel_rfl
  i5 := by kernel_rfl
  i9 := by kernel_rfl
  i20 := by kernel_rfl
  i21 := by kernel_rfl
  i37 := by kernel_rfl
  i46 := by kernel_rfl
  i51 := by kernel_rfl
  i53 := by kernel_rfl
  i75 := by kernel_rfl
  i80 := by kernel_rfl
  i85 := by kernel_rfl
  i127 := by kernel_rfl
  i143 := by kernel_rfl
  i145 := by kernel_rfl
  i167 := by kernel_rfl
  i168 := by kernel_rfl
  i171 := by kernel_rfl
  i173 := by kernel_rfl
  i175 := by kernel_rfl
  i210 := by kernel_rfl
  i212 := by kernel_rfl
  i232 := by kernel_rfl
  i233 := by kernel_rfl
  m15 := by kernel_rfl
  m16 := by kernel_rfl
  m17 := by kernel_rfl
  m18 := by kernel_rfl
  m19 := by kernel_rfl
  c0 := by kernel_rfl
  c2 := by kernel_rfl
  c3 := by kernel_rfl
  c4 := by kernel_rfl
  c5 := by kernel_rfl
  c9 := by kernel_rfl
  c20 := by kernel_rfl
  c21 := by kernel_rfl
  c37 := by kernel_rfl
  c46 := by kernel_rfl
  c51 := by kernel_rfl
  c53 := by kernel_rfl
  c75 := by kernel_rfl
  c80 := by kernel_rfl
  c85 := by kernel_rfl
  c127 := by kernel_rfl
  c143 := by kernel_rfl
  c145 := by kernel_rfl
  c167 := by kernel_rfl
  c168 := by kernel_rfl
  c171 := by kernel_rfl
  c173 := by kernel_rfl
  c175 := by kernel_rfl
  c210 := by kernel_rfl
  c212 := by kernel_rfl
  c213 := by kernel_rfl
  c232 := by kernel_rfl
  c233 := by kernel_rfl }

def Tryz.lays137_ren : Go.Shelf.Ren := ⟨fun | 137 => 169 | 217 => 209 | 266 => 251 | n => n, fun | 9 => 9 | 5 => 5 | 3 => 3 | n => n, fun | n => n⟩

theorem Tryz.lays137 : Go.Proofs.Lays.n137 Tryz.prog Tryz.lays137_ren := {
  mixed := by kernel_rfl
  f137 := Tryz.func169.trans (congrArg some (by kernel_rfl))
  f217 := Tryz.func209.trans (congrArg some (by kernel_rfl))
  f266 := Tryz.func251.trans (congrArg some (by kernel_rfl))
  t3 := Tryz.underlying3
  a3 := Tryz.isAgg3
  z3 := Tryz.sizeOf3
  v3 := Tryz.zeroValue3
  t5 := Tryz.underlying5
  a5 := Tryz.isAgg5
  z5 := Tryz.sizeOf5
  v5 := Tryz.zeroValue5
  t9 := Tryz.underlying9
  a9 := Tryz.isAgg9
  z9 := Tryz.sizeOf9
  v9 := Tryz.zeroValue9 }

def Tryz.lays155_ren : Go.Shelf.Ren := ⟨fun | 155 => 190 | 154 => 220 | 138 => 256 | 165 => 161 | 143 => 204 | 166 => 131 | 197 => 257 | 169 => 132 | 195 => 285 | 218 => 286 | 240 => 189 | 241 => 206 | 219 => 183 | 260 => 287 | 276 => 219 | 277 => 248 | 217 => 209 | 225 => 215 | 224 => 216 | 267 => 217 | 266 => 251 | 314 => 255 | n => n, fun | 9 => 9 | 3 => 3 | 4 => 4 | 72 => 143 | 0 => 0 | 76 => 146 | 105 => 223 | 21 => 21 | 5 => 5 | 70 => 141 | 20 => 20 | 37 => 22 | 75 => 145 | 127 => 175 | 164 => 189 | 46 => 174 | 119 => 255 | 139 => 258 | 138 => 257 | 146 => 221 | 51 => 213 | 80 => 66 | n => n, fun | 1 => 0 | 3 => 4 | 4 => 5 | n => n⟩

theorem Tryz.lays155 : Go.Proofs.Lays.n155 Tryz.prog Tryz.lays155_ren := {
  mixed := by kernel_rfl
  f138 := Tryz.func256.trans (congrArg some (by kernel_rfl))
  f143 := Tryz.func204.trans (congrArg some (by kernel_rfl))
  f154 := Tryz.func220.trans (congrArg some (by kernel_rfl))
  f155 := Tryz.func190.trans (congrArg some (by kernel_rfl))
  f165 := Tryz.func161.trans (congrArg some (by kernel_rfl))
  f166 := Tryz.func131.trans (congrArg some (by kernel_rfl))
  f169 := Tryz.func132.trans (congrArg some (by kernel_rfl))
  f195 := Tryz.func285.trans (congrArg some (by kernel_rfl))
  f197 := Tryz.func257.trans (congrArg some (by kernel_rfl))
  f217 := Tryz.func209.trans (congrArg some (by kernel_rfl))
  f218 := Tryz.func286.trans (congrArg some (by kernel_rfl))
  f219 := Tryz.func183.trans (congrArg some (by kernel_rfl))
  f224 := Tryz.func216.trans (congrArg some (by kernel_rfl))
  f225 := Tryz.func215.trans (congrArg some (by kernel_rfl))
  f240 := Tryz.func189.trans (congrArg some (by kernel_rfl))
  f241 := Tryz.func206.trans (congrArg some (by kernel_rfl))
  f260 := Tryz.func287.trans (congrArg some (by kernel_rfl))
  f266 := Tryz.func251.trans (congrArg some (by kernel_rfl))
  f267 := Tryz.func217.trans (congrArg some (by kernel_rfl))
  f276 := Tryz.func219.trans (congrArg some (by kernel_rfl))
  f277 := Tryz.func248.trans (congrArg some (by kernel_rfl))
  f314 := Tryz.func255.trans (congrArg some (by kernel_rfl))
  t0 := Tryz.underlying0
  a0 := Tryz.isAgg0
  z0 := Tryz.sizeOf0
  v0 := Tryz.zeroValue0
  t3 := Tryz.underlying3
  a3 := Tryz.isAgg3
  z3 := Tryz.sizeOf3
  v3 := Tryz.zeroValue3
  t4 := Tryz.underlying4
  a4 := Tryz.isAgg4
  z4 := Tryz.sizeOf4
  v4 := Tryz.zeroValue4
  t5 := Tryz.underlying5
  a5 := Tryz.isAgg5
  z5 := Tryz.sizeOf5
  v5 := Tryz.zeroValue5
  t9 := Tryz.underlying9
  a9 := Tryz.isAgg9
  z9 := Tryz.sizeOf9
  v9 := Tryz.zeroValue9
  t20 := Tryz.underlying20
  a20 := Tryz.isAgg20
  z20 := Tryz.sizeOf20
  v20 := Tryz.zeroValue20
  t21 := Tryz.underlying21
  a21 := Tryz.isAgg21
  z21 := Tryz.sizeOf21
  v21 := Tryz.zeroValue21
  t37 := Tryz.underlying22
  a37 := Tryz.isAgg22
  z37 := Tryz.sizeOf22
  v37 := Tryz.zeroValue22
  t46 := Tryz.underlying174
  a46 := Tryz.isAgg174
  z46 := Tryz.sizeOf174
  v46 := Tryz.zeroValue174
  t51 := Tryz.underlying213
  a51 := Tryz.isAgg213
  z51 := Tryz.sizeOf213
  v51 := Tryz.zeroValue213
  t70 := Tryz.underlying141
  a70 := Tryz.isAgg141
  z70 := Tryz.sizeOf141
  v70 := Tryz.zeroValue141
  t72 := Tryz.underlying143
  a72 := Tryz.isAgg143
  z72 := Tryz.sizeOf143
  v72 := Tryz.zeroValue143
  t75 := Tryz.underlying145
  a75 := Tryz.isAgg145
  z75 := Tryz.sizeOf145
  v75 := Tryz.zeroValue145
  t76 := Tryz.underlying146
  a76 := Tryz.isAgg146
  z76 := Tryz.sizeOf146
  v76 := Tryz.zeroValue146
  t105 := Tryz.underlying223
  a105 := Tryz.isAgg223
  z105 := Tryz.sizeOf223
  v105 := Tryz.zeroValue223
  t119 := Tryz.underlying255
  a119 := Tryz.isAgg255
  z119 := Tryz.sizeOf255
  t127 := Tryz.underlying175
  a127 := Tryz.isAgg175
  z127 := Tryz.sizeOf175
  v127 := Tryz.zeroValue175
  t138 := Tryz.underlying257
  a138 := Tryz.isAgg257
  z138 := Tryz.sizeOf257
  v138 := Tryz.zeroValue257
  t139 := Tryz.underlying258
  a139 := Tryz.isAgg258
  z139 := Tryz.sizeOf258
  v139 := Tryz.zeroValue258
  t146 := Tryz.underlying221
  a146 := Tryz.isAgg221
  z146 := Tryz.sizeOf221
  v146 := Tryz.zeroValue221
  t164 := Tryz.underlying189
  a164 := Tryz.isAgg189
  z164 := Tryz.sizeOf189
  v164 := Tryz.zeroValue189
  g1 := by kernel_rfl
  g3 := by kernel_rfl
  g4 := by kernel_rfl }

theorem Tryz.Builder_Extra_155 : Builder.Extra Tryz.prog Tryz.lays155_ren := {
  sizeBuilder := by kernel_rfl
  liesBuilder := by kernel_rfl
  t5 := Tryz.underlying5
  a5 := Tryz.isAgg5
  z5 := Tryz.sizeOf5
  v5 := Tryz.zeroValue5
  infoByte := by kernel_rfl
  cellsByte := by kernel_rfl
  sizeByte := by kernel_rfl
  neB5 := by decide }

def Tryz.lays160_ren : Go.Shelf.Ren := ⟨fun | 160 => 194 | 232 => 224 | 231 => 223 | 227 => 225 | 234 => 227 | 233 => 226 | 236 => 229 | 235 => 228 | 228 => 260 | 271 => 262 | 151 => 261 | 197 => 257 | 120 => 291 | 152 => 290 | 260 => 287 | 137 => 169 | 119 => 304 | 224 => 216 | 225 => 215 | 217 => 209 | 266 => 251 | n => n, fun | 9 => 9 | 4 => 4 | 3 => 3 | 5 => 5 | 117 => 196 | 116 => 195 | 0 => 0 | 124 => 199 | 21 => 21 | 105 => 223 | 46 => 174 | 119 => 255 | 139 => 258 | 138 => 257 | n => n, fun | 3 => 4 | 4 => 5 | n => n⟩

theorem Tryz.lays160 : Go.Proofs.Lays.n160 Tryz.prog Tryz.lays160_ren := {
  mixed := by kernel_rfl
  f119 := Tryz.func304.trans (congrArg some (by kernel_rfl))
  f120 := Tryz.func291.trans (congrArg some (by kernel_rfl))
  f137 := Tryz.func169.trans (congrArg some (by kernel_rfl))
  f151 := Tryz.func261.trans (congrArg some (by kernel_rfl))
  f152 := Tryz.func290.trans (congrArg some (by kernel_rfl))
  f160 := Tryz.func194.trans (congrArg some (by kernel_rfl))
  f197 := Tryz.func257.trans (congrArg some (by kernel_rfl))
  f217 := Tryz.func209.trans (congrArg some (by kernel_rfl))
  f224 := Tryz.func216.trans (congrArg some (by kernel_rfl))
  f225 := Tryz.func215.trans (congrArg some (by kernel_rfl))
  f227 := Tryz.func225.trans (congrArg some (by kernel_rfl))
  f228 := Tryz.func260.trans (congrArg some (by kernel_rfl))
  f231 := Tryz.func223.trans (congrArg some (by kernel_rfl))
  f232 := Tryz.func224.trans (congrArg some (by kernel_rfl))
  f233 := Tryz.func226.trans (congrArg some (by kernel_rfl))
  f234 := Tryz.func227.trans (congrArg some (by kernel_rfl))
  f235 := Tryz.func228.trans (congrArg some (by kernel_rfl))
  f236 := Tryz.func229.trans (congrArg some (by kernel_rfl))
  f260 := Tryz.func287.trans (congrArg some (by kernel_rfl))
  f266 := Tryz.func251.trans (congrArg some (by kernel_rfl))
  f271 := Tryz.func262.trans (congrArg some (by kernel_rfl))
  t0 := Tryz.underlying0
  a0 := Tryz.isAgg0
  z0 := Tryz.sizeOf0
  v0 := Tryz.zeroValue0
  t3 := Tryz.underlying3
  a3 := Tryz.isAgg3
  z3 := Tryz.sizeOf3
  v3 := Tryz.zeroValue3
  t4 := Tryz.underlying4
  a4 := Tryz.isAgg4
  z4 := Tryz.sizeOf4
  v4 := Tryz.zeroValue4
  t5 := Tryz.underlying5
  a5 := Tryz.isAgg5
  z5 := Tryz.sizeOf5
  v5 := Tryz.zeroValue5
  t9 := Tryz.underlying9
  a9 := Tryz.isAgg9
  z9 := Tryz.sizeOf9
  v9 := Tryz.zeroValue9
  t21 := Tryz.underlying21
  a21 := Tryz.isAgg21
  z21 := Tryz.sizeOf21
  v21 := Tryz.zeroValue21
  t46 := Tryz.underlying174
  a46 := Tryz.isAgg174
  z46 := Tryz.sizeOf174
  v46 := Tryz.zeroValue174
  t105 := Tryz.underlying223
  a105 := Tryz.isAgg223
  z105 := Tryz.sizeOf223
  v105 := Tryz.zeroValue223
  t116 := Tryz.underlying195
  a116 := Tryz.isAgg195
  z116 := Tryz.sizeOf195
  t117 := Tryz.underlying196
  a117 := Tryz.isAgg196
  z117 := Tryz.sizeOf196
  v117 := Tryz.zeroValue196
  t119 := Tryz.underlying255
  a119 := Tryz.isAgg255
  z119 := Tryz.sizeOf255
  t124 := Tryz.underlying199
  a124 := Tryz.isAgg199
  z124 := Tryz.sizeOf199
  v124 := Tryz.zeroValue199
  t138 := Tryz.underlying257
  a138 := Tryz.isAgg257
  z138 := Tryz.sizeOf257
  v138 := Tryz.zeroValue257
  t139 := Tryz.underlying258
  a139 := Tryz.isAgg258
  z139 := Tryz.sizeOf258
  v139 := Tryz.zeroValue258
  g3 := by kernel_rfl
  g4 := by kernel_rfl }

def Tryz.lays146_ren : Go.Shelf.Ren := ⟨fun | 146 => 221 | 221 => 258 | 268 => 288 | 138 => 256 | 143 => 204 | 195 => 285 | 197 => 257 | 218 => 286 | 219 => 183 | 260 => 287 | 217 => 209 | 225 => 215 | 224 => 216 | 267 => 217 | 266 => 251 | 314 => 255 | n => n, fun | 9 => 9 | 31 => 60 | 3 => 3 | 4 => 4 | 0 => 0 | 105 => 223 | 21 => 21 | 5 => 5 | 46 => 174 | 119 => 255 | 139 => 258 | 138 => 257 | 146 => 221 | 51 => 213 | n => n, fun | 1 => 0 | 3 => 4 | 4 => 5 | n => n⟩

theorem Tryz.lays146 : Go.Proofs.Lays.n146 Tryz.prog Tryz.lays146_ren := {
  mixed := by kernel_rfl
  f138 := Tryz.func256.trans (congrArg some (by kernel_rfl))
  f143 := Tryz.func204.trans (congrArg some (by kernel_rfl))
  f146 := Tryz.func221.trans (congrArg some (by kernel_rfl))
  f195 := Tryz.func285.trans (congrArg some (by kernel_rfl))
  f197 := Tryz.func257.trans (congrArg some (by kernel_rfl))
  f217 := Tryz.func209.trans (congrArg some (by kernel_rfl))
  f218 := Tryz.func286.trans (congrArg some (by kernel_rfl))
  f219 := Tryz.func183.trans (congrArg some (by kernel_rfl))
  f221 := Tryz.func258.trans (congrArg some (by kernel_rfl))
  f224 := Tryz.func216.trans (congrArg some (by kernel_rfl))
  f225 := Tryz.func215.trans (congrArg some (by kernel_rfl))
  f260 := Tryz.func287.trans (congrArg some (by kernel_rfl))
  f266 := Tryz.func251.trans (congrArg some (by kernel_rfl))
  f267 := Tryz.func217.trans (congrArg some (by kernel_rfl))
  f268 := Tryz.func288.trans (congrArg some (by kernel_rfl))
  f314 := Tryz.func255.trans (congrArg some (by kernel_rfl))
  t0 := Tryz.underlying0
  a0 := Tryz.isAgg0
  z0 := Tryz.sizeOf0
  v0 := Tryz.zeroValue0
  t3 := Tryz.underlying3
  a3 := Tryz.isAgg3
  z3 := Tryz.sizeOf3
  v3 := Tryz.zeroValue3
  t4 := Tryz.underlying4
  a4 := Tryz.isAgg4
  z4 := Tryz.sizeOf4
  v4 := Tryz.zeroValue4
  t5 := Tryz.underlying5
  a5 := Tryz.isAgg5
  z5 := Tryz.sizeOf5
  v5 := Tryz.zeroValue5
  t9 := Tryz.underlying9
  a9 := Tryz.isAgg9
  z9 := Tryz.sizeOf9
  v9 := Tryz.zeroValue9
  t21 := Tryz.underlying21
  a21 := Tryz.isAgg21
  z21 := Tryz.sizeOf21
  v21 := Tryz.zeroValue21
  t31 := Tryz.underlying60
  a31 := Tryz.isAgg60
  z31 := Tryz.sizeOf60
  v31 := Tryz.zeroValue60
  t46 := Tryz.underlying174
  a46 := Tryz.isAgg174
  z46 := Tryz.sizeOf174
  v46 := Tryz.zeroValue174
  t51 := Tryz.underlying213
  a51 := Tryz.isAgg213
  z51 := Tryz.sizeOf213
  v51 := Tryz.zeroValue213
  t105 := Tryz.underlying223
  a105 := Tryz.isAgg223
  z105 := Tryz.sizeOf223
  v105 := Tryz.zeroValue223
  t119 := Tryz.underlying255
  a119 := Tryz.isAgg255
  z119 := Tryz.sizeOf255
  t138 := Tryz.underlying257
  a138 := Tryz.isAgg257
  z138 := Tryz.sizeOf257
  v138 := Tryz.zeroValue257
  t139 := Tryz.underlying258
  a139 := Tryz.isAgg258
  z139 := Tryz.sizeOf258
  v139 := Tryz.zeroValue258
  t146 := Tryz.underlying221
  a146 := Tryz.isAgg221
  z146 := Tryz.sizeOf221
  v146 := Tryz.zeroValue221
  g1 := by kernel_rfl
  g3 := by kernel_rfl
  g4 := by kernel_rfl }

def Tryz.lays169_ren : Go.Shelf.Ren := ⟨fun | 169 => 132 | n => n, fun | 70 => 141 | 9 => 9 | 0 => 0 | 72 => 143 | 37 => 22 | 127 => 175 | 3 => 3 | 5 => 5 | n => n, fun | n => n⟩

theorem Tryz.lays169 : Go.Proofs.Lays.n169 Tryz.prog Tryz.lays169_ren := {
  mixed := by kernel_rfl
  f169 := Tryz.func132.trans (congrArg some (by kernel_rfl))
  t0 := Tryz.underlying0
  a0 := Tryz.isAgg0
  z0 := Tryz.sizeOf0
  v0 := Tryz.zeroValue0
  t3 := Tryz.underlying3
  a3 := Tryz.isAgg3
  z3 := Tryz.sizeOf3
  v3 := Tryz.zeroValue3
  t9 := Tryz.underlying9
  a9 := Tryz.isAgg9
  z9 := Tryz.sizeOf9
  v9 := Tryz.zeroValue9
  t37 := Tryz.underlying22
  a37 := Tryz.isAgg22
  z37 := Tryz.sizeOf22
  v37 := Tryz.zeroValue22
  t70 := Tryz.underlying141
  a70 := Tryz.isAgg141
  z70 := Tryz.sizeOf141
  v70 := Tryz.zeroValue141
  t72 := Tryz.underlying143
  a72 := Tryz.isAgg143
  z72 := Tryz.sizeOf143
  v72 := Tryz.zeroValue143
  t127 := Tryz.underlying175
  a127 := Tryz.isAgg175
  z127 := Tryz.sizeOf175
  v127 := Tryz.zeroValue175 }

theorem Tryz.Builder_Extra_169 : Builder.Extra Tryz.prog Tryz.lays169_ren := {
  sizeBuilder := by kernel_rfl
  liesBuilder := by kernel_rfl
  t5 := Tryz.underlying5
  a5 := Tryz.isAgg5
  z5 := Tryz.sizeOf5
  v5 := Tryz.zeroValue5
  infoByte := by kernel_rfl
  cellsByte := by kernel_rfl
  sizeByte := by kernel_rfl
  neB5 := by decide }

end Go.Proofs

namespace Go.Proofs

open Go.Shelf

def Tryz.lays166_ren : Go.Shelf.Ren := ⟨fun | 166 => 131 | 240 => 189 | 276 => 219 | n => n, fun | 0 => 0 | 3 => 3 | 4 => 4 | 9 => 9 | 20 => 20 | 37 => 22 | 70 => 141 | 72 => 143 | 75 => 145 | 164 => 189 | 5 => 5 | 80 => 66 | n => n, fun | n => n⟩

theorem Tryz.lays166 : Go.Proofs.Lays.n166 Tryz.prog Tryz.lays166_ren := {
  mixed := by kernel_rfl
  f166 := Tryz.func131.trans (congrArg some (by kernel_rfl))
  f240 := Tryz.func189.trans (congrArg some (by kernel_rfl))
  f276 := Tryz.func219.trans (congrArg some (by kernel_rfl))
  t0 := Tryz.underlying0
  a0 := Tryz.isAgg0
  z0 := Tryz.sizeOf0
  v0 := Tryz.zeroValue0
  t3 := Tryz.underlying3
  a3 := Tryz.isAgg3
  z3 := Tryz.sizeOf3
  v3 := Tryz.zeroValue3
  t4 := Tryz.underlying4
  a4 := Tryz.isAgg4
  z4 := Tryz.sizeOf4
  v4 := Tryz.zeroValue4
  t9 := Tryz.underlying9
  a9 := Tryz.isAgg9
  z9 := Tryz.sizeOf9
  v9 := Tryz.zeroValue9
  t20 := Tryz.underlying20
  a20 := Tryz.isAgg20
  z20 := Tryz.sizeOf20
  v20 := Tryz.zeroValue20
  t37 := Tryz.underlying22
  a37 := Tryz.isAgg22
  z37 := Tryz.sizeOf22
  v37 := Tryz.zeroValue22
  t70 := Tryz.underlying141
  a70 := Tryz.isAgg141
  z70 := Tryz.sizeOf141
  v70 := Tryz.zeroValue141
  t72 := Tryz.underlying143
  a72 := Tryz.isAgg143
  z72 := Tryz.sizeOf143
  v72 := Tryz.zeroValue143
  t75 := Tryz.underlying145
  a75 := Tryz.isAgg145
  z75 := Tryz.sizeOf145
  v75 := Tryz.zeroValue145
  t164 := Tryz.underlying189
  a164 := Tryz.isAgg189
  z164 := Tryz.sizeOf189
  v164 := Tryz.zeroValue189 }

theorem Tryz.Builder_Extra_166 : Builder.Extra Tryz.prog Tryz.lays166_ren := {
  sizeBuilder := by kernel_rfl
  liesBuilder := by kernel_rfl
  t5 := Tryz.underlying5
  a5 := Tryz.isAgg5
  z5 := Tryz.sizeOf5
  v5 := Tryz.zeroValue5
  infoByte := by kernel_rfl
  cellsByte := by kernel_rfl
  sizeByte := by kernel_rfl
  neB5 := by decide }

end Go.Proofs

namespace Go.Dv.U

open Go Go.Dv Go.Proofs Go.Shelf Go.RowKit Go.Lib Go.Sort

set_option maxHeartbeats 2000000 in
set_option maxRecDepth 100000 in
theorem sorted_some (g n cap : Nat) (xs : List (List UInt8)) (w : World) (hl : xs.length = n) (hbig : n < 4611686018427387904) (hlt : g < w.heap.size) (hcap : n ≤ cap) (hH : Holds Go.Proofs.encStr w g 0 xs.toArray) :
    Calls Tryz.prog 89 #[.slice (some ⟨g, 0, none⟩) n cap] w fun e w' => e = .returned (.slice (some ⟨g, 0, none⟩) (Lib.compact (xs.mergeSort fun x y => decide (x ≤ y))).length cap) ∧ ∃ nn os q, w' = putRow Go.Proofs.encStr (Sort.ahead (grow (putRow Go.Proofs.encStr (Sort.ahead w nn) g 0 (xs.mergeSort fun x y => decide (x ≤ y)).toArray) os) q) g 0 (Lib.compact (xs.mergeSort fun x y => decide (x ≤ y)) ++ List.replicate (n - (Lib.compact (xs.mergeSort fun x y => decide (x ≤ y))).length) []).toArray := by
  have hsort := Any.slices_Sort_string Tryz.laysSort g 0 cap xs w hH hlt (by omega)
  rw [hl] at hsort
  have hl2 : (xs.mergeSort fun x y => decide (x ≤ y)).length = n := by rw [List.length_mergeSort]; exact hl
  have X : Aside (g < w.heap.size ∧ n ≤ cap ∧ n < 4611686018427387904 ∧ xs.length = n ∧ Holds Go.Proofs.encStr w g 0 xs.toArray) := ⟨hlt, hcap, hbig, hl, hH⟩
  clear hH hl
  go_enter Tryz.func89, Tryz.ntmps89
  go_wp2_with (first
    | (go_at_call 155; refine hsort.mono ?_; rintro e w2 ⟨rfl, nn, os, rfl⟩
       have hH2 : Holds Go.Proofs.encStr (grow (putRow Go.Proofs.encStr (Sort.ahead w nn) g 0 (xs.mergeSort fun x y => decide (x ≤ y)).toArray) os) g 0 (xs.mergeSort fun x y => decide (x ≤ y)).toArray :=
         holds_grow Go.Proofs.encStr _ os g 0 _ (by simpa [putRow, mapBlock, Sort.ahead] using X.out.1) (holds_putRow Go.Proofs.encStr _ g 0 _ _ (holds_ahead Go.Proofs.encStr w nn g 0 _ X.out.2.2.2.2) (by simp))
       have hcomp := Any.slices_Compact_string Tryz.laysCompact g 0 cap (xs.mergeSort fun x y => decide (x ≤ y)) _ hH2 (by have := X.out.2.2.1; omega) (by have := X.out.2.1; omega)
       rw [hl2] at hcomp
       clear hH2 hsort)
    | (go_at_call 156; refine hcomp.mono ?_; rintro e w3 ⟨rfl, q, rfl⟩))
  go_ret
  exact ⟨rfl, nn, os, q, rfl⟩

set_option maxHeartbeats 2000000 in
theorem sorted_none (w : World) : Calls Tryz.prog 89 #[.slice none 0 0] w fun e w' => e = .returned (.slice none 0 0) ∧ w' = w := by
  go_enter Tryz.func89, Tryz.ntmps89
  go_wp2_with (first
    | (go_at_call 155; refine (Any.slices_Sort_string_none Tryz.laysSort none 0 _).mono ?_; rintro e w' ⟨rfl, rfl⟩)
    | (go_at_call 156; refine (Any.slices_Compact_string_empty Tryz.laysCompact none 0 _).mono ?_; rintro e w' ⟨rfl, rfl⟩))
  go_ret
  exact ⟨rfl, rfl⟩

theorem sorted_calls {xs ys : List (List UInt8)} (h : sortS xs = some ys) {w : World} {v : Value} (hown : w.ownsRow 0 9 1 v xs.length (xs.map Go.Dv.encStr)) :
    Calls Tryz.prog 89 #[v] w (fun en w' => ∃ v', en = .returned v' ∧ w'.ownsRow 0 9 1 v' ys.length (ys.map Go.Dv.encStr) ∧ w.grownBy w' v.ownBlock ∧ ∀ b, v'.ownBlock = some b → w.heap.size ≤ b ∨ v.ownBlock = some b) := by
  unfold sortS at h
  split at h
  · rename_i hl
    have h := Option.some.inj h
    subst h
    have hbb : big = 68719476736 := rfl
    rw [hbb] at hl
    have hl2 : (xs.mergeSort fun x y => decide (x ≤ y)).length = xs.length := List.length_mergeSort xs
    have hle := Lib.compact_length_le (xs.mergeSort fun x y => decide (x ≤ y))
    by_cases hv : v = .slice none 0 0
    · subst hv
      have hx : xs = [] := by
        rcases hown.2 with ⟨_, h0⟩ | ⟨g, cap, cur, h0, _⟩
        · exact List.eq_nil_of_length_eq_zero h0
        · cases h0
      subst hx
      refine (sorted_none w).mono ?_
      rintro e w' ⟨rfl, rfl⟩
      have e0 : Lib.compact (([] : List (List UInt8)).mergeSort fun x y => decide (x ≤ y)) = [] := by simp [Lib.compact, Lib.compactUpTo]
      rw [e0]
      exact ⟨_, rfl, hown, ⟨rfl, rfl, rfl, Nat.le_refl _, fun _ _ _ => rfl⟩, fun b hb => .inr hb⟩
    · obtain ⟨g, cap, rfl, hb, hlt, hnc, hcm, _, hH⟩ := Lib.holds_of_ownsRow (enc := Go.Proofs.encStr) hown hv
      refine (sorted_some g xs.length cap xs w rfl (by omega) hlt hnc hH).mono ?_
      rintro e w' ⟨rfl, nn, os, q, rfl⟩
      rcases hown.2 with ⟨h0, _⟩ | ⟨g', cap', cur, hv', hbase, hb', h1, h2, h3, h4⟩
      · cases h0
      cases hv'
      have hs := ownsRow_sorted (n := nn) (os := os) (ts := xs.mergeSort fun x y => decide (x ≤ y)) hl2 hbase hb' h1 h2 h3
      have hc := Lib.ownsRow_putRow (q := q) (k := (Lib.compact (xs.mergeSort fun x y => decide (x ≤ y))).length) (ys := Lib.compact (xs.mergeSort fun x y => decide (x ≤ y)) ++ List.replicate (xs.length - (Lib.compact (xs.mergeSort fun x y => decide (x ≤ y))).length) []) hs (by simp; omega) (by omega)
      rw [List.take_left] at hc
      refine ⟨_, rfl, hc, ?_, fun b hb => .inr hb⟩
      have hg := grownBy_sorted (w := w) (g := g) (n := nn) (os := os) (xs.mergeSort fun x y => decide (x ≤ y)).toArray
      refine ⟨hg.os, hg.tape, hg.output, by simp [putRow, mapBlock, Sort.ahead], fun k hk hne => ?_⟩
      have hgk : g ≠ k := fun e => hne (by simp [Value.ownBlock, e])
      have hold := hg.block k hk (fun e => hgk (by cases e; rfl))
      rw [← hold]
      simp [putRow, mapBlock, Sort.ahead, Array.getElem?_modify, hgk]
  · cases h

set_option maxHeartbeats 2000000 in
set_option maxRecDepth 100000 in
theorem within_walk (n a b : Int) (w : World) : Calls Tryz.prog 162 #[.int .i64 n, .int .i64 a, .int .i64 b] w fun e w' => e = .returned (.bool (decide (a ≤ n) && decide (n ≤ b))) ∧ w' = w := by
  go_enter Tryz.func162, Tryz.ntmps162
  go_wp2
  all_goals go_ret
  all_goals
    refine ⟨?_, rfl⟩
    have : ∀ x y : Bool, x = y → Ending.returned (.bool x) = Ending.returned (.bool y) := fun x y h => by rw [h]
    refine this _ _ ?_
    rw [Bool.eq_iff_iff]
    simp
    try omega

set_option maxHeartbeats 2000000 in
set_option maxRecDepth 100000 in
theorem isNumber_walk (n : Int) (w : World) : Calls Tryz.prog 202 #[.int .i64 n] w fun e w' => e = .returned (.bool (decide (0 ≤ n) && decide (n ≤ 1000000000000))) ∧ w' = w := by
  go_enter Tryz.func202, Tryz.ntmps202
  go_wp2_with (go_at_call 162; refine (within_walk _ _ _ _).mono ?_; rintro e w' ⟨rfl, rfl⟩)
  go_ret
  exact ⟨rfl, rfl⟩

set_option maxHeartbeats 4000000 in
set_option maxRecDepth 100000 in
theorem readInt_walk (s : ByteArray) (p : Int × Bool) (h : readIntS s.data.toList = some p) (w : World) :
    Calls Tryz.prog 167 #[.string s] w fun e w' => e = .returned (.tuple #[.int .i64 p.1, .bool p.2]) ∧ Below w.heap.size w w' := by
  have hs : s.size = s.data.toList.length := ba_size s
  unfold readIntS at h
  by_cases hlong : 13 < s.data.toList.length
  · rw [if_pos hlong] at h
    cases h
    rw [← hs] at hlong
    have X : Aside (13 < s.size) := hlong
    clear hlong hs
    go_enter Tryz.func167, Tryz.ntmps167
    go_wp2_with (go_at_call 208; exfalso; have := X.out; omega)
    all_goals go_ret2
    all_goals exact ⟨rfl, below_refl _⟩
  · rw [if_neg hlong] at h
    split at h
    · rename_i hc
      cases h
      have hP := Any.strconv_ParseInt_10_at64_ok Tryz.laysC174 s (by rw [hs]; omega) _ (parseInt_ok hc.1 hc.2 (by omega)) w
      rw [← hs] at hlong
      generalize numD s.data.toList 0 = m at hP ⊢
      have X : Aside (¬ 13 < s.size) := hlong
      clear hlong hc hs
      go_enter Tryz.func167, Tryz.ntmps167
      go_wp2_with (first
        | (go_at_call 208; refine hP.mono ?_; rintro e w2 ⟨rfl, hW⟩)
        | (go_at_call 202; refine (isNumber_walk _ _).mono ?_; rintro e w3 ⟨rfl, rfl⟩))
      all_goals try (exfalso; have := X.out; omega)
      all_goals go_ret2
      refine ⟨?_, ?_⟩
      · have e : (decide ((m : Int) ≤ 1000000000000)) = decide (m ≤ 1000000000000) := by rw [Bool.eq_iff_iff]; simp only [decide_eq_true_eq]; omega
        show Ending.returned (Value.tuple #[.int .i64 m, .bool (decide ((m : Int) ≤ 1000000000000))]) = _
        rw [e]
      · rcases hW with rfl | ⟨t, rfl⟩
        · exact below_refl _
        · exact Lib.bytesWorld_below _ _ _
    · cases h

set_option maxHeartbeats 2000000 in
set_option maxRecDepth 100000 in
theorem from_calls {vs cs : List (V GG.S)} (h : srcV vs = some cs) {okA : Okc} {w : World} {vals : List Value} (hv : VRs w okA Mem.no vs vals) :
    Calls Tryz.prog 40 vals.toArray w (fun en w' => ∃ b l, en = .returned (.pointer (some ⟨b, 0, none⟩)) ∧ w.heap.size ≤ b ∧ w'.heap[b]? = some (.cells l.toArray 110) ∧ VRs w okA Mem.no cs l ∧ w.grownBy w' none) := by
  unfold srcV at h
  split at h
  · rename_i xs
    have h := Option.some.inj h
    subst h
    obtain ⟨v, l, rfl, h1, h2⟩ := hv.inv
    have hl : l = [] := by have := h2.1; exact List.eq_nil_of_length_eq_zero (by simpa using this.symm)
    subst hl
    have hsl : ∃ a n c, v = .slice a n c := by
      cases h1 with
      | sl0 t a c => exact ⟨_, _, _, rfl⟩
      | sl1 => exact ⟨_, _, _, rfl⟩
    obtain ⟨a, n, c, rfl⟩ := hsl
    have X : Aside (VR (G := GG) w okA Mem.no (.sl (.int .u8) xs) (.slice a n c)) := h1
    clear h1 hv h2
    go_enter Tryz.func40, Tryz.ntmps40
    go_wp2
    go_ret
    refine ⟨w.heap.size, rfl, Nat.le_refl _, [.slice a n c, .int .i64 0, .int .u64 0], heap_alloc_new w _, vrs_three X (.int _ _) (.int _ _), ⟨rfl, rfl, rfl, by simp, fun k hk _ => heap_push w _ k hk⟩⟩
  · cases h

theorem CC.ext : ExtOK CC := by
  refine ⟨fun f rt g vs p h hg okA w vals hlt hgl hv => ?_, fun f e g vs xs h hg okA w vals hlt hgl hv => ?_, fun f e g vs cs h hg okA w vals hlt hgl hv => ?_, fun f T e h w b v us s hB hlen => ?_, fun f T e h w b v l hB => ?_, fun f e t h n w h0 h1 => ?_, fun f g s n h hg okA w hlt hgl => ?_, fun f e t h a n c us w hown h1 hn => ?_, fun f e g xs ys h hg w v hown => ?_⟩
  · change U.extT f = some ⟨rt, g⟩ at h
    unfold U.extT at h
    split at h
    · cases h
      obtain ⟨m, hm⟩ := (hgl.1.2.1 0 rfl).2; exact scut_calls Tryz.lays145 hg hm hv
    · cases h
      exact join_calls Tryz.lays156 Tryz.Builder_Extra_156 hg hlt hv
    · cases h
      obtain ⟨m, hm⟩ := (hgl.1.2.1 0 rfl).2; exact contains_calls Tryz.lays144 hg hm hv
    · cases h
      exact itoa_calls Tryz.laysM173 hg (tabIs_of hgl.2 (g := 1) rfl (by kernel_rfl)) hv
    · cases h
      exact readInt_ext (fun s p h w => readInt_walk s p h w) hg hv
    · cases h
      exact indexByte_calls Tryz.lays137 hg hv
    · cases h
      obtain ⟨m, hm⟩ := (hgl.1.2.1 0 rfl).2; exact replAll_calls Tryz.lays155 Tryz.Builder_Extra_155 hg hm hv
    · cases h
      exact trim_calls Tryz.lays160 hg hv
    · cases h
      obtain ⟨m, hm⟩ := (hgl.1.2.1 0 rfl).2; exact split_calls Tryz.lays146 (by kernel_rfl) hg hm hv
    · cases h
  · cases h
  · change U.ctorT f = some (e, g) at h
    unfold U.ctorT at h
    split at h
    · cases h
      exact from_calls hg hv
    · cases h
  · change U.bldF f = some (1, T, e) at h
    unfold U.bldF at h
    split at h
    · cases h
      exact writeString_calls Tryz.lays166 Tryz.Builder_Extra_166 hB s hlen
    · cases h
    · cases h
  · change U.bldF f = some (3, T, e) at h
    unfold U.bldF at h
    split at h
    · cases h
    · cases h
      exact string_calls Tryz.lays169 Tryz.Builder_Extra_169 hB
    · cases h
  · cases h
  · cases h
  · cases h
  · change U.eatT f = some (e, g) at h
    unfold U.eatT at h
    split at h
    · cases h
      exact sorted_calls hg hown
    · cases h

end Go.Dv.U
