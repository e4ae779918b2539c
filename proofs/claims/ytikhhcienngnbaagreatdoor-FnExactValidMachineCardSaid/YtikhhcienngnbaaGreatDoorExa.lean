/- What the library functions of the program that are met by contract return: the layings of the shelf in plain words, and the contracts of the evaluator. -/
import Derived.Test.YtikhhcienngnbaaGreatDoorSga
import Derived.WalkKit
import Derived.Ground.Names2Prog
import Derived.Ground.Names8Prog
import Derived.Ground.NamesProg
import Derived.Ground.SlgnProg
import Derived.Shelf.SlicesE.Clone
import Derived.Shelf.LaysC
import Derived.Shelf.Strconv.ParseIntPublic10
set_option linter.all false
set_option linter.unusedVariables false
set_option linter.unusedSimpArgs false
namespace Go.Proofs

open Go.Shelf

def Tryz.laysClone_ren : Go.Shelf.Ren:=⟨fun | 16=>266 | n=>n,fun | 24=>33 | 9=>9 | 4=>4 | n=>n,fun | n=>n⟩

theorem Tryz.laysClone : Go.Proofs.Lays2.n16 Tryz.prog Tryz.laysClone_ren:={
  mixed:=by kernel_rfl
  f16:=Tryz.func266.trans (congrArg some (by kernel_rfl))
  t4:=Tryz.underlying4
  a4:=Tryz.isAgg4
  z4:=Tryz.sizeOf4
  v4:=Tryz.zeroValue4
  t9:=Tryz.underlying9
  a9:=Tryz.isAgg9
  z9:=Tryz.sizeOf9
  v9:=Tryz.zeroValue9
  t24:=Tryz.underlying33
  a24:=Tryz.isAgg33
  z24:=Tryz.sizeOf33
  v24:=Tryz.zeroValue33
  i9:=by kernel_rfl}

def Tryz.laysCompact_ren : Go.Shelf.Ren:=⟨fun | 194=>302 | n=>n,fun | 31=>33 | 9=>9 | 3=>3 | 4=>4 | 0=>0 | n=>n,fun | n=>n⟩

theorem Tryz.laysCompact : Go.Proofs.Lays.n194 Tryz.prog Tryz.laysCompact_ren:={
  mixed:=by kernel_rfl
  f194:=Tryz.func302.trans (congrArg some (by kernel_rfl))
  t0:=Tryz.underlying0
  a0:=Tryz.isAgg0
  z0:=Tryz.sizeOf0
  v0:=Tryz.zeroValue0
  t3:=Tryz.underlying3
  a3:=Tryz.isAgg3
  z3:=Tryz.sizeOf3
  v3:=Tryz.zeroValue3
  t4:=Tryz.underlying4
  a4:=Tryz.isAgg4
  z4:=Tryz.sizeOf4
  v4:=Tryz.zeroValue4
  t9:=Tryz.underlying9
  a9:=Tryz.isAgg9
  z9:=Tryz.sizeOf9
  v9:=Tryz.zeroValue9
  t31:=Tryz.underlying33
  a31:=Tryz.isAgg33
  z31:=Tryz.sizeOf33
  v31:=Tryz.zeroValue33}

def Tryz.laysSort_ren : Go.Shelf.Ren:=⟨fun | 190=>301 | 125=>318 | 258=>317 | 128=>340 | 129=>341 | 302=>331 | 303=>332 | 304=>333 | 305=>334 | 306=>335 | 307=>336 | 308=>337 | 309=>338 | 310=>339 | 333=>354 | 329=>355 | 330=>356 | 334=>357 | 335=>358 | 336=>359 | 344=>364 | n=>n,fun | 31=>33 | 9=>9 | 3=>3 | 46=>334 | 0=>0 | 51=>392 | 53=>373 | 4=>4 | 183=>387 | 182=>386 | 131=>294 | 5=>5 | 218=>402 | 222=>406 | 228=>413 | 229=>414 | n=>n,fun | n=>n⟩

theorem Tryz.laysSort : Go.Proofs.Lays.n190 Tryz.prog Tryz.laysSort_ren:={
  mixed:=by kernel_rfl
  f125:=Tryz.func318.trans (congrArg some (by kernel_rfl))
  f128:=Tryz.func340.trans (congrArg some (by kernel_rfl))
  f129:=Tryz.func341.trans (congrArg some (by kernel_rfl))
  f190:=Tryz.func301.trans (congrArg some (by kernel_rfl))
  f258:=Tryz.func317.trans (congrArg some (by kernel_rfl))
  f302:=Tryz.func331.trans (congrArg some (by kernel_rfl))
  f303:=Tryz.func332.trans (congrArg some (by kernel_rfl))
  f304:=Tryz.func333.trans (congrArg some (by kernel_rfl))
  f305:=Tryz.func334.trans (congrArg some (by kernel_rfl))
  f306:=Tryz.func335.trans (congrArg some (by kernel_rfl))
  f307:=Tryz.func336.trans (congrArg some (by kernel_rfl))
  f308:=Tryz.func337.trans (congrArg some (by kernel_rfl))
  f309:=Tryz.func338.trans (congrArg some (by kernel_rfl))
  f310:=Tryz.func339.trans (congrArg some (by kernel_rfl))
  f329:=Tryz.func355.trans (congrArg some (by kernel_rfl))
  f330:=Tryz.func356.trans (congrArg some (by kernel_rfl))
  f333:=Tryz.func354.trans (congrArg some (by kernel_rfl))
  f334:=Tryz.func357.trans (congrArg some (by kernel_rfl))
  f335:=Tryz.func358.trans (congrArg some (by kernel_rfl))
  f336:=Tryz.func359.trans (congrArg some (by kernel_rfl))
  f344:=Tryz.func364.trans (congrArg some (by kernel_rfl))
  t0:=Tryz.underlying0
  a0:=Tryz.isAgg0
  z0:=Tryz.sizeOf0
  v0:=Tryz.zeroValue0
  t3:=Tryz.underlying3
  a3:=Tryz.isAgg3
  z3:=Tryz.sizeOf3
  v3:=Tryz.zeroValue3
  t4:=Tryz.underlying4
  a4:=Tryz.isAgg4
  z4:=Tryz.sizeOf4
  v4:=Tryz.zeroValue4
  t5:=Tryz.underlying5
  a5:=Tryz.isAgg5
  z5:=Tryz.sizeOf5
  v5:=Tryz.zeroValue5
  t9:=Tryz.underlying9
  a9:=Tryz.isAgg9
  z9:=Tryz.sizeOf9
  v9:=Tryz.zeroValue9
  t31:=Tryz.underlying33
  a31:=Tryz.isAgg33
  z31:=Tryz.sizeOf33
  v31:=Tryz.zeroValue33
  t46:=Tryz.underlying334
  a46:=Tryz.isAgg334
  z46:=Tryz.sizeOf334
  v46:=Tryz.zeroValue334
  t51:=Tryz.underlying392
  a51:=Tryz.isAgg392
  z51:=Tryz.sizeOf392
  v51:=Tryz.zeroValue392
  t53:=Tryz.underlying373
  a53:=Tryz.isAgg373
  z53:=Tryz.sizeOf373
  v53:=Tryz.zeroValue373
  t131:=Tryz.underlying294
  a131:=Tryz.isAgg294
  z131:=Tryz.sizeOf294
  v131:=Tryz.zeroValue294
  t182:=Tryz.underlying386
  a182:=Tryz.isAgg386
  z182:=Tryz.sizeOf386
  v182:=Tryz.zeroValue386
  t183:=Tryz.underlying387
  a183:=Tryz.isAgg387
  z183:=Tryz.sizeOf387
  v183:=Tryz.zeroValue387
  t218:=Tryz.underlying402
  a218:=Tryz.isAgg402
  z218:=Tryz.sizeOf402
  v218:=Tryz.zeroValue402
  t222:=Tryz.underlying406
  a222:=Tryz.isAgg406
  z222:=Tryz.sizeOf406
  v222:=Tryz.zeroValue406
  t228:=Tryz.underlying413
  a228:=Tryz.isAgg413
  z228:=Tryz.sizeOf413
  v228:=Tryz.zeroValue413
  t229:=Tryz.underlying414
  a229:=Tryz.isAgg414
  z229:=Tryz.sizeOf414
  v229:=Tryz.zeroValue414}

def Tryz.laysGrow_ren : Go.Shelf.Ren:=⟨fun | 4=>300 | n=>n,fun | 22=>33 | 25=>9 | 3=>3 | 4=>4 | 9=>9 | 20=>20 | 0=>0 | n=>n,fun | n=>n⟩

theorem Tryz.laysGrow : Go.Proofs.Lays8.n4 Tryz.prog Tryz.laysGrow_ren:={
  mixed:=by kernel_rfl
  f4:=⟨Tryz.f300.name,by decide,Tryz.func300.trans (congrArg some (by kernel_rfl))⟩
  t0:=Tryz.underlying0
  a0:=Tryz.isAgg0
  z0:=Tryz.sizeOf0
  v0:=Tryz.zeroValue0
  t3:=Tryz.underlying3
  a3:=Tryz.isAgg3
  z3:=Tryz.sizeOf3
  v3:=Tryz.zeroValue3
  t4:=Tryz.underlying4
  a4:=Tryz.isAgg4
  z4:=Tryz.sizeOf4
  v4:=Tryz.zeroValue4
  t9:=Tryz.underlying9
  a9:=Tryz.isAgg9
  z9:=Tryz.sizeOf9
  v9:=Tryz.zeroValue9
  t20:=Tryz.underlying20
  a20:=Tryz.isAgg20
  z20:=Tryz.sizeOf20
  v20:=Tryz.zeroValue20
  t22:=Tryz.underlying33
  a22:=Tryz.isAgg33
  z22:=Tryz.sizeOf33
  v22:=Tryz.zeroValue33}

def Tryz.laysGrow298_ren : Go.Shelf.Ren:=⟨fun | 4=>298 | n=>n,fun | 22=>63 | 25=>136 | 3=>3 | 4=>4 | 9=>9 | 20=>20 | 0=>0 | n=>n,fun | n=>n⟩

theorem Tryz.laysGrow298 : Go.Proofs.Lays8.n4 Tryz.prog Tryz.laysGrow298_ren:={
  mixed:=by kernel_rfl
  f4:=⟨Tryz.f298.name,by decide,Tryz.func298.trans (congrArg some (by kernel_rfl))⟩
  t0:=Tryz.underlying0
  a0:=Tryz.isAgg0
  z0:=Tryz.sizeOf0
  v0:=Tryz.zeroValue0
  t3:=Tryz.underlying3
  a3:=Tryz.isAgg3
  z3:=Tryz.sizeOf3
  v3:=Tryz.zeroValue3
  t4:=Tryz.underlying4
  a4:=Tryz.isAgg4
  z4:=Tryz.sizeOf4
  v4:=Tryz.zeroValue4
  t9:=Tryz.underlying9
  a9:=Tryz.isAgg9
  z9:=Tryz.sizeOf9
  v9:=Tryz.zeroValue9
  t20:=Tryz.underlying20
  a20:=Tryz.isAgg20
  z20:=Tryz.sizeOf20
  v20:=Tryz.zeroValue20
  t22:=Tryz.underlying63
  a22:=Tryz.isAgg63
  z22:=Tryz.sizeOf63
  v22:=Tryz.zeroValue63}

def Tryz.laysGrow313_ren : Go.Shelf.Ren:=⟨fun | 4=>313 | n=>n,fun | 22=>77 | 25=>129 | 3=>3 | 4=>4 | 9=>9 | 20=>20 | 0=>0 | n=>n,fun | n=>n⟩

theorem Tryz.laysGrow313 : Go.Proofs.Lays8.n4 Tryz.prog Tryz.laysGrow313_ren:={
  mixed:=by kernel_rfl
  f4:=⟨Tryz.f313.name,by decide,Tryz.func313.trans (congrArg some (by kernel_rfl))⟩
  t0:=Tryz.underlying0
  a0:=Tryz.isAgg0
  z0:=Tryz.sizeOf0
  v0:=Tryz.zeroValue0
  t3:=Tryz.underlying3
  a3:=Tryz.isAgg3
  z3:=Tryz.sizeOf3
  v3:=Tryz.zeroValue3
  t4:=Tryz.underlying4
  a4:=Tryz.isAgg4
  z4:=Tryz.sizeOf4
  v4:=Tryz.zeroValue4
  t9:=Tryz.underlying9
  a9:=Tryz.isAgg9
  z9:=Tryz.sizeOf9
  v9:=Tryz.zeroValue9
  t20:=Tryz.underlying20
  a20:=Tryz.isAgg20
  z20:=Tryz.sizeOf20
  v20:=Tryz.zeroValue20
  t22:=Tryz.underlying77
  a22:=Tryz.isAgg77
  z22:=Tryz.sizeOf77
  v22:=Tryz.zeroValue77}

def Tryz.laysCln293_ren : Go.Shelf.Ren:=⟨fun | 41=>293 | n=>n,fun | 22=>77 | 23=>129 | 4=>4 | n=>n,fun | n=>n⟩

theorem Tryz.laysCln293 : Go.Proofs.SlLaysE0.n41 Tryz.prog Tryz.laysCln293_ren:={
  mixed:=by kernel_rfl
  f41:=⟨Tryz.f293.name,by decide,Tryz.func293.trans (congrArg some (by kernel_rfl))⟩
  t4:=Tryz.underlying4
  a4:=Tryz.isAgg4
  z4:=Tryz.sizeOf4
  v4:=Tryz.zeroValue4
  t22:=Tryz.underlying77
  a22:=Tryz.isAgg77
  z22:=Tryz.sizeOf77
  v22:=Tryz.zeroValue77}

def Tryz.lays156_ren : Go.Shelf.Ren:=⟨fun | 156=>246 | 165=>286 | 166=>112 | 169=>113 | 240=>183 | 241=>309 | 276=>255 | 277=>325 | n=>n,fun | 31=>33 | 9=>9 | 3=>3 | 4=>4 | 0=>0 | 20=>20 | 72=>193 | 76=>196 | 70=>190 | 37=>191 | 75=>195 | 127=>273 | 164=>325 | 5=>5 | 80=>141 | n=>n,fun | n=>n⟩

theorem Tryz.lays156 : Go.Proofs.Lays.n156 Tryz.prog Tryz.lays156_ren:={
  mixed:=by kernel_rfl
  f156:=Tryz.func246.trans (congrArg some (by kernel_rfl))
  f165:=Tryz.func286.trans (congrArg some (by kernel_rfl))
  f166:=Tryz.func112.trans (congrArg some (by kernel_rfl))
  f169:=Tryz.func113.trans (congrArg some (by kernel_rfl))
  f240:=Tryz.func183.trans (congrArg some (by kernel_rfl))
  f241:=Tryz.func309.trans (congrArg some (by kernel_rfl))
  f276:=Tryz.func255.trans (congrArg some (by kernel_rfl))
  f277:=Tryz.func325.trans (congrArg some (by kernel_rfl))
  t0:=Tryz.underlying0
  a0:=Tryz.isAgg0
  z0:=Tryz.sizeOf0
  v0:=Tryz.zeroValue0
  t3:=Tryz.underlying3
  a3:=Tryz.isAgg3
  z3:=Tryz.sizeOf3
  v3:=Tryz.zeroValue3
  t4:=Tryz.underlying4
  a4:=Tryz.isAgg4
  z4:=Tryz.sizeOf4
  v4:=Tryz.zeroValue4
  t9:=Tryz.underlying9
  a9:=Tryz.isAgg9
  z9:=Tryz.sizeOf9
  v9:=Tryz.zeroValue9
  t20:=Tryz.underlying20
  a20:=Tryz.isAgg20
  z20:=Tryz.sizeOf20
  v20:=Tryz.zeroValue20
  t31:=Tryz.underlying33
  a31:=Tryz.isAgg33
  z31:=Tryz.sizeOf33
  v31:=Tryz.zeroValue33
  t37:=Tryz.underlying191
  a37:=Tryz.isAgg191
  z37:=Tryz.sizeOf191
  v37:=Tryz.zeroValue191
  t70:=Tryz.underlying190
  a70:=Tryz.isAgg190
  z70:=Tryz.sizeOf190
  v70:=Tryz.zeroValue190
  t72:=Tryz.underlying193
  a72:=Tryz.isAgg193
  z72:=Tryz.sizeOf193
  v72:=Tryz.zeroValue193
  t75:=Tryz.underlying195
  a75:=Tryz.isAgg195
  z75:=Tryz.sizeOf195
  v75:=Tryz.zeroValue195
  t76:=Tryz.underlying196
  a76:=Tryz.isAgg196
  z76:=Tryz.sizeOf196
  v76:=Tryz.zeroValue196
  t127:=Tryz.underlying273
  a127:=Tryz.isAgg273
  z127:=Tryz.sizeOf273
  v127:=Tryz.zeroValue273
  t164:=Tryz.underlying325
  a164:=Tryz.isAgg325
  z164:=Tryz.sizeOf325
  v164:=Tryz.zeroValue325}

theorem Tryz.Builder_Extra_156 : Builder.Extra Tryz.prog Tryz.lays156_ren:={
  sizeBuilder:=by kernel_rfl
  liesBuilder:=by kernel_rfl
  t5:=Tryz.underlying5
  a5:=Tryz.isAgg5
  z5:=Tryz.sizeOf5
  v5:=Tryz.zeroValue5
  infoByte:=by kernel_rfl
  cellsByte:=by kernel_rfl
  sizeByte:=by kernel_rfl
  neB5:=by decide}

def Tryz.laysC174_ren : Go.Shelf.Ren:=⟨fun | 174=>287 | 247=>310 | 245=>311 | 287=>326 | 279=>327 | 280=>328 | 281=>329 | 282=>330 | 321=>349 | 322=>350 | 316=>351 | 171=>353 | 205=>352 | 243=>363 | 246=>308 | 283=>321 | 284=>322 | 285=>323 | 286=>324 | 129=>341 | 317=>345 | 318=>346 | 319=>347 | 320=>348 | 337=>361 | 338=>362 | n=>n,fun | 9=>9 | 3=>3 | 2=>2 | 75=>195 | 85=>345 | 4=>4 | 167=>379 | 5=>5 | 53=>373 | 175=>380 | 46=>334 | 168=>382 | 37=>191 | 0=>0 | 210=>400 | 21=>21 | 127=>273 | 145=>412 | 143=>410 | 171=>372 | 173=>376 | 212=>395 | 51=>392 | 20=>20 | 213=>396 | 232=>416 | 233=>417 | 80=>141 | n=>n,fun | 15=>2 | 16=>3 | 17=>1 | 18=>4 | 19=>5 | n=>n⟩

theorem Tryz.laysC174 : Go.Proofs.LaysC.n174 Tryz.prog Tryz.laysC174_ren:={
  mixed:=by kernel_rfl
  f129:=Tryz.func341.trans (congrArg some (by kernel_rfl))
  f171:=Tryz.func353.trans (congrArg some (by kernel_rfl))
  f174:=Tryz.func287.trans (congrArg some (by kernel_rfl))
  f205:=Tryz.func352.trans (congrArg some (by kernel_rfl))
  f243:=Tryz.func363.trans (congrArg some (by kernel_rfl))
  f245:=Tryz.func311.trans (congrArg some (by kernel_rfl))
  f246:=Tryz.func308.trans (congrArg some (by kernel_rfl))
  f247:=Tryz.func310.trans (congrArg some (by kernel_rfl))
  f279:=Tryz.func327.trans (congrArg some (by kernel_rfl))
  f280:=Tryz.func328.trans (congrArg some (by kernel_rfl))
  f281:=Tryz.func329.trans (congrArg some (by kernel_rfl))
  f282:=Tryz.func330.trans (congrArg some (by kernel_rfl))
  f283:=Tryz.func321.trans (congrArg some (by kernel_rfl))
  f284:=Tryz.func322.trans (congrArg some (by kernel_rfl))
  f285:=Tryz.func323.trans (congrArg some (by kernel_rfl))
  f286:=Tryz.func324.trans (congrArg some (by kernel_rfl))
  f287:=Tryz.func326.trans (congrArg some (by kernel_rfl))
  f316:=Tryz.func351.trans (congrArg some (by kernel_rfl))
  f317:=Tryz.func345.trans (congrArg some (by kernel_rfl))
  f318:=Tryz.func346.trans (congrArg some (by kernel_rfl))
  f319:=Tryz.func347.trans (congrArg some (by kernel_rfl))
  f320:=Tryz.func348.trans (congrArg some (by kernel_rfl))
  f321:=Tryz.func349.trans (congrArg some (by kernel_rfl))
  f322:=Tryz.func350.trans (congrArg some (by kernel_rfl))
  f337:=Tryz.func361.trans (congrArg some (by kernel_rfl))
  f338:=Tryz.func362.trans (congrArg some (by kernel_rfl))
  t0:=Tryz.underlying0
  a0:=Tryz.isAgg0
  z0:=Tryz.sizeOf0
  v0:=Tryz.zeroValue0
  t2:=Tryz.underlying2
  a2:=Tryz.isAgg2
  z2:=Tryz.sizeOf2
  v2:=Tryz.zeroValue2
  t3:=Tryz.underlying3
  a3:=Tryz.isAgg3
  z3:=Tryz.sizeOf3
  v3:=Tryz.zeroValue3
  t4:=Tryz.underlying4
  a4:=Tryz.isAgg4
  z4:=Tryz.sizeOf4
  v4:=Tryz.zeroValue4
  t5:=Tryz.underlying5
  a5:=Tryz.isAgg5
  z5:=Tryz.sizeOf5
  v5:=Tryz.zeroValue5
  t9:=Tryz.underlying9
  a9:=Tryz.isAgg9
  z9:=Tryz.sizeOf9
  v9:=Tryz.zeroValue9
  t20:=Tryz.underlying20
  a20:=Tryz.isAgg20
  z20:=Tryz.sizeOf20
  v20:=Tryz.zeroValue20
  t21:=Tryz.underlying21
  a21:=Tryz.isAgg21
  z21:=Tryz.sizeOf21
  v21:=Tryz.zeroValue21
  t37:=Tryz.underlying191
  a37:=Tryz.isAgg191
  z37:=Tryz.sizeOf191
  v37:=Tryz.zeroValue191
  t46:=Tryz.underlying334
  a46:=Tryz.isAgg334
  z46:=Tryz.sizeOf334
  v46:=Tryz.zeroValue334
  t51:=Tryz.underlying392
  a51:=Tryz.isAgg392
  z51:=Tryz.sizeOf392
  v51:=Tryz.zeroValue392
  t53:=Tryz.underlying373
  a53:=Tryz.isAgg373
  z53:=Tryz.sizeOf373
  v53:=Tryz.zeroValue373
  t75:=Tryz.underlying195
  a75:=Tryz.isAgg195
  z75:=Tryz.sizeOf195
  v75:=Tryz.zeroValue195
  t85:=Tryz.underlying345
  a85:=Tryz.isAgg345
  z85:=Tryz.sizeOf345
  v85:=Tryz.zeroValue345
  t127:=Tryz.underlying273
  a127:=Tryz.isAgg273
  z127:=Tryz.sizeOf273
  v127:=Tryz.zeroValue273
  t143:=Tryz.underlying410
  a143:=Tryz.isAgg410
  z143:=Tryz.sizeOf410
  v143:=Tryz.zeroValue410
  t145:=Tryz.underlying412
  a145:=Tryz.isAgg412
  z145:=Tryz.sizeOf412
  v145:=Tryz.zeroValue412
  t167:=Tryz.underlying379
  a167:=Tryz.isAgg379
  z167:=Tryz.sizeOf379
  v167:=Tryz.zeroValue379
  t168:=Tryz.underlying382
  a168:=Tryz.isAgg382
  z168:=Tryz.sizeOf382
  v168:=Tryz.zeroValue382
  t171:=Tryz.underlying372
  a171:=Tryz.isAgg372
  z171:=Tryz.sizeOf372
  v171:=Tryz.zeroValue372
  t173:=Tryz.underlying376
  a173:=Tryz.isAgg376
  z173:=Tryz.sizeOf376
  v173:=Tryz.zeroValue376
  t175:=Tryz.underlying380
  a175:=Tryz.isAgg380
  z175:=Tryz.sizeOf380
  v175:=Tryz.zeroValue380
  t210:=Tryz.underlying400
  a210:=Tryz.isAgg400
  z210:=Tryz.sizeOf400
  v210:=Tryz.zeroValue400
  t212:=Tryz.underlying395
  a212:=Tryz.isAgg395
  z212:=Tryz.sizeOf395
  v212:=Tryz.zeroValue395
  t213:=Tryz.underlying396
  a213:=Tryz.isAgg396
  z213:=Tryz.sizeOf396
  t232:=Tryz.underlying416
  a232:=Tryz.isAgg416
  z232:=Tryz.sizeOf416
  v232:=Tryz.zeroValue416
  t233:=Tryz.underlying417
  a233:=Tryz.isAgg417
  z233:=Tryz.sizeOf417
  v233:=Tryz.zeroValue417
  g15:=by kernel_rfl
  g16:=by kernel_rfl
  g17:=by kernel_rfl
  g18:=by kernel_rfl
  g19:=by kernel_rfl
  t80:=Tryz.underlying141
  a80:=Tryz.isAgg141
  z80:=Tryz.sizeOf141
  v80:=Tryz.zeroValue141
  i0:=by kernel_rfl
  i2:=by kernel_rfl
  i3:=by kernel_rfl
  i4:=by kernel_rfl
  i5:=by kernel_rfl
  i9:=by kernel_rfl
  i20:=by kernel_rfl
  i21:=by kernel_rfl
  i37:=by kernel_rfl
  i46:=by kernel_rfl
  i51:=by kernel_rfl
  i53:=by kernel_rfl
  i75:=by kernel_rfl
  i80:=by kernel_rfl
  i85:=by kernel_rfl
  i127:=by kernel_rfl
  i143:=by kernel_rfl
  i145:=by kernel_rfl
  i167:=by kernel_rfl
  i168:=by kernel_rfl
  i171:=by kernel_rfl
  i173:=by kernel_rfl
  i175:=by kernel_rfl
  i210:=by kernel_rfl
  i212:=by kernel_rfl
  i232:=by kernel_rfl
  i233:=by kernel_rfl
  m15:=by kernel_rfl
  m16:=by kernel_rfl
  m17:=by kernel_rfl
  m18:=by kernel_rfl
  m19:=by kernel_rfl
  c0:=by kernel_rfl
  c2:=by kernel_rfl
  c3:=by kernel_rfl
  c4:=by kernel_rfl
  c5:=by kernel_rfl
  c9:=by kernel_rfl
  c20:=by kernel_rfl
  c21:=by kernel_rfl
  c37:=by kernel_rfl
  c46:=by kernel_rfl
  c51:=by kernel_rfl
  c53:=by kernel_rfl
  c75:=by kernel_rfl
  c80:=by kernel_rfl
  c85:=by kernel_rfl
  c127:=by kernel_rfl
  c143:=by kernel_rfl
  c145:=by kernel_rfl
  c167:=by kernel_rfl
  c168:=by kernel_rfl
  c171:=by kernel_rfl
  c173:=by kernel_rfl
  c175:=by kernel_rfl
  c210:=by kernel_rfl
  c212:=by kernel_rfl
  c213:=by kernel_rfl
  c232:=by kernel_rfl
  c233:=by kernel_rfl}

def Tryz.lays137_ren : Go.Shelf.Ren:=⟨fun | 137=>253 | 217=>289 | 266=>312 | n=>n,fun | 9=>9 | 5=>5 | 3=>3 | n=>n,fun | n=>n⟩

theorem Tryz.lays137 : Go.Proofs.Lays.n137 Tryz.prog Tryz.lays137_ren:={
  mixed:=by kernel_rfl
  f137:=Tryz.func253.trans (congrArg some (by kernel_rfl))
  f217:=Tryz.func289.trans (congrArg some (by kernel_rfl))
  f266:=Tryz.func312.trans (congrArg some (by kernel_rfl))
  t3:=Tryz.underlying3
  a3:=Tryz.isAgg3
  z3:=Tryz.sizeOf3
  v3:=Tryz.zeroValue3
  t5:=Tryz.underlying5
  a5:=Tryz.isAgg5
  z5:=Tryz.sizeOf5
  v5:=Tryz.zeroValue5
  t9:=Tryz.underlying9
  a9:=Tryz.isAgg9
  z9:=Tryz.sizeOf9
  v9:=Tryz.zeroValue9}

def Tryz.lays144_ren : Go.Shelf.Ren:=⟨fun | 144=>284 | 143=>307 | 219=>320 | 217=>289 | 225=>342 | 224=>343 | 267=>344 | 266=>312 | 314=>360 | n=>n,fun | 9=>9 | 4=>4 | 3=>3 | 5=>5 | 46=>334 | 146=>408 | 51=>392 | n=>n,fun | 1=>0 | n=>n⟩

theorem Tryz.lays144 : Go.Proofs.Lays.n144 Tryz.prog Tryz.lays144_ren:={
  mixed:=by kernel_rfl
  f143:=Tryz.func307.trans (congrArg some (by kernel_rfl))
  f144:=Tryz.func284.trans (congrArg some (by kernel_rfl))
  f217:=Tryz.func289.trans (congrArg some (by kernel_rfl))
  f219:=Tryz.func320.trans (congrArg some (by kernel_rfl))
  f224:=Tryz.func343.trans (congrArg some (by kernel_rfl))
  f225:=Tryz.func342.trans (congrArg some (by kernel_rfl))
  f266:=Tryz.func312.trans (congrArg some (by kernel_rfl))
  f267:=Tryz.func344.trans (congrArg some (by kernel_rfl))
  f314:=Tryz.func360.trans (congrArg some (by kernel_rfl))
  t3:=Tryz.underlying3
  a3:=Tryz.isAgg3
  z3:=Tryz.sizeOf3
  v3:=Tryz.zeroValue3
  t4:=Tryz.underlying4
  a4:=Tryz.isAgg4
  z4:=Tryz.sizeOf4
  v4:=Tryz.zeroValue4
  t5:=Tryz.underlying5
  a5:=Tryz.isAgg5
  z5:=Tryz.sizeOf5
  v5:=Tryz.zeroValue5
  t9:=Tryz.underlying9
  a9:=Tryz.isAgg9
  z9:=Tryz.sizeOf9
  v9:=Tryz.zeroValue9
  t46:=Tryz.underlying334
  a46:=Tryz.isAgg334
  z46:=Tryz.sizeOf334
  v46:=Tryz.zeroValue334
  t51:=Tryz.underlying392
  a51:=Tryz.isAgg392
  z51:=Tryz.sizeOf392
  v51:=Tryz.zeroValue392
  t146:=Tryz.underlying408
  a146:=Tryz.isAgg408
  z146:=Tryz.sizeOf408
  v146:=Tryz.zeroValue408
  g1:=by kernel_rfl}

def Tryz.laysM173_ren : Go.Shelf.Ren:=⟨fun | 173=>285 | 246=>308 | 283=>321 | 284=>322 | 285=>323 | 286=>324 | 129=>341 | 317=>345 | 318=>346 | 319=>347 | 320=>348 | 337=>361 | 338=>362 | n=>n,fun | 2=>2 | 3=>3 | 9=>9 | 4=>4 | 171=>372 | 0=>0 | 53=>373 | 37=>191 | 5=>5 | 173=>376 | 212=>395 | 51=>392 | 20=>20 | 213=>396 | 46=>334 | 232=>416 | 233=>417 | n=>n,fun | 17=>1 | 18=>4 | 19=>5 | n=>n⟩

theorem Tryz.laysM173 : Go.Proofs.LaysM.n173 Tryz.prog Tryz.laysM173_ren:={
  mixed:=by kernel_rfl
  f129:=Tryz.func341.trans (congrArg some (by kernel_rfl))
  f173:=Tryz.func285.trans (congrArg some (by kernel_rfl))
  f246:=Tryz.func308.trans (congrArg some (by kernel_rfl))
  f283:=Tryz.func321.trans (congrArg some (by kernel_rfl))
  f284:=Tryz.func322.trans (congrArg some (by kernel_rfl))
  f285:=Tryz.func323.trans (congrArg some (by kernel_rfl))
  f286:=Tryz.func324.trans (congrArg some (by kernel_rfl))
  f317:=Tryz.func345.trans (congrArg some (by kernel_rfl))
  f318:=Tryz.func346.trans (congrArg some (by kernel_rfl))
  f319:=Tryz.func347.trans (congrArg some (by kernel_rfl))
  f320:=Tryz.func348.trans (congrArg some (by kernel_rfl))
  f337:=Tryz.func361.trans (congrArg some (by kernel_rfl))
  f338:=Tryz.func362.trans (congrArg some (by kernel_rfl))
  t0:=Tryz.underlying0
  a0:=Tryz.isAgg0
  z0:=Tryz.sizeOf0
  v0:=Tryz.zeroValue0
  t2:=Tryz.underlying2
  a2:=Tryz.isAgg2
  z2:=Tryz.sizeOf2
  v2:=Tryz.zeroValue2
  t3:=Tryz.underlying3
  a3:=Tryz.isAgg3
  z3:=Tryz.sizeOf3
  v3:=Tryz.zeroValue3
  t4:=Tryz.underlying4
  a4:=Tryz.isAgg4
  z4:=Tryz.sizeOf4
  v4:=Tryz.zeroValue4
  t5:=Tryz.underlying5
  a5:=Tryz.isAgg5
  z5:=Tryz.sizeOf5
  v5:=Tryz.zeroValue5
  t9:=Tryz.underlying9
  a9:=Tryz.isAgg9
  z9:=Tryz.sizeOf9
  v9:=Tryz.zeroValue9
  t20:=Tryz.underlying20
  a20:=Tryz.isAgg20
  z20:=Tryz.sizeOf20
  v20:=Tryz.zeroValue20
  t37:=Tryz.underlying191
  a37:=Tryz.isAgg191
  z37:=Tryz.sizeOf191
  v37:=Tryz.zeroValue191
  t46:=Tryz.underlying334
  a46:=Tryz.isAgg334
  z46:=Tryz.sizeOf334
  v46:=Tryz.zeroValue334
  t51:=Tryz.underlying392
  a51:=Tryz.isAgg392
  z51:=Tryz.sizeOf392
  v51:=Tryz.zeroValue392
  t53:=Tryz.underlying373
  a53:=Tryz.isAgg373
  z53:=Tryz.sizeOf373
  v53:=Tryz.zeroValue373
  t171:=Tryz.underlying372
  a171:=Tryz.isAgg372
  z171:=Tryz.sizeOf372
  v171:=Tryz.zeroValue372
  t173:=Tryz.underlying376
  a173:=Tryz.isAgg376
  z173:=Tryz.sizeOf376
  v173:=Tryz.zeroValue376
  t212:=Tryz.underlying395
  a212:=Tryz.isAgg395
  z212:=Tryz.sizeOf395
  v212:=Tryz.zeroValue395
  t213:=Tryz.underlying396
  a213:=Tryz.isAgg396
  z213:=Tryz.sizeOf396
  t232:=Tryz.underlying416
  a232:=Tryz.isAgg416
  z232:=Tryz.sizeOf416
  v232:=Tryz.zeroValue416
  t233:=Tryz.underlying417
  a233:=Tryz.isAgg417
  z233:=Tryz.sizeOf417
  v233:=Tryz.zeroValue417
  g17:=by kernel_rfl
  g18:=by kernel_rfl
  g19:=by kernel_rfl
  i0:=by kernel_rfl
  i2:=by kernel_rfl
  i3:=by kernel_rfl
  i4:=by kernel_rfl
  i5:=by kernel_rfl
  i9:=by kernel_rfl
  i20:=by kernel_rfl
  i37:=by kernel_rfl
  i46:=by kernel_rfl
  i51:=by kernel_rfl
  i53:=by kernel_rfl
  i171:=by kernel_rfl
  i173:=by kernel_rfl
  i212:=by kernel_rfl
  i232:=by kernel_rfl
  i233:=by kernel_rfl
  m17:=by kernel_rfl
  m18:=by kernel_rfl
  m19:=by kernel_rfl}

def Tryz.lays169_ren : Go.Shelf.Ren:=⟨fun | 169=>113 | n=>n,fun | 70=>190 | 9=>9 | 0=>0 | 72=>193 | 37=>191 | 127=>273 | 3=>3 | 5=>5 | n=>n,fun | n=>n⟩

theorem Tryz.lays169 : Go.Proofs.Lays.n169 Tryz.prog Tryz.lays169_ren:={
  mixed:=by kernel_rfl
  f169:=Tryz.func113.trans (congrArg some (by kernel_rfl))
  t0:=Tryz.underlying0
  a0:=Tryz.isAgg0
  z0:=Tryz.sizeOf0
  v0:=Tryz.zeroValue0
  t3:=Tryz.underlying3
  a3:=Tryz.isAgg3
  z3:=Tryz.sizeOf3
  v3:=Tryz.zeroValue3
  t9:=Tryz.underlying9
  a9:=Tryz.isAgg9
  z9:=Tryz.sizeOf9
  v9:=Tryz.zeroValue9
  t37:=Tryz.underlying191
  a37:=Tryz.isAgg191
  z37:=Tryz.sizeOf191
  v37:=Tryz.zeroValue191
  t70:=Tryz.underlying190
  a70:=Tryz.isAgg190
  z70:=Tryz.sizeOf190
  v70:=Tryz.zeroValue190
  t72:=Tryz.underlying193
  a72:=Tryz.isAgg193
  z72:=Tryz.sizeOf193
  v72:=Tryz.zeroValue193
  t127:=Tryz.underlying273
  a127:=Tryz.isAgg273
  z127:=Tryz.sizeOf273
  v127:=Tryz.zeroValue273}

theorem Tryz.Builder_Extra_169 : Builder.Extra Tryz.prog Tryz.lays169_ren:={
  sizeBuilder:=by kernel_rfl
  liesBuilder:=by kernel_rfl
  t5:=Tryz.underlying5
  a5:=Tryz.isAgg5
  z5:=Tryz.sizeOf5
  v5:=Tryz.zeroValue5
  infoByte:=by kernel_rfl
  cellsByte:=by kernel_rfl
  sizeByte:=by kernel_rfl
  neB5:=by decide}

end Go.Proofs

namespace Go.Proofs

open Go.Shelf

def Tryz.lays166_ren : Go.Shelf.Ren:=⟨fun | 166=>112 | 240=>183 | 276=>255 | n=>n,fun | 0=>0 | 3=>3 | 4=>4 | 9=>9 | 20=>20 | 37=>191 | 70=>190 | 72=>193 | 75=>195 | 164=>325 | 5=>5 | 80=>141 | n=>n,fun | n=>n⟩

theorem Tryz.lays166 : Go.Proofs.Lays.n166 Tryz.prog Tryz.lays166_ren:={
  mixed:=by kernel_rfl
  f166:=Tryz.func112.trans (congrArg some (by kernel_rfl))
  f240:=Tryz.func183.trans (congrArg some (by kernel_rfl))
  f276:=Tryz.func255.trans (congrArg some (by kernel_rfl))
  t0:=Tryz.underlying0
  a0:=Tryz.isAgg0
  z0:=Tryz.sizeOf0
  v0:=Tryz.zeroValue0
  t3:=Tryz.underlying3
  a3:=Tryz.isAgg3
  z3:=Tryz.sizeOf3
  v3:=Tryz.zeroValue3
  t4:=Tryz.underlying4
  a4:=Tryz.isAgg4
  z4:=Tryz.sizeOf4
  v4:=Tryz.zeroValue4
  t9:=Tryz.underlying9
  a9:=Tryz.isAgg9
  z9:=Tryz.sizeOf9
  v9:=Tryz.zeroValue9
  t20:=Tryz.underlying20
  a20:=Tryz.isAgg20
  z20:=Tryz.sizeOf20
  v20:=Tryz.zeroValue20
  t37:=Tryz.underlying191
  a37:=Tryz.isAgg191
  z37:=Tryz.sizeOf191
  v37:=Tryz.zeroValue191
  t70:=Tryz.underlying190
  a70:=Tryz.isAgg190
  z70:=Tryz.sizeOf190
  v70:=Tryz.zeroValue190
  t72:=Tryz.underlying193
  a72:=Tryz.isAgg193
  z72:=Tryz.sizeOf193
  v72:=Tryz.zeroValue193
  t75:=Tryz.underlying195
  a75:=Tryz.isAgg195
  z75:=Tryz.sizeOf195
  v75:=Tryz.zeroValue195
  t164:=Tryz.underlying325
  a164:=Tryz.isAgg325
  z164:=Tryz.sizeOf325
  v164:=Tryz.zeroValue325}

theorem Tryz.Builder_Extra_166 : Builder.Extra Tryz.prog Tryz.lays166_ren:={
  sizeBuilder:=by kernel_rfl
  liesBuilder:=by kernel_rfl
  t5:=Tryz.underlying5
  a5:=Tryz.isAgg5
  z5:=Tryz.sizeOf5
  v5:=Tryz.zeroValue5
  infoByte:=by kernel_rfl
  cellsByte:=by kernel_rfl
  sizeByte:=by kernel_rfl
  neB5:=by decide}

end Go.Proofs

namespace Go.Dv.U

open Go Go.Dv Go.Proofs Go.Shelf Go.RowKit Go.Lib Go.Sort

set_option maxHeartbeats 2000000 in
set_option maxRecDepth 100000 in
theorem Iu (g n cap:Nat) (xs:List (List UInt8)) (w:World) (hl:xs.length=n) (hbig:n<4611686018427387904) (hlt:g<w.heap.size) (hcap:n<=cap) (hH:Holds Go.Proofs.encStr w g 0 xs.toArray):
    Calls Tryz.prog 265 #[.slice (some ⟨g,0,none⟩) n cap] w fun e w'=>e = .returned (.slice (some ⟨g,0,none⟩) (Lib.compact (xs.mergeSort fun x y=>decide (x<=y))).length cap)/\∃ nn os q,w'=putRow Go.Proofs.encStr (Sort.ahead (grow (putRow Go.Proofs.encStr (Sort.ahead w nn) g 0 (xs.mergeSort fun x y=>decide (x<=y)).toArray) os) q) g 0 (Lib.compact (xs.mergeSort fun x y=>decide (x<=y))++List.replicate (n-(Lib.compact (xs.mergeSort fun x y=>decide (x<=y))).length) []).toArray:=by
  have hsort:=Any.slices_Sort_string Tryz.laysSort g 0 cap xs w hH hlt (by omega)
  rw [hl] at hsort
  have hl2:(xs.mergeSort fun x y=>decide (x<=y)).length=n:=by rw [List.length_mergeSort];exact hl
  have X:Aside (g<w.heap.size/\n<=cap/\n<4611686018427387904/\xs.length=n/\Holds Go.Proofs.encStr w g 0 xs.toArray):=⟨hlt,hcap,hbig,hl,hH⟩
  clear hH hl
  go_enter Tryz.func265,Tryz.ntmps265
  go_wp2_with (first
    | (go_at_call 301;refine hsort.mono ?_;rintro e w2 ⟨rfl,nn,os,rfl⟩
       have hH2:Holds Go.Proofs.encStr (grow (putRow Go.Proofs.encStr (Sort.ahead w nn) g 0 (xs.mergeSort fun x y=>decide (x<=y)).toArray) os) g 0 (xs.mergeSort fun x y=>decide (x<=y)).toArray:=
         holds_grow Go.Proofs.encStr _ os g 0 _ (by simpa [putRow,mapBlock,Sort.ahead] using X.out.1) (holds_putRow Go.Proofs.encStr _ g 0 _ _ (holds_ahead Go.Proofs.encStr w nn g 0 _ X.out.2.2.2.2) (by simp))
       have hcomp:=Any.slices_Compact_string Tryz.laysCompact g 0 cap (xs.mergeSort fun x y=>decide (x<=y)) _ hH2 (by have:=X.out.2.2.1;omega) (by have:=X.out.2.1;omega)
       rw [hl2] at hcomp
       clear hH2 hsort)
    | (go_at_call 302;refine hcomp.mono ?_;rintro e w3 ⟨rfl,q,rfl⟩))
  go_ret
  exact ⟨rfl,nn,os,q,rfl⟩

set_option maxHeartbeats 2000000 in
theorem Iv (w:World):Calls Tryz.prog 265 #[.slice none 0 0] w fun e w'=>e = .returned (.slice none 0 0)/\w'=w:=by
  go_enter Tryz.func265,Tryz.ntmps265
  go_wp2_with (first
    | (go_at_call 301;refine (Any.slices_Sort_string_none Tryz.laysSort none 0 _).mono ?_;rintro e w' ⟨rfl,rfl⟩)
    | (go_at_call 302;refine (Any.slices_Compact_string_empty Tryz.laysCompact none 0 _).mono ?_;rintro e w' ⟨rfl,rfl⟩))
  go_ret
  exact ⟨rfl,rfl⟩

theorem Gw {xs ys:List (List UInt8)} (h:Im xs=some ys) {w:World} {v:Value} (hown:w.ownsRow 0 9 1 v xs.length (xs.map Go.Dv.encStr)):
    Calls Tryz.prog 265 #[v] w (fun en w'=>∃ v',en = .returned v'/\w'.ownsRow 0 9 1 v' ys.length (ys.map Go.Dv.encStr)/\w.grownBy w' v.ownBlock/\∀ b,v'.ownBlock=some b->w.heap.size<=b\/v.ownBlock=some b):=by
  unfold Im at h
  split at h
  · rename_i hl
    have h:=Option.some.inj h
    subst h
    have hbb:big=68719476736:=rfl
    rw [hbb] at hl
    have hl2:(xs.mergeSort fun x y=>decide (x<=y)).length=xs.length:=List.length_mergeSort xs
    have hle:=Lib.compact_length_le (xs.mergeSort fun x y=>decide (x<=y))
    by_cases hv:v = .slice none 0 0
    · subst hv
      have hx:xs=[]:=by
        rcases hown.2 with ⟨_,h0⟩ | ⟨g,cap,cur,h0,_⟩
        · exact List.eq_nil_of_length_eq_zero h0
        · cases h0
      subst hx
      refine (Iv w).mono ?_
      rintro e w' ⟨rfl,rfl⟩
      have e0:Lib.compact (([]:List (List UInt8)).mergeSort fun x y=>decide (x<=y))=[]:=by simp [Lib.compact,Lib.compactUpTo]
      rw [e0]
      exact ⟨_,rfl,hown,⟨rfl,rfl,rfl,Nat.le_refl _,fun _ _ _=>rfl⟩,fun b hb=>.inr hb⟩
    · obtain ⟨g,cap,rfl,hb,hlt,hnc,hcm,_,hH⟩:=Lib.holds_of_ownsRow (enc:=Go.Proofs.encStr) hown hv
      refine (Iu g xs.length cap xs w rfl (by omega) hlt hnc hH).mono ?_
      rintro e w' ⟨rfl,nn,os,q,rfl⟩
      rcases hown.2 with ⟨h0,_⟩ | ⟨g',cap',cur,hv',hbase,hb',h1,h2,h3,h4⟩
      · cases h0
      cases hv'
      have hs:=ownsRow_sorted (n:=nn) (os:=os) (ts:=xs.mergeSort fun x y=>decide (x<=y)) hl2 hbase hb' h1 h2 h3
      have hc:=Lib.ownsRow_putRow (q:=q) (k:=(Lib.compact (xs.mergeSort fun x y=>decide (x<=y))).length) (ys:=Lib.compact (xs.mergeSort fun x y=>decide (x<=y))++List.replicate (xs.length-(Lib.compact (xs.mergeSort fun x y=>decide (x<=y))).length) []) hs (by simp;omega) (by omega)
      rw [List.take_left] at hc
      refine ⟨_,rfl,hc,?_,fun b hb=>.inr hb⟩
      have hg:=grownBy_sorted (w:=w) (g:=g) (n:=nn) (os:=os) (xs.mergeSort fun x y=>decide (x<=y)).toArray
      refine ⟨hg.os,hg.tape,hg.output,by simp [putRow,mapBlock,Sort.ahead],fun k hk hne=>?_⟩
      have hgk:g≠k:=fun e=>hne (by simp [Value.ownBlock,e])
      have hold:=hg.block k hk (fun e=>hgk (by cases e;rfl))
      rw [<-hold]
      simp [putRow,mapBlock,Sort.ahead,Array.getElem?_modify,hgk]
  · cases h

set_option maxHeartbeats 2000000 in
set_option maxRecDepth 100000 in
theorem Iw (n a b:Int) (w:World):Calls Tryz.prog 60 #[.int .i64 n,.int .i64 a,.int .i64 b] w fun e w'=>e = .returned (.bool (decide (a<=n)&&decide (n<=b)))/\w'=w:=by
  go_enter Tryz.func60,Tryz.ntmps60
  go_wp2
  all_goals go_ret
  all_goals
    refine ⟨?_,rfl⟩
    have:∀ x y:Bool,x=y->Ending.returned (.bool x)=Ending.returned (.bool y):=fun x y h=>by rw [h]
    refine this _ _ ?_
    rw [Bool.eq_iff_iff]
    simp
    try omega

set_option maxHeartbeats 2000000 in
set_option maxRecDepth 100000 in
theorem Ez (n:Int) (w:World):Calls Tryz.prog 288 #[.int .i64 n] w fun e w'=>e = .returned (.bool (decide (0<=n)&&decide (n<=1000000000000)))/\w'=w:=by
  go_enter Tryz.func288,Tryz.ntmps288
  go_wp2_with (go_at_call 60;refine (Iw _ _ _ _).mono ?_;rintro e w' ⟨rfl,rfl⟩)
  go_ret
  exact ⟨rfl,rfl⟩

set_option maxHeartbeats 4000000 in
set_option maxRecDepth 100000 in
theorem Gx (s:ByteArray) (p:Int×Bool) (h:r0 s.data.toList=some p) (w:World):
    Calls Tryz.prog 251 #[.string s] w fun e w'=>e = .returned (.tuple #[.int .i64 p.1,.bool p.2])/\Below w.heap.size w w':=by
  have hs:s.size=s.data.toList.length:=M4 s
  unfold r0 at h
  by_cases hlong:13<s.data.toList.length
  · rw [if_pos hlong] at h
    cases h
    rw [<-hs] at hlong
    have X:Aside (13<s.size):=hlong
    clear hlong hs
    go_enter Tryz.func251,Tryz.ntmps251
    go_wp2_with (go_at_call 287;exfalso;have:=X.out;omega)
    all_goals go_ret2
    all_goals exact ⟨rfl,ox _⟩
  · rw [if_neg hlong] at h
    split at h
    · rename_i hc
      cases h
      have hP:=Any.strconv_ParseInt_10_at64_ok Tryz.laysC174 s (by rw [hs];omega) _ (Ip hc.1 hc.2 (by omega)) w
      rw [<-hs] at hlong
      generalize FV s.data.toList 0=m at hP ⊢
      have X:Aside (¬ 13<s.size):=hlong
      clear hlong hc hs
      go_enter Tryz.func251,Tryz.ntmps251
      go_wp2_with (first
        | (go_at_call 287;refine hP.mono ?_;rintro e w2 ⟨rfl,hW⟩)
        | (go_at_call 288;refine (Ez _ _).mono ?_;rintro e w3 ⟨rfl,rfl⟩))
      all_goals try (exfalso;have:=X.out;omega)
      all_goals go_ret2
      refine ⟨?_,?_⟩
      · have e:(decide ((m:Int)<=1000000000000))=decide (m<=1000000000000):=by rw [Bool.eq_iff_iff];simp only [decide_eq_true_eq];omega
        show Ending.returned (Value.tuple #[.int .i64 m,.bool (decide ((m:Int)<=1000000000000))])=_
        rw [e]
      · rcases hW with rfl | ⟨t,rfl⟩
        · exact ox _
        · exact Lib.bytesWorld_below _ _ _
    · cases h

theorem CC.ext : ou CC:=by
  refine ⟨fun f rt g vs p h hg okA w vals hlt hgl hv=>?_,fun f e g vs xs h hg okA w vals hlt hgl hv=>?_,fun f e g vs cs h hg okA w vals hlt hgl hv=>?_,fun f T e h w b v us s hB hlen=>?_,fun f T e h w b v l hB=>?_,fun f e t h n w h0 h1=>?_,fun f g s n h hg okA w hlt hgl=>?_,fun f e t h a n c us w hown h1 hn=>?_,fun f e g xs ys h hg w v hown=>?_⟩
  · change U.extT f=some ⟨rt,g⟩ at h
    unfold U.extT at h
    split at h
    · cases h
      exact KQ Tryz.lays156 Tryz.Builder_Extra_156 hg hlt hv
    · cases h
      exact Iq (fun s p h w=>Gx s p h w) hg hv
    · cases h
      exact AN Tryz.lays137 hg hv
    · cases h
      obtain ⟨m,hm⟩:=(hgl.1.2.1 0 rfl).2;exact CB Tryz.lays144 hg hm hv
    · cases h
      exact KP Tryz.laysM173 hg (ON hgl.2 (g:=1) rfl (by kernel_rfl)) hv
    · cases h
  · change U.ownT f=some (e,g) at h
    unfold U.ownT at h
    split at h
    · cases h
      exact Io Tryz.laysClone hg hv
    · cases h
      exact grow_calls' Tryz.laysGrow (by kernel_rfl) hg hv
    · cases h
  · cases h
  · change U.bldF f=some (1,T,e) at h
    unfold U.bldF at h
    split at h
    · cases h
      exact wU Tryz.lays166 Tryz.Builder_Extra_166 hB s hlen
    · cases h
    · cases h
  · change U.bldF f=some (3,T,e) at h
    unfold U.bldF at h
    split at h
    · cases h
    · cases h
      exact Gs Tryz.lays169 Tryz.Builder_Extra_169 hB
    · cases h
  · change U.grwT f=some (e,t) at h
    unfold U.grwT at h
    split at h
    · cases h
      exact J1 Tryz.laysGrow298 (by kernel_rfl) h0 h1
    · cases h
      exact J1 Tryz.laysGrow313 (by kernel_rfl) h0 h1
    · cases h
  · cases h
  · change U.clnF f=some (e,t) at h
    unfold U.clnF at h
    split at h
    · cases h
      exact MY Tryz.laysCln293 (by kernel_rfl) hown h1 hn
    · cases h
  · change U.eatT f=some (e,g) at h
    unfold U.eatT at h
    split at h
    · cases h
      exact Gw hg hown
    · cases h

end Go.Dv.U
