/- What the library functions of the program that are met by contract return: the layings of the shelf in plain words, and the contracts of the evaluator. -/
import Derived.Test.YtpjcbihleclioaaGreatDoorSga
import Derived.WalkKit
import Derived.Ground.Names2Prog
import Derived.Ground.Names8Prog
import Derived.Ground.NamesProg
import Derived.Ground.SlgnProg
import Derived.Shelf.SlicesE.Clone
import Derived.Shelf.LaysC
import Derived.Shelf.Strconv.ParseIntPublic10
set_option linter.all false
set_option linter.unusedVariables false
set_option linter.unusedSimpArgs false
namespace Go.Proofs

open Go.Shelf

def Tryz.lays145_ren : Go.Shelf.Ren:=⟨fun | 145=>30 | 220=>76 | 219=>119 | 217=>163 | 225=>164 | 224=>165 | 267=>166 | 266=>197 | 314=>198 | n=>n,fun | 9=>9 | 4=>4 | 59=>58 | 3=>3 | 5=>5 | 46=>148 | 146=>192 | 51=>191 | n=>n,fun | 1=>0 | n=>n⟩

theorem Tryz.lays145 : Go.Proofs.Lays.n145 Tryz.prog Tryz.lays145_ren:={
  mixed:=by kernel_rfl
  f145:=Tryz.func30.trans (congrArg some (by kernel_rfl))
  f217:=Tryz.func163.trans (congrArg some (by kernel_rfl))
  f219:=Tryz.func119.trans (congrArg some (by kernel_rfl))
  f220:=Tryz.func76.trans (congrArg some (by kernel_rfl))
  f224:=Tryz.func165.trans (congrArg some (by kernel_rfl))
  f225:=Tryz.func164.trans (congrArg some (by kernel_rfl))
  f266:=Tryz.func197.trans (congrArg some (by kernel_rfl))
  f267:=Tryz.func166.trans (congrArg some (by kernel_rfl))
  f314:=Tryz.func198.trans (congrArg some (by kernel_rfl))
  t3:=Tryz.underlying3
  a3:=Tryz.isAgg3
  z3:=Tryz.sizeOf3
  v3:=Tryz.zeroValue3
  t4:=Tryz.underlying4
  a4:=Tryz.isAgg4
  z4:=Tryz.sizeOf4
  v4:=Tryz.zeroValue4
  t5:=Tryz.underlying5
  a5:=Tryz.isAgg5
  z5:=Tryz.sizeOf5
  v5:=Tryz.zeroValue5
  t9:=Tryz.underlying9
  a9:=Tryz.isAgg9
  z9:=Tryz.sizeOf9
  v9:=Tryz.zeroValue9
  t46:=Tryz.underlying148
  a46:=Tryz.isAgg148
  z46:=Tryz.sizeOf148
  v46:=Tryz.zeroValue148
  t51:=Tryz.underlying191
  a51:=Tryz.isAgg191
  z51:=Tryz.sizeOf191
  v51:=Tryz.zeroValue191
  t59:=Tryz.underlying58
  a59:=Tryz.isAgg58
  z59:=Tryz.sizeOf58
  v59:=Tryz.zeroValue58
  t146:=Tryz.underlying192
  a146:=Tryz.isAgg192
  z146:=Tryz.sizeOf192
  v146:=Tryz.zeroValue192
  g1:=by kernel_rfl}

def Tryz.laysM173_ren : Go.Shelf.Ren:=⟨fun | 173=>99 | 246=>149 | 283=>188 | 284=>189 | 285=>190 | 286=>191 | 129=>216 | 317=>215 | 318=>217 | 319=>218 | 320=>219 | 337=>239 | 338=>240 | n=>n,fun | 2=>2 | 3=>3 | 9=>9 | 4=>4 | 171=>185 | 0=>0 | 53=>92 | 37=>22 | 5=>5 | 173=>188 | 212=>205 | 51=>191 | 20=>20 | 213=>206 | 46=>148 | 232=>234 | 233=>235 | n=>n,fun | 17=>1 | 18=>6 | 19=>7 | n=>n⟩

theorem Tryz.laysM173 : Go.Proofs.LaysM.n173 Tryz.prog Tryz.laysM173_ren:={
  mixed:=by kernel_rfl
  f129:=Tryz.func216.trans (congrArg some (by kernel_rfl))
  f173:=Tryz.func99.trans (congrArg some (by kernel_rfl))
  f246:=Tryz.func149.trans (congrArg some (by kernel_rfl))
  f283:=Tryz.func188.trans (congrArg some (by kernel_rfl))
  f284:=Tryz.func189.trans (congrArg some (by kernel_rfl))
  f285:=Tryz.func190.trans (congrArg some (by kernel_rfl))
  f286:=Tryz.func191.trans (congrArg some (by kernel_rfl))
  f317:=Tryz.func215.trans (congrArg some (by kernel_rfl))
  f318:=Tryz.func217.trans (congrArg some (by kernel_rfl))
  f319:=Tryz.func218.trans (congrArg some (by kernel_rfl))
  f320:=Tryz.func219.trans (congrArg some (by kernel_rfl))
  f337:=Tryz.func239.trans (congrArg some (by kernel_rfl))
  f338:=Tryz.func240.trans (congrArg some (by kernel_rfl))
  t0:=Tryz.underlying0
  a0:=Tryz.isAgg0
  z0:=Tryz.sizeOf0
  v0:=Tryz.zeroValue0
  t2:=Tryz.underlying2
  a2:=Tryz.isAgg2
  z2:=Tryz.sizeOf2
  v2:=Tryz.zeroValue2
  t3:=Tryz.underlying3
  a3:=Tryz.isAgg3
  z3:=Tryz.sizeOf3
  v3:=Tryz.zeroValue3
  t4:=Tryz.underlying4
  a4:=Tryz.isAgg4
  z4:=Tryz.sizeOf4
  v4:=Tryz.zeroValue4
  t5:=Tryz.underlying5
  a5:=Tryz.isAgg5
  z5:=Tryz.sizeOf5
  v5:=Tryz.zeroValue5
  t9:=Tryz.underlying9
  a9:=Tryz.isAgg9
  z9:=Tryz.sizeOf9
  v9:=Tryz.zeroValue9
  t20:=Tryz.underlying20
  a20:=Tryz.isAgg20
  z20:=Tryz.sizeOf20
  v20:=Tryz.zeroValue20
  t37:=Tryz.underlying22
  a37:=Tryz.isAgg22
  z37:=Tryz.sizeOf22
  v37:=Tryz.zeroValue22
  t46:=Tryz.underlying148
  a46:=Tryz.isAgg148
  z46:=Tryz.sizeOf148
  v46:=Tryz.zeroValue148
  t51:=Tryz.underlying191
  a51:=Tryz.isAgg191
  z51:=Tryz.sizeOf191
  v51:=Tryz.zeroValue191
  t53:=Tryz.underlying92
  a53:=Tryz.isAgg92
  z53:=Tryz.sizeOf92
  v53:=Tryz.zeroValue92
  t171:=Tryz.underlying185
  a171:=Tryz.isAgg185
  z171:=Tryz.sizeOf185
  v171:=Tryz.zeroValue185
  t173:=Tryz.underlying188
  a173:=Tryz.isAgg188
  z173:=Tryz.sizeOf188
  v173:=Tryz.zeroValue188
  t212:=Tryz.underlying205
  a212:=Tryz.isAgg205
  z212:=Tryz.sizeOf205
  v212:=Tryz.zeroValue205
  t213:=Tryz.underlying206
  a213:=Tryz.isAgg206
  z213:=Tryz.sizeOf206
  t232:=Tryz.underlying234
  a232:=Tryz.isAgg234
  z232:=Tryz.sizeOf234
  v232:=Tryz.zeroValue234
  t233:=Tryz.underlying235
  a233:=Tryz.isAgg235
  z233:=Tryz.sizeOf235
  v233:=Tryz.zeroValue235
  g17:=by kernel_rfl
  g18:=by kernel_rfl
  g19:=by kernel_rfl
  i0:=by kernel_rfl
  i2:=by kernel_rfl
  i3:=by kernel_rfl
  i4:=by kernel_rfl
  i5:=by kernel_rfl
  i9:=by kernel_rfl
  i20:=by kernel_rfl
  i37:=by kernel_rfl
  i46:=by kernel_rfl
  i51:=by kernel_rfl
  i53:=by kernel_rfl
  i171:=by kernel_rfl
  i173:=by kernel_rfl
  i212:=by kernel_rfl
  i232:=by kernel_rfl
  i233:=by kernel_rfl
  m17:=by kernel_rfl
  m18:=by kernel_rfl
  m19:=by kernel_rfl}

def Tryz.lays156_ren : Go.Shelf.Ren:=⟨fun | 156=>109 | 165=>154 | 166=>88 | 169=>89 | 240=>131 | 241=>194 | 276=>171 | 277=>221 | n=>n,fun | 31=>70 | 9=>9 | 3=>3 | 4=>4 | 0=>0 | 20=>20 | 72=>119 | 76=>122 | 70=>117 | 37=>22 | 75=>121 | 127=>149 | 164=>171 | 5=>5 | 80=>48 | n=>n,fun | n=>n⟩

theorem Tryz.lays156 : Go.Proofs.Lays.n156 Tryz.prog Tryz.lays156_ren:={
  mixed:=by kernel_rfl
  f156:=Tryz.func109.trans (congrArg some (by kernel_rfl))
  f165:=Tryz.func154.trans (congrArg some (by kernel_rfl))
  f166:=Tryz.func88.trans (congrArg some (by kernel_rfl))
  f169:=Tryz.func89.trans (congrArg some (by kernel_rfl))
  f240:=Tryz.func131.trans (congrArg some (by kernel_rfl))
  f241:=Tryz.func194.trans (congrArg some (by kernel_rfl))
  f276:=Tryz.func171.trans (congrArg some (by kernel_rfl))
  f277:=Tryz.func221.trans (congrArg some (by kernel_rfl))
  t0:=Tryz.underlying0
  a0:=Tryz.isAgg0
  z0:=Tryz.sizeOf0
  v0:=Tryz.zeroValue0
  t3:=Tryz.underlying3
  a3:=Tryz.isAgg3
  z3:=Tryz.sizeOf3
  v3:=Tryz.zeroValue3
  t4:=Tryz.underlying4
  a4:=Tryz.isAgg4
  z4:=Tryz.sizeOf4
  v4:=Tryz.zeroValue4
  t9:=Tryz.underlying9
  a9:=Tryz.isAgg9
  z9:=Tryz.sizeOf9
  v9:=Tryz.zeroValue9
  t20:=Tryz.underlying20
  a20:=Tryz.isAgg20
  z20:=Tryz.sizeOf20
  v20:=Tryz.zeroValue20
  t31:=Tryz.underlying70
  a31:=Tryz.isAgg70
  z31:=Tryz.sizeOf70
  v31:=Tryz.zeroValue70
  t37:=Tryz.underlying22
  a37:=Tryz.isAgg22
  z37:=Tryz.sizeOf22
  v37:=Tryz.zeroValue22
  t70:=Tryz.underlying117
  a70:=Tryz.isAgg117
  z70:=Tryz.sizeOf117
  v70:=Tryz.zeroValue117
  t72:=Tryz.underlying119
  a72:=Tryz.isAgg119
  z72:=Tryz.sizeOf119
  v72:=Tryz.zeroValue119
  t75:=Tryz.underlying121
  a75:=Tryz.isAgg121
  z75:=Tryz.sizeOf121
  v75:=Tryz.zeroValue121
  t76:=Tryz.underlying122
  a76:=Tryz.isAgg122
  z76:=Tryz.sizeOf122
  v76:=Tryz.zeroValue122
  t127:=Tryz.underlying149
  a127:=Tryz.isAgg149
  z127:=Tryz.sizeOf149
  v127:=Tryz.zeroValue149
  t164:=Tryz.underlying171
  a164:=Tryz.isAgg171
  z164:=Tryz.sizeOf171
  v164:=Tryz.zeroValue171}

theorem Tryz.Builder_Extra_156 : Builder.Extra Tryz.prog Tryz.lays156_ren:={
  sizeBuilder:=by kernel_rfl
  liesBuilder:=by kernel_rfl
  t5:=Tryz.underlying5
  a5:=Tryz.isAgg5
  z5:=Tryz.sizeOf5
  v5:=Tryz.zeroValue5
  infoByte:=by kernel_rfl
  cellsByte:=by kernel_rfl
  sizeByte:=by kernel_rfl
  neB5:=by decide}

def Tryz.laysC174_ren : Go.Shelf.Ren:=⟨fun | 174=>167 | 247=>199 | 245=>200 | 287=>223 | 279=>224 | 280=>225 | 281=>226 | 282=>227 | 321=>241 | 322=>242 | 316=>243 | 171=>245 | 205=>244 | 243=>256 | 246=>149 | 283=>188 | 284=>189 | 285=>190 | 286=>191 | 129=>216 | 317=>215 | 318=>217 | 319=>218 | 320=>219 | 337=>239 | 338=>240 | n=>n,fun | 9=>9 | 3=>3 | 2=>2 | 75=>121 | 85=>166 | 4=>4 | 167=>210 | 5=>5 | 53=>92 | 175=>211 | 46=>148 | 168=>213 | 37=>22 | 0=>0 | 210=>226 | 21=>21 | 127=>149 | 145=>238 | 143=>236 | 171=>185 | 173=>188 | 212=>205 | 51=>191 | 20=>20 | 213=>206 | 232=>234 | 233=>235 | 80=>48 | n=>n,fun | 15=>2 | 16=>3 | 17=>1 | 18=>6 | 19=>7 | n=>n⟩

theorem Tryz.laysC174 : Go.Proofs.LaysC.n174 Tryz.prog Tryz.laysC174_ren:={
  mixed:=by kernel_rfl
  f129:=Tryz.func216.trans (congrArg some (by kernel_rfl))
  f171:=Tryz.func245.trans (congrArg some (by kernel_rfl))
  f174:=Tryz.func167.trans (congrArg some (by kernel_rfl))
  f205:=Tryz.func244.trans (congrArg some (by kernel_rfl))
  f243:=Tryz.func256.trans (congrArg some (by kernel_rfl))
  f245:=Tryz.func200.trans (congrArg some (by kernel_rfl))
  f246:=Tryz.func149.trans (congrArg some (by kernel_rfl))
  f247:=Tryz.func199.trans (congrArg some (by kernel_rfl))
  f279:=Tryz.func224.trans (congrArg some (by kernel_rfl))
  f280:=Tryz.func225.trans (congrArg some (by kernel_rfl))
  f281:=Tryz.func226.trans (congrArg some (by kernel_rfl))
  f282:=Tryz.func227.trans (congrArg some (by kernel_rfl))
  f283:=Tryz.func188.trans (congrArg some (by kernel_rfl))
  f284:=Tryz.func189.trans (congrArg some (by kernel_rfl))
  f285:=Tryz.func190.trans (congrArg some (by kernel_rfl))
  f286:=Tryz.func191.trans (congrArg some (by kernel_rfl))
  f287:=Tryz.func223.trans (congrArg some (by kernel_rfl))
  f316:=Tryz.func243.trans (congrArg some (by kernel_rfl))
  f317:=Tryz.func215.trans (congrArg some (by kernel_rfl))
  f318:=Tryz.func217.trans (congrArg some (by kernel_rfl))
  f319:=Tryz.func218.trans (congrArg some (by kernel_rfl))
  f320:=Tryz.func219.trans (congrArg some (by kernel_rfl))
  f321:=Tryz.func241.trans (congrArg some (by kernel_rfl))
  f322:=Tryz.func242.trans (congrArg some (by kernel_rfl))
  f337:=Tryz.func239.trans (congrArg some (by kernel_rfl))
  f338:=Tryz.func240.trans (congrArg some (by kernel_rfl))
  t0:=Tryz.underlying0
  a0:=Tryz.isAgg0
  z0:=Tryz.sizeOf0
  v0:=Tryz.zeroValue0
  t2:=Tryz.underlying2
  a2:=Tryz.isAgg2
  z2:=Tryz.sizeOf2
  v2:=Tryz.zeroValue2
  t3:=Tryz.underlying3
  a3:=Tryz.isAgg3
  z3:=Tryz.sizeOf3
  v3:=Tryz.zeroValue3
  t4:=Tryz.underlying4
  a4:=Tryz.isAgg4
  z4:=Tryz.sizeOf4
  v4:=Tryz.zeroValue4
  t5:=Tryz.underlying5
  a5:=Tryz.isAgg5
  z5:=Tryz.sizeOf5
  v5:=Tryz.zeroValue5
  t9:=Tryz.underlying9
  a9:=Tryz.isAgg9
  z9:=Tryz.sizeOf9
  v9:=Tryz.zeroValue9
  t20:=Tryz.underlying20
  a20:=Tryz.isAgg20
  z20:=Tryz.sizeOf20
  v20:=Tryz.zeroValue20
  t21:=Tryz.underlying21
  a21:=Tryz.isAgg21
  z21:=Tryz.sizeOf21
  v21:=Tryz.zeroValue21
  t37:=Tryz.underlying22
  a37:=Tryz.isAgg22
  z37:=Tryz.sizeOf22
  v37:=Tryz.zeroValue22
  t46:=Tryz.underlying148
  a46:=Tryz.isAgg148
  z46:=Tryz.sizeOf148
  v46:=Tryz.zeroValue148
  t51:=Tryz.underlying191
  a51:=Tryz.isAgg191
  z51:=Tryz.sizeOf191
  v51:=Tryz.zeroValue191
  t53:=Tryz.underlying92
  a53:=Tryz.isAgg92
  z53:=Tryz.sizeOf92
  v53:=Tryz.zeroValue92
  t75:=Tryz.underlying121
  a75:=Tryz.isAgg121
  z75:=Tryz.sizeOf121
  v75:=Tryz.zeroValue121
  t85:=Tryz.underlying166
  a85:=Tryz.isAgg166
  z85:=Tryz.sizeOf166
  v85:=Tryz.zeroValue166
  t127:=Tryz.underlying149
  a127:=Tryz.isAgg149
  z127:=Tryz.sizeOf149
  v127:=Tryz.zeroValue149
  t143:=Tryz.underlying236
  a143:=Tryz.isAgg236
  z143:=Tryz.sizeOf236
  v143:=Tryz.zeroValue236
  t145:=Tryz.underlying238
  a145:=Tryz.isAgg238
  z145:=Tryz.sizeOf238
  v145:=Tryz.zeroValue238
  t167:=Tryz.underlying210
  a167:=Tryz.isAgg210
  z167:=Tryz.sizeOf210
  v167:=Tryz.zeroValue210
  t168:=Tryz.underlying213
  a168:=Tryz.isAgg213
  z168:=Tryz.sizeOf213
  v168:=Tryz.zeroValue213
  t171:=Tryz.underlying185
  a171:=Tryz.isAgg185
  z171:=Tryz.sizeOf185
  v171:=Tryz.zeroValue185
  t173:=Tryz.underlying188
  a173:=Tryz.isAgg188
  z173:=Tryz.sizeOf188
  v173:=Tryz.zeroValue188
  t175:=Tryz.underlying211
  a175:=Tryz.isAgg211
  z175:=Tryz.sizeOf211
  v175:=Tryz.zeroValue211
  t210:=Tryz.underlying226
  a210:=Tryz.isAgg226
  z210:=Tryz.sizeOf226
  v210:=Tryz.zeroValue226
  t212:=Tryz.underlying205
  a212:=Tryz.isAgg205
  z212:=Tryz.sizeOf205
  v212:=Tryz.zeroValue205
  t213:=Tryz.underlying206
  a213:=Tryz.isAgg206
  z213:=Tryz.sizeOf206
  t232:=Tryz.underlying234
  a232:=Tryz.isAgg234
  z232:=Tryz.sizeOf234
  v232:=Tryz.zeroValue234
  t233:=Tryz.underlying235
  a233:=Tryz.isAgg235
  z233:=Tryz.sizeOf235
  v233:=Tryz.zeroValue235
  g15:=by kernel_rfl
  g16:=by kernel_rfl
  g17:=by kernel_rfl
  g18:=by kernel_rfl
  g19:=by kernel_rfl
  t80:=Tryz.underlying48
  a80:=Tryz.isAgg48
  z80:=Tryz.sizeOf48
  v80:=Tryz.zeroValue48
  i0:=by kernel_rfl
  i2:=by kernel_rfl
  i3:=by kernel_rfl
  i4:=by kernel_rfl
  i5:=by kernel_rfl
  i9:=by kernel_rfl
  i20:=by kernel_rfl
  i21:=by kernel_rfl
  i37:=by kernel_rfl
  i46:=by kernel_rfl
  i51:=by kernel_rfl
  i53:=by kernel_rfl
  i75:=by kernel_rfl
  i80:=by kernel_rfl
  i85:=by kernel_rfl
  i127:=by kernel_rfl
  i143:=by kernel_rfl
  i145:=by kernel_rfl
  i167:=by kernel_rfl
  i168:=by kernel_rfl
  i171:=by kernel_rfl
  i173:=by kernel_rfl
  i175:=by kernel_rfl
  i210:=by kernel_rfl
  i212:=by kernel_rfl
  i232:=by kernel_rfl
  i233:=by kernel_rfl
  m15:=by kernel_rfl
  m16:=by kernel_rfl
  m17:=by kernel_rfl
  m18:=by kernel_rfl
  m19:=by kernel_rfl
  c0:=by kernel_rfl
  c2:=by kernel_rfl
  c3:=by kernel_rfl
  c4:=by kernel_rfl
  c5:=by kernel_rfl
  c9:=by kernel_rfl
  c20:=by kernel_rfl
  c21:=by kernel_rfl
  c37:=by kernel_rfl
  c46:=by kernel_rfl
  c51:=by kernel_rfl
  c53:=by kernel_rfl
  c75:=by kernel_rfl
  c80:=by kernel_rfl
  c85:=by kernel_rfl
  c127:=by kernel_rfl
  c143:=by kernel_rfl
  c145:=by kernel_rfl
  c167:=by kernel_rfl
  c168:=by kernel_rfl
  c171:=by kernel_rfl
  c173:=by kernel_rfl
  c175:=by kernel_rfl
  c210:=by kernel_rfl
  c212:=by kernel_rfl
  c213:=by kernel_rfl
  c232:=by kernel_rfl
  c233:=by kernel_rfl}

def Tryz.lays137_ren : Go.Shelf.Ren:=⟨fun | 137=>125 | 217=>163 | 266=>197 | n=>n,fun | 9=>9 | 5=>5 | 3=>3 | n=>n,fun | n=>n⟩

theorem Tryz.lays137 : Go.Proofs.Lays.n137 Tryz.prog Tryz.lays137_ren:={
  mixed:=by kernel_rfl
  f137:=Tryz.func125.trans (congrArg some (by kernel_rfl))
  f217:=Tryz.func163.trans (congrArg some (by kernel_rfl))
  f266:=Tryz.func197.trans (congrArg some (by kernel_rfl))
  t3:=Tryz.underlying3
  a3:=Tryz.isAgg3
  z3:=Tryz.sizeOf3
  v3:=Tryz.zeroValue3
  t5:=Tryz.underlying5
  a5:=Tryz.isAgg5
  z5:=Tryz.sizeOf5
  v5:=Tryz.zeroValue5
  t9:=Tryz.underlying9
  a9:=Tryz.isAgg9
  z9:=Tryz.sizeOf9
  v9:=Tryz.zeroValue9}

def Tryz.lays155_ren : Go.Shelf.Ren:=⟨fun | 155=>132 | 154=>172 | 138=>204 | 165=>154 | 143=>193 | 166=>88 | 197=>205 | 169=>89 | 195=>231 | 218=>232 | 240=>131 | 241=>194 | 219=>119 | 260=>233 | 276=>171 | 277=>221 | 217=>163 | 225=>164 | 224=>165 | 267=>166 | 266=>197 | 314=>198 | n=>n,fun | 9=>9 | 3=>3 | 4=>4 | 72=>119 | 0=>0 | 76=>122 | 105=>198 | 21=>21 | 5=>5 | 70=>117 | 20=>20 | 37=>22 | 75=>121 | 127=>149 | 164=>171 | 46=>148 | 119=>229 | 139=>232 | 138=>231 | 146=>192 | 51=>191 | 80=>48 | n=>n,fun | 1=>0 | 3=>4 | 4=>5 | n=>n⟩

theorem Tryz.lays155 : Go.Proofs.Lays.n155 Tryz.prog Tryz.lays155_ren:={
  mixed:=by kernel_rfl
  f138:=Tryz.func204.trans (congrArg some (by kernel_rfl))
  f143:=Tryz.func193.trans (congrArg some (by kernel_rfl))
  f154:=Tryz.func172.trans (congrArg some (by kernel_rfl))
  f155:=Tryz.func132.trans (congrArg some (by kernel_rfl))
  f165:=Tryz.func154.trans (congrArg some (by kernel_rfl))
  f166:=Tryz.func88.trans (congrArg some (by kernel_rfl))
  f169:=Tryz.func89.trans (congrArg some (by kernel_rfl))
  f195:=Tryz.func231.trans (congrArg some (by kernel_rfl))
  f197:=Tryz.func205.trans (congrArg some (by kernel_rfl))
  f217:=Tryz.func163.trans (congrArg some (by kernel_rfl))
  f218:=Tryz.func232.trans (congrArg some (by kernel_rfl))
  f219:=Tryz.func119.trans (congrArg some (by kernel_rfl))
  f224:=Tryz.func165.trans (congrArg some (by kernel_rfl))
  f225:=Tryz.func164.trans (congrArg some (by kernel_rfl))
  f240:=Tryz.func131.trans (congrArg some (by kernel_rfl))
  f241:=Tryz.func194.trans (congrArg some (by kernel_rfl))
  f260:=Tryz.func233.trans (congrArg some (by kernel_rfl))
  f266:=Tryz.func197.trans (congrArg some (by kernel_rfl))
  f267:=Tryz.func166.trans (congrArg some (by kernel_rfl))
  f276:=Tryz.func171.trans (congrArg some (by kernel_rfl))
  f277:=Tryz.func221.trans (congrArg some (by kernel_rfl))
  f314:=Tryz.func198.trans (congrArg some (by kernel_rfl))
  t0:=Tryz.underlying0
  a0:=Tryz.isAgg0
  z0:=Tryz.sizeOf0
  v0:=Tryz.zeroValue0
  t3:=Tryz.underlying3
  a3:=Tryz.isAgg3
  z3:=Tryz.sizeOf3
  v3:=Tryz.zeroValue3
  t4:=Tryz.underlying4
  a4:=Tryz.isAgg4
  z4:=Tryz.sizeOf4
  v4:=Tryz.zeroValue4
  t5:=Tryz.underlying5
  a5:=Tryz.isAgg5
  z5:=Tryz.sizeOf5
  v5:=Tryz.zeroValue5
  t9:=Tryz.underlying9
  a9:=Tryz.isAgg9
  z9:=Tryz.sizeOf9
  v9:=Tryz.zeroValue9
  t20:=Tryz.underlying20
  a20:=Tryz.isAgg20
  z20:=Tryz.sizeOf20
  v20:=Tryz.zeroValue20
  t21:=Tryz.underlying21
  a21:=Tryz.isAgg21
  z21:=Tryz.sizeOf21
  v21:=Tryz.zeroValue21
  t37:=Tryz.underlying22
  a37:=Tryz.isAgg22
  z37:=Tryz.sizeOf22
  v37:=Tryz.zeroValue22
  t46:=Tryz.underlying148
  a46:=Tryz.isAgg148
  z46:=Tryz.sizeOf148
  v46:=Tryz.zeroValue148
  t51:=Tryz.underlying191
  a51:=Tryz.isAgg191
  z51:=Tryz.sizeOf191
  v51:=Tryz.zeroValue191
  t70:=Tryz.underlying117
  a70:=Tryz.isAgg117
  z70:=Tryz.sizeOf117
  v70:=Tryz.zeroValue117
  t72:=Tryz.underlying119
  a72:=Tryz.isAgg119
  z72:=Tryz.sizeOf119
  v72:=Tryz.zeroValue119
  t75:=Tryz.underlying121
  a75:=Tryz.isAgg121
  z75:=Tryz.sizeOf121
  v75:=Tryz.zeroValue121
  t76:=Tryz.underlying122
  a76:=Tryz.isAgg122
  z76:=Tryz.sizeOf122
  v76:=Tryz.zeroValue122
  t105:=Tryz.underlying198
  a105:=Tryz.isAgg198
  z105:=Tryz.sizeOf198
  v105:=Tryz.zeroValue198
  t119:=Tryz.underlying229
  a119:=Tryz.isAgg229
  z119:=Tryz.sizeOf229
  t127:=Tryz.underlying149
  a127:=Tryz.isAgg149
  z127:=Tryz.sizeOf149
  v127:=Tryz.zeroValue149
  t138:=Tryz.underlying231
  a138:=Tryz.isAgg231
  z138:=Tryz.sizeOf231
  v138:=Tryz.zeroValue231
  t139:=Tryz.underlying232
  a139:=Tryz.isAgg232
  z139:=Tryz.sizeOf232
  v139:=Tryz.zeroValue232
  t146:=Tryz.underlying192
  a146:=Tryz.isAgg192
  z146:=Tryz.sizeOf192
  v146:=Tryz.zeroValue192
  t164:=Tryz.underlying171
  a164:=Tryz.isAgg171
  z164:=Tryz.sizeOf171
  v164:=Tryz.zeroValue171
  g1:=by kernel_rfl
  g3:=by kernel_rfl
  g4:=by kernel_rfl}

theorem Tryz.Builder_Extra_155 : Builder.Extra Tryz.prog Tryz.lays155_ren:={
  sizeBuilder:=by kernel_rfl
  liesBuilder:=by kernel_rfl
  t5:=Tryz.underlying5
  a5:=Tryz.isAgg5
  z5:=Tryz.sizeOf5
  v5:=Tryz.zeroValue5
  infoByte:=by kernel_rfl
  cellsByte:=by kernel_rfl
  sizeByte:=by kernel_rfl
  neB5:=by decide}

def Tryz.lays160_ren : Go.Shelf.Ren:=⟨fun | 160=>135 | 232=>174 | 231=>173 | 227=>175 | 234=>177 | 233=>176 | 236=>179 | 235=>178 | 228=>206 | 271=>208 | 151=>207 | 197=>205 | 120=>235 | 152=>234 | 260=>233 | 137=>125 | 119=>249 | 224=>165 | 225=>164 | 217=>163 | 266=>197 | n=>n,fun | 9=>9 | 4=>4 | 3=>3 | 5=>5 | 117=>177 | 116=>176 | 0=>0 | 124=>180 | 21=>21 | 105=>198 | 46=>148 | 119=>229 | 139=>232 | 138=>231 | n=>n,fun | 3=>4 | 4=>5 | n=>n⟩

theorem Tryz.lays160 : Go.Proofs.Lays.n160 Tryz.prog Tryz.lays160_ren:={
  mixed:=by kernel_rfl
  f119:=Tryz.func249.trans (congrArg some (by kernel_rfl))
  f120:=Tryz.func235.trans (congrArg some (by kernel_rfl))
  f137:=Tryz.func125.trans (congrArg some (by kernel_rfl))
  f151:=Tryz.func207.trans (congrArg some (by kernel_rfl))
  f152:=Tryz.func234.trans (congrArg some (by kernel_rfl))
  f160:=Tryz.func135.trans (congrArg some (by kernel_rfl))
  f197:=Tryz.func205.trans (congrArg some (by kernel_rfl))
  f217:=Tryz.func163.trans (congrArg some (by kernel_rfl))
  f224:=Tryz.func165.trans (congrArg some (by kernel_rfl))
  f225:=Tryz.func164.trans (congrArg some (by kernel_rfl))
  f227:=Tryz.func175.trans (congrArg some (by kernel_rfl))
  f228:=Tryz.func206.trans (congrArg some (by kernel_rfl))
  f231:=Tryz.func173.trans (congrArg some (by kernel_rfl))
  f232:=Tryz.func174.trans (congrArg some (by kernel_rfl))
  f233:=Tryz.func176.trans (congrArg some (by kernel_rfl))
  f234:=Tryz.func177.trans (congrArg some (by kernel_rfl))
  f235:=Tryz.func178.trans (congrArg some (by kernel_rfl))
  f236:=Tryz.func179.trans (congrArg some (by kernel_rfl))
  f260:=Tryz.func233.trans (congrArg some (by kernel_rfl))
  f266:=Tryz.func197.trans (congrArg some (by kernel_rfl))
  f271:=Tryz.func208.trans (congrArg some (by kernel_rfl))
  t0:=Tryz.underlying0
  a0:=Tryz.isAgg0
  z0:=Tryz.sizeOf0
  v0:=Tryz.zeroValue0
  t3:=Tryz.underlying3
  a3:=Tryz.isAgg3
  z3:=Tryz.sizeOf3
  v3:=Tryz.zeroValue3
  t4:=Tryz.underlying4
  a4:=Tryz.isAgg4
  z4:=Tryz.sizeOf4
  v4:=Tryz.zeroValue4
  t5:=Tryz.underlying5
  a5:=Tryz.isAgg5
  z5:=Tryz.sizeOf5
  v5:=Tryz.zeroValue5
  t9:=Tryz.underlying9
  a9:=Tryz.isAgg9
  z9:=Tryz.sizeOf9
  v9:=Tryz.zeroValue9
  t21:=Tryz.underlying21
  a21:=Tryz.isAgg21
  z21:=Tryz.sizeOf21
  v21:=Tryz.zeroValue21
  t46:=Tryz.underlying148
  a46:=Tryz.isAgg148
  z46:=Tryz.sizeOf148
  v46:=Tryz.zeroValue148
  t105:=Tryz.underlying198
  a105:=Tryz.isAgg198
  z105:=Tryz.sizeOf198
  v105:=Tryz.zeroValue198
  t116:=Tryz.underlying176
  a116:=Tryz.isAgg176
  z116:=Tryz.sizeOf176
  t117:=Tryz.underlying177
  a117:=Tryz.isAgg177
  z117:=Tryz.sizeOf177
  v117:=Tryz.zeroValue177
  t119:=Tryz.underlying229
  a119:=Tryz.isAgg229
  z119:=Tryz.sizeOf229
  t124:=Tryz.underlying180
  a124:=Tryz.isAgg180
  z124:=Tryz.sizeOf180
  v124:=Tryz.zeroValue180
  t138:=Tryz.underlying231
  a138:=Tryz.isAgg231
  z138:=Tryz.sizeOf231
  v138:=Tryz.zeroValue231
  t139:=Tryz.underlying232
  a139:=Tryz.isAgg232
  z139:=Tryz.sizeOf232
  v139:=Tryz.zeroValue232
  g3:=by kernel_rfl
  g4:=by kernel_rfl}

def Tryz.lays146_ren : Go.Shelf.Ren:=⟨fun | 146=>147 | 221=>186 | 268=>213 | 138=>204 | 143=>193 | 195=>231 | 197=>205 | 218=>232 | 219=>119 | 260=>233 | 217=>163 | 225=>164 | 224=>165 | 267=>166 | 266=>197 | 314=>198 | n=>n,fun | 9=>9 | 31=>70 | 3=>3 | 4=>4 | 0=>0 | 105=>198 | 21=>21 | 5=>5 | 46=>148 | 119=>229 | 139=>232 | 138=>231 | 146=>192 | 51=>191 | n=>n,fun | 1=>0 | 3=>4 | 4=>5 | n=>n⟩

theorem Tryz.lays146 : Go.Proofs.Lays.n146 Tryz.prog Tryz.lays146_ren:={
  mixed:=by kernel_rfl
  f138:=Tryz.func204.trans (congrArg some (by kernel_rfl))
  f143:=Tryz.func193.trans (congrArg some (by kernel_rfl))
  f146:=Tryz.func147.trans (congrArg some (by kernel_rfl))
  f195:=Tryz.func231.trans (congrArg some (by kernel_rfl))
  f197:=Tryz.func205.trans (congrArg some (by kernel_rfl))
  f217:=Tryz.func163.trans (congrArg some (by kernel_rfl))
  f218:=Tryz.func232.trans (congrArg some (by kernel_rfl))
  f219:=Tryz.func119.trans (congrArg some (by kernel_rfl))
  f221:=Tryz.func186.trans (congrArg some (by kernel_rfl))
  f224:=Tryz.func165.trans (congrArg some (by kernel_rfl))
  f225:=Tryz.func164.trans (congrArg some (by kernel_rfl))
  f260:=Tryz.func233.trans (congrArg some (by kernel_rfl))
  f266:=Tryz.func197.trans (congrArg some (by kernel_rfl))
  f267:=Tryz.func166.trans (congrArg some (by kernel_rfl))
  f268:=Tryz.func213.trans (congrArg some (by kernel_rfl))
  f314:=Tryz.func198.trans (congrArg some (by kernel_rfl))
  t0:=Tryz.underlying0
  a0:=Tryz.isAgg0
  z0:=Tryz.sizeOf0
  v0:=Tryz.zeroValue0
  t3:=Tryz.underlying3
  a3:=Tryz.isAgg3
  z3:=Tryz.sizeOf3
  v3:=Tryz.zeroValue3
  t4:=Tryz.underlying4
  a4:=Tryz.isAgg4
  z4:=Tryz.sizeOf4
  v4:=Tryz.zeroValue4
  t5:=Tryz.underlying5
  a5:=Tryz.isAgg5
  z5:=Tryz.sizeOf5
  v5:=Tryz.zeroValue5
  t9:=Tryz.underlying9
  a9:=Tryz.isAgg9
  z9:=Tryz.sizeOf9
  v9:=Tryz.zeroValue9
  t21:=Tryz.underlying21
  a21:=Tryz.isAgg21
  z21:=Tryz.sizeOf21
  v21:=Tryz.zeroValue21
  t31:=Tryz.underlying70
  a31:=Tryz.isAgg70
  z31:=Tryz.sizeOf70
  v31:=Tryz.zeroValue70
  t46:=Tryz.underlying148
  a46:=Tryz.isAgg148
  z46:=Tryz.sizeOf148
  v46:=Tryz.zeroValue148
  t51:=Tryz.underlying191
  a51:=Tryz.isAgg191
  z51:=Tryz.sizeOf191
  v51:=Tryz.zeroValue191
  t105:=Tryz.underlying198
  a105:=Tryz.isAgg198
  z105:=Tryz.sizeOf198
  v105:=Tryz.zeroValue198
  t119:=Tryz.underlying229
  a119:=Tryz.isAgg229
  z119:=Tryz.sizeOf229
  t138:=Tryz.underlying231
  a138:=Tryz.isAgg231
  z138:=Tryz.sizeOf231
  v138:=Tryz.zeroValue231
  t139:=Tryz.underlying232
  a139:=Tryz.isAgg232
  z139:=Tryz.sizeOf232
  v139:=Tryz.zeroValue232
  t146:=Tryz.underlying192
  a146:=Tryz.isAgg192
  z146:=Tryz.sizeOf192
  v146:=Tryz.zeroValue192
  g1:=by kernel_rfl
  g3:=by kernel_rfl
  g4:=by kernel_rfl}

def Tryz.lays144_ren : Go.Shelf.Ren:=⟨fun | 144=>153 | 143=>193 | 219=>119 | 217=>163 | 225=>164 | 224=>165 | 267=>166 | 266=>197 | 314=>198 | n=>n,fun | 9=>9 | 4=>4 | 3=>3 | 5=>5 | 46=>148 | 146=>192 | 51=>191 | n=>n,fun | 1=>0 | n=>n⟩

theorem Tryz.lays144 : Go.Proofs.Lays.n144 Tryz.prog Tryz.lays144_ren:={
  mixed:=by kernel_rfl
  f143:=Tryz.func193.trans (congrArg some (by kernel_rfl))
  f144:=Tryz.func153.trans (congrArg some (by kernel_rfl))
  f217:=Tryz.func163.trans (congrArg some (by kernel_rfl))
  f219:=Tryz.func119.trans (congrArg some (by kernel_rfl))
  f224:=Tryz.func165.trans (congrArg some (by kernel_rfl))
  f225:=Tryz.func164.trans (congrArg some (by kernel_rfl))
  f266:=Tryz.func197.trans (congrArg some (by kernel_rfl))
  f267:=Tryz.func166.trans (congrArg some (by kernel_rfl))
  f314:=Tryz.func198.trans (congrArg some (by kernel_rfl))
  t3:=Tryz.underlying3
  a3:=Tryz.isAgg3
  z3:=Tryz.sizeOf3
  v3:=Tryz.zeroValue3
  t4:=Tryz.underlying4
  a4:=Tryz.isAgg4
  z4:=Tryz.sizeOf4
  v4:=Tryz.zeroValue4
  t5:=Tryz.underlying5
  a5:=Tryz.isAgg5
  z5:=Tryz.sizeOf5
  v5:=Tryz.zeroValue5
  t9:=Tryz.underlying9
  a9:=Tryz.isAgg9
  z9:=Tryz.sizeOf9
  v9:=Tryz.zeroValue9
  t46:=Tryz.underlying148
  a46:=Tryz.isAgg148
  z46:=Tryz.sizeOf148
  v46:=Tryz.zeroValue148
  t51:=Tryz.underlying191
  a51:=Tryz.isAgg191
  z51:=Tryz.sizeOf191
  v51:=Tryz.zeroValue191
  t146:=Tryz.underlying192
  a146:=Tryz.isAgg192
  z146:=Tryz.sizeOf192
  v146:=Tryz.zeroValue192
  g1:=by kernel_rfl}

def Tryz.lays169_ren : Go.Shelf.Ren:=⟨fun | 169=>89 | n=>n,fun | 70=>117 | 9=>9 | 0=>0 | 72=>119 | 37=>22 | 127=>149 | 3=>3 | 5=>5 | n=>n,fun | n=>n⟩

theorem Tryz.lays169 : Go.Proofs.Lays.n169 Tryz.prog Tryz.lays169_ren:={
  mixed:=by kernel_rfl
  f169:=Tryz.func89.trans (congrArg some (by kernel_rfl))
  t0:=Tryz.underlying0
  a0:=Tryz.isAgg0
  z0:=Tryz.sizeOf0
  v0:=Tryz.zeroValue0
  t3:=Tryz.underlying3
  a3:=Tryz.isAgg3
  z3:=Tryz.sizeOf3
  v3:=Tryz.zeroValue3
  t9:=Tryz.underlying9
  a9:=Tryz.isAgg9
  z9:=Tryz.sizeOf9
  v9:=Tryz.zeroValue9
  t37:=Tryz.underlying22
  a37:=Tryz.isAgg22
  z37:=Tryz.sizeOf22
  v37:=Tryz.zeroValue22
  t70:=Tryz.underlying117
  a70:=Tryz.isAgg117
  z70:=Tryz.sizeOf117
  v70:=Tryz.zeroValue117
  t72:=Tryz.underlying119
  a72:=Tryz.isAgg119
  z72:=Tryz.sizeOf119
  v72:=Tryz.zeroValue119
  t127:=Tryz.underlying149
  a127:=Tryz.isAgg149
  z127:=Tryz.sizeOf149
  v127:=Tryz.zeroValue149}

theorem Tryz.Builder_Extra_169 : Builder.Extra Tryz.prog Tryz.lays169_ren:={
  sizeBuilder:=by kernel_rfl
  liesBuilder:=by kernel_rfl
  t5:=Tryz.underlying5
  a5:=Tryz.isAgg5
  z5:=Tryz.sizeOf5
  v5:=Tryz.zeroValue5
  infoByte:=by kernel_rfl
  cellsByte:=by kernel_rfl
  sizeByte:=by kernel_rfl
  neB5:=by decide}

end Go.Proofs

namespace Go.Proofs

open Go.Shelf

def Tryz.lays166_ren : Go.Shelf.Ren:=⟨fun | 166=>88 | 240=>131 | 276=>171 | n=>n,fun | 0=>0 | 3=>3 | 4=>4 | 9=>9 | 20=>20 | 37=>22 | 70=>117 | 72=>119 | 75=>121 | 164=>171 | 5=>5 | 80=>48 | n=>n,fun | n=>n⟩

theorem Tryz.lays166 : Go.Proofs.Lays.n166 Tryz.prog Tryz.lays166_ren:={
  mixed:=by kernel_rfl
  f166:=Tryz.func88.trans (congrArg some (by kernel_rfl))
  f240:=Tryz.func131.trans (congrArg some (by kernel_rfl))
  f276:=Tryz.func171.trans (congrArg some (by kernel_rfl))
  t0:=Tryz.underlying0
  a0:=Tryz.isAgg0
  z0:=Tryz.sizeOf0
  v0:=Tryz.zeroValue0
  t3:=Tryz.underlying3
  a3:=Tryz.isAgg3
  z3:=Tryz.sizeOf3
  v3:=Tryz.zeroValue3
  t4:=Tryz.underlying4
  a4:=Tryz.isAgg4
  z4:=Tryz.sizeOf4
  v4:=Tryz.zeroValue4
  t9:=Tryz.underlying9
  a9:=Tryz.isAgg9
  z9:=Tryz.sizeOf9
  v9:=Tryz.zeroValue9
  t20:=Tryz.underlying20
  a20:=Tryz.isAgg20
  z20:=Tryz.sizeOf20
  v20:=Tryz.zeroValue20
  t37:=Tryz.underlying22
  a37:=Tryz.isAgg22
  z37:=Tryz.sizeOf22
  v37:=Tryz.zeroValue22
  t70:=Tryz.underlying117
  a70:=Tryz.isAgg117
  z70:=Tryz.sizeOf117
  v70:=Tryz.zeroValue117
  t72:=Tryz.underlying119
  a72:=Tryz.isAgg119
  z72:=Tryz.sizeOf119
  v72:=Tryz.zeroValue119
  t75:=Tryz.underlying121
  a75:=Tryz.isAgg121
  z75:=Tryz.sizeOf121
  v75:=Tryz.zeroValue121
  t164:=Tryz.underlying171
  a164:=Tryz.isAgg171
  z164:=Tryz.sizeOf171
  v164:=Tryz.zeroValue171}

theorem Tryz.Builder_Extra_166 : Builder.Extra Tryz.prog Tryz.lays166_ren:={
  sizeBuilder:=by kernel_rfl
  liesBuilder:=by kernel_rfl
  t5:=Tryz.underlying5
  a5:=Tryz.isAgg5
  z5:=Tryz.sizeOf5
  v5:=Tryz.zeroValue5
  infoByte:=by kernel_rfl
  cellsByte:=by kernel_rfl
  sizeByte:=by kernel_rfl
  neB5:=by decide}

end Go.Proofs

namespace Go.Dv.U

open Go Go.Dv Go.Proofs Go.Shelf Go.RowKit Go.Lib Go.Sort

set_option maxHeartbeats 2000000 in
set_option maxRecDepth 100000 in
theorem CD (n a b:Int) (w:World):Calls Tryz.prog 155 #[.int .i64 n,.int .i64 a,.int .i64 b] w fun e w'=>e = .returned (.bool (decide (a<=n)&&decide (n<=b)))/\w'=w:=by
  go_enter Tryz.func155,Tryz.ntmps155
  go_wp2
  all_goals go_ret
  all_goals
    refine ⟨?_,rfl⟩
    have:∀ x y:Bool,x=y->Ending.returned (.bool x)=Ending.returned (.bool y):=fun x y h=>by rw [h]
    refine this _ _ ?_
    rw [Bool.eq_iff_iff]
    simp
    try omega

set_option maxHeartbeats 2000000 in
set_option maxRecDepth 100000 in
theorem zX (n:Int) (w:World):Calls Tryz.prog 168 #[.int .i64 n] w fun e w'=>e = .returned (.bool (decide (0<=n)&&decide (n<=1000000000000)))/\w'=w:=by
  go_enter Tryz.func168,Tryz.ntmps168
  go_wp2_with (go_at_call 155;refine (CD _ _ _ _).mono ?_;rintro e w' ⟨rfl,rfl⟩)
  go_ret
  exact ⟨rfl,rfl⟩

set_option maxHeartbeats 4000000 in
set_option maxRecDepth 100000 in
theorem Bq (s:ByteArray) (p:Int×Bool) (h:qe s.data.toList=some p) (w:World):
    Calls Tryz.prog 123 #[.string s] w fun e w'=>e = .returned (.tuple #[.int .i64 p.1,.bool p.2])/\Below w.heap.size w w':=by
  have hs:s.size=s.data.toList.length:=mo s
  unfold qe at h
  by_cases hlong:13<s.data.toList.length
  · rw [if_pos hlong] at h
    cases h
    rw [<-hs] at hlong
    have X:Aside (13<s.size):=hlong
    clear hlong hs
    go_enter Tryz.func123,Tryz.ntmps123
    go_wp2_with (go_at_call 167;exfalso;have:=X.out;omega)
    all_goals go_ret2
    all_goals exact ⟨rfl,iV _⟩
  · rw [if_neg hlong] at h
    split at h
    · rename_i hc
      cases h
      have hP:=Any.strconv_ParseInt_10_at64_ok Tryz.laysC174 s (by rw [hs];omega) _ (Cz hc.1 hc.2 (by omega)) w
      rw [<-hs] at hlong
      generalize xX s.data.toList 0=m at hP ⊢
      have X:Aside (¬ 13<s.size):=hlong
      clear hlong hc hs
      go_enter Tryz.func123,Tryz.ntmps123
      go_wp2_with (first
        | (go_at_call 167;refine hP.mono ?_;rintro e w2 ⟨rfl,hW⟩)
        | (go_at_call 168;refine (zX _ _).mono ?_;rintro e w3 ⟨rfl,rfl⟩))
      all_goals try (exfalso;have:=X.out;omega)
      all_goals go_ret2
      refine ⟨?_,?_⟩
      · have e:(decide ((m:Int)<=1000000000000))=decide (m<=1000000000000):=by rw [Bool.eq_iff_iff];simp only [decide_eq_true_eq];omega
        show Ending.returned (Value.tuple #[.int .i64 m,.bool (decide ((m:Int)<=1000000000000))])=_
        rw [e]
      · rcases hW with rfl | ⟨t,rfl⟩
        · exact iV _
        · exact Lib.bytesWorld_below _ _ _
    · cases h

set_option maxHeartbeats 2000000 in
set_option maxRecDepth 100000 in
theorem EL {vs cs:List (V GG.S)} (h:MU vs=some cs) {okA:Okc} {w:World} {vals:List Value} (hv:VRs w okA Mem.no vs vals):
    Calls Tryz.prog 22 vals.toArray w (fun en w'=>∃ b l,en = .returned (.pointer (some ⟨b,0,none⟩))/\w.heap.size<=b/\w'.heap[b]?=some (.cells l.toArray 94)/\VRs w okA Mem.no cs l/\w.grownBy w' none):=by
  unfold MU at h
  split at h
  · rename_i xs
    have h:=Option.some.inj h
    subst h
    obtain ⟨v,l,rfl,h1,h2⟩:=hv.inv
    have hl:l=[]:=by have:=h2.1;exact List.eq_nil_of_length_eq_zero (by simpa using this.symm)
    subst hl
    have hsl:∃ a n c,v = .slice a n c:=by
      cases h1 with
      | sl0 t a c=>exact ⟨_,_,_,rfl⟩
      | sl1=>exact ⟨_,_,_,rfl⟩
    obtain ⟨a,n,c,rfl⟩:=hsl
    have X:Aside (VR (G:=GG) w okA Mem.no (.sl (.int .u8) xs) (.slice a n c)):=h1
    clear h1 hv h2
    go_enter Tryz.func22,Tryz.ntmps22
    go_wp2
    go_ret
    refine ⟨w.heap.size,rfl,Nat.le_refl _,[.slice a n c,.int .i64 0,.int .u64 0],heap_alloc_new w _,Gw X (.int _ _) (.int _ _),⟨rfl,rfl,rfl,by simp,fun k hk _=>jl w _ k hk⟩⟩
  · cases h

theorem CC.ext : mU CC:=by
  refine ⟨fun f rt g vs p h hg okA w vals hlt hgl hv=>?_,fun f e g vs xs h hg okA w vals hlt hgl hv=>?_,fun f e g vs cs h hg okA w vals hlt hgl hv=>?_,fun f T e h w b v us s hB hlen=>?_,fun f T e h w b v l hB=>?_,fun f e t h n w h0 h1=>?_,fun f g s n h hg okA w hlt hgl=>?_,fun f e t h a n c us w hown h1 hn=>?_,fun f e g xs ys h hg w v hown=>?_⟩
  · change U.extT f=some ⟨rt,g⟩ at h
    unfold U.extT at h
    split at h
    · cases h
      obtain ⟨m,hm⟩:=(hgl.1.2.1 0 rfl).2;exact EJ Tryz.lays145 hg hm hv
    · cases h
      exact EG Tryz.laysM173 hg (Ii hgl.2 (g:=1) rfl (by kernel_rfl)) hv
    · cases h
      exact EI Tryz.lays156 Tryz.Builder_Extra_156 hg hlt hv
    · cases h
      exact CA (fun s p h w=>Bq s p h w) hg hv
    · cases h
      exact wT Tryz.lays137 hg hv
    · cases h
      obtain ⟨m,hm⟩:=(hgl.1.2.1 0 rfl).2;exact zW Tryz.lays155 Tryz.Builder_Extra_155 hg hm hv
    · cases h
      exact EH Tryz.lays160 hg hv
    · cases h
      obtain ⟨m,hm⟩:=(hgl.1.2.1 0 rfl).2;exact Cy Tryz.lays146 (by kernel_rfl) hg hm hv
    · cases h
      obtain ⟨m,hm⟩:=(hgl.1.2.1 0 rfl).2;exact yf Tryz.lays144 hg hm hv
    · cases h
  · cases h
  · change U.ctorT f=some (e,g) at h
    unfold U.ctorT at h
    split at h
    · cases h
      exact EL hg hv
    · cases h
  · change U.bldF f=some (1,T,e) at h
    unfold U.bldF at h
    split at h
    · cases h
      exact tS Tryz.lays166 Tryz.Builder_Extra_166 hB s hlen
    · cases h
    · cases h
  · change U.bldF f=some (3,T,e) at h
    unfold U.bldF at h
    split at h
    · cases h
    · cases h
      exact Bo Tryz.lays169 Tryz.Builder_Extra_169 hB
    · cases h
  · cases h
  · cases h
  · cases h
  · cases h

end Go.Dv.U
