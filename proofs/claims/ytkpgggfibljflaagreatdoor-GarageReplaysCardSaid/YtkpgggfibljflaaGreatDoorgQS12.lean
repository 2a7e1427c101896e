/- What a proof leans on: a machine that steps through code, and what functions compute. -/
import Derived.Test.YtkpgggfibljflaaGreatDoorgQS11
import Derived.Ground.NamesProg
import Derived.Shelf.LaysM
import Derived.Shelf.LaysC
import Derived.Shelf.Strings.Split
import Derived.Shelf.Strings.Repeat
import Derived.Shelf.Strconv.Itoa3
import Derived.Shelf.Strconv.ErrVarAll
set_option linter.all false
set_option maxRecDepth 100000
namespace Go.Proofs
def Tryz.laysSplit_ren:Go.Shelf.Ren:=⟨fun | 146=>112 | 221=>165 | 268=>226 | 138=>227 | 143=>228 | 195=>281 | 197=>282 | 218=>283 | 219=>284 | 260=>325 | 217=>326 | 225=>327 | 224=>328 | 267=>329 | 266=>345 | 314=>346 | n=>n,fun | 9=>9 | 31=>22 | 3=>3 | 4=>4 | 0=>0 | 105=>358 | 21=>21 | 5=>5 | 46=>262 | 119=>410 | 139=>413 | 138=>412 | 146=>402 | 51=>309 | n=>n,fun | 1=>3 | 3=>4 | 4=>5 | n=>n⟩
theorem Tryz.laysSplit:Go.Proofs.Lays.n146 Tryz.prog Tryz.laysSplit_ren:={
 mixed:=by kernel_rfl
 f138:=Tryz.func227.trans (congrArg some (by kernel_rfl))
 f143:=Tryz.func228.trans (congrArg some (by kernel_rfl))
 f146:=Tryz.func112.trans (congrArg some (by kernel_rfl))
 f195:=Tryz.func281.trans (congrArg some (by kernel_rfl))
 f197:=Tryz.func282.trans (congrArg some (by kernel_rfl))
 f217:=Tryz.func326.trans (congrArg some (by kernel_rfl))
 f218:=Tryz.func283.trans (congrArg some (by kernel_rfl))
 f219:=Tryz.func284.trans (congrArg some (by kernel_rfl))
 f221:=Tryz.func165.trans (congrArg some (by kernel_rfl))
 f224:=Tryz.func328.trans (congrArg some (by kernel_rfl))
 f225:=Tryz.func327.trans (congrArg some (by kernel_rfl))
 f260:=Tryz.func325.trans (congrArg some (by kernel_rfl))
 f266:=Tryz.func345.trans (congrArg some (by kernel_rfl))
 f267:=Tryz.func329.trans (congrArg some (by kernel_rfl))
 f268:=Tryz.func226.trans (congrArg some (by kernel_rfl))
 f314:=Tryz.func346.trans (congrArg some (by kernel_rfl))
 t0:=Tryz.underlying0
 a0:=Tryz.isAgg0
 z0:=Tryz.sizeOf0
 v0:=Tryz.zeroValue0
 t3:=Tryz.underlying3
 a3:=Tryz.isAgg3
 z3:=Tryz.sizeOf3
 v3:=Tryz.zeroValue3
 t4:=Tryz.underlying4
 a4:=Tryz.isAgg4
 z4:=Tryz.sizeOf4
 v4:=Tryz.zeroValue4
 t5:=Tryz.underlying5
 a5:=Tryz.isAgg5
 z5:=Tryz.sizeOf5
 v5:=Tryz.zeroValue5
 t9:=Tryz.underlying9
 a9:=Tryz.isAgg9
 z9:=Tryz.sizeOf9
 v9:=Tryz.zeroValue9
 t21:=Tryz.underlying21
 a21:=Tryz.isAgg21
 z21:=Tryz.sizeOf21
 v21:=Tryz.zeroValue21
 t31:=Tryz.underlying22
 a31:=Tryz.isAgg22
 z31:=Tryz.sizeOf22
 v31:=Tryz.zeroValue22
 t46:=Tryz.underlying262
 a46:=Tryz.isAgg262
 z46:=Tryz.sizeOf262
 v46:=Tryz.zeroValue262
 t51:=Tryz.underlying309
 a51:=Tryz.isAgg309
 z51:=Tryz.sizeOf309
 v51:=Tryz.zeroValue309
 t105:=Tryz.underlying358
 a105:=Tryz.isAgg358
 z105:=Tryz.sizeOf358
 v105:=Tryz.zeroValue358
 t119:=Tryz.underlying410
 a119:=Tryz.isAgg410
 z119:=Tryz.sizeOf410
 t138:=Tryz.underlying412
 a138:=Tryz.isAgg412
 z138:=Tryz.sizeOf412
 v138:=Tryz.zeroValue412
 t139:=Tryz.underlying413
 a139:=Tryz.isAgg413
 z139:=Tryz.sizeOf413
 v139:=Tryz.zeroValue413
 t146:=Tryz.underlying402
 a146:=Tryz.isAgg402
 z146:=Tryz.sizeOf402
 v146:=Tryz.zeroValue402
 g1:=by kernel_rfl
 g3:=by kernel_rfl
 g4:=by kernel_rfl }
def Tryz.laysItoa_ren:Go.Shelf.Ren:=⟨fun | 171=>89 | 243=>150 | 246=>207 | 283=>270 | 284=>271 | 285=>272 | 286=>273 | 129=>225 | 317=>320 | 318=>321 | 319=>322 | 320=>323 | 337=>343 | 338=>344 | n=>n,fun | 3=>3 | 9=>9 | 2=>2 | 4=>4 | 171=>347 | 0=>0 | 53=>311 | 37=>78 | 5=>5 | 173=>349 | 212=>391 | 51=>309 | 20=>20 | 213=>392 | 46=>262 | 232=>416 | 233=>417 | n=>n,fun | 17=>2 | 18=>6 | 19=>7 | n=>n⟩
theorem Tryz.laysItoa:Go.Proofs.LaysM.n171 Tryz.prog Tryz.laysItoa_ren:={
 mixed:=by kernel_rfl
 f129:=Tryz.func225.trans (congrArg some (by kernel_rfl))
 f171:=Tryz.func89.trans (congrArg some (by kernel_rfl))
 f243:=Tryz.func150.trans (congrArg some (by kernel_rfl))
 f246:=Tryz.func207.trans (congrArg some (by kernel_rfl))
 f283:=Tryz.func270.trans (congrArg some (by kernel_rfl))
 f284:=Tryz.func271.trans (congrArg some (by kernel_rfl))
 f285:=Tryz.func272.trans (congrArg some (by kernel_rfl))
 f286:=Tryz.func273.trans (congrArg some (by kernel_rfl))
 f317:=Tryz.func320.trans (congrArg some (by kernel_rfl))
 f318:=Tryz.func321.trans (congrArg some (by kernel_rfl))
 f319:=Tryz.func322.trans (congrArg some (by kernel_rfl))
 f320:=Tryz.func323.trans (congrArg some (by kernel_rfl))
 f337:=Tryz.func343.trans (congrArg some (by kernel_rfl))
 f338:=Tryz.func344.trans (congrArg some (by kernel_rfl))
 t0:=Tryz.underlying0
 a0:=Tryz.isAgg0
 z0:=Tryz.sizeOf0
 v0:=Tryz.zeroValue0
 t2:=Tryz.underlying2
 a2:=Tryz.isAgg2
 z2:=Tryz.sizeOf2
 v2:=Tryz.zeroValue2
 t3:=Tryz.underlying3
 a3:=Tryz.isAgg3
 z3:=Tryz.sizeOf3
 v3:=Tryz.zeroValue3
 t4:=Tryz.underlying4
 a4:=Tryz.isAgg4
 z4:=Tryz.sizeOf4
 v4:=Tryz.zeroValue4
 t5:=Tryz.underlying5
 a5:=Tryz.isAgg5
 z5:=Tryz.sizeOf5
 v5:=Tryz.zeroValue5
 t9:=Tryz.underlying9
 a9:=Tryz.isAgg9
 z9:=Tryz.sizeOf9
 v9:=Tryz.zeroValue9
 t20:=Tryz.underlying20
 a20:=Tryz.isAgg20
 z20:=Tryz.sizeOf20
 v20:=Tryz.zeroValue20
 t37:=Tryz.underlying78
 a37:=Tryz.isAgg78
 z37:=Tryz.sizeOf78
 v37:=Tryz.zeroValue78
 t46:=Tryz.underlying262
 a46:=Tryz.isAgg262
 z46:=Tryz.sizeOf262
 v46:=Tryz.zeroValue262
 t51:=Tryz.underlying309
 a51:=Tryz.isAgg309
 z51:=Tryz.sizeOf309
 v51:=Tryz.zeroValue309
 t53:=Tryz.underlying311
 a53:=Tryz.isAgg311
 z53:=Tryz.sizeOf311
 v53:=Tryz.zeroValue311
 t171:=Tryz.underlying347
 a171:=Tryz.isAgg347
 z171:=Tryz.sizeOf347
 v171:=Tryz.zeroValue347
 t173:=Tryz.underlying349
 a173:=Tryz.isAgg349
 z173:=Tryz.sizeOf349
 v173:=Tryz.zeroValue349
 t212:=Tryz.underlying391
 a212:=Tryz.isAgg391
 z212:=Tryz.sizeOf391
 v212:=Tryz.zeroValue391
 t213:=Tryz.underlying392
 a213:=Tryz.isAgg392
 z213:=Tryz.sizeOf392
 t232:=Tryz.underlying416
 a232:=Tryz.isAgg416
 z232:=Tryz.sizeOf416
 v232:=Tryz.zeroValue416
 t233:=Tryz.underlying417
 a233:=Tryz.isAgg417
 z233:=Tryz.sizeOf417
 v233:=Tryz.zeroValue417
 g17:=by kernel_rfl
 g18:=by kernel_rfl
 g19:=by kernel_rfl
 i0:=by kernel_rfl
 i2:=by kernel_rfl
 i3:=by kernel_rfl
 i4:=by kernel_rfl
 i5:=by kernel_rfl
 i9:=by kernel_rfl
 i20:=by kernel_rfl
 i37:=by kernel_rfl
 i46:=by kernel_rfl
 i51:=by kernel_rfl
 i53:=by kernel_rfl
 i171:=by kernel_rfl
 i173:=by kernel_rfl
 i212:=by kernel_rfl
 i232:=by kernel_rfl
 i233:=by kernel_rfl
 m17:=by kernel_rfl
 m18:=by kernel_rfl
 m19:=by kernel_rfl }
def Tryz.laysAtoi_ren:Go.Shelf.Ren:=⟨fun | 172=>113 | 244=>166 | 245=>167 | 247=>229 | 279=>230 | 280=>231 | 281=>232 | 282=>233 | 287=>285 | 316=>286 | 171=>89 | 205=>287 | 321=>330 | 322=>331 | 243=>150 | 246=>207 | 283=>270 | 284=>271 | 285=>272 | 286=>273 | 129=>225 | 317=>320 | 318=>321 | 319=>322 | 320=>323 | 337=>343 | 338=>344 | n=>n,fun | 9=>9 | 3=>3 | 75=>166 | 76=>167 | 4=>4 | 5=>5 | 167=>314 | 37=>78 | 0=>0 | 85=>315 | 2=>2 | 168=>317 | 53=>311 | 175=>361 | 46=>262 | 210=>365 | 127=>253 | 145=>398 | 143=>396 | 21=>21 | 171=>347 | 173=>349 | 212=>391 | 51=>309 | 20=>20 | 213=>392 | 232=>416 | 233=>417 | 80=>172 | n=>n,fun | 15=>0 | 16=>1 | 17=>2 | 18=>6 | 19=>7 | n=>n⟩
theorem Tryz.laysAtoi:Go.Proofs.LaysC.n172 Tryz.prog Tryz.laysAtoi_ren:={
 mixed:=by kernel_rfl
 f129:=Tryz.func225.trans (congrArg some (by kernel_rfl))
 f171:=Tryz.func89.trans (congrArg some (by kernel_rfl))
 f172:=Tryz.func113.trans (congrArg some (by kernel_rfl))
 f205:=Tryz.func287.trans (congrArg some (by kernel_rfl))
 f243:=Tryz.func150.trans (congrArg some (by kernel_rfl))
 f244:=Tryz.func166.trans (congrArg some (by kernel_rfl))
 f245:=Tryz.func167.trans (congrArg some (by kernel_rfl))
 f246:=Tryz.func207.trans (congrArg some (by kernel_rfl))
 f247:=Tryz.func229.trans (congrArg some (by kernel_rfl))
 f279:=Tryz.func230.trans (congrArg some (by kernel_rfl))
 f280:=Tryz.func231.trans (congrArg some (by kernel_rfl))
 f281:=Tryz.func232.trans (congrArg some (by kernel_rfl))
 f282:=Tryz.func233.trans (congrArg some (by kernel_rfl))
 f283:=Tryz.func270.trans (congrArg some (by kernel_rfl))
 f284:=Tryz.func271.trans (congrArg some (by kernel_rfl))
 f285:=Tryz.func272.trans (congrArg some (by kernel_rfl))
 f286:=Tryz.func273.trans (congrArg some (by kernel_rfl))
 f287:=Tryz.func285.trans (congrArg some (by kernel_rfl))
 f316:=Tryz.func286.trans (congrArg some (by kernel_rfl))
 f317:=Tryz.func320.trans (congrArg some (by kernel_rfl))
 f318:=Tryz.func321.trans (congrArg some (by kernel_rfl))
 f319:=Tryz.func322.trans (congrArg some (by kernel_rfl))
 f320:=Tryz.func323.trans (congrArg some (by kernel_rfl))
 f321:=Tryz.func330.trans (congrArg some (by kernel_rfl))
 f322:=Tryz.func331.trans (congrArg some (by kernel_rfl))
 f337:=Tryz.func343.trans (congrArg some (by kernel_rfl))
 f338:=Tryz.func344.trans (congrArg some (by kernel_rfl))
 t0:=Tryz.underlying0
 a0:=Tryz.isAgg0
 z0:=Tryz.sizeOf0
 v0:=Tryz.zeroValue0
 t2:=Tryz.underlying2
 a2:=Tryz.isAgg2
 z2:=Tryz.sizeOf2
 v2:=Tryz.zeroValue2
 t3:=Tryz.underlying3
 a3:=Tryz.isAgg3
 z3:=Tryz.sizeOf3
 v3:=Tryz.zeroValue3
 t4:=Tryz.underlying4
 a4:=Tryz.isAgg4
 z4:=Tryz.sizeOf4
 v4:=Tryz.zeroValue4
 t5:=Tryz.underlying5
 a5:=Tryz.isAgg5
 z5:=Tryz.sizeOf5
 v5:=Tryz.zeroValue5
 t9:=Tryz.underlying9
 a9:=Tryz.isAgg9
 z9:=Tryz.sizeOf9
 v9:=Tryz.zeroValue9
 t20:=Tryz.underlying20
 a20:=Tryz.isAgg20
 z20:=Tryz.sizeOf20
 v20:=Tryz.zeroValue20
 t21:=Tryz.underlying21
 a21:=Tryz.isAgg21
 z21:=Tryz.sizeOf21
 v21:=Tryz.zeroValue21
 t37:=Tryz.underlying78
 a37:=Tryz.isAgg78
 z37:=Tryz.sizeOf78
 v37:=Tryz.zeroValue78
 t46:=Tryz.underlying262
 a46:=Tryz.isAgg262
 z46:=Tryz.sizeOf262
 v46:=Tryz.zeroValue262
 t51:=Tryz.underlying309
 a51:=Tryz.isAgg309
 z51:=Tryz.sizeOf309
 v51:=Tryz.zeroValue309
 t53:=Tryz.underlying311
 a53:=Tryz.isAgg311
 z53:=Tryz.sizeOf311
 v53:=Tryz.zeroValue311
 t75:=Tryz.underlying166
 a75:=Tryz.isAgg166
 z75:=Tryz.sizeOf166
 v75:=Tryz.zeroValue166
 t76:=Tryz.underlying167
 a76:=Tryz.isAgg167
 z76:=Tryz.sizeOf167
 v76:=Tryz.zeroValue167
 t85:=Tryz.underlying315
 a85:=Tryz.isAgg315
 z85:=Tryz.sizeOf315
 v85:=Tryz.zeroValue315
 t127:=Tryz.underlying253
 a127:=Tryz.isAgg253
 z127:=Tryz.sizeOf253
 v127:=Tryz.zeroValue253
 t143:=Tryz.underlying396
 a143:=Tryz.isAgg396
 z143:=Tryz.sizeOf396
 v143:=Tryz.zeroValue396
 t145:=Tryz.underlying398
 a145:=Tryz.isAgg398
 z145:=Tryz.sizeOf398
 v145:=Tryz.zeroValue398
 t167:=Tryz.underlying314
 a167:=Tryz.isAgg314
 z167:=Tryz.sizeOf314
 v167:=Tryz.zeroValue314
 t168:=Tryz.underlying317
 a168:=Tryz.isAgg317
 z168:=Tryz.sizeOf317
 v168:=Tryz.zeroValue317
 t171:=Tryz.underlying347
 a171:=Tryz.isAgg347
 z171:=Tryz.sizeOf347
 v171:=Tryz.zeroValue347
 t173:=Tryz.underlying349
 a173:=Tryz.isAgg349
 z173:=Tryz.sizeOf349
 v173:=Tryz.zeroValue349
 t175:=Tryz.underlying361
 a175:=Tryz.isAgg361
 z175:=Tryz.sizeOf361
 v175:=Tryz.zeroValue361
 t210:=Tryz.underlying365
 a210:=Tryz.isAgg365
 z210:=Tryz.sizeOf365
 v210:=Tryz.zeroValue365
 t212:=Tryz.underlying391
 a212:=Tryz.isAgg391
 z212:=Tryz.sizeOf391
 v212:=Tryz.zeroValue391
 t213:=Tryz.underlying392
 a213:=Tryz.isAgg392
 z213:=Tryz.sizeOf392
 t232:=Tryz.underlying416
 a232:=Tryz.isAgg416
 z232:=Tryz.sizeOf416
 v232:=Tryz.zeroValue416
 t233:=Tryz.underlying417
 a233:=Tryz.isAgg417
 z233:=Tryz.sizeOf417
 v233:=Tryz.zeroValue417
 g15:=by kernel_rfl
 g16:=by kernel_rfl
 g17:=by kernel_rfl
 g18:=by kernel_rfl
 g19:=by kernel_rfl
 t80:=Tryz.underlying172
 a80:=Tryz.isAgg172
 z80:=Tryz.sizeOf172
 v80:=Tryz.zeroValue172
 i0:=by kernel_rfl
 i2:=by kernel_rfl
 i3:=by kernel_rfl
 i4:=by kernel_rfl
 i5:=by kernel_rfl
 i9:=by kernel_rfl
 i20:=by kernel_rfl
 i21:=by kernel_rfl
 i37:=by kernel_rfl
 i46:=by kernel_rfl
 i51:=by kernel_rfl
 i53:=by kernel_rfl
 i75:=by kernel_rfl
 i76:=by kernel_rfl
 i80:=by kernel_rfl
 i85:=by kernel_rfl
 i127:=by kernel_rfl
 i143:=by kernel_rfl
 i145:=by kernel_rfl
 i167:=by kernel_rfl
 i168:=by kernel_rfl
 i171:=by kernel_rfl
 i173:=by kernel_rfl
 i175:=by kernel_rfl
 i210:=by kernel_rfl
 i212:=by kernel_rfl
 i232:=by kernel_rfl
 i233:=by kernel_rfl
 m15:=by kernel_rfl
 m16:=by kernel_rfl
 m17:=by kernel_rfl
 m18:=by kernel_rfl
 m19:=by kernel_rfl
 c0:=by kernel_rfl
 c2:=by kernel_rfl
 c3:=by kernel_rfl
 c4:=by kernel_rfl
 c5:=by kernel_rfl
 c9:=by kernel_rfl
 c20:=by kernel_rfl
 c21:=by kernel_rfl
 c37:=by kernel_rfl
 c46:=by kernel_rfl
 c51:=by kernel_rfl
 c53:=by kernel_rfl
 c75:=by kernel_rfl
 c76:=by kernel_rfl
 c80:=by kernel_rfl
 c85:=by kernel_rfl
 c127:=by kernel_rfl
 c143:=by kernel_rfl
 c145:=by kernel_rfl
 c167:=by kernel_rfl
 c168:=by kernel_rfl
 c171:=by kernel_rfl
 c173:=by kernel_rfl
 c175:=by kernel_rfl
 c210:=by kernel_rfl
 c212:=by kernel_rfl
 c213:=by kernel_rfl
 c232:=by kernel_rfl
 c233:=by kernel_rfl }
def Tryz.laysRep_ren:Go.Shelf.Ren:=⟨fun | 105=>244 | 212=>297 | 99=>298 | 165=>152 | 166=>91 | 170=>299 | 169=>95 | 263=>336 | 264=>337 | 206=>338 | 240=>151 | 241=>209 | 276=>208 | 277=>274 | n=>n,fun | 9=>9 | 3=>3 | 4=>4 | 20=>20 | 0=>0 | 46=>262 | 109=>373 | 5=>5 | 72=>163 | 76=>167 | 51=>309 | 146=>402 | 53=>311 | 148=>404 | 70=>161 | 37=>78 | 75=>166 | 127=>253 | 164=>297 | 80=>172 | n=>n,fun | n=>n⟩
theorem Tryz.laysRep:Go.Proofs.Lays.n105 Tryz.prog Tryz.laysRep_ren:={
 mixed:=by kernel_rfl
 f99:=Tryz.func298.trans (congrArg some (by kernel_rfl))
 f105:=Tryz.func244.trans (congrArg some (by kernel_rfl))
 f165:=Tryz.func152.trans (congrArg some (by kernel_rfl))
 f166:=Tryz.func91.trans (congrArg some (by kernel_rfl))
 f169:=Tryz.func95.trans (congrArg some (by kernel_rfl))
 f170:=Tryz.func299.trans (congrArg some (by kernel_rfl))
 f206:=Tryz.func338.trans (congrArg some (by kernel_rfl))
 f212:=Tryz.func297.trans (congrArg some (by kernel_rfl))
 f240:=Tryz.func151.trans (congrArg some (by kernel_rfl))
 f241:=Tryz.func209.trans (congrArg some (by kernel_rfl))
 f263:=Tryz.func336.trans (congrArg some (by kernel_rfl))
 f264:=Tryz.func337.trans (congrArg some (by kernel_rfl))
 f276:=Tryz.func208.trans (congrArg some (by kernel_rfl))
 f277:=Tryz.func274.trans (congrArg some (by kernel_rfl))
 t0:=Tryz.underlying0
 a0:=Tryz.isAgg0
 z0:=Tryz.sizeOf0
 v0:=Tryz.zeroValue0
 t3:=Tryz.underlying3
 a3:=Tryz.isAgg3
 z3:=Tryz.sizeOf3
 v3:=Tryz.zeroValue3
 t4:=Tryz.underlying4
 a4:=Tryz.isAgg4
 z4:=Tryz.sizeOf4
 v4:=Tryz.zeroValue4
 t5:=Tryz.underlying5
 a5:=Tryz.isAgg5
 z5:=Tryz.sizeOf5
 v5:=Tryz.zeroValue5
 t9:=Tryz.underlying9
 a9:=Tryz.isAgg9
 z9:=Tryz.sizeOf9
 v9:=Tryz.zeroValue9
 t20:=Tryz.underlying20
 a20:=Tryz.isAgg20
 z20:=Tryz.sizeOf20
 v20:=Tryz.zeroValue20
 t37:=Tryz.underlying78
 a37:=Tryz.isAgg78
 z37:=Tryz.sizeOf78
 v37:=Tryz.zeroValue78
 t46:=Tryz.underlying262
 a46:=Tryz.isAgg262
 z46:=Tryz.sizeOf262
 v46:=Tryz.zeroValue262
 t51:=Tryz.underlying309
 a51:=Tryz.isAgg309
 z51:=Tryz.sizeOf309
 v51:=Tryz.zeroValue309
 t53:=Tryz.underlying311
 a53:=Tryz.isAgg311
 z53:=Tryz.sizeOf311
 v53:=Tryz.zeroValue311
 t70:=Tryz.underlying161
 a70:=Tryz.isAgg161
 z70:=Tryz.sizeOf161
 v70:=Tryz.zeroValue161
 t72:=Tryz.underlying163
 a72:=Tryz.isAgg163
 z72:=Tryz.sizeOf163
 v72:=Tryz.zeroValue163
 t75:=Tryz.underlying166
 a75:=Tryz.isAgg166
 z75:=Tryz.sizeOf166
 v75:=Tryz.zeroValue166
 t76:=Tryz.underlying167
 a76:=Tryz.isAgg167
 z76:=Tryz.sizeOf167
 v76:=Tryz.zeroValue167
 t109:=Tryz.underlying373
 a109:=Tryz.isAgg373
 z109:=Tryz.sizeOf373
 v109:=Tryz.zeroValue373
 t127:=Tryz.underlying253
 a127:=Tryz.isAgg253
 z127:=Tryz.sizeOf253
 v127:=Tryz.zeroValue253
 t146:=Tryz.underlying402
 a146:=Tryz.isAgg402
 z146:=Tryz.sizeOf402
 v146:=Tryz.zeroValue402
 t148:=Tryz.underlying404
 a148:=Tryz.isAgg404
 z148:=Tryz.sizeOf404
 v148:=Tryz.zeroValue404
 t164:=Tryz.underlying297
 a164:=Tryz.isAgg297
 z164:=Tryz.sizeOf297
 v164:=Tryz.zeroValue297 }
theorem Tryz.extraRep:Builder.Extra Tryz.prog Tryz.laysRep_ren where
 sizeBuilder:=by kernel_rfl
 liesBuilder:=by kernel_rfl
 t5:=Tryz.underlying5
 a5:=Tryz.isAgg5
 z5:=Tryz.sizeOf5
 v5:=Tryz.zeroValue5
 infoByte:=by kernel_rfl
 cellsByte:=by kernel_rfl
 sizeByte:=by kernel_rfl
 neB5:=by decide
namespace YtkpgggfibljflaaGreatDoor
open Go Go.RowKit Go.Proofs
open Rep (rep)
theorem Dp {w w':World} (h:Below w.heap.size w w'):w.grownBy w' none:=⟨h.os,h.tape,h.output,h.size,fun k hk _=>h.block k hk⟩
def AbR (s:ByteArray):Bool:=match s.data.toList with
 | [b]=>Nat.beq b.toNat 32
 | _=>false
theorem Adg {s:ByteArray} (h:AbR s=true):s=⟨#[32]⟩:=by
 unfold AbR at h
 split at h
 · rename_i b hb
   have h2:b=32:=UInt8.toNat_inj.1 (Zab h)
   cases s with
   | mk d=>cases d with
    | mk l=>simp at hb; rw [hb,h2]
 · cases h
def AbS:List (Nat×C):=[(0,.s 9),(1,.s 9)]
def AbT:List Wo:=[⟨.ret,[],[],[.l 9]⟩]
def NB (n:Nat) (s y:ByteArray):Option (List ByteArray×Unit):=bif Nat.blt s.size 4294967281 && AbR y then some (DC s,()) else none
noncomputable def Zd1 (n:Nat):FQ Ty:=ET AbS 0 AbT fun y=>NB n y.1 y.2.1
theorem QX (h:Ad):∀ ls:List ByteArray,Ar h ls (ls.map Value.string)
 | []=>rfl
 | x::r=>⟨[.string x],r.map Value.string,rfl,rfl,QX h r⟩
theorem VV {M:Mo Ty} {F:Fr} {h:Ad} {g:GE} {w:World} (hm:Ag F h g M w) (s:ByteArray) (b1:s.size<4294967281) (R:Ending→World→Prop)
  (fin:∀ (h':Ad)(w':World)(v:Value),Ad.le h h'→Ag F h' g M w'→(V.lst 9 (DC s:List ByteArray):V Ty).den g h' v→R (.returned v) w'):Calls Tryz.prog 112 #[.string s,.string ⟨#[32]⟩] w R:=by
 obtain⟨m,hmx⟩:=hm.gl.2.2.2.1
 have hcell:w.cell? ⟨3,0,none⟩=some (.int .i64 m):=World.var?_cell (g:=3) (by kernel_rfl) hmx 0
 have c:=Any.strings_Split Tryz.laysSplit (by kernel_rfl) s ⟨#[32]⟩ m w b1 hcell (by decide)
 refine c.mono ?_
 rintro e w' ⟨rfl,rfl⟩
 have e1:=Z5 s
 have e2:Lib.countB s ⟨#[32]⟩+1=(DC s).length:=by rw [← e1]; exact(Lib.splitB_all ⟨#[32]⟩ (by decide) 0 _ s rfl).symm
 rw [e1,e2]
 generalize DC s=ls at fin ⊢
 have hg:w.grownBy (w.alloc (.cells (ls.map Value.string).toArray 9)) none:=⟨rfl,rfl,rfl,by unfold World.alloc; simp,fun k hk _=>by unfold World.alloc; simp [ZaZ,Nat.ne_of_lt hk]⟩
 obtain⟨h',q1,q2,q3⟩:=hm.newSettled (us:=ls.map Value.string) hg (by unfold World.alloc; simp) (fun u hu=>by obtain⟨a,_,rfl⟩:=ZaV.1 hu; rfl) (fun o u hu=>by unfold World.alloc World.cell?; simp at hu ⊢; exact hu)
 refine fin h' _ _ q1 q2 ?_
 unfold V.den
 refine⟨_,_,rfl,ls.map Value.string,QX h' ls,fun o x hx=>⟨_,rfl,rfl,?_⟩,?_⟩
 · rw [Zar]
   exact q3 o x hx
 · exact Zal _
theorem JL {g:GE} {h:Ad} {s:ByteArray} {xs:List (V Ty)} {vals:List Value} (hd:V.dens g h (.str s::xs) vals):∃ vs,vals=.string s::vs∧V.dens g h xs vs:=by
 unfold V.dens at hd
 obtain⟨u1,r1,rfl,e1,h2⟩:=hd
 unfold V.den at e1
 exact⟨r1,by rw [e1],h2⟩
theorem D5 {g:GE} {h:Ad} {k:IntKind} {n:Int} {xs:List (V Ty)} {vals:List Value} (hd:V.dens g h (.int k n::xs) vals):∃ vs,vals=.int k n::vs∧V.dens g h xs vs:=by
 unfold V.dens at hd
 obtain⟨u1,r1,rfl,e1,h2⟩:=hd
 unfold V.den at e1
 exact⟨r1,by rw [e1],h2⟩
theorem C4 {g:GE} {h:Ad} {vals:List Value} (hd:V.dens g h ([]:List (V Ty)) vals):vals=[]:=by unfold V.dens at hd; exact hd
theorem HZ {g:GE} {h:Ad} {x:V Ty} {v:Value} (hd:x.den g h v):V.dens g h [x] [v]:=by unfold V.dens V.dens; exact⟨_,[],rfl,hd,rfl⟩
theorem MB (n:Nat):AX Tryz.prog 112 (Zd1 n):=HY rfl fun x y hy F h g w vals R hm hin hd fin=>by
 obtain⟨s,sep,⟨⟩⟩:=x
 unfold NB at hy
 cases hb:(Nat.blt (ByteArray.size s) 4294967281 && AbR sep) with
 | false=>rw [hb] at hy; cases hy
 | true =>
  rw [hb,Zac] at hy
  obtain⟨b1,b2⟩:=Ao hb
  have b1:ByteArray.size s<4294967281:=by simpa using b1
  have b2:=Adg b2
  change V.dens g h [.str s,.str sep] vals at hd
  obtain⟨v1,e1,hd1⟩:=JL hd
  obtain⟨v2,e2,hd2⟩:=JL hd1
  rw [e1,e2,C4 hd2,b2]
  refine VV hm s b1 R fun h' w' v q1 q2 q3=>?_
  refine fin F h' g _ ⟨[],[],2000⟩ false [.lst 9 (DC s)] [v] rfl (FD.refl F []) q1 (fun _ _=>rfl) (by decide) (q2.less (fun i c hi=>by cases hi)) (fun i c hi=>by cases hi) ?_ (HZ q3) rfl
  rw [← hy]; kernel_rfl
def Adh:List (Nat×C):=[(0,.s 3)]
def Adi:List Wo:=[⟨.ret,[],[],[.s 9]⟩]
def B3 (n:Nat) (x:Int):Option (ByteArray×Unit):=bif decide (-9223372036854775808≤x) && decide (x≤9223372036854775807) then some (BK x,()) else none
noncomputable def ZeJ (n:Nat):FQ Ty:=ET Adh 0 Adi fun y=>B3 n y.1
theorem VW (n:Nat):AX Tryz.prog 89 (ZeJ n):=HY rfl fun x y hy F h g w vals R hm hin hd fin=>by
 obtain⟨x,⟨⟩⟩:=x
 change Int at x
 unfold B3 at hy
 cases hb:(decide (-9223372036854775808≤x) && decide (x≤9223372036854775807)) with
 | false=>rw [hb] at hy; cases hy
 | true =>
  rw [hb,Zac] at hy
  obtain⟨b1,b2⟩:=Ao hb
  have b1:=of_decide_eq_true b1
  have b2:=of_decide_eq_true b2
  change V.dens g h [.int .i64 x] vals at hd
  obtain⟨v1,e1,hd1⟩:=D5 hd
  rw [e1,C4 hd1]
  refine(Any.strconv_Itoa Tryz.laysItoa x b1 b2 w hm.gl.1).mono ?_
  rintro e w' ⟨rfl,k,os,rfl⟩
  have e1:(⟨(Lib.itoa x).toArray⟩:ByteArray)=BK x:=by unfold BK; rw [MA b1 b2]; rfl
  rw [e1]
  have hg:w.grownBy (Go.Sort.grow (w.drewN k) os) none:=⟨rfl,rfl,rfl,by unfold Go.Sort.grow World.drewN; simp,fun b hb _=>by unfold Go.Sort.grow World.drewN; simp [Zbn hb]⟩
  refine fin F h g _ ⟨[],[],2000⟩ false [.str (BK x)] [.string (BK x)] rfl (FD.refl F []) (Ad.le_refl h) (fun _ _=>rfl) (by decide) ((hm.grow hg).less (fun i c hi=>by cases hi)) (fun i c hi=>by cases hi) ?_ (HZ (by unfold V.den; rfl)) rfl
  rw [← hy]; kernel_rfl
def ZD:List (Nat×C):=[(0,.s 9),(1,.s 3)]
def ZE:List Wo:=[⟨.ret,[],[],[.s 9]⟩]
def Yv (n:Nat) (s:ByteArray) (c:Int):Option (ByteArray×Unit):=match c with
 | .ofNat c=>bif Nat.ble c 1000 && Nat.ble s.size 1000 then some (Ku (Lib.repeatL s.data.toList c),()) else none
 | _=>none
noncomputable def Zej (n:Nat):FQ Ty:=ET ZD 0 ZE fun y=>Yv n y.1 y.2.1
theorem R7 (n:Nat):AX Tryz.prog 244 (Zej n):=HY rfl fun x y hy F h g w vals R hm hin hd fin=>by
 obtain⟨s,x,⟨⟩⟩:=x
 change Int at x
 cases x with
 | negSucc c=>cases hy
 | ofNat c =>
  change (bif Nat.ble c 1000 && Nat.ble (ByteArray.size s) 1000 then some (Ku (Lib.repeatL (ByteArray.data s).toList c),()) else none)=some y at hy
  cases hb:(Nat.ble c 1000 && Nat.ble (ByteArray.size s) 1000) with
  | false=>rw [hb] at hy; cases hy
  | true =>
   rw [hb,Zac] at hy
   obtain⟨b1,b2⟩:=Ao hb
   have b1:c≤1000:=Zaf b1
   have b2:ByteArray.size s≤1000:=Zaf b2
   change V.dens g h [.str s,.int .i64 (Int.ofNat c)] vals at hd
   obtain⟨v1,e1,hd1⟩:=JL hd
   obtain⟨v2,e2,hd2⟩:=D5 hd1
   rw [e1,e2,C4 hd2]
   refine(Any.strings_Repeat Tryz.laysRep Tryz.extraRep s c w (by omega) (ZaF (Nat.mul_le_mul b2 b1) (by decide))).mono ?_
   rintro e w' ⟨rfl,hb⟩
   refine fin F h g _ ⟨[],[],2000⟩ false [.str (Ku (Lib.repeatL (ByteArray.data s).toList c))] [.string _] rfl (FD.refl F []) (Ad.le_refl h) (fun _ _=>rfl) (by decide) ((hm.grow (Dp hb)).less (fun i c hi=>by cases hi)) (fun i c hi=>by cases hi) ?_ (HZ (by unfold V.den; rfl)) rfl
   rw [← hy]; kernel_rfl
theorem X1 {M:Mo Ty} {F:Fr} {h:Ad} {g:GE} {w:World} (hm:Ag F h g M w) (s:ByteArray) (y:Int ⊕ Int) (hy:KJ s=some y) (R:Ending→World→Prop)
  (fin:∀ (w':World)(u:Value),w.grownBy w' none→(match y with
   | .inl v=>u=.tuple #[.int .i64 v,.nilIface]
   | .inr v=>∃ b,u=.tuple #[.int .i64 v,.iface 317 (.pointer (some ⟨b,0,none⟩))])→R (.returned u) w'):Calls Tryz.prog 113 #[.string s] w R:=by
 unfold KJ at hy
 split at hy
 · rename_i hlim
   rcases ha:Lib.atoiAll s.data.toList with v | _ | _
   · skip
     rw [ha] at hy
     cases hy
     refine(Any.strconv_Atoi_ok Tryz.laysAtoi s (by omega) v ha w).mono ?_
     rintro e w' ⟨rfl,rfl | ⟨t,rfl⟩⟩
     · exact fin _ _ (Dp (Below.refl _ _)) rfl
     · exact fin _ _ (Dp (Lib.bytesWorld_below _ _ _)) rfl
   · skip
     rw [ha] at hy
     cases hy
     obtain⟨tp,p,hv⟩:=hm.gl.2.1
     refine(Any.strconv_Atoi_syntax_var Tryz.laysAtoi s hlim ha tp p w hv).mono ?_
     rintro e w' ⟨N,rfl,_,_,hb⟩
     exact fin _ _ (Dp hb) ⟨N,rfl⟩
   · skip
     rw [ha] at hy
     cases hy
     obtain⟨tp,p,hv⟩:=hm.gl.2.2.1
     refine(Any.strconv_Atoi_range_var Tryz.laysAtoi s hlim ha tp p w hv).mono ?_
     rintro e w' ⟨N,rfl,_,_,hb⟩
     exact fin _ _ (Dp hb) ⟨N,rfl⟩
 · cases hy
theorem VX (n:Nat):AX Tryz.prog 113 (ZdI n):=by
 intro args k s r hr F h g w vals hm hin hargs hden
 unfold ZdI at hr
 split at hr
 · rename_i x
   rw [Tr.runK_ask] at hr
   obtain⟨y,hy,hr⟩:=Zae.1 hr
   obtain⟨vs,e1,hd⟩:=JL hden
   rw [e1,C4 hd]
   refine .of rfl (X1 hm x y hy _ fun w' u hg hu=>?_)
   cases y with
   | inl v =>
    cases hr
    exact⟨h,g,u,Ad.le_refl _,fun _ _=>rfl,hm.grow hg,hin,Zal _,rfl,by rw [hu]; unfold V.den; exact⟨[.int .i64 v,.nilIface],rfl,by unfold V.dens V.dens V.dens V.den; exact⟨_,_,rfl,rfl,_,_,rfl,rfl,rfl⟩⟩,rfl⟩
   | inr v =>
    cases hr
    obtain⟨b,hu⟩:=hu
    exact⟨h,g,u,Ad.le_refl _,fun _ _=>rfl,hm.grow hg,hin,Zal _,rfl,by
     rw [hu]
     unfold V.den
     refine⟨[.int .i64 v,.iface 317 (.pointer (some ⟨b,0,none⟩))],rfl,?_⟩
     unfold V.dens V.dens V.dens
     refine⟨_,_,rfl,by unfold V.den; rfl,_,_,rfl,?_,rfl⟩
     unfold V.den
     refine⟨_,rfl,?_⟩
     unfold V.den
     exact⟨b,0,[],rfl,by unfold V.dens; rfl,by simp,by simp⟩,rfl⟩
 · cases hr
end YtkpgggfibljflaaGreatDoor
end Go.Proofs
