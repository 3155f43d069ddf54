/-
  Texts laid together: Shelf, Tab.
-/
import Derived.Shelf.Strconv.Itoa3
import Derived.Shelf.Strconv.AtoiAll
import Derived.Shelf.Hex.More
import Derived.Shelf.Hex.Decode
import Derived.Shelf.Strings.Split
import Derived.Shelf.Strings.Cut
import Derived.Shelf.Strings.Search3
import Derived.Shelf.Strings.BuilderF
import Derived.Test.YtipdbeklopjbmaaGreatDoorChecked
import Derived.KernelRfl
import Derived.Lib.LaidTab
import Derived.Test.YtipdbeklopjbmaaGreatDoorP03
set_option linter.unusedVariables false
set_option linter.unusedSimpArgs false
namespace Go.Proofs.YtipdbeklopjbmaaGreatDoor
set_option maxRecDepth 100000
def laysItoa_ren:Go.Shelf.Ren:=⟨fun|171=>182|243=>233|246=>304|283=>349|284=>350|285=>351|286=>352|129=>315|317=>369|318=>370|319=>371|320=>372|337=>379|338=>380|n=>n,fun|3=>3|9=>9|2=>2|4=>4|171=>352|0=>0|53=>331|37=>62|5=>5|173=>354|212=>367|51=>329|20=>20|213=>368|46=>214|232=>374|233=>375|n=>n,fun|17=>6|18=>7|19=>8|n=>n⟩
theorem laysItoa:Go.Proofs.LaysM.n171 Tryz.prog laysItoa_ren where
 mixed:=by kernel_rfl
 f129:=Tryz.func315.trans (congrArg some (by kernel_rfl))
 f171:=Tryz.func182.trans (congrArg some (by kernel_rfl))
 f243:=Tryz.func233.trans (congrArg some (by kernel_rfl))
 f246:=Tryz.func304.trans (congrArg some (by kernel_rfl))
 f283:=Tryz.func349.trans (congrArg some (by kernel_rfl))
 f284:=Tryz.func350.trans (congrArg some (by kernel_rfl))
 f285:=Tryz.func351.trans (congrArg some (by kernel_rfl))
 f286:=Tryz.func352.trans (congrArg some (by kernel_rfl))
 f317:=Tryz.func369.trans (congrArg some (by kernel_rfl))
 f318:=Tryz.func370.trans (congrArg some (by kernel_rfl))
 f319:=Tryz.func371.trans (congrArg some (by kernel_rfl))
 f320:=Tryz.func372.trans (congrArg some (by kernel_rfl))
 f337:=Tryz.func379.trans (congrArg some (by kernel_rfl))
 f338:=Tryz.func380.trans (congrArg some (by kernel_rfl))
 t0:=Tryz.underlying0
 a0:=Tryz.isAgg0
 z0:=Tryz.sizeOf0
 v0:=Tryz.zeroValue0
 t2:=Tryz.underlying2
 a2:=Tryz.isAgg2
 z2:=Tryz.sizeOf2
 v2:=Tryz.zeroValue2
 t3:=Tryz.underlying3
 a3:=Tryz.isAgg3
 z3:=Tryz.sizeOf3
 v3:=Tryz.zeroValue3
 t4:=Tryz.underlying4
 a4:=Tryz.isAgg4
 z4:=Tryz.sizeOf4
 v4:=Tryz.zeroValue4
 t5:=Tryz.underlying5
 a5:=Tryz.isAgg5
 z5:=Tryz.sizeOf5
 v5:=Tryz.zeroValue5
 t9:=Tryz.underlying9
 a9:=Tryz.isAgg9
 z9:=Tryz.sizeOf9
 v9:=Tryz.zeroValue9
 t20:=Tryz.underlying20
 a20:=Tryz.isAgg20
 z20:=Tryz.sizeOf20
 v20:=Tryz.zeroValue20
 t37:=Tryz.underlying62
 a37:=Tryz.isAgg62
 z37:=Tryz.sizeOf62
 v37:=Tryz.zeroValue62
 t46:=Tryz.underlying214
 a46:=Tryz.isAgg214
 z46:=Tryz.sizeOf214
 v46:=Tryz.zeroValue214
 t51:=Tryz.underlying329
 a51:=Tryz.isAgg329
 z51:=Tryz.sizeOf329
 v51:=Tryz.zeroValue329
 t53:=Tryz.underlying331
 a53:=Tryz.isAgg331
 z53:=Tryz.sizeOf331
 v53:=Tryz.zeroValue331
 t171:=Tryz.underlying352
 a171:=Tryz.isAgg352
 z171:=Tryz.sizeOf352
 v171:=Tryz.zeroValue352
 t173:=Tryz.underlying354
 a173:=Tryz.isAgg354
 z173:=Tryz.sizeOf354
 v173:=Tryz.zeroValue354
 t212:=Tryz.underlying367
 a212:=Tryz.isAgg367
 z212:=Tryz.sizeOf367
 v212:=Tryz.zeroValue367
 t213:=Tryz.underlying368
 a213:=Tryz.isAgg368
 z213:=Tryz.sizeOf368
 t232:=Tryz.underlying374
 a232:=Tryz.isAgg374
 z232:=Tryz.sizeOf374
 v232:=Tryz.zeroValue374
 t233:=Tryz.underlying375
 a233:=Tryz.isAgg375
 z233:=Tryz.sizeOf375
 v233:=Tryz.zeroValue375
 g17:=by kernel_rfl
 g18:=by kernel_rfl
 g19:=by kernel_rfl
 i0:=by kernel_rfl
 i2:=by kernel_rfl
 i3:=by kernel_rfl
 i4:=by kernel_rfl
 i5:=by kernel_rfl
 i9:=by kernel_rfl
 i20:=by kernel_rfl
 i37:=by kernel_rfl
 i46:=by kernel_rfl
 i51:=by kernel_rfl
 i53:=by kernel_rfl
 i171:=by kernel_rfl
 i173:=by kernel_rfl
 i212:=by kernel_rfl
 i232:=by kernel_rfl
 i233:=by kernel_rfl
 m17:=by kernel_rfl
 m18:=by kernel_rfl
 m19:=by kernel_rfl
def laysAtoi_ren:Go.Shelf.Ren:=⟨fun|172=>172|244=>205|245=>206|247=>272|279=>273|280=>274|281=>275|282=>276|287=>339|316=>340|171=>182|205=>341|321=>366|322=>367|243=>233|246=>304|283=>349|284=>350|285=>351|286=>352|129=>315|317=>369|318=>370|319=>371|320=>372|337=>379|338=>380|n=>n,fun|9=>9|3=>3|75=>197|76=>198|4=>4|5=>5|167=>296|37=>62|0=>0|85=>297|2=>2|168=>299|53=>331|175=>342|46=>214|210=>345|127=>228|145=>365|143=>363|21=>21|171=>352|173=>354|212=>367|51=>329|20=>20|213=>368|232=>374|233=>375|80=>202|n=>n,fun|15=>4|16=>5|17=>6|18=>7|19=>8|n=>n⟩
theorem J6N:Go.Proofs.LaysC.n172 Tryz.prog laysAtoi_ren where
 mixed:=by kernel_rfl
 f129:=Tryz.func315.trans (congrArg some (by kernel_rfl))
 f171:=Tryz.func182.trans (congrArg some (by kernel_rfl))
 f172:=Tryz.func172.trans (congrArg some (by kernel_rfl))
 f205:=Tryz.func341.trans (congrArg some (by kernel_rfl))
 f243:=Tryz.func233.trans (congrArg some (by kernel_rfl))
 f244:=Tryz.func205.trans (congrArg some (by kernel_rfl))
 f245:=Tryz.func206.trans (congrArg some (by kernel_rfl))
 f246:=Tryz.func304.trans (congrArg some (by kernel_rfl))
 f247:=Tryz.func272.trans (congrArg some (by kernel_rfl))
 f279:=Tryz.func273.trans (congrArg some (by kernel_rfl))
 f280:=Tryz.func274.trans (congrArg some (by kernel_rfl))
 f281:=Tryz.func275.trans (congrArg some (by kernel_rfl))
 f282:=Tryz.func276.trans (congrArg some (by kernel_rfl))
 f283:=Tryz.func349.trans (congrArg some (by kernel_rfl))
 f284:=Tryz.func350.trans (congrArg some (by kernel_rfl))
 f285:=Tryz.func351.trans (congrArg some (by kernel_rfl))
 f286:=Tryz.func352.trans (congrArg some (by kernel_rfl))
 f287:=Tryz.func339.trans (congrArg some (by kernel_rfl))
 f316:=Tryz.func340.trans (congrArg some (by kernel_rfl))
 f317:=Tryz.func369.trans (congrArg some (by kernel_rfl))
 f318:=Tryz.func370.trans (congrArg some (by kernel_rfl))
 f319:=Tryz.func371.trans (congrArg some (by kernel_rfl))
 f320:=Tryz.func372.trans (congrArg some (by kernel_rfl))
 f321:=Tryz.func366.trans (congrArg some (by kernel_rfl))
 f322:=Tryz.func367.trans (congrArg some (by kernel_rfl))
 f337:=Tryz.func379.trans (congrArg some (by kernel_rfl))
 f338:=Tryz.func380.trans (congrArg some (by kernel_rfl))
 t0:=Tryz.underlying0
 a0:=Tryz.isAgg0
 z0:=Tryz.sizeOf0
 v0:=Tryz.zeroValue0
 t2:=Tryz.underlying2
 a2:=Tryz.isAgg2
 z2:=Tryz.sizeOf2
 v2:=Tryz.zeroValue2
 t3:=Tryz.underlying3
 a3:=Tryz.isAgg3
 z3:=Tryz.sizeOf3
 v3:=Tryz.zeroValue3
 t4:=Tryz.underlying4
 a4:=Tryz.isAgg4
 z4:=Tryz.sizeOf4
 v4:=Tryz.zeroValue4
 t5:=Tryz.underlying5
 a5:=Tryz.isAgg5
 z5:=Tryz.sizeOf5
 v5:=Tryz.zeroValue5
 t9:=Tryz.underlying9
 a9:=Tryz.isAgg9
 z9:=Tryz.sizeOf9
 v9:=Tryz.zeroValue9
 t20:=Tryz.underlying20
 a20:=Tryz.isAgg20
 z20:=Tryz.sizeOf20
 v20:=Tryz.zeroValue20
 t21:=Tryz.underlying21
 a21:=Tryz.isAgg21
 z21:=Tryz.sizeOf21
 v21:=Tryz.zeroValue21
 t37:=Tryz.underlying62
 a37:=Tryz.isAgg62
 z37:=Tryz.sizeOf62
 v37:=Tryz.zeroValue62
 t46:=Tryz.underlying214
 a46:=Tryz.isAgg214
 z46:=Tryz.sizeOf214
 v46:=Tryz.zeroValue214
 t51:=Tryz.underlying329
 a51:=Tryz.isAgg329
 z51:=Tryz.sizeOf329
 v51:=Tryz.zeroValue329
 t53:=Tryz.underlying331
 a53:=Tryz.isAgg331
 z53:=Tryz.sizeOf331
 v53:=Tryz.zeroValue331
 t75:=Tryz.underlying197
 a75:=Tryz.isAgg197
 z75:=Tryz.sizeOf197
 v75:=Tryz.zeroValue197
 t76:=Tryz.underlying198
 a76:=Tryz.isAgg198
 z76:=Tryz.sizeOf198
 v76:=Tryz.zeroValue198
 t85:=Tryz.underlying297
 a85:=Tryz.isAgg297
 z85:=Tryz.sizeOf297
 v85:=Tryz.zeroValue297
 t127:=Tryz.underlying228
 a127:=Tryz.isAgg228
 z127:=Tryz.sizeOf228
 v127:=Tryz.zeroValue228
 t143:=Tryz.underlying363
 a143:=Tryz.isAgg363
 z143:=Tryz.sizeOf363
 v143:=Tryz.zeroValue363
 t145:=Tryz.underlying365
 a145:=Tryz.isAgg365
 z145:=Tryz.sizeOf365
 v145:=Tryz.zeroValue365
 t167:=Tryz.underlying296
 a167:=Tryz.isAgg296
 z167:=Tryz.sizeOf296
 v167:=Tryz.zeroValue296
 t168:=Tryz.underlying299
 a168:=Tryz.isAgg299
 z168:=Tryz.sizeOf299
 v168:=Tryz.zeroValue299
 t171:=Tryz.underlying352
 a171:=Tryz.isAgg352
 z171:=Tryz.sizeOf352
 v171:=Tryz.zeroValue352
 t173:=Tryz.underlying354
 a173:=Tryz.isAgg354
 z173:=Tryz.sizeOf354
 v173:=Tryz.zeroValue354
 t175:=Tryz.underlying342
 a175:=Tryz.isAgg342
 z175:=Tryz.sizeOf342
 v175:=Tryz.zeroValue342
 t210:=Tryz.underlying345
 a210:=Tryz.isAgg345
 z210:=Tryz.sizeOf345
 v210:=Tryz.zeroValue345
 t212:=Tryz.underlying367
 a212:=Tryz.isAgg367
 z212:=Tryz.sizeOf367
 v212:=Tryz.zeroValue367
 t213:=Tryz.underlying368
 a213:=Tryz.isAgg368
 z213:=Tryz.sizeOf368
 t232:=Tryz.underlying374
 a232:=Tryz.isAgg374
 z232:=Tryz.sizeOf374
 v232:=Tryz.zeroValue374
 t233:=Tryz.underlying375
 a233:=Tryz.isAgg375
 z233:=Tryz.sizeOf375
 v233:=Tryz.zeroValue375
 g15:=by kernel_rfl
 g16:=by kernel_rfl
 g17:=by kernel_rfl
 g18:=by kernel_rfl
 g19:=by kernel_rfl
 t80:=Tryz.underlying202
 a80:=Tryz.isAgg202
 z80:=Tryz.sizeOf202
 v80:=Tryz.zeroValue202
 i0:=by kernel_rfl
 i2:=by kernel_rfl
 i3:=by kernel_rfl
 i4:=by kernel_rfl
 i5:=by kernel_rfl
 i9:=by kernel_rfl
 i20:=by kernel_rfl
 i21:=by kernel_rfl
 i37:=by kernel_rfl
 i46:=by kernel_rfl
 i51:=by kernel_rfl
 i53:=by kernel_rfl
 i75:=by kernel_rfl
 i76:=by kernel_rfl
 i80:=by kernel_rfl
 i85:=by kernel_rfl
 i127:=by kernel_rfl
 i143:=by kernel_rfl
 i145:=by kernel_rfl
 i167:=by kernel_rfl
 i168:=by kernel_rfl
 i171:=by kernel_rfl
 i173:=by kernel_rfl
 i175:=by kernel_rfl
 i210:=by kernel_rfl
 i212:=by kernel_rfl
 i232:=by kernel_rfl
 i233:=by kernel_rfl
 m15:=by kernel_rfl
 m16:=by kernel_rfl
 m17:=by kernel_rfl
 m18:=by kernel_rfl
 m19:=by kernel_rfl
 c0:=by kernel_rfl
 c2:=by kernel_rfl
 c3:=by kernel_rfl
 c4:=by kernel_rfl
 c5:=by kernel_rfl
 c9:=by kernel_rfl
 c20:=by kernel_rfl
 c21:=by kernel_rfl
 c37:=by kernel_rfl
 c46:=by kernel_rfl
 c51:=by kernel_rfl
 c53:=by kernel_rfl
 c75:=by kernel_rfl
 c76:=by kernel_rfl
 c80:=by kernel_rfl
 c85:=by kernel_rfl
 c127:=by kernel_rfl
 c143:=by kernel_rfl
 c145:=by kernel_rfl
 c167:=by kernel_rfl
 c168:=by kernel_rfl
 c171:=by kernel_rfl
 c173:=by kernel_rfl
 c175:=by kernel_rfl
 c210:=by kernel_rfl
 c212:=by kernel_rfl
 c213:=by kernel_rfl
 c232:=by kernel_rfl
 c233:=by kernel_rfl
def JdV:Go.Shelf.Ren:=⟨fun|39=>175|41=>210|40=>211|n=>n,fun|30=>62|9=>9|3=>3|0=>0|5=>5|46=>214|n=>n,fun|n=>n⟩
theorem J71:Go.Proofs.Lays.ph39 Tryz.prog JdV where
 mixed:=by kernel_rfl
 f39:=Tryz.func175.trans (congrArg some (by kernel_rfl))
 f40:=Tryz.func211.trans (congrArg some (by kernel_rfl))
 f41:=Tryz.func210.trans (congrArg some (by kernel_rfl))
 t0:=Tryz.underlying0
 a0:=Tryz.isAgg0
 z0:=Tryz.sizeOf0
 v0:=Tryz.zeroValue0
 t3:=Tryz.underlying3
 a3:=Tryz.isAgg3
 z3:=Tryz.sizeOf3
 v3:=Tryz.zeroValue3
 t5:=Tryz.underlying5
 a5:=Tryz.isAgg5
 z5:=Tryz.sizeOf5
 v5:=Tryz.zeroValue5
 t9:=Tryz.underlying9
 a9:=Tryz.isAgg9
 z9:=Tryz.sizeOf9
 v9:=Tryz.zeroValue9
 t30:=Tryz.underlying62
 a30:=Tryz.isAgg62
 z30:=Tryz.sizeOf62
 v30:=Tryz.zeroValue62
 t46:=Tryz.underlying214
 a46:=Tryz.isAgg214
 z46:=Tryz.sizeOf214
 v46:=Tryz.zeroValue214
 info5:=by kernel_rfl
def laysUnhex_ren:Go.Shelf.Ren:=⟨fun|43=>174|42=>208|44=>209|n=>n,fun|9=>9|30=>62|35=>197|3=>3|38=>198|4=>4|0=>0|5=>5|47=>302|46=>214|45=>202|n=>n,fun|0=>1|n=>n⟩
theorem JeW:Go.Proofs.Lays.ph43 Tryz.prog laysUnhex_ren where
 mixed:=by kernel_rfl
 f42:=Tryz.func208.trans (congrArg some (by kernel_rfl))
 f43:=Tryz.func174.trans (congrArg some (by kernel_rfl))
 f44:=Tryz.func209.trans (congrArg some (by kernel_rfl))
 t0:=Tryz.underlying0
 a0:=Tryz.isAgg0
 z0:=Tryz.sizeOf0
 v0:=Tryz.zeroValue0
 t3:=Tryz.underlying3
 a3:=Tryz.isAgg3
 z3:=Tryz.sizeOf3
 v3:=Tryz.zeroValue3
 t4:=Tryz.underlying4
 a4:=Tryz.isAgg4
 z4:=Tryz.sizeOf4
 v4:=Tryz.zeroValue4
 t5:=Tryz.underlying5
 a5:=Tryz.isAgg5
 z5:=Tryz.sizeOf5
 v5:=Tryz.zeroValue5
 t9:=Tryz.underlying9
 a9:=Tryz.isAgg9
 z9:=Tryz.sizeOf9
 v9:=Tryz.zeroValue9
 t30:=Tryz.underlying62
 a30:=Tryz.isAgg62
 z30:=Tryz.sizeOf62
 v30:=Tryz.zeroValue62
 t35:=Tryz.underlying197
 a35:=Tryz.isAgg197
 z35:=Tryz.sizeOf197
 v35:=Tryz.zeroValue197
 t38:=Tryz.underlying198
 a38:=Tryz.isAgg198
 z38:=Tryz.sizeOf198
 v38:=Tryz.zeroValue198
 t45:=Tryz.underlying202
 a45:=Tryz.isAgg202
 z45:=Tryz.sizeOf202
 v45:=Tryz.zeroValue202
 t46:=Tryz.underlying214
 a46:=Tryz.isAgg214
 z46:=Tryz.sizeOf214
 v46:=Tryz.zeroValue214
 t47:=Tryz.underlying302
 a47:=Tryz.isAgg302
 z47:=Tryz.sizeOf302
 v47:=Tryz.zeroValue302
 g0:=by kernel_rfl
 info5:=by kernel_rfl
def JiK:Go.Shelf.Ren:=⟨fun|145=>140|220=>173|219=>207|217=>277|225=>278|224=>279|267=>280|266=>342|314=>343|n=>n,fun|9=>9|4=>4|59=>183|3=>3|5=>5|46=>214|146=>347|51=>329|n=>n,fun|1=>0|n=>n⟩
def Jde:Go.Shelf.Ren:=⟨fun|143=>202|219=>207|217=>277|225=>278|224=>279|267=>280|266=>342|314=>343|n=>n,fun|9=>9|3=>3|4=>4|5=>5|46=>214|146=>347|51=>329|n=>n,fun|1=>0|n=>n⟩
theorem laysIndex:Go.Proofs.Lays.n143 Tryz.prog Jde where
 mixed:=by kernel_rfl
 f143:=Tryz.func202.trans (congrArg some (by kernel_rfl))
 f217:=Tryz.func277.trans (congrArg some (by kernel_rfl))
 f219:=Tryz.func207.trans (congrArg some (by kernel_rfl))
 f224:=Tryz.func279.trans (congrArg some (by kernel_rfl))
 f225:=Tryz.func278.trans (congrArg some (by kernel_rfl))
 f266:=Tryz.func342.trans (congrArg some (by kernel_rfl))
 f267:=Tryz.func280.trans (congrArg some (by kernel_rfl))
 f314:=Tryz.func343.trans (congrArg some (by kernel_rfl))
 t3:=Tryz.underlying3
 a3:=Tryz.isAgg3
 z3:=Tryz.sizeOf3
 v3:=Tryz.zeroValue3
 t4:=Tryz.underlying4
 a4:=Tryz.isAgg4
 z4:=Tryz.sizeOf4
 v4:=Tryz.zeroValue4
 t5:=Tryz.underlying5
 a5:=Tryz.isAgg5
 z5:=Tryz.sizeOf5
 v5:=Tryz.zeroValue5
 t9:=Tryz.underlying9
 a9:=Tryz.isAgg9
 z9:=Tryz.sizeOf9
 v9:=Tryz.zeroValue9
 t46:=Tryz.underlying214
 a46:=Tryz.isAgg214
 z46:=Tryz.sizeOf214
 v46:=Tryz.zeroValue214
 t51:=Tryz.underlying329
 a51:=Tryz.isAgg329
 z51:=Tryz.sizeOf329
 v51:=Tryz.zeroValue329
 t146:=Tryz.underlying347
 a146:=Tryz.isAgg347
 z146:=Tryz.sizeOf347
 v146:=Tryz.zeroValue347
 g1:=by kernel_rfl
def J8t:Go.Shelf.Ren:=⟨fun|169=>154|n=>n,fun|70=>193|9=>9|0=>0|72=>195|37=>62|127=>228|3=>3|5=>5|n=>n,fun|n=>n⟩
theorem JfA:Go.Proofs.Lays.n169 Tryz.prog J8t where
 mixed:=by kernel_rfl
 f169:=Tryz.func154.trans (congrArg some (by kernel_rfl))
 t0:=Tryz.underlying0
 a0:=Tryz.isAgg0
 z0:=Tryz.sizeOf0
 v0:=Tryz.zeroValue0
 t3:=Tryz.underlying3
 a3:=Tryz.isAgg3
 z3:=Tryz.sizeOf3
 v3:=Tryz.zeroValue3
 t9:=Tryz.underlying9
 a9:=Tryz.isAgg9
 z9:=Tryz.sizeOf9
 v9:=Tryz.zeroValue9
 t37:=Tryz.underlying62
 a37:=Tryz.isAgg62
 z37:=Tryz.sizeOf62
 v37:=Tryz.zeroValue62
 t70:=Tryz.underlying193
 a70:=Tryz.isAgg193
 z70:=Tryz.sizeOf193
 v70:=Tryz.zeroValue193
 t72:=Tryz.underlying195
 a72:=Tryz.isAgg195
 z72:=Tryz.sizeOf195
 v72:=Tryz.zeroValue195
 t127:=Tryz.underlying228
 a127:=Tryz.isAgg228
 z127:=Tryz.sizeOf228
 v127:=Tryz.zeroValue228
def J8C:Go.Shelf.Ren:=⟨fun|166=>150|240=>181|276=>232|n=>n,fun|70=>193|9=>9|3=>3|75=>197|0=>0|72=>195|37=>62|4=>4|164=>271|80=>202|5=>5|n=>n,fun|n=>n⟩
theorem Jaq:Go.Proofs.Lays.n166 Tryz.prog J8C where
 mixed:=by kernel_rfl
 f166:=Tryz.func150.trans (congrArg some (by kernel_rfl))
 f240:=Tryz.func181.trans (congrArg some (by kernel_rfl))
 f276:=Tryz.func232.trans (congrArg some (by kernel_rfl))
 t0:=Tryz.underlying0
 a0:=Tryz.isAgg0
 z0:=Tryz.sizeOf0
 v0:=Tryz.zeroValue0
 t3:=Tryz.underlying3
 a3:=Tryz.isAgg3
 z3:=Tryz.sizeOf3
 v3:=Tryz.zeroValue3
 t4:=Tryz.underlying4
 a4:=Tryz.isAgg4
 z4:=Tryz.sizeOf4
 v4:=Tryz.zeroValue4
 t9:=Tryz.underlying9
 a9:=Tryz.isAgg9
 z9:=Tryz.sizeOf9
 v9:=Tryz.zeroValue9
 t20:=Tryz.underlying20
 a20:=Tryz.isAgg20
 z20:=Tryz.sizeOf20
 v20:=Tryz.zeroValue20
 t37:=Tryz.underlying62
 a37:=Tryz.isAgg62
 z37:=Tryz.sizeOf62
 v37:=Tryz.zeroValue62
 t70:=Tryz.underlying193
 a70:=Tryz.isAgg193
 z70:=Tryz.sizeOf193
 v70:=Tryz.zeroValue193
 t72:=Tryz.underlying195
 a72:=Tryz.isAgg195
 z72:=Tryz.sizeOf195
 v72:=Tryz.zeroValue195
 t75:=Tryz.underlying197
 a75:=Tryz.isAgg197
 z75:=Tryz.sizeOf197
 v75:=Tryz.zeroValue197
 t164:=Tryz.underlying271
 a164:=Tryz.isAgg271
 z164:=Tryz.sizeOf271
 v164:=Tryz.zeroValue271
end Go.Proofs.YtipdbeklopjbmaaGreatDoor
namespace Go.Proofs.YtipdbeklopjbmaaGreatDoor
open Go.ChangeShapes Go.WideShapes Go.ChangeAt Go.RowKit Go.Proofs.Tryz
def Ground:Nat→World→Prop
 | 0,w=>Lib.TabIs prog w "internal/strconv.uint64pow10" .u64 Lib.pow10Tab
 | 1,w=>(∃ ev,w.cell? ⟨laysAtoi_ren.g 15,0,none⟩=some ev∧J2y ev)∧∃ ev,w.cell? ⟨laysAtoi_ren.g 16,0,none⟩=some ev∧J2y ev
 | _,w=>∃ ev,w.cell? ⟨laysUnhex_ren.g 0,0,none⟩=some ev∧J2y ev
def GS:Nat→List Nat
 | 0=>[laysItoa_ren.g 17]
 | 1=>[laysAtoi_ren.g 15,laysAtoi_ren.g 16]
 | _=>[laysUnhex_ren.g 0]
theorem J6F {w w':World} {g:Nat} (e:w'.heap[g]? = w.heap[g]?):w'.cell? ⟨g,0,none⟩=w.cell? ⟨g,0,none⟩:=by
 unfold World.cell?
 simp only [e]
theorem Ground.same:∀ {K:Nat} {w w':World},Ground K w→(∀ g ∈ GS K,w'.heap[g]? = w.heap[g]?)→Ground K w'
 | 0,w,w',h,e=>by
  have hg:prog.globalNamed "internal/strconv.uint64pow10"=some (laysItoa_ren.g 17):=laysItoa.m17
  have e:=e _ (List.mem_singleton.2 rfl)
  generalize laysItoa_ren.g 17=g at hg e
  have h2:∀ v:World,v.var? prog "internal/strconv.uint64pow10"=match v.heap[g]? with
   | some (.cells cs _ _)=>some cs
   | _=>none:=fun v=>by unfold World.var?;rw [hg];rfl
  show w'.var? _ _=_
  have h3:w.var? prog "internal/strconv.uint64pow10"=_:=h
  rw [h2,e,← h2];exact h3
 | 1,w,w',⟨h1,h2⟩,e=>by
  have e1:=J6F (e _ (List.mem_cons_self ..))
  have e2:=J6F (e _ (List.mem_cons_of_mem _ (List.mem_singleton.2 rfl)))
  show (∃ ev,w'.cell? ⟨laysAtoi_ren.g 15,0,none⟩=some ev∧J2y ev)∧∃ ev,w'.cell? ⟨laysAtoi_ren.g 16,0,none⟩=some ev∧J2y ev
  rw [e1,e2];exact ⟨h1,h2⟩
 | _+2,w,w',h,e=>by
  have e1:=J6F (e _ (List.mem_singleton.2 rfl))
  show ∃ ev,w'.cell? ⟨laysUnhex_ren.g 0,0,none⟩=some ev∧J2y ev
  rw [e1];exact h
def Tb (K:Nat) (H:Nat→Prop) (w:World):Prop:=Ground K w∧∀ g ∈ GS K,H g∧g < w.heap.size
section
variable {K:Nat} {H:Nat→Prop} {w:World}
theorem Tb.mono {H':Nat→Prop} (h:Tb K H w) (hH:∀ b,H b→H' b):Tb K H' w:=⟨h.1,fun g hg=>⟨hH _ (h.2 g hg).1,(h.2 g hg).2⟩⟩
theorem Tb.top (h:Tb K H w):Tb K (fun _=>True) w:=h.mono fun _ _=>trivial
theorem Tb.start {L:List Atom} (h:Tb K H w) (hL:∀ b,H b→¬ fps L b):Tb K (V H w L) w:=h.1 |> fun h1=>⟨h1,fun g hg=>⟨⟨.inl (h.2 g hg).1,hL _ (h.2 g hg).1⟩,(h.2 g hg).2⟩⟩
theorem Tb.startP {L:List Atom} (h:Tb K H w) (hL:∀ b,H b→¬ fps L b):Tb K (V (HP H L) w L) w:=⟨h.1,fun g hg=>⟨⟨.inl (.inl (h.2 g hg).1),hL _ (h.2 g hg).1⟩,(h.2 g hg).2⟩⟩
theorem Tb.mv {G:Nat→Prop} {w0 w':World} {L L':List Atom} (h:Tb K (V G w0 L) w) (m:Mv L w L' w'):Tb K (V G w0 L') w':=
 ⟨h.1.same fun g hg=>m.kp.block g (h.2 g hg).2 (h.2 g hg).1.2,fun g hg=>by
  have h1:=h.2 g hg
  refine ⟨⟨h1.1.1,fun hf=>?_⟩,Nat.lt_of_lt_of_le h1.2 m.kp.size⟩
  rcases m.fresh g hf with h2|h2
  ·exact h1.1.2 h2
  omega⟩
end
theorem J32 {w w':World} (h:Below w.heap.size w w'):Mv [] w [] w':=⟨At.nil _,fun _ h=>.inl h,⟨h.os,h.tape,h.output,h.size,fun k hk _=>h.block k hk⟩⟩
theorem Je4 (w:World) (k:Nat) (os:Array Obj):Below w.heap.size w (Sort.grow (w.drewN k) os):=⟨rfl,rfl,rfl,by simp [Sort.grow],fun i hi=>by simp [Sort.grow,Array.getElem?_append_left hi]⟩
def atoiR (s:ByteArray) (r:Int) (ev:Value):Prop:=(Lib.atoiAll s.data.toList=.ok r∧ev=.nilIface)∨((∀ v,Lib.atoiAll s.data.toList≠.ok v)∧J2v ev=true)
end Go.Proofs.YtipdbeklopjbmaaGreatDoor
