/- That the library's bodies in this program are those that the shelf's contracts were proved of. -/
import Derived.Shelf.Strings.Builder1
import Derived.Shelf.Strings.OnBuilder
import Derived.Shelf.Small.Strs
import Derived.Shelf.Strconv.Atoi
import Derived.Shelf.LaysM
import Derived.Shelf.Strconv.Itoa3
import Derived.Shelf.Strings.Prefix
import Derived.Shelf.Strings.Split
import Derived.Shelf.Slices.Turned
import Derived.Ground.Names2Prog
import Derived.Shelf.Slices.Clone
import Derived.Test.YtkcgfceihpampaaGreatDoorProg
import Derived.Test.YtkcgfceihpampaaGreatDoorNB
import Derived.Lib.AppendIntMem
import Derived.WalkKit
import Derived.Tactics
import Derived.Tactics2
import Derived.Laws.Strings
import Derived.Laws.Strings2
import Derived.Laws.Strings3
import Derived.Laws.Closers25
import Derived.KernelRfl
import Derived.RecoverIn
namespace Go.Proofs
open Go.Shelf
def Tryz.lays156_ren:Go.Shelf.Ren:=⟨fun|156=>176|165=>209|166=>175|169=>179|240=>208|241=>223|276=>222|277=>232|n=>n,fun|31=>29|9=>9|3=>3|4=>4|0=>0|20=>20|72=>275|76=>278|70=>273|37=>77|75=>277|127=>309|164=>315|5=>5|80=>101|n=>n,fun|n=>n⟩
theorem Tryz.lays156:Go.Proofs.Lays.n156 Tryz.prog Tryz.lays156_ren:={
 mixed:=by kernel_rfl
 f156:=Tryz.func176.trans (congrArg some (by kernel_rfl))
 f165:=Tryz.func209.trans (congrArg some (by kernel_rfl))
 f166:=Tryz.func175.trans (congrArg some (by kernel_rfl))
 f169:=Tryz.func179.trans (congrArg some (by kernel_rfl))
 f240:=Tryz.func208.trans (congrArg some (by kernel_rfl))
 f241:=Tryz.func223.trans (congrArg some (by kernel_rfl))
 f276:=Tryz.func222.trans (congrArg some (by kernel_rfl))
 f277:=Tryz.func232.trans (congrArg some (by kernel_rfl))
 t0:=Tryz.underlying0
 a0:=Tryz.isAgg0
 z0:=Tryz.sizeOf0
 v0:=Tryz.zeroValue0
 t3:=Tryz.underlying3
 a3:=Tryz.isAgg3
 z3:=Tryz.sizeOf3
 v3:=Tryz.zeroValue3
 t4:=Tryz.underlying4
 a4:=Tryz.isAgg4
 z4:=Tryz.sizeOf4
 v4:=Tryz.zeroValue4
 t9:=Tryz.underlying9
 a9:=Tryz.isAgg9
 z9:=Tryz.sizeOf9
 v9:=Tryz.zeroValue9
 t20:=Tryz.underlying20
 a20:=Tryz.isAgg20
 z20:=Tryz.sizeOf20
 v20:=Tryz.zeroValue20
 t31:=Tryz.underlying29
 a31:=Tryz.isAgg29
 z31:=Tryz.sizeOf29
 v31:=Tryz.zeroValue29
 t37:=Tryz.underlying77
 a37:=Tryz.isAgg77
 z37:=Tryz.sizeOf77
 v37:=Tryz.zeroValue77
 t70:=Tryz.underlying273
 a70:=Tryz.isAgg273
 z70:=Tryz.sizeOf273
 v70:=Tryz.zeroValue273
 t72:=Tryz.underlying275
 a72:=Tryz.isAgg275
 z72:=Tryz.sizeOf275
 v72:=Tryz.zeroValue275
 t75:=Tryz.underlying277
 a75:=Tryz.isAgg277
 z75:=Tryz.sizeOf277
 v75:=Tryz.zeroValue277
 t76:=Tryz.underlying278
 a76:=Tryz.isAgg278
 z76:=Tryz.sizeOf278
 v76:=Tryz.zeroValue278
 t127:=Tryz.underlying309
 a127:=Tryz.isAgg309
 z127:=Tryz.sizeOf309
 v127:=Tryz.zeroValue309
 t164:=Tryz.underlying315
 a164:=Tryz.isAgg315
 z164:=Tryz.sizeOf315
 v164:=Tryz.zeroValue315 }
theorem Tryz.Builder_Extra_156:Builder.Extra Tryz.prog Tryz.lays156_ren:={
 sizeBuilder:=by kernel_rfl
 liesBuilder:=by kernel_rfl
 t5:=Tryz.underlying5
 a5:=Tryz.isAgg5
 z5:=Tryz.sizeOf5
 v5:=Tryz.zeroValue5
 infoByte:=by kernel_rfl
 cellsByte:=by kernel_rfl
 sizeByte:=by kernel_rfl
 neB5:=by decide }
def Tryz.lays137_ren:Go.Shelf.Ren:=⟨fun|137=>181|217=>211|266=>225|n=>n,fun|9=>9|5=>5|3=>3|n=>n,fun|n=>n⟩
theorem Tryz.lays137:Go.Proofs.Lays.n137 Tryz.prog Tryz.lays137_ren:={
 mixed:=by kernel_rfl
 f137:=Tryz.func181.trans (congrArg some (by kernel_rfl))
 f217:=Tryz.func211.trans (congrArg some (by kernel_rfl))
 f266:=Tryz.func225.trans (congrArg some (by kernel_rfl))
 t3:=Tryz.underlying3
 a3:=Tryz.isAgg3
 z3:=Tryz.sizeOf3
 v3:=Tryz.zeroValue3
 t5:=Tryz.underlying5
 a5:=Tryz.isAgg5
 z5:=Tryz.sizeOf5
 v5:=Tryz.zeroValue5
 t9:=Tryz.underlying9
 a9:=Tryz.isAgg9
 z9:=Tryz.sizeOf9
 v9:=Tryz.zeroValue9 }
def Tryz.lays172_ren:Go.Shelf.Ren:=⟨fun|172=>212|244=>226|245=>227|247=>237|279=>238|280=>239|281=>240|282=>241|287=>251|316=>252|171=>177|205=>253|321=>257|322=>258|243=>210|246=>224|283=>233|284=>234|285=>235|286=>236|129=>247|317=>246|318=>248|319=>249|320=>250|337=>255|338=>256|n=>n,fun|9=>9|3=>3|75=>277|76=>278|4=>4|5=>5|167=>326|37=>77|0=>0|85=>327|2=>2|168=>329|53=>249|175=>335|46=>169|210=>339|127=>309|145=>350|143=>348|21=>21|171=>322|173=>324|212=>333|51=>247|20=>20|213=>334|232=>351|233=>352|80=>101|n=>n,fun|15=>2|16=>3|17=>1|18=>6|19=>7|n=>n⟩
theorem Tryz.lays172:Go.Proofs.Lays.n172 Tryz.prog Tryz.lays172_ren:={
 mixed:=by kernel_rfl
 f129:=Tryz.func247.trans (congrArg some (by kernel_rfl))
 f171:=Tryz.func177.trans (congrArg some (by kernel_rfl))
 f172:=Tryz.func212.trans (congrArg some (by kernel_rfl))
 f205:=Tryz.func253.trans (congrArg some (by kernel_rfl))
 f243:=Tryz.func210.trans (congrArg some (by kernel_rfl))
 f244:=Tryz.func226.trans (congrArg some (by kernel_rfl))
 f245:=Tryz.func227.trans (congrArg some (by kernel_rfl))
 f246:=Tryz.func224.trans (congrArg some (by kernel_rfl))
 f247:=Tryz.func237.trans (congrArg some (by kernel_rfl))
 f279:=Tryz.func238.trans (congrArg some (by kernel_rfl))
 f280:=Tryz.func239.trans (congrArg some (by kernel_rfl))
 f281:=Tryz.func240.trans (congrArg some (by kernel_rfl))
 f282:=Tryz.func241.trans (congrArg some (by kernel_rfl))
 f283:=Tryz.func233.trans (congrArg some (by kernel_rfl))
 f284:=Tryz.func234.trans (congrArg some (by kernel_rfl))
 f285:=Tryz.func235.trans (congrArg some (by kernel_rfl))
 f286:=Tryz.func236.trans (congrArg some (by kernel_rfl))
 f287:=Tryz.func251.trans (congrArg some (by kernel_rfl))
 f316:=Tryz.func252.trans (congrArg some (by kernel_rfl))
 f317:=Tryz.func246.trans (congrArg some (by kernel_rfl))
 f318:=Tryz.func248.trans (congrArg some (by kernel_rfl))
 f319:=Tryz.func249.trans (congrArg some (by kernel_rfl))
 f320:=Tryz.func250.trans (congrArg some (by kernel_rfl))
 f321:=Tryz.func257.trans (congrArg some (by kernel_rfl))
 f322:=Tryz.func258.trans (congrArg some (by kernel_rfl))
 f337:=Tryz.func255.trans (congrArg some (by kernel_rfl))
 f338:=Tryz.func256.trans (congrArg some (by kernel_rfl))
 t0:=Tryz.underlying0
 a0:=Tryz.isAgg0
 z0:=Tryz.sizeOf0
 v0:=Tryz.zeroValue0
 t2:=Tryz.underlying2
 a2:=Tryz.isAgg2
 z2:=Tryz.sizeOf2
 v2:=Tryz.zeroValue2
 t3:=Tryz.underlying3
 a3:=Tryz.isAgg3
 z3:=Tryz.sizeOf3
 v3:=Tryz.zeroValue3
 t4:=Tryz.underlying4
 a4:=Tryz.isAgg4
 z4:=Tryz.sizeOf4
 v4:=Tryz.zeroValue4
 t5:=Tryz.underlying5
 a5:=Tryz.isAgg5
 z5:=Tryz.sizeOf5
 v5:=Tryz.zeroValue5
 t9:=Tryz.underlying9
 a9:=Tryz.isAgg9
 z9:=Tryz.sizeOf9
 v9:=Tryz.zeroValue9
 t20:=Tryz.underlying20
 a20:=Tryz.isAgg20
 z20:=Tryz.sizeOf20
 v20:=Tryz.zeroValue20
 t21:=Tryz.underlying21
 a21:=Tryz.isAgg21
 z21:=Tryz.sizeOf21
 v21:=Tryz.zeroValue21
 t37:=Tryz.underlying77
 a37:=Tryz.isAgg77
 z37:=Tryz.sizeOf77
 v37:=Tryz.zeroValue77
 t46:=Tryz.underlying169
 a46:=Tryz.isAgg169
 z46:=Tryz.sizeOf169
 v46:=Tryz.zeroValue169
 t51:=Tryz.underlying247
 a51:=Tryz.isAgg247
 z51:=Tryz.sizeOf247
 v51:=Tryz.zeroValue247
 t53:=Tryz.underlying249
 a53:=Tryz.isAgg249
 z53:=Tryz.sizeOf249
 v53:=Tryz.zeroValue249
 t75:=Tryz.underlying277
 a75:=Tryz.isAgg277
 z75:=Tryz.sizeOf277
 v75:=Tryz.zeroValue277
 t76:=Tryz.underlying278
 a76:=Tryz.isAgg278
 z76:=Tryz.sizeOf278
 v76:=Tryz.zeroValue278
 t85:=Tryz.underlying327
 a85:=Tryz.isAgg327
 z85:=Tryz.sizeOf327
 v85:=Tryz.zeroValue327
 t127:=Tryz.underlying309
 a127:=Tryz.isAgg309
 z127:=Tryz.sizeOf309
 v127:=Tryz.zeroValue309
 t143:=Tryz.underlying348
 a143:=Tryz.isAgg348
 z143:=Tryz.sizeOf348
 v143:=Tryz.zeroValue348
 t145:=Tryz.underlying350
 a145:=Tryz.isAgg350
 z145:=Tryz.sizeOf350
 v145:=Tryz.zeroValue350
 t167:=Tryz.underlying326
 a167:=Tryz.isAgg326
 z167:=Tryz.sizeOf326
 v167:=Tryz.zeroValue326
 t168:=Tryz.underlying329
 a168:=Tryz.isAgg329
 z168:=Tryz.sizeOf329
 v168:=Tryz.zeroValue329
 t171:=Tryz.underlying322
 a171:=Tryz.isAgg322
 z171:=Tryz.sizeOf322
 v171:=Tryz.zeroValue322
 t173:=Tryz.underlying324
 a173:=Tryz.isAgg324
 z173:=Tryz.sizeOf324
 v173:=Tryz.zeroValue324
 t175:=Tryz.underlying335
 a175:=Tryz.isAgg335
 z175:=Tryz.sizeOf335
 v175:=Tryz.zeroValue335
 t210:=Tryz.underlying339
 a210:=Tryz.isAgg339
 z210:=Tryz.sizeOf339
 v210:=Tryz.zeroValue339
 t212:=Tryz.underlying333
 a212:=Tryz.isAgg333
 z212:=Tryz.sizeOf333
 v212:=Tryz.zeroValue333
 t213:=Tryz.underlying334
 a213:=Tryz.isAgg334
 z213:=Tryz.sizeOf334
 t232:=Tryz.underlying351
 a232:=Tryz.isAgg351
 z232:=Tryz.sizeOf351
 v232:=Tryz.zeroValue351
 t233:=Tryz.underlying352
 a233:=Tryz.isAgg352
 z233:=Tryz.sizeOf352
 v233:=Tryz.zeroValue352
 g15:=by kernel_rfl
 g16:=by kernel_rfl
 g17:=by kernel_rfl
 g18:=by kernel_rfl
 g19:=by kernel_rfl }
def Tryz.laysM171_ren:Go.Shelf.Ren:=⟨fun|171=>177|243=>210|246=>224|283=>233|284=>234|285=>235|286=>236|129=>247|317=>246|318=>248|319=>249|320=>250|337=>255|338=>256|n=>n,fun|3=>3|9=>9|2=>2|4=>4|171=>322|0=>0|53=>249|37=>77|5=>5|173=>324|212=>333|51=>247|20=>20|213=>334|46=>169|232=>351|233=>352|n=>n,fun|17=>1|18=>6|19=>7|n=>n⟩
theorem Tryz.laysM171:Go.Proofs.LaysM.n171 Tryz.prog Tryz.laysM171_ren:={
 mixed:=by kernel_rfl
 f129:=Tryz.func247.trans (congrArg some (by kernel_rfl))
 f171:=Tryz.func177.trans (congrArg some (by kernel_rfl))
 f243:=Tryz.func210.trans (congrArg some (by kernel_rfl))
 f246:=Tryz.func224.trans (congrArg some (by kernel_rfl))
 f283:=Tryz.func233.trans (congrArg some (by kernel_rfl))
 f284:=Tryz.func234.trans (congrArg some (by kernel_rfl))
 f285:=Tryz.func235.trans (congrArg some (by kernel_rfl))
 f286:=Tryz.func236.trans (congrArg some (by kernel_rfl))
 f317:=Tryz.func246.trans (congrArg some (by kernel_rfl))
 f318:=Tryz.func248.trans (congrArg some (by kernel_rfl))
 f319:=Tryz.func249.trans (congrArg some (by kernel_rfl))
 f320:=Tryz.func250.trans (congrArg some (by kernel_rfl))
 f337:=Tryz.func255.trans (congrArg some (by kernel_rfl))
 f338:=Tryz.func256.trans (congrArg some (by kernel_rfl))
 t0:=Tryz.underlying0
 a0:=Tryz.isAgg0
 z0:=Tryz.sizeOf0
 v0:=Tryz.zeroValue0
 t2:=Tryz.underlying2
 a2:=Tryz.isAgg2
 z2:=Tryz.sizeOf2
 v2:=Tryz.zeroValue2
 t3:=Tryz.underlying3
 a3:=Tryz.isAgg3
 z3:=Tryz.sizeOf3
 v3:=Tryz.zeroValue3
 t4:=Tryz.underlying4
 a4:=Tryz.isAgg4
 z4:=Tryz.sizeOf4
 v4:=Tryz.zeroValue4
 t5:=Tryz.underlying5
 a5:=Tryz.isAgg5
 z5:=Tryz.sizeOf5
 v5:=Tryz.zeroValue5
 t9:=Tryz.underlying9
 a9:=Tryz.isAgg9
 z9:=Tryz.sizeOf9
 v9:=Tryz.zeroValue9
 t20:=Tryz.underlying20
 a20:=Tryz.isAgg20
 z20:=Tryz.sizeOf20
 v20:=Tryz.zeroValue20
 t37:=Tryz.underlying77
 a37:=Tryz.isAgg77
 z37:=Tryz.sizeOf77
 v37:=Tryz.zeroValue77
 t46:=Tryz.underlying169
 a46:=Tryz.isAgg169
 z46:=Tryz.sizeOf169
 v46:=Tryz.zeroValue169
 t51:=Tryz.underlying247
 a51:=Tryz.isAgg247
 z51:=Tryz.sizeOf247
 v51:=Tryz.zeroValue247
 t53:=Tryz.underlying249
 a53:=Tryz.isAgg249
 z53:=Tryz.sizeOf249
 v53:=Tryz.zeroValue249
 t171:=Tryz.underlying322
 a171:=Tryz.isAgg322
 z171:=Tryz.sizeOf322
 v171:=Tryz.zeroValue322
 t173:=Tryz.underlying324
 a173:=Tryz.isAgg324
 z173:=Tryz.sizeOf324
 v173:=Tryz.zeroValue324
 t212:=Tryz.underlying333
 a212:=Tryz.isAgg333
 z212:=Tryz.sizeOf333
 v212:=Tryz.zeroValue333
 t213:=Tryz.underlying334
 a213:=Tryz.isAgg334
 z213:=Tryz.sizeOf334
 t232:=Tryz.underlying351
 a232:=Tryz.isAgg351
 z232:=Tryz.sizeOf351
 v232:=Tryz.zeroValue351
 t233:=Tryz.underlying352
 a233:=Tryz.isAgg352
 z233:=Tryz.sizeOf352
 v233:=Tryz.zeroValue352
 g17:=by kernel_rfl
 g18:=by kernel_rfl
 g19:=by kernel_rfl
 i0:=by kernel_rfl
 i2:=by kernel_rfl
 i3:=by kernel_rfl
 i4:=by kernel_rfl
 i5:=by kernel_rfl
 i9:=by kernel_rfl
 i20:=by kernel_rfl
 i37:=by kernel_rfl
 i46:=by kernel_rfl
 i51:=by kernel_rfl
 i53:=by kernel_rfl
 i171:=by kernel_rfl
 i173:=by kernel_rfl
 i212:=by kernel_rfl
 i232:=by kernel_rfl
 i233:=by kernel_rfl
 m17:=by kernel_rfl
 m18:=by kernel_rfl
 m19:=by kernel_rfl }
def Tryz.lays102_ren:Go.Shelf.Ren:=⟨fun|102=>121|209=>186|207=>216|n=>n,fun|9=>9|4=>4|3=>3|n=>n,fun|n=>n⟩
theorem Tryz.lays102:Go.Proofs.Lays.n102 Tryz.prog Tryz.lays102_ren:={
 mixed:=by kernel_rfl
 f102:=Tryz.func121.trans (congrArg some (by kernel_rfl))
 f207:=Tryz.func216.trans (congrArg some (by kernel_rfl))
 f209:=Tryz.func186.trans (congrArg some (by kernel_rfl))
 t3:=Tryz.underlying3
 a3:=Tryz.isAgg3
 z3:=Tryz.sizeOf3
 v3:=Tryz.zeroValue3
 t4:=Tryz.underlying4
 a4:=Tryz.isAgg4
 z4:=Tryz.sizeOf4
 v4:=Tryz.zeroValue4
 t9:=Tryz.underlying9
 a9:=Tryz.isAgg9
 z9:=Tryz.sizeOf9
 v9:=Tryz.zeroValue9 }
def Tryz.lays146_ren:Go.Shelf.Ren:=⟨fun|146=>120|221=>185|268=>213|138=>214|143=>215|195=>228|197=>229|218=>230|219=>231|260=>242|217=>211|225=>243|224=>244|267=>245|266=>225|314=>254|n=>n,fun|9=>9|31=>29|3=>3|4=>4|0=>0|105=>319|21=>21|5=>5|46=>169|119=>341|139=>344|138=>343|146=>345|51=>247|n=>n,fun|1=>0|3=>4|4=>5|n=>n⟩
theorem Tryz.lays146:Go.Proofs.Lays.n146 Tryz.prog Tryz.lays146_ren:={
 mixed:=by kernel_rfl
 f138:=Tryz.func214.trans (congrArg some (by kernel_rfl))
 f143:=Tryz.func215.trans (congrArg some (by kernel_rfl))
 f146:=Tryz.func120.trans (congrArg some (by kernel_rfl))
 f195:=Tryz.func228.trans (congrArg some (by kernel_rfl))
 f197:=Tryz.func229.trans (congrArg some (by kernel_rfl))
 f217:=Tryz.func211.trans (congrArg some (by kernel_rfl))
 f218:=Tryz.func230.trans (congrArg some (by kernel_rfl))
 f219:=Tryz.func231.trans (congrArg some (by kernel_rfl))
 f221:=Tryz.func185.trans (congrArg some (by kernel_rfl))
 f224:=Tryz.func244.trans (congrArg some (by kernel_rfl))
 f225:=Tryz.func243.trans (congrArg some (by kernel_rfl))
 f260:=Tryz.func242.trans (congrArg some (by kernel_rfl))
 f266:=Tryz.func225.trans (congrArg some (by kernel_rfl))
 f267:=Tryz.func245.trans (congrArg some (by kernel_rfl))
 f268:=Tryz.func213.trans (congrArg some (by kernel_rfl))
 f314:=Tryz.func254.trans (congrArg some (by kernel_rfl))
 t0:=Tryz.underlying0
 a0:=Tryz.isAgg0
 z0:=Tryz.sizeOf0
 v0:=Tryz.zeroValue0
 t3:=Tryz.underlying3
 a3:=Tryz.isAgg3
 z3:=Tryz.sizeOf3
 v3:=Tryz.zeroValue3
 t4:=Tryz.underlying4
 a4:=Tryz.isAgg4
 z4:=Tryz.sizeOf4
 v4:=Tryz.zeroValue4
 t5:=Tryz.underlying5
 a5:=Tryz.isAgg5
 z5:=Tryz.sizeOf5
 v5:=Tryz.zeroValue5
 t9:=Tryz.underlying9
 a9:=Tryz.isAgg9
 z9:=Tryz.sizeOf9
 v9:=Tryz.zeroValue9
 t21:=Tryz.underlying21
 a21:=Tryz.isAgg21
 z21:=Tryz.sizeOf21
 v21:=Tryz.zeroValue21
 t31:=Tryz.underlying29
 a31:=Tryz.isAgg29
 z31:=Tryz.sizeOf29
 v31:=Tryz.zeroValue29
 t46:=Tryz.underlying169
 a46:=Tryz.isAgg169
 z46:=Tryz.sizeOf169
 v46:=Tryz.zeroValue169
 t51:=Tryz.underlying247
 a51:=Tryz.isAgg247
 z51:=Tryz.sizeOf247
 v51:=Tryz.zeroValue247
 t105:=Tryz.underlying319
 a105:=Tryz.isAgg319
 z105:=Tryz.sizeOf319
 v105:=Tryz.zeroValue319
 t119:=Tryz.underlying341
 a119:=Tryz.isAgg341
 z119:=Tryz.sizeOf341
 t138:=Tryz.underlying343
 a138:=Tryz.isAgg343
 z138:=Tryz.sizeOf343
 v138:=Tryz.zeroValue343
 t139:=Tryz.underlying344
 a139:=Tryz.isAgg344
 z139:=Tryz.sizeOf344
 v139:=Tryz.zeroValue344
 t146:=Tryz.underlying345
 a146:=Tryz.isAgg345
 z146:=Tryz.sizeOf345
 v146:=Tryz.zeroValue345
 g1:=by kernel_rfl
 g3:=by kernel_rfl
 g4:=by kernel_rfl }
def Tryz.lays109_ren:Go.Shelf.Ren:=⟨fun|109=>183|n=>n,fun|31=>29|9=>9|3=>3|0=>0|4=>4|n=>n,fun|n=>n⟩
theorem Tryz.lays109:Go.Proofs.Lays.n109 Tryz.prog Tryz.lays109_ren:={
 mixed:=by kernel_rfl
 f109:=Tryz.func183.trans (congrArg some (by kernel_rfl))
 t0:=Tryz.underlying0
 a0:=Tryz.isAgg0
 z0:=Tryz.sizeOf0
 v0:=Tryz.zeroValue0
 t3:=Tryz.underlying3
 a3:=Tryz.isAgg3
 z3:=Tryz.sizeOf3
 v3:=Tryz.zeroValue3
 t4:=Tryz.underlying4
 a4:=Tryz.isAgg4
 z4:=Tryz.sizeOf4
 v4:=Tryz.zeroValue4
 t9:=Tryz.underlying9
 a9:=Tryz.isAgg9
 z9:=Tryz.sizeOf9
 v9:=Tryz.zeroValue9
 t31:=Tryz.underlying29
 a31:=Tryz.isAgg29
 z31:=Tryz.sizeOf29
 v31:=Tryz.zeroValue29 }
def Tryz.laysNm215_ren:Go.Shelf.Ren:=⟨fun|15=>110|n=>n,fun|22=>52|3=>3|4=>4|n=>n,fun|n=>n⟩
theorem Tryz.laysNm215:Go.Proofs.Lays2.n15 Tryz.prog Tryz.laysNm215_ren:={
 mixed:=by kernel_rfl
 f15:=Tryz.func110.trans (congrArg some (by kernel_rfl))
 t3:=Tryz.underlying3
 a3:=Tryz.isAgg3
 z3:=Tryz.sizeOf3
 v3:=Tryz.zeroValue3
 t4:=Tryz.underlying4
 a4:=Tryz.isAgg4
 z4:=Tryz.sizeOf4
 v4:=Tryz.zeroValue4
 t22:=Tryz.underlying52
 a22:=Tryz.isAgg52
 z22:=Tryz.sizeOf52
 v22:=Tryz.zeroValue52
 i3:=by kernel_rfl }
end Go.Proofs
namespace Go.Proofs.YtkcgfceihpampaaGreatDoor
open Go Go.RowKit Go.Sx Go.Proofs
set_option linter.all false

theorem grow_below {Z:Nat→Prop} {w w':World} (h:Below w.heap.size w w'):Grow Z w Z w' :=
 ⟨h.os,h.tape,h.output,h.size,h.block,fun _ h=>h,fun _ h => .inl h⟩
theorem arg1 {Z:Nat→Prop} {w:World} {x:D} {cs:Array Value} (hs:cs.size=[x].length) (hr:∀(j:Nat) y c,[x][j]? = some y→cs[j]? = some c→RD Z w y c):∃c,cs = #[c]∧RD Z w x c:=by
 have hl:cs.size=1:=hs;refine ⟨cs[0],?_,hr 0 _ _ rfl (Array.getElem?_eq_getElem (by omega))⟩;apply Array.ext
 ·simpa using hl
 ·intro i hi _;have:i=0:=by omega
  subst this;rfl
theorem arg2 {Z:Nat→Prop} {w:World} {x y:D} {cs:Array Value} (hs:cs.size=[x,y].length) (hr:∀(j:Nat) z c,[x,y][j]? = some z→cs[j]? = some c→RD Z w z c):∃c d,cs = #[c,d]∧RD Z w x c∧RD Z w y d:=by
 have hl:cs.size=2:=hs;refine ⟨cs[0],cs[1],?_,hr 0 _ _ rfl (Array.getElem?_eq_getElem (by omega)),hr 1 _ _ rfl (Array.getElem?_eq_getElem (by omega))⟩;apply Array.ext
 ·simpa using hl
 ·intro i hi _;have:i=0∨i=1:=by omega
  rcases this with rfl|rfl<;>rfl
theorem rd_v {Z:Nat→Prop} {w:World} {x c:Value} (h:RD Z w (.v x) c):c=x:=by cases h;rfl


theorem digF_eq:∀(f u:Nat),u<10^f→digF f u=if f=0 then [] else Lib.decDigits u
 | 0,u,_=>rfl
 | f+1,u,h=>by
  rw [if_neg (by omega),Lib.decDigits,digF];by_cases hu:u<10
  ·rw [if_pos hu,dif_pos hu]
  ·rw [if_neg hu,dif_neg hu]
   have h10:u / 10<10^f:=by
    have:10^(f+1)=10^f*10:=Nat.pow_succ ..;omega
   rw [digF_eq f (u / 10) h10];cases f with
   | zero=>simp at h10;omega
   | succ f=>rw [if_neg (by omega)]
theorem itoaF_eq {n:Int} (h0 : -9223372036854775808≤n) (h1:n≤9223372036854775807):itoaF n=Lib.itoa n:=by
 have e:(10:Nat)^20=100000000000000000000:=by decide
 unfold itoaF Lib.itoa;rw [digF_eq 20 n.natAbs (by rw [e];omega),digF_eq 20 n.toNat (by rw [e];omega)];rfl
theorem ct177 {n:Int} {res:ByteArray} (h:F177 n=some res):PCall Tryz.prog 177 [di n] (.d (.v (.string res))):=by
 unfold F177 at h;split at h
 ·rename_i hn;obtain rfl:=Option.some.inj h;refine ⟨⟨_,Tryz.func177,by kernel_rfl,by kernel_rfl⟩,?_⟩;intro Z w cs hz hy hs hr;obtain ⟨c,rfl,hc⟩:=arg1 hs hr;obtain rfl:=rd_v hc
  have htab:Lib.TabIs Tryz.prog w "internal/strconv.uint64pow10" .u64 Lib.pow10Tab:=by
   obtain ⟨t,f,ht⟩:=hy.h1;unfold Lib.TabIs World.var?;rw [show Tryz.prog.globalNamed "internal/strconv.uint64pow10" = some 1 by kernel_rfl];simp only [Option.bind_some,ht];rfl
  refine (Any.strconv_Itoa Tryz.laysM171 n hn.1 hn.2 w htab).mono ?_;rintro e w' ⟨rfl,k,os,rfl⟩;rw [itoaF_eq hn.1 hn.2];exact ⟨_,_,rfl,grow_below (Lib.below_grow _ w (Nat.le_refl _) k os),.d _ _ (.v _ rfl)⟩
 ·simp at h
theorem ct121 {s p:ByteArray} {res:ByteArray} (h:F121 s p=some res):PCall Tryz.prog 121 [.v (.string s),.v (.string p)] (.d (.v (.string res))):=by
 unfold F121 at h;split at h
 ·rename_i hn;obtain rfl:=Option.some.inj h;refine ⟨⟨_,Tryz.func121,by kernel_rfl,by kernel_rfl⟩,?_⟩;intro Z w cs hz hy hs hr;obtain ⟨c,d,rfl,hc,hd⟩:=arg2 hs hr;obtain rfl:=rd_v hc;obtain rfl:=rd_v hd;refine (Any.strings_TrimSuffix Tryz.lays102 s p w hn).mono ?_;rintro e w' ⟨rfl,rfl⟩;exact ⟨_,_,rfl,grow_below (Below.refl _ w'),.d _ _ (.v _ rfl)⟩
 ·simp at h
theorem ct181 {s:ByteArray} {c:Int} {res:Int} (h:F181 s c=some res):PCall Tryz.prog 181 [.v (.string s),.v (.int .u8 c)] (vi res):=by
 obtain rfl:=Option.some.inj h;refine ⟨⟨_,Tryz.func181,by kernel_rfl,by kernel_rfl⟩,?_⟩;intro Z w cs hz hy hs hr;obtain ⟨c,d,rfl,hc,hd⟩:=arg2 hs hr;obtain rfl:=rd_v hc;obtain rfl:=rd_v hd;refine (Any.strings_IndexByte Tryz.lays137 s _ w).mono ?_;rintro e w' ⟨rfl,rfl⟩;exact ⟨_,_,rfl,grow_below (Below.refl _ w'),.d _ _ (.v _ rfl)⟩
theorem ct212 {s:ByteArray} {res:Int} (h:F212 s=some res):PCall Tryz.prog 212 [.v (.string s)] (.tup [vi res,.d (.v .nilIface)]):=by
 unfold F212 at h;split at h
 ·rename_i hn;refine ⟨⟨_,Tryz.func212,by kernel_rfl,by kernel_rfl⟩,?_⟩;intro Z w cs hz hy hs hr;obtain ⟨c,rfl,hc⟩:=arg1 hs hr;obtain rfl:=rd_v hc;refine (Any.strconv_Atoi Tryz.lays172 s res hn h w).mono ?_;rintro e w' ⟨rfl,t,rfl⟩;refine ⟨_,_,rfl,grow_below ⟨rfl,rfl,rfl,by rw [Lib.bytesWorld_size];omega,fun k hk=>Lib.bytesWorld_at_old w 5 t k hk⟩,RV.pair (.d _ _ (.v _ rfl)) (.d _ _ (.v _ rfl))⟩
 ·simp at h

theorem str_list {Z:Nat→Prop} {w:World} {xs:List ByteArray} {c:Value} (h:RD Z w (.list false 1 xs.length (xs.flatMap fun x=>[.v (.string x)])) c) :
 (xs=[]∧∃a cap,c = .slice a 0 cap)∨∃b o cap,c = .slice (some ⟨b,o,none⟩) xs.length cap∧Z b∧xs.length≤cap∧∀(j:Nat) x,xs[j]? = some x→w.cell? ⟨b,o+j,none⟩=some (.string x):=by
 have hfm:∀ys:List ByteArray,(ys.flatMap fun x=>[D.v (.string x)])=ys.map fun x=>D.v (.string x):=fun ys=>by
  induction ys with
  | nil=>rfl
  | cons y ys ih=>simp [List.flatMap_cons,ih]
 rw [hfm] at h;generalize hn:xs.length=n at h;generalize hm:(xs.map fun x=>D.v (.string x))=ds at h;cases h with
 | list0 _ _ a cap _ =>
  left;exact ⟨List.length_eq_zero_iff.1 hn,a,cap,rfl⟩
 | list _ _ _ _ ad cap f hn0 hl hz hcap ht hc h1 hr =>
  right;subst hm;subst hn;have hl':(xs.map fun x=>D.v (.string x)).length=xs.length:=by simp
  have hspot:ad.spot=none:=by
   have h0:=hc 0 (by rw [hl'];exact hn0);unfold World.cell? at h0;split at h0
   ·split at h0
    ·simp at h0
    ·rename_i hs;simpa [Addr.add] using hs
   ·simp at h0
  obtain ⟨b,o,sp⟩:=ad;simp only at hspot;subst hspot;refine ⟨b,o,cap,rfl,hz,hcap,fun j x hj=>?_⟩;have hjl:j<xs.length:=(List.getElem?_eq_some_iff.1 hj).1;have h2:=hc j (by rw [hl'];exact hjl);have h3:=hr j (.v (.string x)) (by rw [List.getElem?_map,hj];rfl);rw [rd_v h3] at h2;rw [←h2,Addr.add_lit]
theorem ct176 {xs:List ByteArray} {sep res:ByteArray} (h:F176 xs sep=some res):PCall Tryz.prog 176 [.list false 1 xs.length (xs.flatMap fun x=>[.v (.string x)]),.v (.string sep)] (.d (.v (.string res))):=by
 unfold F176 at h;split at h
 ·rename_i hn;obtain rfl:=Option.some.inj h;refine ⟨⟨_,Tryz.func176,by kernel_rfl,by kernel_rfl⟩,?_⟩;intro Z w cs hz hy hs hr;obtain ⟨c,d,rfl,hc,hd⟩:=arg2 hs hr;obtain rfl:=rd_v hd;rcases str_list hc with ⟨rfl,a,cap,rfl⟩|⟨b,o,cap,rfl,hb,hcap,hcells⟩
  ·refine (Any.strings_Join_none Tryz.lays156 Tryz.Builder_Extra_156 a cap sep w).mono ?_;rintro e w' ⟨rfl,rfl⟩;exact ⟨_,_,rfl,grow_below (Below.refl _ w'),.d _ _ (.v _ rfl)⟩
  ·refine (Any.strings_Join Tryz.lays156 Tryz.Builder_Extra_156 b o cap xs sep w hcells (hz b hb) (by omega) hcap (by omega)).mono ?_;rintro e w' ⟨rfl,hbl⟩;exact ⟨_,_,rfl,grow_below hbl,.d _ _ (.v _ rfl)⟩
 ·simp at h
theorem ct183 {xs:List ByteArray} {x:ByteArray} {res:Int} (h:F183 xs x=some res):PCall Tryz.prog 183 [.list false 1 xs.length (xs.flatMap fun x=>[.v (.string x)]),.v (.string x)] (vi res):=by
 unfold F183 at h;split at h
 ·rename_i hn;obtain rfl:=Option.some.inj h;refine ⟨⟨_,Tryz.func183,by kernel_rfl,by kernel_rfl⟩,?_⟩;intro Z w cs hz hy hs hr;obtain ⟨c,d,rfl,hc,hd⟩:=arg2 hs hr;obtain rfl:=rd_v hd;rcases str_list hc with ⟨rfl,a,cap,rfl⟩|⟨b,o,cap,rfl,hb,hcap,hcells⟩
  ·refine (Any.slices_Index_string_empty Tryz.lays109 a cap x w).mono ?_;rintro e w' ⟨rfl,rfl⟩;exact ⟨_,_,rfl,grow_below (Below.refl _ w'),.d _ _ (.v _ rfl)⟩
  ·refine (Any.slices_Index_string Tryz.lays109 b o xs.length cap xs x w (Nat.le_refl _) (by omega) (fun j hj=>by
    have:=hcells j xs[j] (List.getElem?_eq_getElem hj);rw [this];congr 2
    rw [List.getD_eq_getElem?_getD,List.getElem?_eq_getElem hj];rfl)).mono ?_
   rintro e w' ⟨rfl,rfl⟩;rw [List.take_length];exact ⟨_,_,rfl,grow_below (Below.refl _ w'),.d _ _ (.v _ rfl)⟩
 ·simp at h
theorem ct120 {s sep:ByteArray} {res:List ByteArray} (h:F120 s sep=some res):PCall Tryz.prog 120 [.v (.string s),.v (.string sep)] (.d (.list false 1 res.length (res.flatMap fun x=>[.v (.string x)]))):=by
 unfold F120 at h;split at h
 ·rename_i hn;obtain ⟨hn1,hn2,hn3⟩:=hn;obtain rfl:=Option.some.inj h;refine ⟨⟨_,Tryz.func120,by kernel_rfl,by kernel_rfl⟩,?_⟩;intro Z w cs hz hy hs hr;obtain ⟨c,d,rfl,hc,hd⟩:=arg2 hs hr;obtain rfl:=rd_v hc;obtain rfl:=rd_v hd;obtain ⟨m,t,f,hm⟩:=hy.h0;refine (Any.strings_Split Tryz.lays146 (by kernel_rfl) s sep m w hn1 (by show w.cell? ⟨0,0,none⟩=_;unfold World.cell?;rw [hm];rfl) hn2).mono ?_;rintro e w' ⟨rfl,rfl⟩
  have hfm:∀ys:List ByteArray,(ys.flatMap fun x=>[D.v (.string x)])=ys.map fun x=>D.v (.string x):=fun ys=>by
   induction ys with
   | nil=>rfl
   | cons y ys ih=>simp [List.flatMap_cons,ih]
  refine ⟨_,_,rfl,Grow.alloc Z w _,.d _ _ ?_⟩;rw [hfm,←hn3];generalize hys:Lib.splitB sep 0 (Lib.countB s sep) s=ys at *;have hpos:0<ys.length:=by omega
  refine .list false 1 _ _ ⟨w.heap.size,0,none⟩ _ (fun j => .string (ys.getD j ByteArray.empty)) hpos (by simp) (.inr rfl) (Nat.le_refl _) (by simp) (fun j hj=>?_) (fun j _=>rfl) (fun j x hx=>?_)
  ·simp only [List.length_map] at hj;unfold World.cell?;rw [Addr.add_lit];simp only [World.alloc,Array.getElem?_push,if_pos rfl];simp [hj,List.getD_eq_getElem?_getD]
  ·rw [List.getElem?_map,Option.map_eq_some_iff] at hx;obtain ⟨y,hy2,rfl⟩:=hx;rw [List.getD_eq_getElem?_getD,hy2];exact .v _ rfl
 ·simp at h
end Go.Proofs.YtkcgfceihpampaaGreatDoor
namespace Go.Proofs.YtkcgfceihpampaaGreatDoor
open Go Go.RowKit Go.Proofs
set_option linter.all false


theorem wpList_app {P:Program} {w:World} {ops:Array Oper} {rest:List Oper} {o:Oper} {a:Act} {Q:Exit→Act→World→Prop} (hgd:o.guard=none) (sl x:Operand) (t u:TypeId)
 (ho:o.op = .call { callee := .builtin .append,args := #[sl,x],argTypes := #[t,u] }) {v xv v':Value} {w':World} (hs:a.eval sl=v) (hx:a.eval x=xv)
 (hr:(Builtin.append_ #[t,u] o.type #[v,xv]).run P w = .ok v' w') (hn:wpList P ops Q rest (a.put o.dst v') w'):wpList P ops Q (o::rest) a w:=by
 refine wpList_plain hgd fun K hK=>?_;unfold Oper.wp execOp;simp only [ho,resolve,invoke,builtin,Sem.run_bind,Sem.run_pure,Result.andThen_ok,List.map_toArray,List.map_cons,List.map_nil,hs,hx,hr];exact hK _ _ hn

set_option maxHeartbeats 2000000 in
set_option maxRecDepth 100000 in
theorem ws_walk {w w1 w2:World} {b n cap:Nat} {s:ByteArray} {v:Value} {ao:Option Addr} (hcc:Calls Tryz.prog 208 #[.pointer (some ⟨b,0,none⟩)] w fun e u=>e = .returned (.tuple #[])∧u=w1)
 (c1:w1.cell? ⟨b,1,none⟩=some v) (hap:∀ty,(Builtin.append_ #[77,9] ty #[v,.string s]).run Tryz.prog w1 = .ok (.slice ao n cap) w2) (d1:w2.cell? ⟨b,1,none⟩=some v) (f1:w2.frozen? ⟨b,1,none⟩=false) :
 Calls Tryz.prog 175 #[.pointer (some ⟨b,0,none⟩),.string s] w fun e w'=>e = .returned (.tuple #[.int .i64 s.size,.nilIface])∧w'=w2.setCell ⟨b,1,none⟩ (.slice ao n cap):=by
 go_enter Tryz.func175,Tryz.ntmps175
 go_wp2_with (go_at_call 208;refine hcc.mono ?_)
 rintro e w1 ⟨rfl,rfl⟩
 go_wp2_with (at_builtin;refine wpList_app rfl _ _ 77 9 rfl rfl rfl (hap _) ?_)
 go_wp2
 go_ret2
 exact ⟨rfl,rfl⟩

set_option maxHeartbeats 2000000 in
set_option maxRecDepth 100000 in
theorem str_walk {w:World} {b g cap:Nat} {p:Value} {cur:Array Value} {l:List UInt8} (h0:l≠[]) (hbk:w.heap[b]? = some (.cells #[p,.slice (some ⟨g,0,none⟩) l.length cap] 275 (0,0))) (hg:w.heap[g]? = some (.cells cur 5 (0,0)))
 (hcap:l.length≤cap) (hcm:cap≤9223372036854775807) (hcs:cur.size=cap) (ht:cur.toList.take l.length=l.map fun b=>Value.int .u8 b.toNat) :
 Calls Tryz.prog 179 #[.pointer (some ⟨b,0,none⟩)] w fun e w'=>e = .returned (.string ⟨l.toArray⟩)∧w'=w.drew.freeze ⟨g,0,none⟩ l.length:=by
 have hl0:l.length≠0:=by simpa using h0
 have c1:w.drew.cell? ⟨b,1,none⟩=some (.slice (some ⟨g,0,none⟩) l.length cap):=by
  have:w.drew.heap[b]? = some (.cells #[p,.slice (some ⟨g,0,none⟩) l.length cap] 275 (0,0)):=hbk;rw [Lib.cell_of_heap this];rfl
 have hSD:(Builtin.unsafeSliceData_ #[77] 309 #[.slice (some ⟨g,0,none⟩) l.length cap]).run Tryz.prog w.drew = .ok (.pointer (some ⟨g,0,none⟩)) w.drew :=
  Lib.run_unsafeSliceData_row _ _ _ _ _ _ (by omega)
 have hUS:(Builtin.unsafeString_ #[309,3] 9 #[.pointer (some ⟨g,0,none⟩),.int .i64 l.length]).run Tryz.prog w.drew = .ok (.string ⟨l.toArray⟩) (w.drew.freeze ⟨g,0,none⟩ l.length):=by
  refine Lib.run_unsafeString_row w.drew 309 3 9 5 (by kernel_rfl) (by kernel_rfl) g cur.size (by have hg':w.drew.heap[g]? = some (.cells cur 5 (0,0)):=hg;simp [World.shape?,hg']) l h0 (by omega) (by omega) ?_;intro j x hx;have hg':w.drew.heap[g]? = some (.cells cur 5 (0,0)):=hg;have hj:(cur.toList.take l.length)[j]? = some (.int .u8 x.toNat):=by rw [ht,List.getElem?_map,hx];rfl
  rw [List.getElem?_take] at hj;split at hj
  ·rw [Addr.add_lit];rw [Lib.cell_of_heap hg'];simpa using hj
  ·simp at hj
 have mixed:Tryz.prog.follows .mixedOrders=true:=by kernel_rfl
 go_enter Tryz.func179,Tryz.ntmps179
 go_wp2
 go_region_o
 all_goals (go_wp2;go_ret;exact ⟨rfl,rfl⟩)
end Go.Proofs.YtkcgfceihpampaaGreatDoor
namespace Go.Proofs.YtkcgfceihpampaaGreatDoor
open Go Go.RowKit Go.Sx Go.Proofs
set_option linter.all false

section
variable {Γ:Ctx} {H:List O} {bs:Bs} {Z:Nat→Prop} {w w':World}

theorem gone (hW:InvW Γ H bs Z w) {k b q:Nat} (hb:bs[k]? = some (some (b,q))) (hd:∀o,H[k]? = some o→o.isData=true) (ho:∀b',b'≠b→w'.heap[b']? = w.heap[b']?) (hs:w'.heap.size=w.heap.size) (h1:w'.os=w.os) (h2:w'.tape=w.tape) (h3:w'.output=w.output) :
 InvW Γ ((onlyH (· != k) H).set k (.data [])) (bs.set k none) Z w':=by
 have hkeep:∀(i:Nat) (o:Option (Nat×Nat)),(i != k)=true→bs[i]? = some o→(bs.set k none)[i]? = some o:=fun i o hi hb=>bs_set_keep i o hi hb
 have hset:∀(i:Nat) (p:Nat×Nat),(bs.set k none)[i]? = some (some p)→i≠k∧bs[i]? = some (some p):=by
  intro i p h;rw [List.getElem?_set] at h;split at h
  ·rename_i e;subst e;split at h<;>simp at h
  ·rename_i e;exact ⟨fun e'=>e e'.symm,h⟩
 have hz:∀b',Z b'→w'.heap[b']? = w.heap[b']? := fun b' hb'=>ho b' (fun e=>hW.disj k b q hb (e▸hb'));have hne:∀(i b' n:Nat),i≠k→bs[i]? = some (some (b',n))→b'≠b:=fun i b' n hi h e=>hi (hW.nodup i k b n q (e▸h) hb);constructor
 ·simp [onlyH,hW.lenH]
 ·intro i o p ho' hb';rw [List.getElem?_set] at ho' hb';split at ho'
  ·rename_i e;subst e;rw [if_pos rfl] at hb';split at ho'<;>simp at ho';subst ho';split at hb'<;>simp at hb';subst hb';rfl
  ·rename_i e;rw [if_neg e] at hb';simp only [onlyH,List.getElem?_map,Option.map_eq_some_iff] at ho';obtain ⟨o',ho',rfl⟩:=ho';exact ((hW.objs i o' p ho' hb').only _ hkeep).mono (fun _ _ h=>h) (fun _ h=>h) hz (fun b' n e'=>ho b' (hne i b' n (fun x=>e x.symm) (e'▸hb')))
 ·intro i j b k k' hi hj;exact hW.nodup i j b k k' (hset _ _ hi).2 (hset _ _ hj).2
 ·intro i b k hi;exact hW.disj i b k (hset _ _ hi).2
 ·intro i b k hi;rw [hs];exact hW.lt i b k (hset _ _ hi).2
 ·intro b h;rw [hs];exact hW.zlt b h
 ·exact hW.z0
 ·intro i b k hi;exact hW.fresh i b k (hset _ _ hi).2
 ·exact hW.zfresh
 ·rw [hs];exact hW.size
 ·intro b' hb' hB
  have hbb:b'≠b:=fun e=>by
   rcases hW.fresh k b q hb with h|h
   ·omega
   ·exact hB (e▸h)
  rw [ho b' hbb];exact hW.frame b' hb' hB
 ·rw [h1];exact hW.os
 ·rw [h2];exact hW.tape
 ·rw [h3];exact hW.output
 ·intro i p hp;obtain ⟨g1,o,g2,g3⟩:=hW.pin i p hp;have hik:k≠i:=fun e=>by subst e;rw [hd o g2] at g3;simp at g3
  exact ⟨by rw [List.getElem?_set,if_neg hik];exact g1,o.only (· != k),by rw [List.getElem?_set,if_neg hik];simp only [onlyH,List.getElem?_map,g2,Option.map_some],by rw [only_isData];exact g3⟩
end

theorem bytesL_len (s:ByteArray):(bytesL s).length=s.size:=by simp [bytesL]
theorem set_heap_other {w:World} {a:Addr} {u:Value} {k:Nat} (h:k≠a.block):(w.setCell a u).heap[k]? = w.heap[k]? := Below.heap_setCell w a u k h
theorem args_ref {bs:Bs} {Z:Nat→Prop} {w:World} {x y:V} {cs:Array Value} (hs:cs.size=[x,y].length) (hr:∀(j:Nat) z c,[x,y][j]? = some z→cs[j]? = some c→RV bs Z w z c):∃c d,cs = #[c,d]∧RV bs Z w x c∧RV bs Z w y d:=by
 have hl:cs.size=2:=hs;refine ⟨cs[0],cs[1],?_,hr 0 _ _ rfl (Array.getElem?_eq_getElem (by omega)),hr 1 _ _ rfl (Array.getElem?_eq_getElem (by omega))⟩;apply Array.ext
 ·simpa using hl
 ·intro i hi _;have:i=0∨i=1:=by omega
  rcases this with rfl|rfl<;>rfl
theorem args_one {bs:Bs} {Z:Nat→Prop} {w:World} {x:V} {cs:Array Value} (hs:cs.size=[x].length) (hr:∀(j:Nat) z c,[x][j]? = some z→cs[j]? = some c→RV bs Z w z c):∃c,cs = #[c]∧RV bs Z w x c:=by
 have hl:cs.size=1:=hs;refine ⟨cs[0],?_,hr 0 _ _ rfl (Array.getElem?_eq_getElem (by omega))⟩;apply Array.ext
 ·simpa using hl
 ·intro i hi _;have:i=0:=by omega
  subst this;rfl

theorem freeze_other (w:World) (g n b:Nat) (h:b≠g):(w.freeze ⟨g,0,none⟩ n).heap[b]? = w.heap[b]? := by
 unfold World.freeze;split
 ·rfl
 ·simp only [Array.getElem?_modify];rw [if_neg (fun e=>h e.symm)]
theorem freeze_rest (w:World) (a:Addr) (n:Nat):(w.freeze a n).heap.size=w.heap.size∧(w.freeze a n).os=w.os∧(w.freeze a n).tape=w.tape∧(w.freeze a n).output=w.output:=by
 unfold World.freeze;split<;>simp


theorem ct179 {l:List UInt8} {res:ByteArray} (h:F179 l=some res):HCall Tryz.prog 179 [.ref 0 0] [.bld (some (some (l,1))),.bldr l] (.d (.v (.string res))) [.bld none,.data []]:=by
 unfold F179 at h;split at h
 ·simp at h
 rename_i h0;obtain rfl:=Option.some.inj h;refine ⟨⟨_,Tryz.func179,by kernel_rfl,by kernel_rfl⟩,?_⟩;intro Γ bs Z w cs hW hn0 hl hargs;obtain ⟨c,rfl,hc⟩:=args_one hl hargs;cases hc with|ref _ _ b k hb =>
 obtain ⟨g,cap,hg,hbk,hlc,hcm⟩:=hW.objs 0 _ _ rfl hb;obtain ⟨cur,hgk,hcs,ht⟩:=hW.objs 1 _ _ rfl hg;refine (str_walk h0 hbk hgk hlc hcm hcs ht).mono ?_;rintro e w' ⟨rfl,rfl⟩;obtain ⟨q1,q2,q3,q4⟩:=freeze_rest w.drew ⟨g,0,none⟩ l.length;have:=gone hW hg (w':=w.drew.freeze ⟨g,0,none⟩ l.length) (fun o ho=>by simp at ho;subst ho;rfl) (fun b' hb'=>freeze_other w.drew g _ b' hb') q1 q2 q3 q4;exact ⟨_,bs.set 1 none,Z,rfl,this,.d _ _ (.v _ rfl)⟩

theorem t77:Tryz.prog.underlying 77=some (.slice 5):=by kernel_rfl
theorem t9s:Tryz.prog.underlying 9=some .string:=by kernel_rfl
theorem i5:∃i,Tryz.prog.info? 5=some i∧i.size=1∧i.bytes=1∧i.zero=some (.int .u8 0):=by
 have h:(Tryz.prog.info? 5).map (fun i=>(i.size,i.bytes,i.zero))=some (1,1,some (.int .u8 0)):=by kernel_rfl
 rw [Option.map_eq_some_iff] at h;obtain ⟨i,h1,h2⟩:=h;simp only [Prod.mk.injEq] at h2;exact ⟨i,h1,h2.1,h2.2.1,h2.2.2⟩
theorem byteCells_map (s:ByteArray):byteCells s=(bytesL s).map fun b=>Value.int .u8 b.toNat:=rfl

theorem map_len8 (l:List UInt8):(l.map fun b=>Value.int .u8 b.toNat).length=l.length:=by simp
theorem bldr_ok {bs:Bs} {Z:Nat→Prop} {w:World} {g cap n:Nat} {l:List UInt8} {xs zs:List Value} (hg:w.heap[g]? = some (.cells (xs++zs).toArray 5 (0,0))) (hx:xs=l.map fun b=>Value.int .u8 b.toNat) (hn:(xs++zs).length=cap):okO bs Z w (.bldr l) (some (g,cap)):=by
 subst hx;refine ⟨_,hg,by simpa using hn,?_⟩;show ((l.map fun b=>Value.int .u8 b.toNat)++zs).take l.length=_;rw [List.take_left'];simp
theorem Builtin_zeros (n:Nat):(Builtin.zeroCells (Value.int .u8 0).cells n).toList.length=n:=by simp [Builtin.zeroCells,Value.cells]


theorem ct175 {s:ByteArray} {res:List UInt8} (h:F175 s=some res):HCall Tryz.prog 175 [.ref 0 0,.d (.v (.string s))] [.bld (some none)] .top [.bld (some (some (res,1))),.bldr res]:=by
 unfold F175 at h;split at h
 ·rename_i h0;obtain ⟨h1,h2⟩:=h0;obtain rfl:=Option.some.inj h;refine ⟨⟨_,Tryz.func175,by kernel_rfl,by kernel_rfl⟩,?_⟩;intro Γ bs Z w cs hW hn0 hl hargs;obtain ⟨c,d,rfl,hc,hd⟩:=args_ref hl hargs;have ed:d = .string s:=hd.lit;subst ed;cases hc with|ref _ _ b k hb =>
  have hbk:w.heap[b]? = some (.cells #[.pointer none,.slice none 0 0] 275 (0,0)):=hW.objs 0 _ _ rfl hb;obtain ⟨i,hi,hi1,hi2,hi3⟩:=i5;have hcc:=Any.Builder_copyCheck_fresh { Tryz.lays156 with } Tryz.Builder_Extra_156.toX72 b w (by rw [Lib.cell_of_heap hbk];rfl) (by simp [World.shape?,hbk];rfl) (by simp [World.frozen?,hbk]);generalize hw1:w.setCell ⟨b,0,none⟩ (.pointer (some ⟨b,0,none⟩))=w1 at hcc
  have hbk1:w1.heap[b]? = some (.cells #[.pointer (some ⟨b,0,none⟩),.slice none 0 0] 275 (0,0)):=by
   rw [←hw1];exact heap_setCell_same w b 0 _ _ _ hbk
  have hblt:b<w1.heap.size:=(Array.getElem?_eq_some_iff.1 hbk1).1
  have hW1:InvW Γ [.bld none] bs Z w1:=by
   have:=hW.write (id:=0) (n := .bld none) (w':=w1) hb (fun b' hb'=>by rw [←hw1];exact set_heap_other (a:=⟨b,0,none⟩) hb') (by rw [←hw1];simp [World.setCell]) (by rw [←hw1];rfl) (by rw [←hw1];rfl) (by rw [←hw1];rfl) trivial (fun _ _ _=>rfl);exact this
  have hrun:=fun ty=>run_append_grow_src (P:=Tryz.prog) w1 77 9 ty 5 i (.int .u8 0) t77 hi hi3 none 0 0 [] (run_firstCells_none w1.drew _ 0 0 0) (.string s) s.size (byteCells s) (by rw [hi1];exact Src.ofString w1 t9s s) (by omega) (by omega) (growslice_fits (by omega) (by rw [hi2];omega));have hcg:=grownCap_ge w1 (0+s.size) 0 5;have hcm:=grownCap_le_maxLen w1 (0+s.size) 0 5 (by simp only [maxLen];omega);simp only [maxLen] at hcm;simp only [List.nil_append] at hrun;rw [Nat.zero_add] at hrun hcg hcm;generalize grownCap w1 s.size 0 5=cap at hrun hcg hcm;rw [arrL] at hrun;generalize hzs:(Builtin.zeroCells (Value.int .u8 0).cells (cap-s.size)).toList=zs at hrun;have hzl:zs.length=cap-s.size:=by rw [←hzs];exact Builtin_zeros _
  have hbl:(byteCells s).length=s.size:=byteCells_length s;generalize hob:Obj.cells (byteCells s++zs).toArray 5=ob at hrun;generalize hw2:w1.drew.alloc ob=w2 at hrun;have hsz2:w2.heap.size=w1.heap.size+1:=by rw [←hw2];simp
  have hg2:w2.heap[w1.heap.size]? = some (.cells (byteCells s++zs).toArray 5 (0,0)):=by rw [←hw2,←hob];exact heap_alloc w1.drew _
  have hb2:w2.heap[b]? = some (.cells #[.pointer (some ⟨b,0,none⟩),.slice none 0 0] 275 (0,0)):=by
   rw [←hw2,(Grow.alloc Z w1.drew ob).heap b hblt];exact hbk1
  have hW2:InvW Γ ([.bld none]++[.bldr (bytesL s)]) (bs++[some (w1.heap.size,cap)]) Z w2:=by
   have:=(hW1.congrW (w':=w1.drew) rfl rfl rfl rfl).push ob (.bldr (bytesL s)) cap (bldr_ok (l:=bytesL s) (xs:=byteCells s) (zs:=zs) (n:=0) (by rw [←hob];exact heap_alloc w1.drew _) (byteCells_map s) (by rw [List.length_append,hbl,hzl];omega));rw [hw2] at this;exact this
  have hbs:bs[0]? = some (some (b,k)):=hb;have hlen:bs.length=1:=hW.lenH;have hbs2:(bs++[some (w1.heap.size,cap)])[0]? = some (some (b,k)):=by rw [List.getElem?_append_left (by omega)];exact hbs
  have hbs3:(bs++[some (w1.heap.size,cap)])[1]? = some (some (w1.heap.size,cap)):=by rw [List.getElem?_append_right (by omega),hlen];rfl
  refine (ws_walk hcc (v := .slice none 0 0) (w2:=w2) (n:=s.size) (cap:=cap) (ao:=some ⟨w1.heap.size,0,none⟩) (by rw [Lib.cell_of_heap hbk1];rfl) hrun (by rw [Lib.cell_of_heap hb2];rfl) (by simp [World.frozen?,hb2])).mono ?_;rintro e w' ⟨rfl,rfl⟩;have hb3:=heap_setCell_same w2 b 1 _ _ (.slice (some ⟨w1.heap.size,0,none⟩) s.size cap) hb2
  have hW3:=hW2.write (id:=0) (n := .bld (some (some (bytesL s,1)))) (w':=w2.setCell ⟨b,1,none⟩ (.slice (some ⟨w1.heap.size,0,none⟩) s.size cap)) hbs2 (fun b' hb'=>set_heap_other (a:=⟨b,1,none⟩) hb') (by simp [World.setCell]) rfl rfl rfl
   ⟨w1.heap.size,cap,hbs3,by rw [bytesL_len];exact hb3,by rw [bytesL_len];exact hcg,hcm⟩ (fun _ _ _=>rfl)
  exact ⟨_,_,Z,rfl,hW3,.top _⟩
 ·simp at h


theorem ct175v1 {s:ByteArray} {l:List UInt8} {res:List UInt8} (h:F175v1 s l=some res):HCall Tryz.prog 175 [.ref 0 0,.d (.v (.string s))] [.bld (some (some (l,1))),.bldr l] .top [.bld (some (some (res,1))),.bldr res]:=by
 unfold F175v1 at h;split at h
 ·rename_i h1;obtain rfl:=Option.some.inj h;refine ⟨⟨_,Tryz.func175,by kernel_rfl,by kernel_rfl⟩,?_⟩;intro Γ bs Z w cs hW hn0 hl hargs;obtain ⟨c,d,rfl,hc,hd⟩:=args_ref hl hargs;have ed:d = .string s:=hd.lit;subst ed;cases hc with|ref _ _ b k hb =>
  obtain ⟨g,cap,hg,hbk,hlc,hcm⟩:=hW.objs 0 _ _ rfl hb;obtain ⟨cur,hgk,hcs,ht⟩:=hW.objs 1 _ _ rfl hg;obtain ⟨i,hi,hi1,hi2,hi3⟩:=i5;have hcc:=Any.Builder_copyCheck_used { Tryz.lays156 with } Tryz.Builder_Extra_156.toX72 b w (by rw [Lib.cell_of_heap hbk];rfl);have hblt:b<w.heap.size:=(Array.getElem?_eq_some_iff.1 hbk).1
  have hne:b≠g:=fun e=>by
   have:=hW.nodup 0 1 b k cap hb (e▸hg);omega
  have hbl:(byteCells s).length=s.size:=byteCells_length s;have hll:(l++bytesL s).length=l.length+s.size:=by rw [List.length_append,bytesL_len]
  have hmap:(cur.toList.take l.length++byteCells s)=(l++bytesL s).map fun b=>Value.int .u8 b.toNat:=by rw [ht,byteCells_map,List.map_append]
  by_cases hroom:l.length+s.size≤cap
  ·have hrun:=fun ty=>run_append_room_str (P:=Tryz.prog) w 77 9 ty 5 i t77 t9s hi g l.length cap cur 5 hgk s s.size rfl (byteCells s) rfl hi1 hroom (by rw [hi1,hbl,hcs,Nat.mul_one];exact hroom);simp only [hi1,Nat.mul_one] at hrun;generalize hzs:cur.toList.drop (l.length+(byteCells s).length)=zs at hrun;generalize hw2:w.setRow g (cur.toList.take l.length++byteCells s++zs).toArray=w2 at hrun;have hg2:w2.heap[g]? = some (.cells (cur.toList.take l.length++byteCells s++zs).toArray 5 (0,0)):=by rw [←hw2];exact setRow_heap w g cur _ 5 _ hgk
   have ho2:∀b',b'≠g→w2.heap[b']? = w.heap[b']? := fun b' hb'=>by rw [←hw2];exact setRow_other w g b' _ hb'
   have hb2:=(ho2 b hne).trans hbk
   have hW2:=hW.write (id:=1) (n := .bldr (l++bytesL s)) (w':=w2) hg ho2 (by rw [←hw2];simp) (by rw [←hw2];rfl) (by rw [←hw2];rfl) (by rw [←hw2];rfl)
    (bldr_ok (n:=0) hg2 hmap (by rw [←hzs];simp only [List.length_append,List.length_take,List.length_drop,Array.length_toList,hbl,hcs];omega)) (fun o ho hd=>by simp at ho;subst ho;simp [O.isData] at hd)
   refine (ws_walk hcc (v := .slice (some ⟨g,0,none⟩) l.length cap) (w2:=w2) (n:=l.length+s.size) (cap:=cap) (ao:=some ⟨g,0,none⟩) (by rw [Lib.cell_of_heap hbk];rfl) hrun (by rw [Lib.cell_of_heap hb2];rfl) (by simp [World.frozen?,hb2])).mono ?_;rintro e w' ⟨rfl,rfl⟩;have hb3:=heap_setCell_same w2 b 1 _ _ (.slice (some ⟨g,0,none⟩) (l.length+s.size) cap) hb2
   have hW3:=hW2.write (id:=0) (n := .bld (some (some (l++bytesL s,1)))) (w':=w2.setCell ⟨b,1,none⟩ (.slice (some ⟨g,0,none⟩) (l.length+s.size) cap)) hb (fun b' hb'=>set_heap_other (a:=⟨b,1,none⟩) hb') (by simp [World.setCell]) rfl rfl rfl
    ⟨g,cap,hg,by rw [hll];exact hb3,by rw [hll];exact hroom,hcm⟩ (fun _ _ _=>rfl)
   exact ⟨_,_,Z,rfl,hW3,.top _⟩
  ·have hrun:=fun ty=>run_append_grow_src (P:=Tryz.prog) w 77 9 ty 5 i (.int .u8 0) t77 hi hi3 (some ⟨g,0,none⟩) l.length cap (cur.toList.take l.length) (run_firstCells_some w.drew _ l.length _ l.length cap _ (by rw [ht,hi1];simp) (by
    intro j u hj;have hgd:w.drew.heap[g]? = some (.cells cur 5 (0,0)):=hgk;rw [Addr.add_lit,Lib.cell_of_heap hgd];rw [List.getElem?_take] at hj;split at hj
    ·simpa using hj
    ·simp at hj)) (.string s) s.size (byteCells s) (by rw [hi1];exact Src.ofString w t9s s) (by omega) (by omega) (growslice_fits (by omega) (by rw [hi2];omega))
   have hcg:=grownCap_ge w (l.length+s.size) cap 5;have hcm2:=grownCap_le_maxLen w (l.length+s.size) cap 5 (by simp only [maxLen];omega);simp only [maxLen] at hcm2;generalize grownCap w (l.length+s.size) cap 5=cap2 at hrun hcg hcm2;rw [arrL] at hrun;generalize hzs:(Builtin.zeroCells (Value.int .u8 0).cells (cap2-(l.length+s.size))).toList=zs at hrun;have hzl:zs.length=cap2-(l.length+s.size):=by rw [←hzs];exact Builtin_zeros _
   generalize hob:Obj.cells (cur.toList.take l.length++byteCells s++zs).toArray 5=ob at hrun;generalize hw2:w.drew.alloc ob=w2 at hrun
   have hb2:w2.heap[b]? = some (.cells #[.pointer (some ⟨b,0,none⟩),.slice (some ⟨g,0,none⟩) l.length cap] 275 (0,0)):=by
    rw [←hw2,(Grow.alloc Z w.drew ob).heap b hblt];exact hbk
   have hlen:bs.length=2:=hW.lenH;have hW2:=hW.move (id:=1) (by omega) ob (.bldr (l++bytesL s)) cap2 (bldr_ok (n:=0) (by rw [←hob];exact heap_alloc w.drew _) hmap (by rw [List.length_append,hmap,hzl,List.length_map,hll];omega)) (fun o ho=>by simp at ho;subst ho;rfl);rw [hw2] at hW2;refine (ws_walk hcc (v := .slice (some ⟨g,0,none⟩) l.length cap) (w2:=w2) (n:=l.length+s.size) (cap:=cap2) (ao:=some ⟨w.heap.size,0,none⟩) (by rw [Lib.cell_of_heap hbk];rfl) hrun (by rw [Lib.cell_of_heap hb2];rfl) (by simp [World.frozen?,hb2])).mono ?_;rintro e w' ⟨rfl,rfl⟩;have hb3:=heap_setCell_same w2 b 1 _ _ (.slice (some ⟨w.heap.size,0,none⟩) (l.length+s.size) cap2) hb2;have hbs0:(bs.set 1 (some (w.heap.size,cap2)))[0]? = some (some (b,k)):=by rw [List.getElem?_set,if_neg (by omega)];exact hb
   have hbs1:(bs.set 1 (some (w.heap.size,cap2)))[1]? = some (some (w.heap.size,cap2)):=by rw [List.getElem?_set,if_pos rfl,if_pos (by omega)]
   have hW3:=hW2.write (id:=0) (n := .bld (some (some (l++bytesL s,1)))) (w':=w2.setCell ⟨b,1,none⟩ (.slice (some ⟨w.heap.size,0,none⟩) (l.length+s.size) cap2)) hbs0 (fun b' hb'=>set_heap_other (a:=⟨b,1,none⟩) hb') (by simp [World.setCell]) rfl rfl rfl
    ⟨w.heap.size,cap2,hbs1,by rw [hll];exact hb3,by rw [hll];exact hcg,hcm2⟩ (fun _ _ _=>rfl)
   exact ⟨_,_,Z,rfl,hW3,.top _⟩
 ·simp at h
theorem di_cells (X:List Int):(X.flatMap fun x=>[di x])=X.map di:=by
 induction X with
 | nil=>rfl
 | cons a X ih=>simp [List.flatMap_cons,ih]

theorem ct110 {X:List Int} {res:List Int} (h:F110 X=some res):HCall Tryz.prog 110 [.sl 1 0 0 X.length] [.fixed (X.flatMap fun x=>[di x])] (.d (.list false 1 res.length (res.flatMap fun x=>[di x]))) [.fixed (X.flatMap fun x=>[di x])]:=by
 unfold F110 at h;split at h
 ·rename_i h1;obtain ⟨h1,h2⟩:=h1;obtain rfl:=Option.some.inj h;refine ⟨⟨_,Tryz.func110,by kernel_rfl,by kernel_rfl⟩,?_⟩;intro Γ bs Z w cs hW hn0 hl hargs;obtain ⟨c,rfl,hc⟩:=args_one hl hargs;generalize hn:X.length=n at hc;cases hc with
  | sl0 _ _ hb=>omega
  | sl _ _ _ _ b k cap hb hcap hk hm =>
  subst hn;have hbo:=hW.objs 0 _ _ rfl hb;rw [di_cells] at hbo;obtain ⟨ds,t,hbk,hks,hxl,hx⟩:=hbo
  have hcell:∀j,j<X.length→w.cell? ⟨b,0+j,none⟩=some (.int .i64 (X.getD j 0)):=by
   intro j hj;obtain ⟨c,hc1,_,hc3⟩:=hx j (di (X.getD j 0)) (by rw [List.getElem?_map,List.getElem?_eq_getElem hj];simp [hj])
   have hc4:c = .int .i64 (X.getD j 0):=by
    have:=rd_v (by simpa [di] using hc3);exact this
   rw [Lib.cell_of_heap hbk,←hc4];simpa using hc1
  refine (Any.slices_Clone_int Tryz.laysNm215 b 0 X.length cap X w (Nat.le_refl _) h2 hcell).mono ?_;rintro e w' ⟨v',rfl,hown,hnn,hbel⟩;rw [List.take_length] at hown;obtain ⟨g1,g2⟩:=hown;rcases g2 with ⟨g3,_⟩|⟨g,cap',cur,rfl,hg1,hg2,hg3,hg4,hg5,hg6⟩
  ·exact absurd g3 hnn
  ·have hglt:g<w'.heap.size:=(Array.getElem?_eq_some_iff.1 hg2).1
   have hG:Grow Z w (fun b=>Z b∨b=g) w':=⟨hbel.os,hbel.tape,hbel.output,hbel.size,hbel.block,fun _ h => .inl h,fun b hb=>by
    rcases hb with hb|rfl
    ·exact .inl hb
    ·exact .inr ⟨hg1,hglt⟩⟩
   refine ⟨_,bs,_,rfl,hW.grow hG,.d _ _ ?_⟩;rw [di_cells];refine .list false 1 _ _ ⟨g,0,none⟩ _ (fun j => .int .i64 (X.getD j 0)) h1 (by simp) (.inr rfl) hg3 (by simp) (fun j hj=>?_) (fun j _=>rfl) (fun j x hx=>?_)
   ·simp only [List.length_map] at hj;rw [Addr.add_lit,Lib.cell_of_heap hg2];have:(cur.toList.take (X.length*1))[j]? = some (.int .i64 (X.getD j 0)):=by rw [hg6,List.getElem?_map,List.getElem?_eq_getElem hj];simp [hj]
    rw [List.getElem?_take] at this;split at this
    ·simpa using this
    ·simp at this
   ·rw [List.getElem?_map,Option.map_eq_some_iff] at hx;obtain ⟨y,hy,rfl⟩:=hx;rw [List.getD_eq_getElem?_getD,hy];exact .v _ rfl
 ·simp at h
end Go.Proofs.YtkcgfceihpampaaGreatDoor
namespace Go.Proofs.YtkcgfceihpampaaGreatDoor
open Go Go.RowKit Go.Sx Go.Proofs
set_option linter.all false

theorem idle_walk (c d:Value) (w:World):CallsDIn Fence.wide 0 Tryz.prog 117 #[c,d] .returning w fun e u' w'=>e = .returned (.tuple #[])∧u' = .returning∧w'=w:=by
 refine callsDIn_of_wpSIn Tryz.func117 rfl (by simp [Fence.wide]) fun c₀ cs hu=>?_;apply wpSIn_seq;apply wpSIn_region;simp [wpOpsSIn,go_sem,recoverD,hu,Tryz.ntmps117,Exit.thenS];apply wpSIn_seq;apply wpSIn_region;simp [wpOpsSIn,go_sem,recoverD,hu,Tryz.ntmps117,Exit.thenS];refine wpSIn_cond (t:=false) (by simp [Act.eval,Array.replicate]) ?_;simp only [Bool.false_eq_true,if_false];refine wpSIn_of_wpIn rfl (wpIn_skip ?_);cases c₀
 simp_all [bodyPostS,results,Tryz.results117]

theorem idle117 (cs:Array Value) (h:cs.size=2):Idle Tryz.prog { target := .fn (.func 117) cs,args := #[] }:=by
 obtain ⟨c,d,rfl⟩:∃c d,cs = #[c,d]:=⟨cs[0],cs[1],by
  apply Array.ext
  ·simpa using h
  ·intro i hi _;have:i=0∨i=1:=by omega
   rcases this with rfl|rfl<;>rfl⟩
 refine ⟨_,_,117,#[c,d],rfl,fun w=>?_,fun w R hR=>?_⟩
 ·simp [invoke,go_sem]
 ·refine (idle_walk c d w).mono ?_;rintro e u' w' ⟨rfl,rfl,rfl⟩;exact hR _
end Go.Proofs.YtkcgfceihpampaaGreatDoor
