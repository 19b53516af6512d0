/- Part 11. -/
import Derived.Test.YtggemipepaajmaaGreatTre10
import Derived.Shelf.Sort.Plain
import Derived.Shelf.Slices.CompactI
import Derived.Test.YtggemipepaajmaaGreatProg
set_option linter.all false
namespace Go.Proofs
open Go.Shelf
def Tryz.QZ:Go.Shelf.Ren:=⟨fun | 189=>170 | 125=>184 | 257=>191 | 128=>210 | 129=>211 | 294=>221 | 295=>222 | 296=>223 | 297=>224 | 298=>225 | 299=>226 | 216=>227 | 300=>228 | 301=>229 | 328=>248 | 329=>241 | 330=>242 | 331=>249 | 332=>250 | 215=>251 | 343=>267 | n=>n,fun | 28=>39 | 3=>3 | 46=>236 | 0=>0 | 51=>259 | 53=>261 | 4=>4 | 183=>252 | 182=>251 | 131=>216 | 5=>5 | 9=>9 | 218=>285 | 222=>246 | 228=>306 | 229=>58 | n=>n,fun | n=>n⟩
theorem Tryz.Y3:Go.Proofs.Lays.n189 Tryz.prog Tryz.QZ := {
 mixed:=by kernel_rfl
 f125:=func184.trans (congrArg some (by kernel_rfl))
 f128:=func210.trans (congrArg some (by kernel_rfl))
 f129:=func211.trans (congrArg some (by kernel_rfl))
 f189:=func170.trans (congrArg some (by kernel_rfl))
 f215:=func251.trans (congrArg some (by kernel_rfl))
 f216:=func227.trans (congrArg some (by kernel_rfl))
 f257:=func191.trans (congrArg some (by kernel_rfl))
 f294:=func221.trans (congrArg some (by kernel_rfl))
 f295:=func222.trans (congrArg some (by kernel_rfl))
 f296:=func223.trans (congrArg some (by kernel_rfl))
 f297:=func224.trans (congrArg some (by kernel_rfl))
 f298:=func225.trans (congrArg some (by kernel_rfl))
 f299:=func226.trans (congrArg some (by kernel_rfl))
 f300:=func228.trans (congrArg some (by kernel_rfl))
 f301:=func229.trans (congrArg some (by kernel_rfl))
 f328:=func248.trans (congrArg some (by kernel_rfl))
 f329:=func241.trans (congrArg some (by kernel_rfl))
 f330:=func242.trans (congrArg some (by kernel_rfl))
 f331:=func249.trans (congrArg some (by kernel_rfl))
 f332:=func250.trans (congrArg some (by kernel_rfl))
 f343:=func267.trans (congrArg some (by kernel_rfl))
 t0:=underlying0
 a0:=isAgg0
 z0:=sizeOf0
 v0:=zeroValue0
 t3:=underlying3
 a3:=isAgg3
 z3:=sizeOf3
 v3:=zeroValue3
 t4:=underlying4
 a4:=isAgg4
 z4:=sizeOf4
 v4:=zeroValue4
 t5:=underlying5
 a5:=isAgg5
 z5:=sizeOf5
 v5:=zeroValue5
 t9:=underlying9
 a9:=isAgg9
 z9:=sizeOf9
 v9:=zeroValue9
 t28:=underlying39
 a28:=isAgg39
 z28:=sizeOf39
 v28:=zeroValue39
 t46:=underlying236
 a46:=isAgg236
 z46:=sizeOf236
 v46:=zeroValue236
 t51:=underlying259
 a51:=isAgg259
 z51:=sizeOf259
 v51:=zeroValue259
 t53:=underlying261
 a53:=isAgg261
 z53:=sizeOf261
 v53:=zeroValue261
 t131:=underlying216
 a131:=isAgg216
 z131:=sizeOf216
 v131:=zeroValue216
 t182:=underlying251
 a182:=isAgg251
 z182:=sizeOf251
 v182:=zeroValue251
 t183:=underlying252
 a183:=isAgg252
 z183:=sizeOf252
 v183:=zeroValue252
 t218:=underlying285
 a218:=isAgg285
 z218:=sizeOf285
 v218:=zeroValue285
 t222:=underlying246
 a222:=isAgg246
 z222:=sizeOf246
 v222:=zeroValue246
 t228:=underlying306
 a228:=isAgg306
 z228:=sizeOf306
 v228:=zeroValue306
 t229:=underlying58
 a229:=isAgg58
 z229:=sizeOf58
 v229:=zeroValue58 }
def Tryz.N5:Go.Shelf.Ren:=⟨fun | 20=>171 | n=>n,fun | 22=>39 | 3=>3 | 4=>4 | 0=>0 | n=>n,fun | n=>n⟩
theorem Tryz.Ua:Go.Proofs.Lays2.n20 Tryz.prog Tryz.N5 := {
 mixed:=by kernel_rfl
 f20:=func171.trans (congrArg some (by kernel_rfl))
 t0:=underlying0
 a0:=isAgg0
 z0:=sizeOf0
 v0:=zeroValue0
 t3:=underlying3
 a3:=isAgg3
 z3:=sizeOf3
 v3:=zeroValue3
 t4:=underlying4
 a4:=isAgg4
 z4:=sizeOf4
 v4:=zeroValue4
 t22:=underlying39
 a22:=isAgg39
 z22:=sizeOf39
 v22:=zeroValue39
 i3:=by kernel_rfl }
end Go.Proofs
