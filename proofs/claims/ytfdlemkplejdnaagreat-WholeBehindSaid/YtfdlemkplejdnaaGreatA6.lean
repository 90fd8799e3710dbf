/- WholeBehind, part 6. Conditions: none. -/
import Derived.Test.YtfdlemkplejdnaaGreatA2
import Derived.Shelf.Sort.Plain
namespace Go.Proofs.YtfdlemkplejdnaaGreat
open Go.RowKit Go.Sort
open Value renaming int->ι,pointer->ψ,slice->ζ,tuple->χ,agg->φ,map->μ,bool->β
open IntKind renaming u64->υ,i64->ε,u16->ω
open Ending renaming returned->ϰ
open Go.Proofs.Tryz renaming prog->Ψ,underlying3->Θ,underlying147->Δ,underlying152->Γ,underlying202->Φ,underlying39->Ξ,underlying207->Ω
open Go renaming World->ϖ,Value->ϗ
set_option linter.unusedVariables false
set_option linter.unusedSimpArgs false
set_option maxHeartbeats 8000000
set_option maxRecDepth 100000
section
open Go.Shelf
def oX:Go.Shelf.Ren:=⟨λ| 189=>111|125=>148|257=>147|128=>198|129=>199|294=>189|295=>190|296=>191|297=>192|298=>193|299=>194|216=>195|300=>196|301=>197|328=>242|329=>243|330=>244|331=>245|332=>246|215=>247|343=>266|n=>n,λ| 28=>45|3=>3|46=>275|0=>0|51=>322|53=>39|4=>4|183=>315|182=>314|131=>166|5=>5|9=>9|218=>359|222=>362|228=>381|229=>382|n=>n,λ| n=>n⟩
theorem iu:Go.Proofs.Lays.n189 Ψ oX:={
 mixed:=by kernel_rfl
 f125:=Tryz.func148.trans (ZG some ρh)
 f128:=Tryz.func198.trans (ZG some ρh)
 f129:=Tryz.func199.trans (ZG some ρh)
 f189:=Tryz.func111.trans (ZG some ρh)
 f215:=Tryz.func247.trans (ZG some ρh)
 f216:=Tryz.func195.trans (ZG some ρh)
 f257:=Tryz.func147.trans (ZG some ρh)
 f294:=Tryz.func189.trans (ZG some ρh)
 f295:=Tryz.func190.trans (ZG some ρh)
 f296:=Tryz.func191.trans (ZG some ρh)
 f297:=Tryz.func192.trans (ZG some ρh)
 f298:=Tryz.func193.trans (ZG some ρh)
 f299:=Tryz.func194.trans (ZG some ρh)
 f300:=Tryz.func196.trans (ZG some ρh)
 f301:=Tryz.func197.trans (ZG some ρh)
 f328:=Tryz.func242.trans (ZG some ρh)
 f329:=Tryz.func243.trans (ZG some ρh)
 f330:=Tryz.func244.trans (ZG some ρh)
 f331:=Tryz.func245.trans (ZG some ρh)
 f332:=Tryz.func246.trans (ZG some ρh)
 f343:=Tryz.func266.trans (ZG some ρh)
 t0:=Tryz.underlying0
 a0:=Tryz.isAgg0
 z0:=Tryz.sizeOf0
 v0:=Tryz.zeroValue0
 t3:=Θ
 a3:=Tryz.isAgg3
 z3:=Tryz.sizeOf3
 v3:=Tryz.zeroValue3
 t4:=Tryz.underlying4
 a4:=Tryz.isAgg4
 z4:=Tryz.sizeOf4
 v4:=Tryz.zeroValue4
 t5:=Tryz.underlying5
 a5:=Tryz.isAgg5
 z5:=Tryz.sizeOf5
 v5:=Tryz.zeroValue5
 t9:=Tryz.underlying9
 a9:=Tryz.isAgg9
 z9:=Tryz.sizeOf9
 v9:=Tryz.zeroValue9
 t28:=Tryz.underlying45
 a28:=Tryz.isAgg45
 z28:=Tryz.sizeOf45
 v28:=Tryz.zeroValue45
 t46:=Tryz.underlying275
 a46:=Tryz.isAgg275
 z46:=Tryz.sizeOf275
 v46:=Tryz.zeroValue275
 t51:=Tryz.underlying322
 a51:=Tryz.isAgg322
 z51:=Tryz.sizeOf322
 v51:=Tryz.zeroValue322
 t53:=Ξ
 a53:=Tryz.isAgg39
 z53:=Tryz.sizeOf39
 v53:=Tryz.zeroValue39
 t131:=Tryz.underlying166
 a131:=Tryz.isAgg166
 z131:=Tryz.sizeOf166
 v131:=Tryz.zeroValue166
 t182:=Tryz.underlying314
 a182:=Tryz.isAgg314
 z182:=Tryz.sizeOf314
 v182:=Tryz.zeroValue314
 t183:=Tryz.underlying315
 a183:=Tryz.isAgg315
 z183:=Tryz.sizeOf315
 v183:=Tryz.zeroValue315
 t218:=Tryz.underlying359
 a218:=Tryz.isAgg359
 z218:=Tryz.sizeOf359
 v218:=Tryz.zeroValue359
 t222:=Tryz.underlying362
 a222:=Tryz.isAgg362
 z222:=Tryz.sizeOf362
 v222:=Tryz.zeroValue362
 t228:=Tryz.underlying381
 a228:=Tryz.isAgg381
 z228:=Tryz.sizeOf381
 v228:=Tryz.zeroValue381
 t229:=Tryz.underlying382
 a229:=Tryz.isAgg382
 z229:=Tryz.sizeOf382
 v229:=Tryz.zeroValue382}
end
end Go.Proofs.YtfdlemkplejdnaaGreat
