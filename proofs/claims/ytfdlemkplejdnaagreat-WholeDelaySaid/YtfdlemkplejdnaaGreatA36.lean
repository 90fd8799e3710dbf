/- WholeDelay, part 36. Conditions: none. -/
import Derived.Test.YtfdlemkplejdnaaGreatA33
namespace Go.Proofs.YtfdlemkplejdnaaGreat
open Go.RowKit Go.Sort
open Value renaming int->ι,pointer->ψ,slice->ζ,tuple->χ,agg->φ,map->μ,bool->β
open IntKind renaming u64->υ,i64->ε,u16->ω
open Ending renaming returned->ϰ
open Go.Proofs.Tryz renaming prog->Ψ,underlying3->Θ,underlying147->Δ,underlying152->Γ,underlying202->Φ,underlying39->Ξ,underlying207->Ω
open Go renaming World->ϖ,Value->ϗ
set_option linter.unusedVariables false
set_option linter.unusedSimpArgs false
set_option maxHeartbeats 8000000
set_option maxRecDepth 100000
def ze (ids:List Int)(n:Int)(e:EV):Int:=if e.cls ∈ ids then (if e.inn=true then n+1 else if 0<n then n - 1 else n) else n
def sS (ids:List Int)(L:List EV):Int:=L.foldl (ze ids) 0
theorem vF (ids:List Int)(a:List EV)(e:EV):sS ids (a++[e])=ze ids (sS ids a) e:=by unfold sS;rw[List.foldl_append];rfl
def zc (ids:List Int)(L:List EV)(i:Nat):Prop:=sS ids (L.take i)=0/\sS ids (L.take (i+1))≠0
instance (ids:List Int)(L:List EV)(i:Nat):Decidable (zc ids L i):=by unfold zc;infer_instance
end Go.Proofs.YtfdlemkplejdnaaGreat
