/-
  Two arrays of four whole numbers, held against each other. Conditions: none.
-/
import Derived.Test.YtaaoadbcgnedkaaRows
import Derived.Test.YtaaoadbcgnedkaaNum
import Derived.Laws.StructEq
namespace Go.Proofs.Ytaaoadbcgnedkaa
open Go.RowKit
set_option linter.unusedVariables false
set_option linter.unusedSimpArgs false

theorem run_equalIn_arr4 (P : Program) (w : World) (d : Nat) (t e : TypeId) (k : IntKind) (ht : P.underlying t = some (.array 4 e)) (he : P.underlying e = some (.int k)) (hs : ∀ w, (sizeOf e).run P w = .ok 1 w) (hi : ∀ w, (isAgg e).run P w = .ok false w)
    (a0 a1 a2 a3 b0 b1 b2 b3 : Int) :
    (Op.equalIn (d + 2) t (.agg #[.int k a0, .int k a1, .int k a2, .int k a3]) (.agg #[.int k b0, .int k b1, .int k b2, .int k b3])).run P w = .ok (a0 == b0 && (a1 == b1 && (a2 == b2 && a3 == b3))) w := by
  rw [Op.equalIn]
  simp only [Sem.run_bind, run_underlying ht, Result.andThen_ok, hs]
  simp [List.range', part, run_equalIn_int _ _ _ _ _ _ _ he, hs, hi]
  rcases h0 : (a0 == b0) with _ | _ <;> rcases h1 : (a1 == b1) with _ | _ <;> rcases h2 : (a2 == b2) with _ | _ <;> rcases h3 : (a3 == b3) with _ | _ <;> simp_all
theorem eq_arr (P : Program) (w : World) (t e : TypeId) (k : IntKind) (ht : P.underlying t = some (.array 4 e)) (he : P.underlying e = some (.int k)) (hs : ∀ w, (sizeOf e).run P w = .ok 1 w) (hi : ∀ w, (isAgg e).run P w = .ok false w)
    (a0 a1 a2 a3 b0 b1 b2 b3 : Int) (c : Bool) (hc : (a0 == b0 && (a1 == b1 && (a2 == b2 && a3 == b3))) = c) :
    (binOp .eql t (.agg #[.int k a0, .int k a1, .int k a2, .int k a3]) (.agg #[.int k b0, .int k b1, .int k b2, .int k b3])).run P w = .ok (.bool c) w := by
  subst hc
  rw [run_eql_struct, run_equalIn_arr4 P w 9998 t e k ht he hs hi]; rfl
end Go.Proofs.Ytaaoadbcgnedkaa
