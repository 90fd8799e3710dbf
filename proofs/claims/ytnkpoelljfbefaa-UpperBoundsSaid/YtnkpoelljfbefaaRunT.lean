/-
  Runs as their references have them, held against each other; the closed example 'hundred'. Conditions: fields in range.
-/
import Derived.Test.YtnkpoelljfbefaaRunW
import Derived.Test.YtnkpoelljfbefaaLineT
namespace Go.Proofs.Ytnkpoelljfbefaa
open Go.RowKit Go.Sort
set_option linter.unusedVariables false
set_option linter.unusedSimpArgs false
theorem wneq (a b : Int) (c : Bool) (ha : In128 a) (hb : In128 b) (hc : decide (a = b) = !c) (v : World) : (binOp .neq 24 (wv a) (wv b)).run Try.prog v = .ok (.bool c) v := by
  rw [run_neq_struct, weqIn 9998 a b ha hb, hc]; simp [Result.andThen]
theorem rreqIn (d : Nat) (r : RN) (h : r.ok) (v : World) : (Op.equalIn (d + 4) 40 (rrunv r) (rrunv r)).run Try.prog v = .ok true v := by
  have hb : ∀ w, (isAgg 4).run Try.prog w = .ok false w := fun _ => by kernel_rfl
  have hl : ∀ w, (isAgg 38).run Try.prog w = .ok true w := fun _ => by kernel_rfl
  have h2 : ∀ (w : World) (x y : Bool), (Op.equalIn (d + 3) 4 (.bool x) (.bool y)).run Try.prog w = .ok (x == y) w := fun w x y => by simp [Op.equalIn, Try.underlying4, go_sem]
  have h3 := fun w => rleqIn d r.f.X r.f.Y r.f.M r.f.X r.f.Y r.f.M h.1.2.1 h.1.2.1 w
  have h4 := fun w => rleqIn d r.t.X r.t.Y r.t.M r.t.X r.t.Y r.t.M h.2.2.1 h.2.2.1 w
  have hs : ∀ w, (sizeOf 4).run Try.prog w = .ok 1 w := fun _ => by kernel_rfl
  have hs2 : ∀ w, (sizeOf 38).run Try.prog w = .ok 6 w := fun _ => by kernel_rfl
  simp only [and_self, decide_true] at h3 h4
  rw [run_equalIn_struct _ (d + 3) 40 _ _ (by kernel_rfl) (by kernel_rfl)]
  simp [Program.fieldsOf, Try.underlying40, go_sem, part, hb, hl, hs, hs2, h2, h3, h4]
theorem rreq (r : RN) (h : r.ok) (v : World) : (binOp .eql 40 (rrunv r) (rrunv r)).run Try.prog v = .ok (.bool true) v := by
  rw [run_eql_struct, rreqIn 9996 r h]; rfl
theorem rstartT (m d n x y : Int) (r : RN) (w : World) (hm : 0 ≤ m ∧ m ≤ 18446744073709551615) (hd : 0 ≤ d ∧ d ≤ 18446744073709551615) (hn : 0 ≤ n ∧ n ≤ 18446744073709551615) (hx : 0 ≤ x ∧ x ≤ 9223372036854775808) (hy : In128 y) (hr : RN.start m d n x y = r) :
    Calls Try.prog 36 #[.agg #[.int .u64 m, .int .u64 d, .int .u64 n], .int .u64 x, nv y, .bool true] w fun e w' => e = .returned (rrunv r) ∧ Below w.heap.size w w' :=
  rstart_any m d n x y true r w hm hd hn hx hy (by rw [if_pos rfl]; exact hr)
theorem rstartF (m d n x y : Int) (r : RN) (w : World) (hm : 0 ≤ m ∧ m ≤ 18446744073709551615) (hd : 0 ≤ d ∧ d ≤ 18446744073709551615) (hn : 0 ≤ n ∧ n ≤ 18446744073709551615) (hx : 0 ≤ x ∧ x ≤ 9223372036854775808) (hy : In128 y) (hr : RN.ready m d n x y = r) :
    Calls Try.prog 36 #[.agg #[.int .u64 m, .int .u64 d, .int .u64 n], .int .u64 x, nv y, .bool false] w fun e w' => e = .returned (rrunv r) ∧ Below w.heap.size w w' :=
  rstart_any m d n x y false r w hm hd hn hx hy (by rw [if_neg (by simp)]; exact hr)
end Go.Proofs.Ytnkpoelljfbefaa
