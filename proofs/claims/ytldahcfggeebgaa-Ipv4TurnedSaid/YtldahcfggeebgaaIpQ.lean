/-
  The closed example of the law's package: true. Conditions: none.
-/
import Derived.Test.YtldahcfggeebgaaIpP
namespace Go.Proofs.Ytldahcfggeebgaa
open Go.RowKit Go.Sort
set_option linter.unusedVariables false
set_option linter.unusedSimpArgs false
def h44 : HD := ⟨0, 1, 0, 0, 64, 17, 167772161, 167772162, []⟩
def b44 : List Int := [97, 98, 99, 100]
def F44 : List Int := [69, 0, 0, 24, 0, 1, 0, 0, 64, 17, 102, 210, 10, 0, 0, 1, 10, 0, 0, 2]
def S44 : List Int := F44 ++ b44
theorem w44 : wrongR h44 b44.length = 0 := by decide +kernel
theorem e44 : encR h44 b44 = S44 := by decide +kernel
theorem d44 : badR S44 = 0 := by decide +kernel
theorem hd44 : hdL S44 = h44 := by unfold hdL h44; congr 1 <;> decide +kernel
theorem bd44 : bdL S44 = b44 := by decide +kernel
theorem sb44 : SV b44 = .string ⟨#[97, 98, 99, 100]⟩ := by rfl
theorem sum44 : sumS F44 = 65535 := by decide +kernel
theorem byt44 : Byt S44 := by unfold Byt; decide +kernel
theorem bytF44 : Byt F44 := by unfold Byt; decide +kernel
theorem ok44 : h44.ok := by unfold HD.ok h44 Byt; decide +kernel
set_option maxRecDepth 100000 in
set_option maxHeartbeats 4000000 in
theorem four_true (w : World) :
    Calls Try.prog 23 #[] w fun e w' => e = .returned (.bool true) ∧ Below w.heap.size w w' := by
  have K0 := hide (show ∀ v, Calls Try.prog 26 #[.agg #[.int .u8 0, .int .u16 1, .int .u8 0, .int .u16 0, .int .u8 64, .int .u8 17, .int .u32 167772161, .int .u32 167772162, .string ⟨#[]⟩], .string ⟨#[97, 98, 99, 100]⟩] v fun e w' => e = .returned (.tuple #[SV S44, .int .i64 0]) ∧ Below v.heap.size v w' from fun v => by have h := ipEncode h44 b44 v ok44 (by decide) (by decide); rw [w44, e44, if_pos rfl, sb44] at h; exact h)
  have K1 := hide (show ∀ v, Calls Try.prog 29 #[SV S44] v fun e w' => e = .returned (.tuple #[.agg #[.int .u8 0, .int .u16 1, .int .u8 0, .int .u16 0, .int .u8 64, .int .u8 17, .int .u32 167772161, .int .u32 167772162, .string ⟨#[]⟩], .string ⟨#[97, 98, 99, 100]⟩, .int .i64 0]) ∧ Below v.heap.size v w' from fun v => by have h := ipDecode S44 v byt44 (by decide); rw [decV_ok d44, hd44, bd44, sb44] at h; exact h)
  have hadd : ∀ v, (binOp .add 9 (SV F44) (.string ⟨#[97, 98, 99, 100]⟩)).run Try.prog v = .ok (SV S44) v := fun v => by
    show Sem.run Try.prog (binOp .add 9 (.string _) (.string _)) v = _
    rw [binOp_string_add]
    exact (run_string_add_sum v _ _ (by rw [sv_size]; decide)).trans rfl
  have q1 : ∀ v, (binOp .eql 9 (SV S44) (SV S44)).run Try.prog v = .ok (.bool true) v := strq _
  have q2 : ∀ v, (binOp .eql 9 (.string ⟨#[97, 98, 99, 100]⟩) (.string ⟨#[97, 98, 99, 100]⟩)).run Try.prog v = .ok (.bool true) v := strq _
  have q3 : ∀ v, (binOp .eql 61 (.agg #[.int .u8 0, .int .u16 1, .int .u8 0, .int .u16 0, .int .u8 64, .int .u8 17, .int .u32 167772161, .int .u32 167772162, .string ⟨#[]⟩]) (.agg #[.int .u8 0, .int .u16 1, .int .u8 0, .int .u16 0, .int .u8 64, .int .u8 17, .int .u32 167772161, .int .u32 167772162, .string ⟨#[]⟩])).run Try.prog v = .ok (.bool true) v := hdeq h44
  go_enter Try.func23, Try.ntmps23
  go_wp2_with fail
  refine (K0.out _).mono ?_
  rintro e w1 ⟨rfl, hb1⟩
  have A1 : Blk w1 (w.heap.size) #[.int .u8 0, .int .u16 1, .int .u8 0, .int .u16 0, .int .u8 64, .int .u8 17, .int .u32 167772161, .int .u32 167772162, .string ⟨#[]⟩] 61 := Blk.below (by (repeat' (first | (with_reducible (first | assumption | exact Blk.alloc_new _ _ _ (by first | rfl | (simp; done) | omega) | apply Blk.drewN | apply Blk.drew | apply Blk.alloc_old | apply Blk.set_same | apply Blk.set_other)) | (show (_ : Nat) ≠ _; first | omega | (simp; done) | (simp; omega)) | ((simp only [List.setIfInBounds_toArray, List.set_cons_succ, List.set_cons_zero]); (with_reducible exact rfl)) | (with_reducible exact rfl) | (show (_ : Array Value) = _; exact rfl)))) hb1 (by first | (simp; done) | omega | (simp; omega))
  have g1 : Below w.heap.size w w1 := by refine Below.trans ?_ (hb1.mono ?_) <;> (repeat' (first | (with_reducible (first | exact Below.refl _ _ | assumption | refine below_drewN ?_ _ | refine Below.drew ?_ | refine Below.alloc ?_ ?_ _ | refine Below.setCell ?_ ?_ _)) | go_size))
  have hz1 := hb1.size
  (try simp at hz1)
  clear hb1
  replace cA := A1.cell
  replace fA := A1.frozen
  replace zA := A1.size
  go_wp2_with fail
  refine (K1.out _).mono ?_
  rintro e w2 ⟨rfl, hb2⟩
  have A2 : Blk w2 (w.heap.size) #[.int .u8 0, .int .u16 1, .int .u8 0, .int .u16 0, .int .u8 64, .int .u8 17, .int .u32 167772161, .int .u32 167772162, .string ⟨#[]⟩] 61 := Blk.below (by (repeat' (first | (with_reducible (first | assumption | exact Blk.alloc_new _ _ _ (by first | rfl | (simp; done) | omega) | apply Blk.drewN | apply Blk.drew | apply Blk.alloc_old | apply Blk.set_same | apply Blk.set_other)) | (show (_ : Nat) ≠ _; first | omega | (simp; done) | (simp; omega)) | ((simp only [List.setIfInBounds_toArray, List.set_cons_succ, List.set_cons_zero]); (with_reducible exact rfl)) | (with_reducible exact rfl) | (show (_ : Array Value) = _; exact rfl)))) hb2 (by first | (simp; done) | omega | (simp; omega))
  have g2 : Below w.heap.size w w2 := by refine Below.trans ?_ (hb2.mono ?_) <;> (repeat' (first | (with_reducible (first | exact Below.refl _ _ | assumption | refine below_drewN ?_ _ | refine Below.drew ?_ | refine Below.alloc ?_ ?_ _ | refine Below.setCell ?_ ?_ _)) | go_size))
  have hz2 := hb2.size
  (try simp at hz2)
  clear hb2
  replace cA := A2.cell
  replace fA := A2.frozen
  replace zA := A2.size
  go_upto_region 5 with (fail)
  refine wp_forget (fun v => Below w.heap.size w v ∧ Blk v (w.heap.size) #[.int .u8 0, .int .u16 1, .int .u8 0, .int .u16 0, .int .u8 64, .int .u8 17, .int .u32 167772161, .int .u32 167772162, .string ⟨#[]⟩] 61 ∧ Blk v (w2.heap.size) #[.int .u8 0, .int .u16 1, .int .u8 0, .int .u16 0, .int .u8 64, .int .u8 17, .int .u32 167772161, .int .u32 167772162, .string ⟨#[]⟩] 61 ∧ Blk v (w2.heap.size + 1) #[.int .u8 69, .int .u8 0, .int .u8 0, .int .u8 24, .int .u8 0, .int .u8 1, .int .u8 0, .int .u8 0, .int .u8 64, .int .u8 17, .int .u8 102, .int .u8 210, .int .u8 10, .int .u8 0, .int .u8 0, .int .u8 1, .int .u8 10, .int .u8 0, .int .u8 0, .int .u8 2] 5) ⟨by (repeat' (first | (with_reducible (first | exact Below.refl _ _ | assumption | refine below_drewN ?_ _ | refine Below.drew ?_ | refine Below.alloc ?_ ?_ _ | refine Below.setCell ?_ ?_ _)) | go_size)), by (repeat' (first | (with_reducible (first | assumption | exact Blk.alloc_new _ _ _ (by first | rfl | (simp; done) | omega) | apply Blk.drewN | apply Blk.drew | apply Blk.alloc_old | apply Blk.set_same | apply Blk.set_other)) | (show (_ : Nat) ≠ _; first | omega | (simp; done) | (simp; omega)) | ((simp only [List.setIfInBounds_toArray, List.set_cons_succ, List.set_cons_zero]); (with_reducible exact rfl)) | (with_reducible exact rfl) | (show (_ : Array Value) = _; exact rfl))), by (repeat' (first | (with_reducible (first | assumption | exact Blk.alloc_new _ _ _ (by first | rfl | (simp; done) | omega) | apply Blk.drewN | apply Blk.drew | apply Blk.alloc_old | apply Blk.set_same | apply Blk.set_other)) | (show (_ : Nat) ≠ _; first | omega | (simp; done) | (simp; omega)) | ((simp only [List.setIfInBounds_toArray, List.set_cons_succ, List.set_cons_zero]); (with_reducible exact rfl)) | (with_reducible exact rfl) | (show (_ : Array Value) = _; exact rfl))), by (repeat' (first | (with_reducible (first | assumption | exact Blk.alloc_new _ _ _ (by first | rfl | (simp; done) | omega) | apply Blk.drewN | apply Blk.drew | apply Blk.alloc_old | apply Blk.set_same | apply Blk.set_other)) | (show (_ : Nat) ≠ _; first | omega | (simp; done) | (simp; omega)) | ((simp only [List.setIfInBounds_toArray, List.set_cons_succ, List.set_cons_zero]); (with_reducible exact rfl)) | (with_reducible exact rfl) | (show (_ : Array Value) = _; exact rfl)))⟩ ?_
  rintro w3 ⟨g3, A3, X3, W3⟩
  have hz3 := g3.size
  replace cA := A3.cell
  replace fA := A3.frozen
  replace zA := A3.size
  replace cX := X3.cell
  replace fX := X3.frozen
  replace zX := X3.size
  replace cW := W3.cell
  replace fW := W3.frozen
  replace zW := W3.size
  have hconv : (convert 57 9 (.slice (some ⟨w2.heap.size + 1, 0, none⟩) 20 20)).run Try.prog w3 = .ok (SV F44) w3 := kconvB F44 _ w3 _ _ W3 rfl
  go_wp2_with fail
  refine (ipSum F44 _ bytF44 (by decide) 65535 sum44).mono ?_
  rintro e u4 ⟨rfl, rfl⟩
  go_wp2
  go_ret
  exact ⟨rfl, by (repeat' (first | (with_reducible (first | exact Below.refl _ _ | assumption | refine below_drewN ?_ _ | refine Below.drew ?_ | refine Below.alloc ?_ ?_ _ | refine Below.setCell ?_ ?_ _)) | go_size))⟩
end Go.Proofs.Ytldahcfggeebgaa
