/-
  The walk of wide.Text: a number in tens. Conditions: a number of 128 bits.
-/
import Derived.Test.YtkegfnbjeafliaaDiv
import Derived.Laws.BytesArg
namespace Go.Proofs.Ytkegfnbjeafliaa
open Go.RowKit
set_option linter.unusedVariables false

/-- A digit's byte. -/
def dig (n : Int) : UInt8 := UInt8.ofNat (48 + n).toNat
/-- A number in tens, of at most so many digits. -/
def decF : Nat → Int → List UInt8
  | 0, _ => []
  | f + 1, n => if n < 10 then [dig n] else decF f (n / 10) ++ [dig (n % 10)]
/-- What a loop's measure looks at. -/
def lenOf : Value → Nat | .string s => s.size | _ => 0
def dec (n : Int) : List UInt8 := decF 39 n

theorem conv1 (v : World) (B : Nat) (c : Int) (hB : B = v.heap.size) :
    (convert 61 9 (.slice (some ⟨B, 0, none⟩) 1 1)).run Try.prog (v.alloc (.cells #[.int .u8 c] 5)) = .ok (.string (strOfNums [c])) (v.alloc (.cells #[.int .u8 c] 5)) := by
  refine run_convert_bytes_arg _ _ _ Try.underlying61 Try.underlying5 B 0 1 1 [c] rfl ?_ _ Try.underlying9
  intro i hi
  have := (Blk.alloc_new v (B := B) #[.int .u8 c] 5 hB).cell
  rw [Nat.zero_add, this]
  obtain rfl : i = 0 := by omega
  rfl
theorem str_cons (n : Int) (l : List UInt8) : strOfNums [48 + n] ++ (⟨l.toArray⟩ : ByteArray) = ⟨(dig n :: l).toArray⟩ := by
  apply ByteArray.ext
  simp [strOfNums, dig, ByteArray.data_append]
theorem decF_last (f : Nat) (n : Int) (h : n < 10) : decF (f + 1) n = [dig n] := by simp [decF, h]
theorem decF_step (f : Nat) (n : Int) (h : ¬ n < 10) : decF (f + 1) n = decF f (n / 10) ++ [dig (n % 10)] := by simp [decF, h]
theorem dec_step {A a : Int} {f : Nat} {l : List UInt8} (h : a < 10 ^ (f + 1) ∧ dec A = decF (f + 1) a ++ l) (h0 : ¬ a < 10) :
    a / 10 < 10 ^ f ∧ dec A = decF f (a / 10) ++ (dig (a % 10) :: l) ∧ 1 ≤ f := by
  obtain ⟨h1, h2⟩ := h
  rw [decF_step f a h0] at h2
  refine ⟨?_, by rw [h2]; simp, ?_⟩
  · rw [Int.pow_succ] at h1; omega
  · cases f with
    | zero => simp at h1; omega
    | succ f => omega
set_option maxHeartbeats 400000 in
theorem wText (A : Int) (w : World) (hA : In128 A) :
    Calls Try.prog 24 #[wv A] w fun e w' => e = .returned (.string ⟨(dec A).toArray⟩) ∧ Below w.heap.size w w' := by
  go_enter Try.func24, Try.ntmps24
  go_wp2
  go_loopw [3] (fun o wr => ∃ (k : Nat) (a : Int) (l : List UInt8), k < 39 ∧ 0 ≤ a ∧ a < 10 ^ (39 - k) ∧ In128 a ∧ l.length = k ∧ dec A = decF (39 - k) a ++ l ∧ o = .string ⟨l.toArray⟩ ∧ Below w.heap.size w wr ∧ Blk wr w.heap.size #[.int .u64 (hi a), .int .u64 (lo a)] 41) (fun o _ => 39 - lenOf o)
  case atStart => exact ⟨0, A, [], by omega, hA.1, by unfold In128 at hA; omega, hA, rfl, by simp [dec], rfl, by (repeat' (first | (with_reducible exact Below.refl _ _) | (with_reducible assumption) | (with_reducible refine below_drewN ?_ _) | (with_reducible refine Below.drew ?_) | (with_reducible refine Below.alloc ?_ ?_ _) | (with_reducible refine Below.setCell ?_ ?_ _) | go_size)), by (repeat' (first | (with_reducible assumption) | (with_reducible exact Blk.alloc_new _ _ _ (by first | rfl | (simp; done) | omega)) | (with_reducible refine Blk.drewN ?_ _) | (with_reducible refine Blk.drew ?_) | (with_reducible refine Blk.alloc_old ?_ _) | (with_reducible apply Blk.set_same) | (with_reducible refine Blk.set_other ?_ (by first | omega | (simp; done) | (simp; omega)) _) | (exact rfl)))⟩
  case round =>
    obtain ⟨k, a, l, hk, ha0, hak, ha, hl, hdec, rfl, hb0, B0⟩ := hrel
    have hX := hide (And.intro hak hdec); clear hak hdec
    have hl' := hide hl; clear hl
    have cB := B0.cell; have fB := B0.frozen; have zB := B0.size
    have q0 : 0 ≤ a % 10 ∧ a % 10 ≤ 9 := by omega
    have q1 : In128 (a / 10) := by unfold In128 at *; omega
    go_wp2_with fail
    refine (wDiv a 10 _ ha (by omega) (by omega)).mono ?_
    rintro e w1 ⟨rfl, hb1⟩
    have B1 : Blk w1 w.heap.size #[.int .u64 (hi a), .int .u64 (lo a)] 41 := Blk.below (by (repeat' (first | (with_reducible assumption) | (with_reducible exact Blk.alloc_new _ _ _ (by first | rfl | (simp; done) | omega)) | (with_reducible refine Blk.drewN ?_ _) | (with_reducible refine Blk.drew ?_) | (with_reducible refine Blk.alloc_old ?_ _) | (with_reducible apply Blk.set_same) | (with_reducible refine Blk.set_other ?_ (by first | omega | (simp; done) | (simp; omega)) _) | (exact rfl)))) hb1 (by omega)
    have g1 : Below w.heap.size w w1 := by refine Below.trans ?_ (hb1.mono ?_) <;> (repeat' (first | (with_reducible exact Below.refl _ _) | (with_reducible assumption) | (with_reducible refine below_drewN ?_ _) | (with_reducible refine Below.drew ?_) | (with_reducible refine Below.alloc ?_ ?_ _) | (with_reducible refine Below.setCell ?_ ?_ _) | go_size))
    have z1 := g1.size
    clear cB fB zB hb1
    have cB := B1.cell; have fB := B1.frozen; have zB := B1.size
    have r1 := hi_rng (a / 10); have r2 := lo_rng (a / 10)
    have kcv := conv1
    have hsz : ¬9223372036854775807 < (strOfNums [48 + a % 10]).size + l.length := by rw [strOfNums_size, hl'.out]; simp; omega
    obtain ⟨f, hf⟩ : ∃ f, 39 - k = f + 1 := ⟨38 - k, by omega⟩
    rw [hf] at hX
    have hf' := hide hf; clear hf
    by_cases h0 : a < 10
    · have e1 : hi (a / 10) = 0 := by unfold hi; omega
      have e2 : lo (a / 10) = 0 := by unfold lo; omega
      go_wp2
      go_ret
      refine ⟨ret1 ?_, by (repeat' (first | (with_reducible exact Below.refl _ _) | (with_reducible assumption) | (with_reducible refine below_drewN ?_ _) | (with_reducible refine Below.drew ?_) | (with_reducible refine Below.alloc ?_ ?_ _) | (with_reducible refine Below.setCell ?_ ?_ _) | go_size))⟩
      have e3 : a % 10 = a := by omega
      rw [hX.out.2, decF_last f a h0, e3]
      exact congrArg Value.string (str_cons a l)
    · have hne : hi (a / 10) = 0 → ¬ (lo (a / 10) = 0) := by
        intro e1 e2; unfold In128 hi lo at *; omega
      by_cases e1 : hi (a / 10) = 0
      · have e2 := hne e1
        clear hne
        go_wp2
        go_roundw
        case rel =>
          have hs := dec_step hX.out (by omega)
          have hf := hf'.out
          refine ⟨k + 1, a / 10, dig (a % 10) :: l, by omega, by omega, by rw [show 39 - (k + 1) = f by omega]; exact hs.1, q1, by simp [hl'.out], by rw [show 39 - (k + 1) = f by omega]; exact hs.2.1, congrArg Value.string (str_cons (a % 10) l), by (repeat' (first | (with_reducible exact Below.refl _ _) | (with_reducible assumption) | (with_reducible refine below_drewN ?_ _) | (with_reducible refine Below.drew ?_) | (with_reducible refine Below.alloc ?_ ?_ _) | (with_reducible refine Below.setCell ?_ ?_ _) | go_size)), by rw [e1]; (repeat' (first | (with_reducible assumption) | (with_reducible exact Blk.alloc_new _ _ _ (by first | rfl | (simp; done) | omega)) | (with_reducible refine Blk.drewN ?_ _) | (with_reducible refine Blk.drew ?_) | (with_reducible refine Blk.alloc_old ?_ _) | (with_reducible apply Blk.set_same) | (with_reducible refine Blk.set_other ?_ (by first | omega | (simp; done) | (simp; omega)) _) | (exact rfl)))⟩
        case measure => have h1 := hl'.out; have h2 : (strOfNums [48 + a % 10] ++ (⟨l.toArray⟩ : ByteArray)).size = l.length + 1 := (by rw [str_cons]; simp [ByteArray.size]); simp only [lenOf]; rw [h2]; simp [ByteArray.size]; omega
      · clear hne
        go_wp2
        go_roundw
        case rel =>
          have hs := dec_step hX.out (by omega)
          have hf := hf'.out
          refine ⟨k + 1, a / 10, dig (a % 10) :: l, by omega, by omega, by rw [show 39 - (k + 1) = f by omega]; exact hs.1, q1, by simp [hl'.out], by rw [show 39 - (k + 1) = f by omega]; exact hs.2.1, congrArg Value.string (str_cons (a % 10) l), by (repeat' (first | (with_reducible exact Below.refl _ _) | (with_reducible assumption) | (with_reducible refine below_drewN ?_ _) | (with_reducible refine Below.drew ?_) | (with_reducible refine Below.alloc ?_ ?_ _) | (with_reducible refine Below.setCell ?_ ?_ _) | go_size)), by (repeat' (first | (with_reducible assumption) | (with_reducible exact Blk.alloc_new _ _ _ (by first | rfl | (simp; done) | omega)) | (with_reducible refine Blk.drewN ?_ _) | (with_reducible refine Blk.drew ?_) | (with_reducible refine Blk.alloc_old ?_ _) | (with_reducible apply Blk.set_same) | (with_reducible refine Blk.set_other ?_ (by first | omega | (simp; done) | (simp; omega)) _) | (exact rfl)))⟩
        case measure => have h1 := hl'.out; have h2 : (strOfNums [48 + a % 10] ++ (⟨l.toArray⟩ : ByteArray)).size = l.length + 1 := (by rw [str_cons]; simp [ByteArray.size]); simp only [lenOf]; rw [h2]; simp [ByteArray.size]; omega
end Go.Proofs.Ytkegfnbjeafliaa
