/-
  The walk of the reference's Text; what a number in tens looks like. Conditions: a number of 128 bits.
-/
import Derived.Test.YtkegfnbjeafliaaQuo
import Derived.Test.YtkegfnbjeafliaaText
import Derived.Test.YtkegfnbjeafliaaEq
namespace Go.Proofs.Ytkegfnbjeafliaa
open Go.RowKit
set_option linter.unusedVariables false

/-- What is left to be written of a quotient. -/
def decQ (f : Nat) (q : Int) : List UInt8 := if q = 0 then [] else decF f q
theorem decQ_start {A : Int} (hA : In128 A) : dec A = decQ 38 (A / 10) ++ [dig (A % 10)] ∧ A / 10 < 10 ^ 38 := by
  refine ⟨?_, by unfold In128 at hA; omega⟩
  unfold dec decQ
  by_cases h : A < 10
  · rw [decF_last 38 A h, if_pos (by have := hA.1; omega), show A % 10 = A by have := hA.1; omega]; rfl
  · rw [decF_step 38 A h, if_neg (by omega)]
theorem decQ_step {f : Nat} {q : Int} (h0 : 0 < q) (h : q < 10 ^ f) : ∃ g, f = g + 1 ∧ decQ f q = decQ g (q / 10) ++ [dig (q % 10)] ∧ q / 10 < 10 ^ g := by
  cases f with
  | zero => simp at h; omega
  | succ g =>
    refine ⟨g, rfl, ?_, by rw [Int.pow_succ] at h; omega⟩
    unfold decQ
    rw [if_neg (by omega)]
    by_cases h1 : q < 10
    · rw [decF_last g q h1, if_pos (by omega), show q % 10 = q by omega]; rfl
    · rw [decF_step g q h1, if_neg (by omega)]
theorem dig_nat {n : Int} (h : 0 ≤ n) (h' : n ≤ 9) : ((dig n).toNat : Int) = 48 + n := by
  unfold dig; rw [UInt8.toNat_ofNat']; omega
theorem decF_ok : ∀ (f : Nat) (n : Int), 0 ≤ n → n < 10 ^ (f + 1) → (∀ c ∈ decF (f + 1) n, 48 ≤ c.toNat ∧ c.toNat ≤ 57) ∧ 1 ≤ (decF (f + 1) n).length ∧ (decF (f + 1) n).length ≤ f + 1 ∧ (∀ c, (decF (f + 1) n)[0]? = some c → c.toNat = 48 → n = 0) := by
  intro f
  induction f with
  | zero =>
    intro n h0 h1
    have h1' : n < 10 := by simpa using h1
    rw [decF_last 0 n h1']
    have hd := dig_nat h0 (by omega)
    refine ⟨fun c hc => by simp at hc; subst hc; omega, by simp, by simp, fun c hc he => by simp at hc; subst hc; omega⟩
  | succ f ih =>
    intro n h0 h1
    by_cases h : n < 10
    · rw [decF_last (f + 1) n h]
      have hd := dig_nat h0 (by omega)
      refine ⟨fun c hc => by simp at hc; subst hc; omega, by simp, by simp, fun c hc he => by simp at hc; subst hc; omega⟩
    · rw [decF_step (f + 1) n h]
      have hd := dig_nat (n := n % 10) (by omega) (by omega)
      obtain ⟨i1, i2, i3, i4⟩ := ih (n / 10) (by omega) (by rw [Int.pow_succ] at h1; omega)
      refine ⟨fun c hc => ?_, by simp, by simp; omega, fun c hc he => ?_⟩
      · rcases List.mem_append.1 hc with hc | hc
        · exact i1 c hc
        · simp at hc; subst hc; omega
      · rw [List.getElem?_append_left (by omega)] at hc
        have := i4 c hc he
        omega
/-- Behind k rounds of Text. -/
def TRel (w : World) (A : Int) (Q : Nat) (s i : Value) (wr : World) : Prop := ∃ (k : Nat) (q : Int) (l : List UInt8), k ≤ 38 ∧ i = .int .i64 k ∧ 0 ≤ q ∧ q < 10 ^ (38 - k) ∧ In128 q ∧ l.length = k + 1 ∧ dec A = decQ (38 - k) q ++ l ∧ s = .string ⟨l.toArray⟩ ∧ Below w.heap.size w wr ∧ Blk wr Q #[.int .u64 (dg0 (q)), .int .u64 (dg1 (q)), .int .u64 (dg2 (q)), .int .u64 (dg3 (q))] 27
theorem rQuo10 (a q r : Int) (w : World) (ha : In128 a) (hq : a / 10 = q) (hr : a % 10 = r) :
    Calls Try.prog 35 #[nv a, .int .u64 10] w fun e w' => e = .returned (.tuple #[nv q, .int .u64 r]) ∧ Below w.heap.size w w' := by subst hq hr; exact rQuotient a 10 w ha (by omega) (by omega)
theorem nz_dig {q : Int} (h : In128 q) (h0 : 0 < q) : (dg0 q == 0 && (dg1 q == 0 && (dg2 q == 0 && dg3 q == 0))) = false := by
  rw [Bool.eq_false_iff]
  intro hh
  simp only [Bool.and_eq_true, beq_iff_eq] at hh
  have := dgs h
  omega
set_option maxHeartbeats 1000000 in
theorem rText (A : Int) (w : World) (hA : In128 A) :
    Calls Try.prog 25 #[nv A] w fun e w' => e = .returned (.string ⟨(dec A).toArray⟩) ∧ Below w.heap.size w w' := by
  have hst := hide (decQ_start hA)
  obtain ⟨q0, hq0⟩ : ∃ q, A / 10 = q := ⟨_, rfl⟩
  obtain ⟨r0, hr0⟩ : ∃ r, A % 10 = r := ⟨_, rfl⟩
  have b0 : 0 ≤ q0 ∧ q0 ≤ A := by have := hA.1; omega
  have b1 : 0 ≤ r0 ∧ r0 ≤ 9 := by omega
  have hq128 : In128 q0 := by unfold In128 at *; omega
  have Hq := hide hq0; have Hr := hide hr0; clear hq0 hr0
  have kcv := conv1
  go_enter Try.func25, Try.ntmps25
  go_wp2_with fail
  refine (rQuo10 A q0 r0 _ hA Hq.out Hr.out).mono ?_
  rintro e w1 ⟨rfl, hb1⟩
  have A1 : Blk w1 (w.heap.size) #[.int .u64 (dg0 (A)), .int .u64 (dg1 (A)), .int .u64 (dg2 (A)), .int .u64 (dg3 (A))] 27 := Blk.below (by (repeat' (first | (with_reducible assumption) | (with_reducible exact Blk.alloc_new _ _ _ (by first | rfl | (simp; done) | omega)) | (with_reducible refine Blk.drewN ?_ _) | (with_reducible refine Blk.drew ?_) | (with_reducible refine Blk.alloc_old ?_ _) | (with_reducible apply Blk.set_same) | (with_reducible refine Blk.set_other ?_ (by first | omega | (simp; done) | (simp; omega)) _) | (exact rfl)))) hb1 (by first | (simp; done) | omega | (simp; omega))
  have g1 : Below w.heap.size w w1 := by refine Below.trans ?_ (hb1.mono ?_) <;> (repeat' (first | (with_reducible exact Below.refl _ _) | (with_reducible assumption) | (with_reducible refine below_drewN ?_ _) | (with_reducible refine Below.drew ?_) | (with_reducible refine Below.alloc ?_ ?_ _) | (with_reducible refine Below.setCell ?_ ?_ _) | go_size))
  have hz1 := hb1.size
  (try simp at hz1)
  clear hb1
  replace cA := A1.cell
  replace fA := A1.frozen
  replace zA := A1.size
  go_wp2
  go_loopw [5, 18] (fun s i wr => TRel w A w1.heap.size s i wr) (fun _ i _ => 50 - (intOf i).toNat)
  case atStart =>
    refine ⟨0, q0, [dig r0], by omega, rfl, b0.1, by rw [← Hq.out]; exact hst.out.2, hq128, rfl, by rw [← Hq.out, ← Hr.out]; exact hst.out.1, ?_, by (repeat' (first | (with_reducible exact Below.refl _ _) | (with_reducible assumption) | (with_reducible refine below_drewN ?_ _) | (with_reducible refine Below.drew ?_) | (with_reducible refine Below.alloc ?_ ?_ _) | (with_reducible refine Below.setCell ?_ ?_ _) | go_size)), by (repeat' (first | (with_reducible assumption) | (with_reducible exact Blk.alloc_new _ _ _ (by first | rfl | (simp; done) | omega)) | (with_reducible refine Blk.drewN ?_ _) | (with_reducible refine Blk.drew ?_) | (with_reducible refine Blk.alloc_old ?_ _) | (with_reducible apply Blk.set_same) | (with_reducible refine Blk.set_other ?_ (by first | omega | (simp; done) | (simp; omega)) _) | (exact rfl)))⟩
    rfl
  case round =>
    clear cA fA zA A1
    obtain ⟨k, q, l, hk, rfl, hq, hqk, h128, hl, hdec, rfl, g0, Q0⟩ := hrel
    have Hk := hide hqk; have Hl := hide hl; have Hdec := hide hdec
    clear hqk hl hdec
    have cQ := Q0.cell; have fQ := Q0.frozen; have zQ := Q0.size
    have hz0 := g0.size
    have d50 : decide ((k : Int) < 50) = true := decide_eq_true (by omega)
    by_cases h0 : q = 0
    · subst h0
      have e0 : dg0 0 = 0 := by decide
      have e1 : dg1 0 = 0 := by decide
      have e2 : dg2 0 = 0 := by decide
      have e3 : dg3 0 = 0 := by decide
      rw [e0, e1, e2, e3] at cQ
      have heq : ∀ v, (binOp .eql 27 (.agg #[.int .u64 0, .int .u64 0, .int .u64 0, .int .u64 0]) (.agg #[.int .u64 0, .int .u64 0, .int .u64 0, .int .u64 0])).run Try.prog v = .ok (.bool true) v := fun v => by kernel_rfl
      go_wp2
      go_ret
      exact ⟨ret1 (congrArg Value.string (by rw [Hdec.out]; simp [decQ])), g0⟩
    · have hpos : 0 < q := by omega
      have hnz := nz_dig h128 hpos
      have heq : ∀ v, (binOp .eql 27 (.agg #[.int .u64 (dg0 (q)), .int .u64 (dg1 (q)), .int .u64 (dg2 (q)), .int .u64 (dg3 (q))]) (.agg #[.int .u64 0, .int .u64 0, .int .u64 0, .int .u64 0])).run Try.prog v = .ok (.bool false) v :=
        fun v => eq_arr Try.prog v 27 22 .u64 Try.underlying27 Try.underlying22 (fun _ => by kernel_rfl) (fun _ => by kernel_rfl) _ _ _ _ 0 0 0 0 false hnz
      clear hnz
      obtain ⟨x, hx⟩ : ∃ x, q / 10 = x := ⟨_, rfl⟩
      obtain ⟨y, hy⟩ : ∃ y, q % 10 = y := ⟨_, rfl⟩
      have bx : 0 ≤ x ∧ x ≤ q := by omega
      have by9 : 0 ≤ y ∧ y ≤ 9 := by omega
      have hx128 : In128 x := by unfold In128 at *; omega
      have Hx := hide hx; have Hy := hide hy
      clear hx hy h0
      have hsz : (strOfNums [48 + y]).size + l.length ≤ 9223372036854775807 := by rw [strOfNums_size, Hl.out]; simp; omega
      go_wp2_with fail
      refine (rQuo10 q x y _ h128 Hx.out Hy.out).mono ?_
      rintro e w2 ⟨rfl, hb2⟩
      have Q2 : Blk w2 w1.heap.size #[.int .u64 (dg0 (q)), .int .u64 (dg1 (q)), .int .u64 (dg2 (q)), .int .u64 (dg3 (q))] 27 := Q0.below hb2 zQ
      have g2 : Below w.heap.size w w2 := g0.trans (hb2.mono hz0)
      have z2 := hb2.size
      clear cQ fQ zQ hb2
      have cQ := Q2.cell; have fQ := Q2.frozen; have zQ := Q2.size
      go_wp2
      go_roundw
      case rel =>
        obtain ⟨g, hg, hd, hlt⟩ := decQ_step hpos Hk.out
        refine ⟨k + 1, x, dig y :: l, by omega, by go_num, bx.1, by rw [show 38 - (k + 1) = g by omega, ← Hx.out]; exact hlt, hx128, by simp [Hl.out], ?_, congrArg Value.string (str_cons y l), by (repeat' (first | (with_reducible exact Below.refl _ _) | (with_reducible assumption) | (with_reducible refine below_drewN ?_ _) | (with_reducible refine Below.drew ?_) | (with_reducible refine Below.alloc ?_ ?_ _) | (with_reducible refine Below.setCell ?_ ?_ _) | go_size)), by (repeat' (first | (with_reducible assumption) | (with_reducible exact Blk.alloc_new _ _ _ (by first | rfl | (simp; done) | omega)) | (with_reducible refine Blk.drewN ?_ _) | (with_reducible refine Blk.drew ?_) | (with_reducible refine Blk.alloc_old ?_ _) | (with_reducible apply Blk.set_same) | (with_reducible refine Blk.set_other ?_ (by first | omega | (simp; done) | (simp; omega)) _) | (exact rfl)))⟩
        rw [Hdec.out, hd, show 38 - (k + 1) = g by omega, ← Hx.out, ← Hy.out]; simp
      case measure => simp [intOf]; omega
end Go.Proofs.Ytkegfnbjeafliaa
