/-
  Plain numbers: the halves of a number of 128 bits, its digits of 32 bits, and the values that bear them. Conditions: none; no program in sight.
-/
import Derived.Handy
import Derived.WalkSpells
import Derived.WalkLawsBesides
namespace Go.Proofs.Ytljpiofpfankoaa
open Go.RowKit

/-- The higher and the lower half of a number. -/
def hi (n : Int) : Int := n / 18446744073709551616 % 18446744073709551616
def lo (n : Int) : Int := n % 18446744073709551616
/-- The digits of the base 2^32. -/
def dg0 (n : Int) : Int := n % 4294967296
def dg1 (n : Int) : Int := n / 4294967296 % 4294967296
def dg2 (n : Int) : Int := n / 18446744073709551616 % 4294967296
def dg3 (n : Int) : Int := n / 79228162514264337593543950336 % 4294967296
/-- A number is one of 128 bits, of 64 bits. -/
def In128 (n : Int) : Prop := 0 ≤ n ∧ n < 340282366920938463463374607431768211456
def m128 (n : Int) : Int := n % 340282366920938463463374607431768211456
theorem m128_in (n : Int) : In128 (m128 n) := by unfold In128 m128; omega
theorem m128_of {n : Int} (h : In128 n) : m128 n = n := by unfold In128 at h; unfold m128; omega

abbrev wv (n : Int) : Value := .agg #[.int .u64 (hi n), .int .u64 (lo n)]
abbrev nv (n : Int) : Value := .agg #[.int .u64 (dg0 n), .int .u64 (dg1 n), .int .u64 (dg2 n), .int .u64 (dg3 n)]

theorem hi_rng (n : Int) : 0 ≤ hi n ∧ hi n ≤ 18446744073709551615 := by unfold hi; omega
theorem lo_rng (n : Int) : 0 ≤ lo n ∧ lo n ≤ 18446744073709551615 := by unfold lo; omega
theorem dg0_rng (n : Int) : 0 ≤ dg0 n ∧ dg0 n ≤ 4294967295 := by unfold dg0; omega
theorem dg1_rng (n : Int) : 0 ≤ dg1 n ∧ dg1 n ≤ 4294967295 := by unfold dg1; omega
theorem dg2_rng (n : Int) : 0 ≤ dg2 n ∧ dg2 n ≤ 4294967295 := by unfold dg2; omega
theorem dg3_rng (n : Int) : 0 ≤ dg3 n ∧ dg3 n ≤ 4294967295 := by unfold dg3; omega
theorem hi_lo {n : Int} (h : In128 n) : hi n * 18446744073709551616 + lo n = n := by unfold In128 at h; unfold hi lo; omega
theorem hi_of {h l : Int} (h0 : 0 ≤ h) (h1 : h ≤ 18446744073709551615) (l0 : 0 ≤ l) (l1 : l ≤ 18446744073709551615) : hi (h * 18446744073709551616 + l) = h := by unfold hi; omega
theorem lo_of {h l : Int} (l0 : 0 ≤ l) (l1 : l ≤ 18446744073709551615) : lo (h * 18446744073709551616 + l) = l := by unfold lo; omega
theorem dgs {n : Int} (h : In128 n) : dg0 n + dg1 n * 4294967296 + dg2 n * 18446744073709551616 + dg3 n * 79228162514264337593543950336 = n := by
  unfold In128 at h; unfold dg0 dg1 dg2 dg3; omega
/-- Numbers with the same halves are one. -/
theorem hilo_inj {a b : Int} (ha : In128 a) (hb : In128 b) : (hi a = hi b ∧ lo a = lo b) ↔ a = b := by
  unfold In128 at *; unfold hi lo; constructor
  · intro h; omega
  · rintro rfl; exact ⟨rfl, rfl⟩
/-- Digits that are in range are the digits of the number that they make. -/
theorem dg_mk {x y z t : Int} (hx : 0 ≤ x ∧ x ≤ 4294967295) (hy : 0 ≤ y ∧ y ≤ 4294967295) (hz : 0 ≤ z ∧ z ≤ 4294967295) (ht : 0 ≤ t ∧ t ≤ 4294967295) {n : Int}
    (hn : n = x + y * 4294967296 + z * 18446744073709551616 + t * 79228162514264337593543950336) :
    dg0 n = x ∧ dg1 n = y ∧ dg2 n = z ∧ dg3 n = t := by
  unfold dg0 dg1 dg2 dg3; omega
theorem nv_eq {x y z t n : Int} (hx : 0 ≤ x ∧ x ≤ 4294967295) (hy : 0 ≤ y ∧ y ≤ 4294967295) (hz : 0 ≤ z ∧ z ≤ 4294967295) (ht : 0 ≤ t ∧ t ≤ 4294967295)
    (hn : n = x + y * 4294967296 + z * 18446744073709551616 + t * 79228162514264337593543950336) :
    Value.agg #[.int .u64 x, .int .u64 y, .int .u64 z, .int .u64 t] = nv n := by
  obtain ⟨e0, e1, e2, e3⟩ := dg_mk hx hy hz ht hn
  rw [nv, e0, e1, e2, e3]
theorem wv_eq {h l n : Int} (h0 : 0 ≤ h ∧ h ≤ 18446744073709551615) (l0 : 0 ≤ l ∧ l ≤ 18446744073709551615) (hn : n = h * 18446744073709551616 + l) :
    Value.agg #[.int .u64 h, .int .u64 l] = wv n := by
  subst hn; rw [wv, hi_of h0.1 h0.2 l0.1 l0.2, lo_of l0.1 l0.2]
/-- Any two halves are those of a number. -/
theorem wv_of {h l : Int} (h0 : 0 ≤ h ∧ h ≤ 18446744073709551615) (l0 : 0 ≤ l ∧ l ≤ 18446744073709551615) : ∃ n, In128 n ∧ h = hi n ∧ l = lo n :=
  ⟨h * 18446744073709551616 + l, by unfold In128; omega, (hi_of h0.1 h0.2 l0.1 l0.2).symm, (lo_of l0.1 l0.2).symm⟩

@[go_sem] theorem alloc_drewN (w : World) (n : Nat) (o : Obj) : (w.drewN n).alloc o = (w.alloc o).drewN n := rfl
@[go_sem] theorem setCell_drewN (w : World) (n : Nat) (a : Addr) (v : Value) : (w.drewN n).setCell a v = (w.setCell a v).drewN n := rfl
theorem hide {p : Prop} (h : p) : Hid p := h
theorem ret1 {a b : Value} (h : a = b) : Ending.returned a = .returned b := by rw [h]
theorem ret2 {k k' : IntKind} {a b a' b' : Int} (h : a = a') (h' : b = b') : Ending.returned (.tuple #[.int k a, .int k' b]) = .returned (.tuple #[.int k a', .int k' b']) := by rw [h, h']
theorem ret_wb {h l n : Int} {p q : Bool} (hh : h = hi n) (hl : l = lo n) (hp : p = q) : Ending.returned (.tuple #[.agg #[.int .u64 h, .int .u64 l], .bool p]) = .returned (.tuple #[wv n, .bool q]) := by rw [hh, hl, hp]
theorem ret_w {h l n : Int} (hh : h = hi n) (hl : l = lo n) : Ending.returned (.agg #[.int .u64 h, .int .u64 l]) = .returned (wv n) := by rw [hh, hl]
theorem ret_t {v v' : Value} {k : IntKind} {c c' : Int} (h : v = v') (h' : c = c') : Ending.returned (.tuple #[v, .int k c]) = .returned (.tuple #[v', .int k c']) := by rw [h, h']
theorem reti {k : IntKind} {a b : Int} (h : a = b) : Ending.returned (.int k a) = .returned (.int k b) := by rw [h]
theorem retb {a b : Bool} (h : a = b) : Ending.returned (.bool a) = .returned (.bool b) := by rw [h]

/-- What a call that only makes memory of its own leaves: the old cells and marks. -/
theorem bcell {W w1 : World} (hb : Below W.heap.size W w1) : (∀ b o, b < W.heap.size → w1.cell? ⟨b, o, none⟩ = W.cell? ⟨b, o, none⟩) ∧ (∀ b o, b < W.heap.size → w1.frozen? ⟨b, o, none⟩ = W.frozen? ⟨b, o, none⟩) :=
  ⟨fun b o h => hb.cell (p := ⟨b, o, none⟩) h, fun b o h => hb.frozen (p := ⟨b, o, none⟩) h⟩

/-- Block B of a world holds just these cells. -/
def Blk (w : World) (B : Nat) (cs : Array Value) (t : TypeId) : Prop := w.heap[B]? = some (.cells cs t)
theorem Blk.cell {w : World} {B : Nat} {cs : Array Value} {t : TypeId} (h : Blk w B cs t) (i : Nat) : w.cell? ⟨B, i, none⟩ = cs[i]? := by
  unfold Blk at h; simp [World.cell?, h]
theorem Blk.frozen {w : World} {B : Nat} {cs : Array Value} {t : TypeId} (h : Blk w B cs t) (i : Nat) : w.frozen? ⟨B, i, none⟩ = false := by
  unfold Blk at h; simp [World.frozen?, h]
theorem Blk.size {w : World} {B : Nat} {cs : Array Value} {t : TypeId} (h : Blk w B cs t) : B < w.heap.size := by
  unfold Blk at h; exact (Array.getElem?_eq_some_iff.1 h).1
theorem Blk.below {w w' : World} {K B : Nat} {cs : Array Value} {t : TypeId} (h : Blk w B cs t) (hb : Below K w w') (hB : B < K) : Blk w' B cs t := by
  unfold Blk at *; rw [hb.block B hB]; exact h
theorem Blk.drewN {w : World} {B : Nat} {cs : Array Value} {t : TypeId} (h : Blk w B cs t) (n : Nat) : Blk (w.drewN n) B cs t := h
theorem Blk.drew {w : World} {B : Nat} {cs : Array Value} {t : TypeId} (h : Blk w B cs t) : Blk w.drew B cs t := h
theorem Blk.alloc_old {w : World} {B : Nat} {cs : Array Value} {t : TypeId} (h : Blk w B cs t) (o : Obj) : Blk (w.alloc o) B cs t := by
  have hs := h.size
  unfold Blk at *; rw [Below.heap_alloc _ _ _ hs]; exact h
theorem Blk.alloc_new (w : World) {B : Nat} (cs : Array Value) (t : TypeId) (hB : B = w.heap.size) : Blk (w.alloc (.cells cs t)) B cs t := by
  subst hB; unfold Blk World.alloc; simp
theorem Blk.set_other {w : World} {B : Nat} {cs : Array Value} {t : TypeId} (h : Blk w B cs t) {a : Addr} (ha : B ≠ a.block) (v : Value) : Blk (w.setCell a v) B cs t := by
  unfold Blk at *; rw [Below.heap_setCell _ _ _ _ ha]; exact h
theorem Blk.set_same {w : World} {B : Nat} {cs cs' : Array Value} {t : TypeId} {i : Nat} {v : Value} (h : Blk w B cs t) (e : cs.setIfInBounds i v = cs') : Blk (w.setCell ⟨B, i, none⟩ v) B cs' t := by
  unfold Blk at *; subst e; simp [World.setCell, Array.getElem?_modify, h]
/-- From here on, of the world, just this is known. -/
theorem rounds_forget {P : Program} {c : Code} {Q : Exit → Act → World → Prop} {n : Nat} {a : Act} {W : World} (F : World → Prop) (h : F W) (k : ∀ v, F v → Code.rounds P c Q n a v) : Code.rounds P c Q n a W := k W h
theorem wp_forget {P : Program} {c : Code} {Q : Exit → Act → World → Prop} {a : Act} {W : World} (F : World → Prop) (h : F W) (k : ∀ v, F v → c.wp P Q a v) : c.wp P Q a W := k W h

/-! The carry and the borrow, by their top bits. -/
theorem top_bit (x : Nat) (h : x < 18446744073709551616) : x / 9223372036854775808 = if x.testBit 63 then 1 else 0 := by
  rw [Nat.testBit_eq_decide_div_mod_eq]
  simp only [decide_eq_true_eq]
  split <;> omega
theorem tb (x : Nat) (h : x < 18446744073709551616) : x.testBit 63 = decide (9223372036854775808 ≤ x) := by
  rw [Nat.testBit_eq_decide_div_mod_eq]
  simp only [decide_eq_decide]
  omega
theorem tb_not (x : Nat) (h : x < 18446744073709551616) : (18446744073709551615 - x).testBit 63 = !decide (9223372036854775808 ≤ x) := by
  rw [tb _ (by omega)]
  by_cases h' : 9223372036854775808 ≤ x <;> simp [h'] <;> omega
theorem carry_nat (a b c : Nat) (ha : a < 18446744073709551616) (hb : b < 18446744073709551616) (hc : c ≤ 1) :
    ((a &&& b) ||| ((a ||| b) &&& (18446744073709551615 - (a + b + c) % 18446744073709551616))) / 9223372036854775808 = (a + b + c) / 18446744073709551616 := by
  have hs : (a + b + c) % 18446744073709551616 < 18446744073709551616 := by omega
  rw [top_bit _ (Nat.or_lt_two_pow (n := 64) (Nat.and_lt_two_pow a hb) (Nat.and_lt_two_pow _ (by omega)))]
  simp only [Nat.testBit_or, Nat.testBit_and, tb_not _ hs, tb a ha, tb b hb]
  by_cases h1 : 9223372036854775808 ≤ a <;> by_cases h2 : 9223372036854775808 ≤ b <;> by_cases h3 : 9223372036854775808 ≤ (a + b + c) % 18446744073709551616 <;> simp [h1, h2, h3] <;> omega
theorem borrow_nat (a b c s : Nat) (ha : a < 18446744073709551616) (hb : b < 18446744073709551616) (hc : c ≤ 1) (hs : s < 18446744073709551616)
    (he : (s : Int) = ((a : Int) - b - c) % 18446744073709551616) :
    ((((18446744073709551615 - a) &&& b) ||| ((18446744073709551615 - (a ^^^ b)) &&& s)) / 9223372036854775808 : Nat) = if (a : Int) < b + c then 1 else 0 := by
  have hx : a ^^^ b < 18446744073709551616 := Nat.xor_lt_two_pow (n := 64) ha hb
  rw [top_bit _ (Nat.or_lt_two_pow (n := 64) (Nat.and_lt_two_pow _ hb) (Nat.and_lt_two_pow _ hs))]
  simp only [Nat.testBit_or, Nat.testBit_and, tb_not _ ha, tb b hb, tb s hs]
  rw [tb_not _ hx, ← tb _ hx, Nat.testBit_xor, tb a ha, tb b hb]
  by_cases h1 : 9223372036854775808 ≤ a <;> by_cases h2 : 9223372036854775808 ≤ b <;> by_cases h3 : 9223372036854775808 ≤ s <;> simp [h1, h2, h3] <;> omega
theorem mul_rng (x y : Int) (hx : 0 ≤ x ∧ x ≤ 4294967295) (hy : 0 ≤ y ∧ y ≤ 4294967295) : 0 ≤ x * y ∧ x * y ≤ 18446744065119617025 := by
  refine ⟨Int.mul_nonneg hx.1 hy.1, ?_⟩
  have := Int.mul_le_mul hx.2 hy.2 hy.1 (by omega : (0 : Int) ≤ 4294967295)
  omega
theorem mul_parts (a b : Int) : a * b = (a / 4294967296 * (b / 4294967296)) * 18446744073709551616 + (a / 4294967296 * (b % 4294967296)) * 4294967296 + (a % 4294967296 * (b / 4294967296)) * 4294967296 + a % 4294967296 * (b % 4294967296) := by
  have h1 : a = a / 4294967296 * 4294967296 + a % 4294967296 := by omega
  have h2 : b = b / 4294967296 * 4294967296 + b % 4294967296 := by omega
  generalize a / 4294967296 = x at *
  generalize b / 4294967296 = y at *
  generalize a % 4294967296 = z at *
  generalize b % 4294967296 = t at *
  subst h1 h2
  rw [Int.add_mul, Int.mul_add, Int.mul_add]
  have e1 : x * 4294967296 * (y * 4294967296) = x * y * 18446744073709551616 := by
    rw [Int.mul_assoc, Int.mul_left_comm 4294967296 y, show (4294967296 * 4294967296 : Int) = 18446744073709551616 from rfl, Int.mul_assoc]
  have e2 : x * 4294967296 * t = x * t * 4294967296 := by rw [Int.mul_right_comm]
  have e3 : z * (y * 4294967296) = z * y * 4294967296 := by rw [Int.mul_assoc]
  rw [e1, e2, e3]; omega
theorem mul_rng64 (a b : Int) (ha : 0 ≤ a) (ha' : a ≤ 18446744073709551615) (hb : 0 ≤ b) (hb' : b ≤ 18446744073709551615) : 0 ≤ a * b ∧ a * b ≤ 340282366920938463426481119284349108225 := by
  refine ⟨Int.mul_nonneg ha hb, ?_⟩
  have := Int.mul_le_mul ha' hb' hb (by omega : (0 : Int) ≤ 18446744073709551615)
  omega
end Go.Proofs.Ytljpiofpfankoaa
