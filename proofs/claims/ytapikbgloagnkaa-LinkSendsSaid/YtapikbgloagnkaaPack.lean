/-
  The walks of package packet: bytes put and got. Conditions: numbers of 64 bits, cells that are there.
-/
import Derived.Test.YtapikbgloagnkaaRows
import Derived.Test.YtapikbgloagnkaaNum
namespace Go.Proofs.Ytapikbgloagnkaa
open Go.RowKit
set_option linter.unusedVariables false

theorem fits_any (n m : Int) (w : World) (b : Bool) (hb : decide (1 ≤ n ∧ n ≤ m) = b) :
    Calls Try.prog 51 #[.int .i64 n, .int .i64 m] w fun e w' => e = .returned (.bool b) ∧ w = w' := by
  subst hb
  by_cases h1 : 1 ≤ n
  · by_cases h2 : n ≤ m
    · rw [decide_eq_true (show 1 ≤ n ∧ n ≤ m from ⟨h1, h2⟩)]
      have d1 : decide (1 ≤ n) = true := decide_eq_true h1
      go_enter Try.func51, Try.ntmps51
      go_wp2
      go_ret
      exact ⟨rfl, rfl⟩
    · rw [decide_eq_false (show ¬ (1 ≤ n ∧ n ≤ m) from fun h => h2 h.2)]
      have d1 : decide (1 ≤ n) = true := decide_eq_true h1
      have d2 : decide (n ≤ m) = false := decide_eq_false h2
      go_enter Try.func51, Try.ntmps51
      go_wp2
      go_ret
      exact ⟨rfl, rfl⟩
  · rw [decide_eq_false (show ¬ (1 ≤ n ∧ n ≤ m) from fun h => h1 h.1)]
    have d1 : decide (1 ≤ n) = false := decide_eq_false h1
    go_enter Try.func51, Try.ntmps51
    go_wp2
    go_ret
    exact ⟨rfl, rfl⟩
/-- A byte of a number. -/
def bt (v : Int) (k : Nat) : Int := v / 2 ^ (8 * k) % 256
theorem bt_rng (v : Int) (k : Nat) : 0 ≤ bt v k ∧ bt v k ≤ 255 := by unfold bt; omega
/-- The world behind k rounds of put, on n bytes from off on in the block B. -/
def wset (w : World) (B off n : Nat) (v : Int) : Nat → World
  | 0 => w
  | k + 1 => (wset w B off n v k).setCell ⟨B, off + (n - 1 - k), none⟩ (.int .u8 (bt v k))
theorem wset_blk {w : World} {B : Nat} {cs : Array Value} {t : TypeId} (h : Blk w B cs t) (off n : Nat) (v : Int) (k : Nat) : ∃ cs', cs'.size = cs.size ∧ Blk (wset w B off n v k) B cs' t := by
  induction k with
  | zero => exact ⟨cs, rfl, h⟩
  | succ k ih =>
    obtain ⟨cs', hs, hb⟩ := ih
    exact ⟨cs'.setIfInBounds (off + (n - 1 - k)) (.int .u8 (bt v k)), by simp [hs], hb.set_same rfl⟩
set_option maxHeartbeats 400000 in
theorem put_any (B off n cap : Nat) (v : Int) (w : World) (cs : Array Value) (t : TypeId) (hB : Blk w B cs t) (hn : off + n ≤ cs.size) (hn8 : n ≤ 8) (hv : 0 ≤ v) (hv' : v ≤ 18446744073709551615) :
    Calls Try.prog 52 #[.slice (some ⟨B, off, none⟩) n cap, .int .u64 v] w fun e w' => e = .returned (.tuple #[]) ∧ wset w B off n v n = w' := by
  have w0 : wset w B off n v 0 = w := rfl
  go_enter Try.func52, Try.ntmps52
  go_wp2
  rw [← w0]; clear w0
  go_loopw [7] (fun i wr => ∃ k : Nat, k ≤ n ∧ i = .int .i64 k ∧ wr = wset w B off n v k) (fun i _ => n - (intOf i).toNat)
  case atStart => exact ⟨0, Nat.zero_le _, rfl, rfl⟩
  case round =>
    obtain ⟨k, hk, rfl, rfl⟩ := hrel
    by_cases hlt : k < n
    · obtain ⟨cs', hs, hb⟩ := wset_blk hB off n v k
      have hcell := hb.cell (off + (n - 1 - k))
      have hfr := hb.frozen (off + (n - 1 - k))
      obtain ⟨x, hx⟩ : ∃ x, cs'[off + (n - 1 - k)]? = some x := ⟨_, Array.getElem?_eq_getElem (by omega)⟩
      rw [hx] at hcell
      clear hx hb hs
      go_wp2
      go_roundw
      case rel => exact ⟨k + 1, by omega, by go_num, rfl⟩
      case measure => simp [intOf]; omega
    · obtain rfl : k = n := by omega
      go_wp2
      go_end0
      exact ⟨rfl, rfl⟩
/-- The cells behind k rounds of put. -/
def cset (cs : Array Value) (off n : Nat) (v : Int) : Nat → Array Value
  | 0 => cs
  | k + 1 => (cset cs off n v k).setIfInBounds (off + (n - 1 - k)) (.int .u8 (bt v k))
theorem wset_cset {w : World} {B : Nat} {cs : Array Value} {t : TypeId} (h : Blk w B cs t) (off n : Nat) (v : Int) (k : Nat) : Blk (wset w B off n v k) B (cset cs off n v k) t ∧ Below B w (wset w B off n v k) := by
  induction k with
  | zero => exact ⟨h, Below.refl _ _⟩
  | succ k ih => exact ⟨ih.1.set_same rfl, ih.2.setCell (Nat.le_refl _) _⟩
theorem put_b (B off n cap : Nat) (v : Int) (w : World) (cs cs' : Array Value) (t : TypeId) (hB : Blk w B cs t) (hn : off + n ≤ cs.size) (hn8 : n ≤ 8) (hv : 0 ≤ v) (hv' : v ≤ 18446744073709551615) (he : cset cs off n v n = cs') :
    Calls Try.prog 52 #[.slice (some ⟨B, off, none⟩) n cap, .int .u64 v] w fun e w' => e = .returned (.tuple #[]) ∧ Blk w' B cs' t ∧ Below B w w' :=
  (put_any B off n cap v w cs t hB hn hn8 hv hv').mono fun e w' ⟨h1, h2⟩ => by
    subst h2 he; exact ⟨h1, (wset_cset hB off n v n).1, (wset_cset hB off n v n).2⟩
/-- Cells that hold bytes. -/
def u8s (xs : List Int) : Array Value := (xs.map (Value.int .u8)).toArray
/-- The bytes behind k rounds of put. -/
def lset (xs : List Int) (off n : Nat) (v : Int) : Nat → List Int
  | 0 => xs
  | k + 1 => (lset xs off n v k).set (off + (n - 1 - k)) (bt v k)
theorem cset_u8s (xs : List Int) (off n : Nat) (v : Int) (k : Nat) : cset (u8s xs) off n v k = u8s (lset xs off n v k) := by
  induction k with
  | zero => rfl
  | succ k ih => rw [cset, ih, lset]; simp [u8s, List.map_set]
theorem put_u8 (B off n cap : Nat) (v : Int) (w : World) (xs xs' : List Int) (t : TypeId) (hB : Blk w B (u8s xs) t) (hn : off + n ≤ xs.length) (hn8 : n ≤ 8) (hv : 0 ≤ v) (hv' : v ≤ 18446744073709551615) (he : lset xs off n v n = xs') :
    Calls Try.prog 52 #[.slice (some ⟨B, off, none⟩) n cap, .int .u64 v] w fun e w' => e = .returned (.tuple #[]) ∧ Blk w' B (u8s xs') t ∧ Below B w w' :=
  put_b B off n cap v w (u8s xs) (u8s xs') t hB (by simpa [u8s] using hn) hn8 hv hv' (by rw [cset_u8s, he])
/-- The number of bytes, the highest one first. -/
def numB (l : List UInt8) : Int := l.foldl (fun v c => v * 256 + (c.toNat : Int)) 0
theorem numB_snoc (l : List UInt8) (c : UInt8) : numB (l ++ [c]) = numB l * 256 + (c.toNat : Int) := by unfold numB; simp
theorem numB_rng (l : List UInt8) : 0 ≤ numB l ∧ numB l < 256 ^ l.length := by
  unfold numB
  suffices ∀ (l : List UInt8) (a m : Int), 0 ≤ a → a < m → 0 ≤ l.foldl (fun v c => v * 256 + (c.toNat : Int)) a ∧ l.foldl (fun v c => v * 256 + (c.toNat : Int)) a < m * 256 ^ l.length by
    have h := this l 0 1 (by omega) (by omega); omega
  intro l
  induction l with
  | nil => intro a m h0 h1; rw [List.length_nil, Int.pow_zero, Int.mul_one]; exact ⟨h0, h1⟩
  | cons c l ih =>
    intro a m h0 h1
    have hc : (c.toNat : Int) < 256 := by have := c.toNat_lt; omega
    have h := ih (a * 256 + (c.toNat : Int)) (m * 256) (by omega) (by omega)
    rw [List.length_cons, Int.pow_succ, Int.mul_comm (256 ^ l.length) 256, ← Int.mul_assoc]
    exact h
theorem or8 (v c : Int) (hv : 0 ≤ v) (hv' : v < 72057594037927936) (hc : 0 ≤ c) (hc' : c ≤ 255) : bits .or .u64 (v * 256) c = v * 256 + c := by
  rw [u64_or _ _ (by omega) (by omega) hc (by omega), nat_join 8 _ _ (by omega) (by omega)]
  omega
theorem pow_le8 {k : Nat} (h : k ≤ 7) : (256 : Int) ^ k ≤ 72057594037927936 := by
  have := Nat.pow_le_pow_right (n := 256) (by decide) h
  have e : (256 : Nat) ^ 7 = 72057594037927936 := by decide
  rw [e] at this
  have h2 : ((256 ^ k : Nat) : Int) = (256 : Int) ^ k := Int.natCast_pow 256 k
  omega
set_option maxHeartbeats 400000 in
theorem get_any (s : ByteArray) (w : World) (hs : s.size ≤ 8) :
    Calls Try.prog 53 #[.string s] w fun e w' => e = .returned (.int .u64 (numB s.data.toList)) ∧ w = w' := by
  have hlen : s.data.toList.length = s.size := Array.length_toList
  have hfin := hide (show s.data.toList.take s.size = s.data.toList from List.take_of_length_le (by rw [hlen]; exact Nat.le_refl _))
  have hlen' := hide hlen; clear hlen
  go_enter Try.func53, Try.ntmps53
  go_wp2
  go_loop [3, 7] (fun t i => ∃ k : Nat, k ≤ s.size ∧ i = .int .i64 k ∧ t = .int .u64 (numB (s.data.toList.take k))) (fun _ i => s.size - (intOf i).toNat)
  case atStart => exact ⟨0, Nat.zero_le _, rfl, rfl⟩
  case round =>
    obtain ⟨k, hk, rfl, rfl⟩ := hrel
    by_cases hlt : k < s.size
    · have hr := numB_rng (s.data.toList.take k)
      rw [List.length_take, hlen'.out, Nat.min_eq_left hk] at hr
      have hp := pow_le8 (k := k) (by omega)
      have hr1 : 0 ≤ numB (s.data.toList.take k) := hr.1
      have hr2 : numB (s.data.toList.take k) < 72057594037927936 := by omega
      clear hr hp
      have hq : k < s.data.toList.length := by rw [hlen'.out]; exact hlt
      have hs1 := hide (show numB (s.data.toList.take (k + 1)) = numB (s.data.toList.take k) * 256 + (s[k].toNat : Int) by
        rw [List.take_succ_eq_append_getElem hq, numB_snoc]; rfl)
      have hc := s[k].toNat_lt
      have ho := or8 (numB (s.data.toList.take k)) (s[k].toNat : Int) hr1 hr2 (by omega) (by omega)
      go_wp2
      go_round
      case rel => exact ⟨k + 1, by omega, by go_num, by rw [hs1.out]⟩
      case measure => simp [intOf]; omega
    · obtain rfl : k = s.size := by omega
      go_wp2
      go_ret
      exact ⟨reti (by rw [hfin.out]), rfl⟩
end Go.Proofs.Ytapikbgloagnkaa
