/-
  The sum of bytes, in plain numbers, and the walks of ipv4.Sum and of its reference. Conditions: a string that is not too long.
-/
import Derived.Test.YtljpiofpfankoaaNum
import Derived.Test.YtljpiofpfankoaaProg
import Derived.WalkKit
import Derived.BigQuiet
import Derived.WalkMore
import Derived.Laws.BytesArg
import Derived.Laws.Concat
namespace Go.Proofs.Ytljpiofpfankoaa
open Go.RowKit
set_option linter.unusedVariables false
set_option linter.unusedSimpArgs false
/-- A string of these bytes. -/
abbrev SV (l : List Int) : Value := .string (strOfNums l)
/-- Numbers that are bytes. -/
def Byt (l : List Int) : Prop := ∀ x ∈ l, 0 ≤ x ∧ x ≤ 255
theorem Byt.get {l : List Int} (h : Byt l) (k : Nat) : 0 ≤ l.getD k 0 ∧ l.getD k 0 ≤ 255 := by
  by_cases hk : k < l.length
  · have e : l.getD k 0 = l[k] := by simp [hk]
    rw [e]; exact h _ (List.getElem_mem hk)
  · have e : l.getD k 0 = 0 := by simp [show l.length ≤ k by omega]
    rw [e]; omega
theorem sv_size (l : List Int) : (strOfNums l).size = l.length := strOfNums_size l
theorem sv_get {l : List Int} (h : Byt l) {k : Nat} {x : Int} (hk : k < l.length) (hx : l.getD k 0 = x) (hs : k < (strOfNums l).size) : (((strOfNums l)[k]'hs).toNat : Int) = x := by
  have e : l.getD k 0 = l[k] := by simp [hk]
  have hr := h _ (List.getElem_mem hk)
  rw [← hx, e]
  have hg : (strOfNums l)[k]'hs = UInt8.ofNat (l[k]).toNat := by
    show (strOfNums l).data[k] = _
    simp [strOfNums]
  rw [hg]
  have : (l[k]).toNat < 256 := by omega
  simp [UInt8.toNat_ofNat', Nat.mod_eq_of_lt this]; omega
/-- An index of a string. -/
theorem sv_idx {l : List Int} (h : Byt l) (k : Nat) (x : Int) (hk : k < l.length) (hx : l.getD k 0 = x) (v : World) : (Instr.index 9 (SV l) (.int .i64 k)).run Try.prog v = .ok (.int .u8 x) v := by
  have hs : k < (strOfNums l).size := by rw [sv_size]; exact hk
  rw [run_index_string v 9 (strOfNums l) .i64 k Try.underlying9, dif_pos ⟨by omega, by omega⟩]
  have := sv_get h hk hx hs
  simp only [Int.toNat_natCast]
  rw [this]
/-- The sum's canonical form. -/
def csum (n : Int) : Int := if n = 0 then 0 else (n - 1) % 65535 + 1
theorem csum_rng {n : Int} (h : 0 ≤ n) : 0 ≤ csum n ∧ csum n ≤ 65535 := by unfold csum; split <;> omega
theorem csum_fold {x : Int} (h : 0 ≤ x) (h' : x ≤ 131070) : x % 65536 + x / 65536 = csum x := by unfold csum; split <;> omega
theorem csum_small {x : Int} (h : 0 ≤ x) (h' : x ≤ 65535) : csum x = x := by unfold csum; split <;> omega
theorem csum_add {a v : Int} (h : 0 ≤ a) (hv : 0 ≤ v) : csum (csum a + v) = csum (a + v) := by
  unfold csum
  by_cases h0 : a = 0
  · rw [if_pos h0]; subst h0; rfl
  · rw [if_neg h0, if_neg (by omega), if_neg (by omega)]; omega
theorem csum_step {x : Int} (h : 0 ≤ x) : csum (x % 65536 + x / 65536) = csum x := by
  unfold csum
  by_cases h0 : x = 0
  · subst h0; rfl
  · rw [if_neg h0, if_neg (by omega)]; omega
/-- The words' sum of the first k bytes. -/
def wk (l : List Int) : Nat → Int
  | 0 => 0
  | k + 1 => wk l k + (if k % 2 = 0 then 256 * l.getD k 0 else l.getD k 0)
theorem wk_rng {l : List Int} (h : Byt l) (k : Nat) : 0 ≤ wk l k ∧ wk l k ≤ k * 65280 := by
  induction k with
  | zero => simp [wk]
  | succ k ih => have := h.get k; unfold wk; split <;> omega
def sumS (l : List Int) : Int := csum (wk l l.length)
theorem band16 {x : Int} (h0 : 0 ≤ x) (h1 : x < 4294967296) : bits BinOp.and IntKind.u32 x 65535 = x % 65536 := by
  have h := bits_mask .u32 32 (by decide) (fun n h0 h1 => by rw [IntKind.wrap_u32]; omega) 16 (by decide) x h0 (by omega)
  have e : ((2 : Int) ^ 16 - 1) = 65535 := by decide
  have e2 : ((2 : Int) ^ 16) = 65536 := by decide
  rwa [e, e2] at h
theorem csum_next {a c v x : Int} (ha : 0 ≤ a) (hv : 0 ≤ v) (hc : csum a = c) (h1 : c + v ≤ 131070) (hx : x = (c + v) % 65536 + (c + v) / 65536) : csum (a + v) = x := by
  subst hc hx
  have := csum_rng ha
  rw [csum_fold (by omega) h1, csum_add ha hv]
theorem par_t {k : Nat} (h : k % 2 = 0) : (((k : Int) % 2) == 0) = true := beq_iff_eq.2 (by omega)
theorem par_f {k : Nat} (h : ¬ k % 2 = 0) : (((k : Int) % 2) == 0) = false := beq_eq_false_iff_ne.2 (by omega)
set_option maxHeartbeats 1000000 in
theorem ipSum (l : List Int) (w : World) (hl : Byt l) (hn : l.length ≤ 9223372036854775807) (r : Int) (hr : sumS l = r) :
    Calls Try.prog 57 #[SV l] w fun e w' => e = .returned (.int .u16 r) ∧ w = w' := by
  have Hr := hide hr; clear hr
  have hsz := sv_size l
  have Hl := hide hl; clear hl
  go_enter Try.func57, Try.ntmps57
  go_wp2
  go_loop [3, 8] (fun t i => ∃ (k : Nat) (c : Int), k ≤ l.length ∧ i = .int .i64 k ∧ t = .int .u32 c ∧ Hid (csum (wk l k) = c) ∧ 0 ≤ c ∧ c ≤ 65535) (fun _ i => l.length - (intOf i).toNat)
  case atStart => exact ⟨0, 0, Nat.zero_le _, rfl, rfl, rfl, by omega, by omega⟩
  case round =>
    obtain ⟨k, c, hk, rfl, rfl, hc, c0, c1⟩ := hrel
    by_cases hlt : k < l.length
    · obtain ⟨z, hz⟩ : ∃ z, l.getD k 0 = z := ⟨_, rfl⟩
      have hzr := Hl.out.get k
      rw [hz] at hzr
      have hix := sv_idx Hl.out k z hlt hz
      have hw := wk_rng Hl.out k
      have hsp : Hid (wk l (k + 1) = wk l k + (if k % 2 = 0 then 256 * z else z)) := by show wk l (k + 1) = _; rw [← hz]; rfl
      clear hz
      by_cases hp : k % 2 = 0
      · have hp1 := par_t hp
        have hb := band16 (x := c + z * 256) (by omega) (by omega)
        have hs := hsp.out; rw [if_pos hp] at hs
        have hN := hide (csum_next (v := 256 * z) hw.1 (by omega) hc.out (by omega) rfl)
        rw [← hs] at hN
        clear hs hsp hc
        go_wp2
        go_round
        case rel => exact ⟨k + 1, _, by omega, by go_num, rfl, hide (hN.out.trans (by omega)), by omega, by omega⟩
        case measure => simp [intOf]; omega
      · have hp1 := par_f hp
        have hb := band16 (x := c + z) (by omega) (by omega)
        have hs := hsp.out; rw [if_neg hp] at hs
        have hN := hide (csum_next (v := z) hw.1 (by omega) hc.out (by omega) rfl)
        rw [← hs] at hN
        clear hs hsp hc
        go_wp2
        go_round
        case rel => exact ⟨k + 1, _, by omega, by go_num, rfl, hide (hN.out.trans (by omega)), by omega, by omega⟩
        case measure => simp [intOf]; omega
    · obtain rfl : k = l.length := by omega
      have hres : c = r := hc.out.symm.trans Hr.out
      have hm : c % 65536 = c := by omega
      go_wp2
      go_ret
      subst hres
      first | exact ⟨rfl, rfl⟩ | exact ⟨by rw [hm], rfl⟩
/-- The reference's rounds of folding: what is left is small soon. -/
def FoldR (i : Nat) (n : Int) : Prop := 0 ≤ n ∧ (i = 0 → n ≤ 26112000000) ∧ (i = 1 → n ≤ 530000) ∧ (i = 2 → n ≤ 65543) ∧ (3 ≤ i → n ≤ 65535)
theorem FoldR.next {i : Nat} {n : Int} (h : FoldR i n) (hb : ¬ n < 65536) : FoldR (i + 1) (n % 65536 + n / 65536) := by
  unfold FoldR at *
  have : i = 0 ∨ i = 1 ∨ i = 2 ∨ 3 ≤ i := by omega
  rcases this with rfl | rfl | rfl | h3 <;> refine ⟨?_, ?_, ?_, ?_, ?_⟩ <;> omega
set_option maxHeartbeats 1000000 in
theorem ipRSum (l : List Int) (w : World) (hl : Byt l) (hn : l.length ≤ 400000) (r : Int) (hr : sumS l = r) :
    Calls Try.prog 50 #[SV l] w fun e w' => e = .returned (.int .i64 r) ∧ w = w' := by
  have Hr := hide hr; clear hr
  have hsz := sv_size l
  have Hl := hide hl; clear hl
  go_enter Try.func50, Try.ntmps50
  go_wp2
  go_loop [3, 7] (fun t i => ∃ (k : Nat) (c : Int), k ≤ l.length ∧ i = .int .i64 k ∧ t = .int .i64 c ∧ Hid (wk l k = c)) (fun _ i => l.length - (intOf i).toNat)
  case atStart => exact ⟨0, 0, Nat.zero_le _, rfl, rfl, rfl⟩
  case round =>
    obtain ⟨k, c, hk, rfl, rfl, hc⟩ := hrel
    have hw := wk_rng Hl.out k
    rw [hc.out] at hw
    by_cases hlt : k < l.length
    · obtain ⟨z, hz⟩ : ∃ z, l.getD k 0 = z := ⟨_, rfl⟩
      have hzr := Hl.out.get k
      rw [hz] at hzr
      have hix := sv_idx Hl.out k z hlt hz
      have hsp : Hid (wk l (k + 1) = wk l k + (if k % 2 = 0 then 256 * z else z)) := by show wk l (k + 1) = _; rw [← hz]; rfl
      clear hz
      by_cases hp : k % 2 = 0
      · have hp1 := par_t hp
        have hs := hsp.out; rw [if_pos hp, hc.out] at hs
        have hN := hide hs
        clear hs hsp hc
        go_wp2
        go_round
        case rel => exact ⟨k + 1, _, by omega, by go_num, rfl, hN⟩
        case measure => simp [intOf]; omega
      · have hp1 := par_f hp
        have hs := hsp.out; rw [if_neg hp, hc.out] at hs
        have hN := hide hs
        clear hs hsp hc
        go_wp2
        go_round
        case rel => exact ⟨k + 1, _, by omega, by go_num, rfl, hN⟩
        case measure => simp [intOf]; omega
    · obtain rfl : k = l.length := by omega
      have hres : csum c = r := by rw [← hc.out]; exact Hr.out
      have HR := hide hres
      clear hres hc
      go_wp2
      go_loop [3, 27] (fun t i => ∃ (j : Nat) (n : Int), j ≤ 64 ∧ i = .int .i64 j ∧ t = .int .i64 n ∧ Hid (csum n = r) ∧ Hid (FoldR j n)) (fun _ i => 64 - (intOf i).toNat)
      case atStart => exact ⟨0, c, Nat.zero_le _, rfl, rfl, HR, by show FoldR 0 c; unfold FoldR; omega⟩
      case round =>
        clear HR
        obtain ⟨j, n, hj, rfl, rfl, hc, hf⟩ := hrel
        have hf0 := hf.out
        unfold FoldR at hf0
        by_cases hjl : j < 64
        · by_cases hb : n < 65536
          · have hres : n = r := (csum_small hf0.1 (by omega)).symm.trans hc.out
            go_wp2
            go_ret
            subst hres
            exact ⟨rfl, rfl⟩
          · have hN := hide (hf.out.next hb)
            have hC := hide ((csum_step hf0.1).trans hc.out)
            have hrg : 0 ≤ n ∧ n ≤ 26112000000 := by omega
            have ht1 : n.tmod 65536 = n % 65536 := Int.tmod_eq_emod_of_nonneg hrg.1
            have ht2 : n.tdiv 65536 = n / 65536 := Int.tdiv_eq_ediv_of_nonneg hrg.1
            clear hf hf0 hc
            go_wp2
            go_round
            case rel => exact ⟨j + 1, _, by omega, by go_num, rfl, hC, hN⟩
            case measure => simp [intOf]; omega
        · have hres : n = r := (csum_small hf0.1 (by omega)).symm.trans hc.out
          go_wp2
          go_ret
          subst hres
          exact ⟨rfl, rfl⟩
end Go.Proofs.Ytljpiofpfankoaa
