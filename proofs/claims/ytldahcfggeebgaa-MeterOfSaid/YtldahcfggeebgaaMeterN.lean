/-
  The walks of slices.Contains and of the reference's has: whether a number is among those of a slice. Conditions: a slice whose cells are known.
-/
import Derived.Test.YtldahcfggeebgaaMeterF
namespace Go.Proofs.Ytldahcfggeebgaa
open Go.RowKit
set_option linter.unusedVariables false
set_option linter.unusedSimpArgs false
/-- A slice of numbers: its cells. -/
def RowI (w : World) (a : Option Addr) (len : Nat) (zs : List Int) : Prop :=
  zs.length = len ∧ (len = 0 ∨ ∃ b off, a = some ⟨b, off, none⟩ ∧ b < w.heap.size ∧ ∀ i, i < len → w.cell? ⟨b, off + i, none⟩ = some (.int .i64 (zs.getD i 0)))
theorem RowI.below {w w' : World} {a : Option Addr} {len : Nat} {zs : List Int} (h : RowI w a len zs) (hb : Below w.heap.size w w') : RowI w' a len zs := by
  refine ⟨h.1, ?_⟩
  rcases h.2 with h | ⟨b, off, rfl, hB, hc⟩
  · exact .inl h
  · exact .inr ⟨b, off, rfl, Nat.lt_of_lt_of_le hB hb.size, fun i hi => (hb.cell (p := ⟨b, off + i, none⟩) hB).trans (hc i hi)⟩
theorem rowi_lt {w : World} {b o : Nat} {v : Value} (h : w.cell? ⟨b, o, none⟩ = some v) : b < w.heap.size := by
  by_cases hb : b < w.heap.size
  · exact hb
  · simp [World.cell?, Array.getElem?_eq_none (show w.heap.size ≤ b by omega)] at h
theorem rowi_of {w : World} {a : Option Addr} {len cap : Nat} {zs : List Int} (h : IsRow .i64 w a len cap zs) :
    RowI w a len (zs.take len) ∧ len ≤ maxLen ∧ (∀ z ∈ zs.take len, -9223372036854775808 ≤ z ∧ z ≤ 9223372036854775807) := by
  rcases h with ⟨rfl, rfl, rfl, rfl⟩ | ⟨x, rfl, hl, hm, hz, hcell, hwz⟩
  · exact ⟨⟨rfl, .inl rfl⟩, by unfold maxLen; omega, by simp⟩
  · have hlen : (zs.take len).length = len := by rw [List.length_take]; omega
    refine ⟨⟨hlen, ?_⟩, by omega, fun z hz => bounds_i64 (hwz z (List.mem_of_mem_take hz))⟩
    by_cases h0 : len = 0
    · exact .inl h0
    · right
      obtain ⟨b, off, spot⟩ := x
      have hc := hcell 0 (by omega)
      have hspot : spot = none := by simpa [Addr.add] using World.cell?_spot hc
      subst hspot
      have hall : ∀ i, i < len → w.cell? ⟨b, off + i, none⟩ = some (.int .i64 ((zs.take len).getD i 0)) := by
        intro i hi
        have h1 := hcell i (by omega)
        have h2 : (zs.take len).getD i 0 = zs.getD i 0 := by simp [hi]
        rw [h2]
        by_cases h0 : i = 0
        · subst h0; simpa [Addr.add] using h1
        · simpa [Addr.add, h0] using h1
      exact ⟨b, off, rfl, rowi_lt (hall 0 (by omega)), hall⟩
theorem takei_snoc (zs : List Int) (k : Nat) (h : k < zs.length) : zs.take (k + 1) = zs.take k ++ [zs.getD k 0] := by
  rw [List.take_succ_eq_append_getElem h]; simp [h]
theorem mem_snoc' {zs : List Int} {k : Nat} {z c : Int} (hs : zs.take (k + 1) = zs.take k ++ [z]) (hn : c ∉ zs.take k) (hz : z ≠ c) : c ∉ zs.take (k + 1) := by
  rw [hs]; simp [hn, Ne.symm hz]
theorem mem_now {zs : List Int} {k : Nat} {z c : Int} (hs : zs.take (k + 1) = zs.take k ++ [z]) (hz : z = c) : c ∈ zs := by
  have : c ∈ zs.take (k + 1) := by rw [hs]; simp [hz]
  exact List.mem_of_mem_take this
theorem rHas (a : Option Addr) (len cap : Nat) (zs : List Int) (c : Int) (w : World) (hr : RowI w a len zs) (hm : len ≤ maxLen) :
    Calls Try.prog 38 #[.slice a len cap, .int .i64 c] w fun e w' => e = .returned (.bool (decide (c ∈ zs))) ∧ w = w' := by
  obtain ⟨hlen, hr⟩ := hr
  have hm' : len ≤ 9223372036854775807 := hm
  have hfin := hide (show zs.take len = zs from List.take_of_length_le (by omega))
  have hlen' := hide hlen; clear hlen
  have hr' := hide hr; clear hr
  go_enter Try.func38, Try.ntmps38
  go_wp2
  go_loop [9] (fun i => ∃ k : Nat, k ≤ len ∧ i = .int .i64 k ∧ Hid (c ∉ zs.take k)) (fun i => len - (intOf i).toNat)
  case atStart => exact ⟨0, Nat.zero_le _, rfl, by simp [Hid]⟩
  case round =>
    obtain ⟨k, hk, rfl, hn⟩ := hrel
    by_cases hlt : k < len
    · obtain ⟨b, off, rfl, hB, hc⟩ : ∃ b off, a = some ⟨b, off, none⟩ ∧ b < w.heap.size ∧ ∀ i, i < len → w.cell? ⟨b, off + i, none⟩ = some (.int .i64 (zs.getD i 0)) := by
        rcases hr'.out with h | h
        · omega
        · exact h
      have hcell := hc k hlt
      clear hc
      have hs := takei_snoc zs k (by rw [hlen'.out]; exact hlt)
      obtain ⟨z, hz⟩ : ∃ z, zs.getD k 0 = z := ⟨_, rfl⟩
      rw [hz] at hcell hs
      by_cases hzc : z = c
      · have d1 : (z == c) = true := beq_iff_eq.2 hzc
        have hin := hide (mem_now hs hzc); clear hs hz hzc
        go_wp2
        go_ret
        exact ⟨retb (decide_eq_true hin.out).symm, rfl⟩
      · have d1 : (z == c) = false := beq_eq_false_iff_ne.2 hzc
        have hn' := hide (mem_snoc' hs hn.out hzc); clear hs hz hzc
        go_wp2
        go_round
        case rel => exact ⟨k + 1, by omega, by go_num, hn'⟩
        case measure => simp [intOf]; omega
    · obtain rfl : k = len := by omega
      go_wp2
      go_ret
      exact ⟨retb (decide_eq_false (by have := hn.out; rwa [hfin.out] at this)).symm, rfl⟩
theorem sIndex (a : Option Addr) (len cap : Nat) (zs : List Int) (c : Int) (w : World) (hr : RowI w a len zs) (hm : len ≤ maxLen) :
    Calls Try.prog 47 #[.slice a len cap, .int .i64 c] w fun e w' => (∃ r : Int, e = .returned (.int .i64 r) ∧ (0 ≤ r ↔ c ∈ zs)) ∧ w = w' := by
  obtain ⟨hlen, hr⟩ := hr
  have hm' : len ≤ 9223372036854775807 := hm
  have hfin := hide (show zs.take len = zs from List.take_of_length_le (by omega))
  have hlen' := hide hlen; clear hlen
  have hr' := hide hr; clear hr
  go_enter Try.func47, Try.ntmps47
  go_wp2
  go_loop [8] (fun i => ∃ k : Nat, k ≤ len ∧ i = .int .i64 k ∧ Hid (c ∉ zs.take k)) (fun i => len - (intOf i).toNat)
  case atStart => exact ⟨0, Nat.zero_le _, rfl, by simp [Hid]⟩
  case round =>
    obtain ⟨k, hk, rfl, hn⟩ := hrel
    by_cases hlt : k < len
    · obtain ⟨b, off, rfl, hB, hc⟩ : ∃ b off, a = some ⟨b, off, none⟩ ∧ b < w.heap.size ∧ ∀ i, i < len → w.cell? ⟨b, off + i, none⟩ = some (.int .i64 (zs.getD i 0)) := by
        rcases hr'.out with h | h
        · omega
        · exact h
      have hcell := hc k hlt
      clear hc
      have hs := takei_snoc zs k (by rw [hlen'.out]; exact hlt)
      obtain ⟨z, hz⟩ : ∃ z, zs.getD k 0 = z := ⟨_, rfl⟩
      rw [hz] at hcell hs
      by_cases hzc : z = c
      · have d1 : (c == z) = true := beq_iff_eq.2 hzc.symm
        have hin := hide (mem_now hs hzc); clear hs hz hzc
        go_wp2
        go_ret
        exact ⟨⟨_, rfl, ⟨fun _ => hin.out, fun _ => by omega⟩⟩, rfl⟩
      · have d1 : (c == z) = false := beq_eq_false_iff_ne.2 (Ne.symm hzc)
        have hn' := hide (mem_snoc' hs hn.out hzc); clear hs hz hzc
        go_wp2
        go_round
        case rel => exact ⟨k + 1, by omega, by go_num, hn'⟩
        case measure => simp [intOf]; omega
    · obtain rfl : k = len := by omega
      go_wp2
      go_ret
      have hno : c ∉ zs := by have := hn.out; rwa [hfin.out] at this
      exact ⟨⟨_, rfl, ⟨fun h => absurd h (by omega), fun h => absurd h hno⟩⟩, rfl⟩
theorem sContains (a : Option Addr) (len cap : Nat) (zs : List Int) (c : Int) (w : World) (hr : RowI w a len zs) (hm : len ≤ maxLen) (b : Bool) (hb : decide (c ∈ zs) = b) :
    Calls Try.prog 37 #[.slice a len cap, .int .i64 c] w fun e w' => e = .returned (.bool b) ∧ w = w' := by
  go_enter Try.func37, Try.ntmps37
  go_wp2_with fail
  refine (sIndex a len cap zs c _ hr hm).mono ?_
  rintro e u ⟨⟨r, rfl, hd⟩, rfl⟩
  replace hd : decide (0 ≤ r) = b := by rw [← hb]; exact decide_eq_decide.2 hd
  clear hb hr
  go_wp2
  go_ret
  exact ⟨rfl, rfl⟩
end Go.Proofs.Ytldahcfggeebgaa
