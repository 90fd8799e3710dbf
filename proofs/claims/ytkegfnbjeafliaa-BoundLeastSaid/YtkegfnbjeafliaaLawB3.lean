/-
  The statements BoundMuls and BoundLeast: the product of any two numbers, or that it is above any bound; the least of any numbers. Conditions: none.
-/
import Derived.Test.YtkegfnbjeafliaaWithin
import Derived.Test.YtkegfnbjeafliaaRefB
import Derived.Test.YtkegfnbjeafliaaFrame
namespace Go.Proofs.Ytkegfnbjeafliaa
open Go.ChangeShapes Go.WideShapes Go.ChangeAt Go.RowKit
open Go.ChangeMaps (open_string shut_string)
set_option linter.unusedVariables false

theorem BoundMuls_walk (a : Int) (ha : 0 ≤ a ∧ a ≤ 18446744073709551615) (b : Int) (hb : 0 ≤ b ∧ b ≤ 18446744073709551615) (m : Int) (hm : 0 ≤ m ∧ m ≤ 18446744073709551615) (w : World) :
    Calls Try.prog 3 #[.int .u64 a, .int .u64 b, .int .u64 m] w fun e w' => e = .returned (.bool true) ∧ Below w.heap.size w w' := by
  obtain ⟨ha, ha'⟩ := ha; obtain ⟨hb, hb'⟩ := hb; obtain ⟨hm, hm'⟩ := hm
  have hp := mul_rng64 a b ha ha' hb hb'
  have hi128 : In128 (a * b) := by unfold In128; omega
  rcases Int.lt_or_le m (a * b) with h | h
  · go_enter Try.func3, Try.ntmps3
    go_wp2_with fail
    refine (rMul a b _ ha ha' hb hb').mono ?_
    rintro e w1 ⟨rfl, hb1⟩
    have hz1 := hb1.size
    (try simp at hz1)
    obtain ⟨hc1, hf1⟩ := bcell hb1
    try have z1 := Nat.lt_of_succ_le hz1
    have k1 : Below w.heap.size w w1 := by refine Below.trans ?_ (hb1.mono ?_) <;> (repeat' (first | (with_reducible exact Below.refl _ _) | (with_reducible assumption) | (with_reducible refine below_drewN ?_ _) | (with_reducible refine Below.drew ?_) | (with_reducible refine Below.alloc ?_ ?_ _) | (with_reducible refine Below.setCell ?_ ?_ _) | go_size))
    have g1 := k1
    clear hb1 k1
    go_wp2_with fail
    refine (within_no (a * b) m _ hi128 hm hm' h).mono ?_
    rintro e w2 ⟨rfl, hb2⟩
    have hz2 := hb2.size
    (try simp at hz2)
    obtain ⟨hc2, hf2⟩ := bcell hb2
    try have z2 := Nat.lt_of_succ_le hz2
    have k2 : Below w1.heap.size w1 w2 := by refine Below.trans ?_ (hb2.mono ?_) <;> (repeat' (first | (with_reducible exact Below.refl _ _) | (with_reducible assumption) | (with_reducible refine below_drewN ?_ _) | (with_reducible refine Below.drew ?_) | (with_reducible refine Below.alloc ?_ ?_ _) | (with_reducible refine Below.setCell ?_ ?_ _) | go_size))
    have g2 := g1.trans (k2.mono (show w.heap.size ≤ w1.heap.size by omega))
    clear hb2 k2
    go_wp2_with fail
    refine (bMul_no a b m _ ha hb hm hm' h).mono ?_
    rintro e u3 ⟨rfl, rfl⟩
    go_wp2_with fail
    refine (over_true _).mono ?_
    rintro e w4 ⟨rfl, hb4⟩
    have hz4 := hb4.size
    (try simp at hz4)
    obtain ⟨hc4, hf4⟩ := bcell hb4
    try have z4 := Nat.lt_of_succ_le hz4
    have k4 : Below w2.heap.size w2 w4 := by refine Below.trans ?_ (hb4.mono ?_) <;> (repeat' (first | (with_reducible exact Below.refl _ _) | (with_reducible assumption) | (with_reducible refine below_drewN ?_ _) | (with_reducible refine Below.drew ?_) | (with_reducible refine Below.alloc ?_ ?_ _) | (with_reducible refine Below.setCell ?_ ?_ _) | go_size))
    have g4 := g2.trans (k4.mono (show w.heap.size ≤ w2.heap.size by omega))
    clear hb4 k4
    go_wp2
    go_ret
    exact ⟨rfl, by (repeat' (first | (with_reducible exact Below.refl _ _) | (with_reducible assumption) | (with_reducible refine below_drewN ?_ _) | (with_reducible refine Below.drew ?_) | (with_reducible refine Below.alloc ?_ ?_ _) | (with_reducible refine Below.setCell ?_ ?_ _) | go_size))⟩
  · go_enter Try.func3, Try.ntmps3
    go_wp2_with fail
    refine (rMul a b _ ha ha' hb hb').mono ?_
    rintro e w1 ⟨rfl, hb1⟩
    have hz1 := hb1.size
    (try simp at hz1)
    obtain ⟨hc1, hf1⟩ := bcell hb1
    try have z1 := Nat.lt_of_succ_le hz1
    have k1 : Below w.heap.size w w1 := by refine Below.trans ?_ (hb1.mono ?_) <;> (repeat' (first | (with_reducible exact Below.refl _ _) | (with_reducible assumption) | (with_reducible refine below_drewN ?_ _) | (with_reducible refine Below.drew ?_) | (with_reducible refine Below.alloc ?_ ?_ _) | (with_reducible refine Below.setCell ?_ ?_ _) | go_size))
    have g1 := k1
    clear hb1 k1
    go_wp2_with fail
    refine (within_ok (a * b) m _ hi128 hm hm' h).mono ?_
    rintro e w2 ⟨rfl, hb2⟩
    have hz2 := hb2.size
    (try simp at hz2)
    obtain ⟨hc2, hf2⟩ := bcell hb2
    try have z2 := Nat.lt_of_succ_le hz2
    have k2 : Below w1.heap.size w1 w2 := by refine Below.trans ?_ (hb2.mono ?_) <;> (repeat' (first | (with_reducible exact Below.refl _ _) | (with_reducible assumption) | (with_reducible refine below_drewN ?_ _) | (with_reducible refine Below.drew ?_) | (with_reducible refine Below.alloc ?_ ?_ _) | (with_reducible refine Below.setCell ?_ ?_ _) | go_size))
    have g2 := g1.trans (k2.mono (show w.heap.size ≤ w1.heap.size by omega))
    clear hb2 k2
    go_wp2_with fail
    refine (bMul_ok a b m _ ha hb hm hm' h).mono ?_
    rintro e u3 ⟨rfl, rfl⟩
    go_wp2_with fail
    refine (over_true _).mono ?_
    rintro e w4 ⟨rfl, hb4⟩
    have hz4 := hb4.size
    (try simp at hz4)
    obtain ⟨hc4, hf4⟩ := bcell hb4
    try have z4 := Nat.lt_of_succ_le hz4
    have k4 : Below w2.heap.size w2 w4 := by refine Below.trans ?_ (hb4.mono ?_) <;> (repeat' (first | (with_reducible exact Below.refl _ _) | (with_reducible assumption) | (with_reducible refine below_drewN ?_ _) | (with_reducible refine Below.drew ?_) | (with_reducible refine Below.alloc ?_ ?_ _) | (with_reducible refine Below.setCell ?_ ?_ _) | go_size))
    have g4 := g2.trans (k4.mono (show w.heap.size ≤ w2.heap.size by omega))
    clear hb4 k4
    go_wp2
    go_ret
    exact ⟨rfl, by (repeat' (first | (with_reducible exact Below.refl _ _) | (with_reducible assumption) | (with_reducible refine below_drewN ?_ _) | (with_reducible refine Below.drew ?_) | (with_reducible refine Below.alloc ?_ ?_ _) | (with_reducible refine Below.setCell ?_ ?_ _) | go_size))⟩

theorem lst_le (zs : List Int) : ∀ z ∈ zs, lst zs ≤ z := by
  unfold lst
  suffices ∀ (zs : List Int) (m : Int), zs.foldl min m ≤ m ∧ ∀ z ∈ zs, zs.foldl min m ≤ z from (this zs _).2
  intro zs
  induction zs with
  | nil => intro m; exact ⟨Int.le_refl _, by simp⟩
  | cons y ys ih =>
    intro m
    have h := ih (min m y)
    have h1 : min m y ≤ m := Int.min_le_left _ _
    have h2 : min m y ≤ y := Int.min_le_right _ _
    refine ⟨Int.le_trans h.1 h1, ?_⟩
    intro z hz
    rcases List.mem_cons.1 hz with rfl | hz
    · exact Int.le_trans h.1 h2
    · exact h.2 z hz
theorem lst_mem (zs : List Int) : lst zs = 9223372036854775808 ∨ lst zs ∈ zs := by
  unfold lst
  suffices ∀ (zs : List Int) (m : Int), zs.foldl min m = m ∨ zs.foldl min m ∈ zs from this zs _
  intro zs
  induction zs with
  | nil => intro m; exact .inl rfl
  | cons y ys ih =>
    intro m
    have hc : min m y = m ∨ min m y = y := by omega
    rcases ih (min m y) with h | h
    · rcases hc with hc | hc
      · left; show ys.foldl min (min m y) = m; rw [h, hc]
      · right; show ys.foldl min (min m y) ∈ y :: ys; rw [h, hc]; simp
    · right; exact List.mem_cons_of_mem _ h
/-- Whether the least is 2^63, or one of the first numbers. -/
def isIt (zs : List Int) (k : Nat) : Bool := (lst zs == 9223372036854775808) || (zs.take k).any (· == lst zs)
theorem isIt_zero (zs : List Int) : isIt zs 0 = (lst zs == 9223372036854775808) := by simp [isIt]
theorem isIt_succ (zs : List Int) (k : Nat) (h : k < zs.length) : isIt zs (k + 1) = (isIt zs k || (zs.getD k 0 == lst zs)) := by
  unfold isIt; rw [take_snoc' zs k h]; simp [Bool.or_assoc]
theorem isIt_all (zs : List Int) : isIt zs zs.length = true := by
  unfold isIt
  rw [List.take_of_length_le (Nat.le_refl _)]
  rcases lst_mem zs with h | h
  · simp [h]
  · rw [Bool.or_eq_true]; right; rw [List.any_eq_true]; exact ⟨_, h, by simp⟩
/-- What the walk needs of the slice. -/
theorem row_of {w : World} {a : Option Addr} {len cap : Nat} {zs : List Int} (h : IsRow .u64 w a len cap zs) :
    Row64 w a len (zs.take len) ∧ len ≤ maxLen ∧ (∀ z ∈ zs.take len, 0 ≤ z ∧ z ≤ 18446744073709551615) := by
  rcases h with ⟨rfl, rfl, rfl, rfl⟩ | ⟨x, rfl, hl, hm, hz, hcell, hwz⟩
  · exact ⟨⟨rfl, .inl rfl⟩, by unfold maxLen; omega, by simp⟩
  · have hlen : (zs.take len).length = len := by rw [List.length_take]; omega
    refine ⟨⟨hlen, ?_⟩, by omega, fun z hz => bounds_u64 (hwz z (List.mem_of_mem_take hz))⟩
    by_cases h0 : len = 0
    · exact .inl h0
    · right
      obtain ⟨b, off, spot⟩ := x
      have hc := hcell 0 (by omega)
      have hspot : spot = none := by simpa [Addr.add] using World.cell?_spot hc
      subst hspot
      refine ⟨b, off, rfl, fun i hi => ?_⟩
      have h1 := hcell i (by omega)
      have h2 : (zs.take len).getD i 0 = zs.getD i 0 := by simp [hi]
      rw [h2]
      by_cases h0 : i = 0
      · subst h0; simpa [Addr.add] using h1
      · simpa [Addr.add, h0] using h1
set_option maxHeartbeats 400000 in
theorem BoundLeast_walk (a : Option Addr) (len cap : Nat) (zs0 : List Int) (w : World) (h : IsRow .u64 w a len cap zs0) :
    Calls Try.prog 4 #[.slice a len cap] w fun e w' => e = .returned (.bool true) ∧ Below w.heap.size w w' := by
  obtain ⟨hr, hm, hz⟩ := row_of h
  clear h
  generalize zs0.take len = zs at hr hz
  unfold maxLen at hm
  rcases Nat.lt_or_ge 100 len with hl | hl
  · have hd : decide ((100 : Int) < (len : Int)) = true := decide_eq_true (by omega)
    clear hr hz
    go_enter Try.func4, Try.ntmps4
    go_wp2_with fail
    refine (over_true _).mono ?_
    rintro e w1 ⟨rfl, hb1⟩
    have hz1 := hb1.size
    (try simp at hz1)
    obtain ⟨hc1, hf1⟩ := bcell hb1
    try have z1 := Nat.lt_of_succ_le hz1
    have k1 : Below w.heap.size w w1 := by refine Below.trans ?_ (hb1.mono ?_) <;> (repeat' (first | (with_reducible exact Below.refl _ _) | (with_reducible assumption) | (with_reducible refine below_drewN ?_ _) | (with_reducible refine Below.drew ?_) | (with_reducible refine Below.alloc ?_ ?_ _) | (with_reducible refine Below.setCell ?_ ?_ _) | go_size))
    have g1 := k1
    clear hb1 k1
    go_wp2
    go_ret
    exact ⟨rfl, by (repeat' (first | (with_reducible exact Below.refl _ _) | (with_reducible assumption) | (with_reducible refine below_drewN ?_ _) | (with_reducible refine Below.drew ?_) | (with_reducible refine Below.alloc ?_ ?_ _) | (with_reducible refine Below.setCell ?_ ?_ _) | go_size))⟩
  · have hd : decide ((100 : Int) < (len : Int)) = false := decide_eq_false (by omega)
    have hlen := hide hr.1
    have hr' := hide hr; clear hr
    have hz' := hide hz; clear hz
    have hrng := lst_rng hz'.out
    have i0 := isIt_zero zs
    have iall := isIt_all zs
    rw [hlen.out] at iall
    have iall' := hide iall; clear iall
    have hnv : decide (lst zs ≤ 9223372036854775808) = true := decide_eq_true hrng.2
    go_enter Try.func4, Try.ntmps4
    go_wp2_with fail
    refine (bLeast a len cap zs _ hr'.out (by omega) hz'.out).mono ?_
    rintro e u1 ⟨rfl, rfl⟩
    go_wp2
    rw [← i0]
    clear i0
    go_loop [4, 17] (fun t i => ∃ k : Nat, k ≤ len ∧ i = .int .i64 k ∧ t = .bool (isIt zs k)) (fun _ i => len - (intOf i).toNat)
    case atStart => exact ⟨0, Nat.zero_le _, rfl, rfl⟩
    case round =>
      obtain ⟨k, hk, rfl, rfl⟩ := hrel
      by_cases hlt : k < len
      · have hs := hide (isIt_succ zs k (by rw [hlen.out]; exact hlt))
        have hmem : zs.getD k 0 ∈ zs := by have hq : k < zs.length := (by rw [hlen.out]; exact hlt); simp [hq]
        have hg : lst zs ≤ zs.getD k 0 := lst_le zs _ hmem
        have hg0 := hz'.out _ hmem
        clear hmem
        obtain ⟨b, off, rfl, hc⟩ : ∃ b off, a = some ⟨b, off, none⟩ ∧ ∀ i, i < len → w.cell? ⟨b, off + i, none⟩ = some (.int .u64 (zs.getD i 0)) := by
          rcases hr'.out.2 with h | h
          · omega
          · exact h
        have hcell := hc k hlt
        clear hc
        have hg' : lst zs ≤ zs[k]?.getD 0 := hg
        cases hb : isIt zs k
        all_goals
          go_wp2
          go_round
          case rel => exact ⟨k + 1, by omega, by go_num, by rw [hs.out, hb]; simp⟩
          case measure => simp [intOf]; omega
      · obtain rfl : k = len := by omega
        rw [iall'.out]
        go_wp2_with fail
        refine (over_true _).mono ?_
        rintro e w1 ⟨rfl, hb1⟩
        go_wp2
        go_ret
        exact ⟨rfl, hb1⟩
namespace boundMulsDone
theorem own : ownKnob Try.prog.godebug = none := by kernel_rfl
theorem laidOut : laidOutB Try.prog = true := by kernel_rfl
set_option maxRecDepth 100000 in
theorem lifted (os : Os) (started : os.Started) (H : Type) (enc : TypeId × Value → H) :
    ReturnsInHanded {} Try.checked os 3 .any (Rows.boundMulsSpec.pre6 enc Try.prog Try.f3 Rows.boundMulsRow.domain false) (Rows.boundMulsSpec.post enc Try.prog Try.f3 false true false false) := by
  refine returnsInHanded_of_change (C := Try.checked) own started (by kernel_rfl) Try.func3
    (ChangeSpec.witness6 (enc := enc) (C := Try.checked) false ⟨#[], #[.int .u64 0, .int .u64 0, .int .u64 0], []⟩ 8 (by kernel_rfl) (by kernel_rfl) (by kernel_rfl) (by kernel_rfl)) ?_
  intro W base args ds gs before hval0 hW hcnd _
  have hval : ∀ (j : Nat) t v, Try.f3.params[j]? = some t → args[j]? = some v → Value.okWide Try.prog W .any base t v := hval0
  have hW' := hW
  obtain ⟨p, q, hA0, hV, rfl, hfz, hnd⟩ := hW
  have hA : DataW.TrodAll enc Try.prog W 0 (fun _ => true) true Try.f3.params.toList args.toList ds p := hA0
  rw [Try.params3] at hA hval
  obtain ⟨v0, vs0, d0, ds0, p0, q0, hargs, rfl, rfl, h0, r0⟩ := trodAll_cons hA
  obtain ⟨v1, vs1, d1, ds1, p1, q1, rfl, rfl, rfl, h1, r1⟩ := trodAll_cons r0
  obtain ⟨v2, vs2, d2, ds2, p2, q2, rfl, rfl, rfl, h2, r2⟩ := trodAll_cons r1
  obtain ⟨rfl, rfl, rfl⟩ := trodAll_nil r2
  obtain rfl : args = #[v0, v1, v2] := by cases args; simp_all
  obtain ⟨rfl, rfl⟩ := trodVars_none hV
  obtain ⟨a0, rfl, rfl, rfl, wf0⟩ := open_int Try.underlying22 (hval 0 22 v0 rfl rfl) h0
  have b0 := bounds_u64 wf0
  obtain ⟨a1, rfl, rfl, rfl, wf1⟩ := open_int Try.underlying22 (hval 1 22 v1 rfl rfl) h1
  have b1 := bounds_u64 wf1
  obtain ⟨a2, rfl, rfl, rfl, wf2⟩ := open_int Try.underlying22 (hval 2 22 v2 rfl rfl) h2
  have b2 := bounds_u64 wf2
  clear hA0 hval0
  refine (BoundMuls_walk a0 b0 a1 b1 a2 b2 W).mono fun e W' ⟨he, bel⟩ => ?_
  subst he
  exact ⟨_, rfl, _, _, _, [], _, [], hW', trodAll_mk1 (shut_bool Try.underlying4 _), (trodAll_cons_mk (shut_int Try.underlying22 wf0) (trodAll_cons_mk (shut_int Try.underlying22 wf1) (trodAll_cons_mk (shut_int Try.underlying22 wf2) trodAll_mk0))), rfl, bel.frame _, fun h => by cases h⟩
theorem over : Rows.boundMulsRow.holds Try.pinned (OpenSpec.ofChange Rows.boundMulsSpec) :=
  OpenClaim.holds_of_wide 3 Try.f3 rfl rfl rfl rfl rfl rfl rfl ⟨rfl, rfl, rfl, rfl, rfl⟩ rfl rfl rfl rfl rfl (by kernel_rfl) Try.func3 (by kernel_rfl)
    (of_decide_eq_true (by kernel_rfl)) (by unfold Func.isWrapper; first | (rw [if_pos (by decide +kernel)]; kernel_rfl) | (rw [if_neg (by decide +kernel)]; exact ⟨rfl, rfl⟩))
    (fun os started H enc _ => lifted os started H enc)
end boundMulsDone
theorem BoundMuls_holds : Rows.BoundMulsSaid := boundMulsDone.over

namespace boundLeastDone
theorem own : ownKnob Try.prog.godebug = none := by kernel_rfl
theorem laidOut : laidOutB Try.prog = true := by kernel_rfl
set_option maxRecDepth 100000 in
theorem lifted (os : Os) (started : os.Started) (H : Type) (enc : TypeId × Value → H) :
    ReturnsInHanded {} Try.checked os 4 .any (Rows.boundLeastSpec.pre6 enc Try.prog Try.f4 Rows.boundLeastRow.domain false) (Rows.boundLeastSpec.post enc Try.prog Try.f4 false true false false) := by
  refine returnsInHanded_of_change (C := Try.checked) own started (by kernel_rfl) Try.func4
    (ChangeSpec.witness6 (enc := enc) (C := Try.checked) false ⟨#[], #[.slice none 0 0], []⟩ 8 (by kernel_rfl) (by kernel_rfl) (by kernel_rfl) (by kernel_rfl)) ?_
  intro W base args ds gs before hval0 hW hcnd _
  have hval : ∀ (j : Nat) t v, Try.f4.params[j]? = some t → args[j]? = some v → Value.okWide Try.prog W .any base t v := hval0
  have hW' := hW
  obtain ⟨p, q, hA0, hV, rfl, hfz, hnd⟩ := hW
  have hA : DataW.TrodAll enc Try.prog W 0 (fun _ => true) true Try.f4.params.toList args.toList ds p := hA0
  rw [Try.params4] at hA hval
  obtain ⟨v0, vs0, d0, ds0, p0, q0, hargs, rfl, rfl, h0, r0⟩ := trodAll_cons hA
  obtain ⟨rfl, rfl, rfl⟩ := trodAll_nil r0
  obtain rfl : args = #[v0] := by cases args; simp_all
  obtain ⟨rfl, rfl⟩ := trodVars_none hV
  obtain ⟨s0, len0, cap0, rfl⟩ := okWide_slice Try.underlying32 (hval 0 32 v0 rfl rfl)
  have k0 := h0
  have lt0 : ∀ x ∈ p0, x.block < W.heap.size := by obtain ⟨m, hm⟩ := k0; exact DataW.trod_lt m _ _ _ hm
  obtain ⟨z0, w0⟩ : ∃ zs, IsRow .u64 W s0 len0 cap0 zs := by
    obtain ⟨fuel, hf⟩ := h0
    rcases open_ints Try.underlying32 Try.underlying22 (by kernel_rfl) hf with ⟨hcs, _⟩ | ⟨x, l, c, zs, hcs, _, hl, hm, hz, _, hcell, hwz⟩
    · simp [Value.cells] at hcs
      obtain ⟨rfl, rfl, rfl⟩ := hcs
      exact ⟨[], .inl ⟨rfl, rfl, rfl, rfl⟩⟩
    · simp [Value.cells] at hcs
      obtain ⟨rfl, rfl, rfl⟩ := hcs
      exact ⟨zs, .inr ⟨_, rfl, hl, hm, by simpa using hz, hcell, hwz⟩⟩
  clear hA0 hval0
  refine (BoundLeast_walk s0 len0 cap0 z0 W w0).mono fun e W' ⟨he, bel⟩ => ?_
  subst he
  exact ⟨_, rfl, _, _, _, [], _, [], hW', trodAll_mk1 (shut_bool Try.underlying4 _), (trodAll_cons_mk (Below.trod laidOut (by kernel_rfl) (of_decide_eq_true (by kernel_rfl)) k0 bel lt0) trodAll_mk0), rfl, bel.frame _, fun h => by cases h⟩
theorem over : Rows.boundLeastRow.holds Try.pinned (OpenSpec.ofChange Rows.boundLeastSpec) :=
  OpenClaim.holds_of_wide 4 Try.f4 rfl rfl rfl rfl rfl rfl rfl ⟨rfl, rfl, rfl, rfl, rfl⟩ rfl rfl rfl rfl rfl (by kernel_rfl) Try.func4 (by kernel_rfl)
    (of_decide_eq_true (by kernel_rfl)) (by unfold Func.isWrapper; first | (rw [if_pos (by decide +kernel)]; kernel_rfl) | (rw [if_neg (by decide +kernel)]; exact ⟨rfl, rfl⟩))
    (fun os started H enc _ => lifted os started H enc)
end boundLeastDone
theorem BoundLeast_holds : Rows.BoundLeastSaid := boundLeastDone.over

end Go.Proofs.Ytkegfnbjeafliaa
