/-
  Flows: which of two is the heavier one. Conditions: none.
-/
import Derived.Test.YtljpiofpfankoaaFlT
import Derived.Test.YtljpiofpfankoaaFlN
import Derived.BigQuiet
import Derived.Deep.RegionWith
namespace Go.Proofs.Ytljpiofpfankoaa
open Go.RowKit Go.Sort
set_option linter.unusedVariables false
set_option linter.unusedSimpArgs false
def cmpI (x y : Int) : Int := if x < y then -1 else if y < x then 1 else 0
def cmpL : List Int → List Int → Int
  | x :: xs, y :: ys => if cmpI x y ≠ 0 then cmpI x y else cmpL xs ys
  | _, _ => 0
def kl (k : K4) : List Int := [k.a, k.b, k.c, k.d]
def cmpH (f g : FW) : Int := if f.b ≠ g.b then cmpI g.b f.b else if f.k = g.k then 0 else cmpL (kl f.k) (kl g.k)
theorem drop_getD (X : List Int) (n : Nat) (h : n < X.length) : X.drop n = X.getD n 0 :: X.drop (n + 1) := by
  rw [List.drop_eq_getElem_cons h]; simp [List.getD_eq_getElem?_getD, h]
theorem kneq2 {k j : K4} (h : k ≠ j) (v : World) : (binOp .eql 48 (kv k) (kv j)).run Try.prog v = .ok (.bool false) v := by
  rw [run_eql_struct]
  have := eqk k j v
  rw [show (Op.equalIn 10000 48 (kv k) (kv j)).run Try.prog v = .ok (decide (k = j)) v from this, decide_eq_false h]; rfl
theorem two_allocs (w : World) (A B : Obj) : (w.alloc A).alloc B = grow (w.drewN 0) #[A, B] := by
  rw [alloc_eq_grow, alloc_eq_grow, grow_grow]; rfl
theorem two_allocs_d (w : World) (A B : Obj) : ((w.alloc A).alloc B).drew = grow (w.drewN 1) #[A, B] := by
  rw [alloc_eq_grow, alloc_eq_grow, grow_grow]; rfl
theorem cmpU64_nan (x : Int) (w : World) : Calls Try.prog 89 #[.int .u64 x] w fun e w' => e = .returned (.bool false) ∧ w = w' := by
  go_enter Try.func89, Try.ntmps89
  go_wp2
  go_ret
  exact ⟨rfl, rfl⟩
theorem cmpU64 (x y : Int) (w : World) : Calls Try.prog 72 #[.int .u64 x, .int .u64 y] w fun e w' => e = .returned (.int .i64 (cmpI x y)) ∧ w = w' := by
  unfold cmpI
  by_cases h1 : x < y
  · rw [if_pos h1]
    have d1 : decide (x < y) = true := decide_eq_true h1
    go_enter Try.func72, Try.ntmps72
    go_wp2_with fail
    refine (cmpU64_nan x _).mono ?_
    rintro e u1 ⟨rfl, rfl⟩
    go_wp2_with fail
    refine (cmpU64_nan y _).mono ?_
    rintro e u2 ⟨rfl, rfl⟩
    go_wp2
    go_ret
    exact ⟨rfl, rfl⟩
  · rw [if_neg h1]
    have d1 : decide (x < y) = false := decide_eq_false h1
    by_cases h2 : y < x
    · rw [if_pos h2]
      have d2 : decide (y < x) = true := decide_eq_true h2
      go_enter Try.func72, Try.ntmps72
      go_wp2_with fail
      refine (cmpU64_nan x _).mono ?_
      rintro e u1 ⟨rfl, rfl⟩
      go_wp2_with fail
      refine (cmpU64_nan y _).mono ?_
      rintro e u2 ⟨rfl, rfl⟩
      go_wp2
      go_ret
      exact ⟨rfl, rfl⟩
    · rw [if_neg h2]
      have d2 : decide (y < x) = false := decide_eq_false h2
      go_enter Try.func72, Try.ntmps72
      go_wp2_with fail
      refine (cmpU64_nan x _).mono ?_
      rintro e u1 ⟨rfl, rfl⟩
      go_wp2_with fail
      refine (cmpU64_nan y _).mono ?_
      rintro e u2 ⟨rfl, rfl⟩
      go_wp2
      go_ret
      exact ⟨rfl, rfl⟩
theorem cmpU16_nan (x : Int) (w : World) : Calls Try.prog 98 #[.int .u16 x] w fun e w' => e = .returned (.bool false) ∧ w = w' := by
  go_enter Try.func98, Try.ntmps98
  go_wp2
  go_ret
  exact ⟨rfl, rfl⟩
theorem cmpU16 (x y : Int) (w : World) : Calls Try.prog 90 #[.int .u16 x, .int .u16 y] w fun e w' => e = .returned (.int .i64 (cmpI x y)) ∧ w = w' := by
  unfold cmpI
  by_cases h1 : x < y
  · rw [if_pos h1]
    have d1 : decide (x < y) = true := decide_eq_true h1
    go_enter Try.func90, Try.ntmps90
    go_wp2_with fail
    refine (cmpU16_nan x _).mono ?_
    rintro e u1 ⟨rfl, rfl⟩
    go_wp2_with fail
    refine (cmpU16_nan y _).mono ?_
    rintro e u2 ⟨rfl, rfl⟩
    go_wp2
    go_ret
    exact ⟨rfl, rfl⟩
  · rw [if_neg h1]
    have d1 : decide (x < y) = false := decide_eq_false h1
    by_cases h2 : y < x
    · rw [if_pos h2]
      have d2 : decide (y < x) = true := decide_eq_true h2
      go_enter Try.func90, Try.ntmps90
      go_wp2_with fail
      refine (cmpU16_nan x _).mono ?_
      rintro e u1 ⟨rfl, rfl⟩
      go_wp2_with fail
      refine (cmpU16_nan y _).mono ?_
      rintro e u2 ⟨rfl, rfl⟩
      go_wp2
      go_ret
      exact ⟨rfl, rfl⟩
    · rw [if_neg h2]
      have d2 : decide (y < x) = false := decide_eq_false h2
      go_enter Try.func90, Try.ntmps90
      go_wp2_with fail
      refine (cmpU16_nan x _).mono ?_
      rintro e u1 ⟨rfl, rfl⟩
      go_wp2_with fail
      refine (cmpU16_nan y _).mono ?_
      rintro e u2 ⟨rfl, rfl⟩
      go_wp2
      go_ret
      exact ⟨rfl, rfl⟩
set_option maxRecDepth 100000 in
set_option maxHeartbeats 4000000 in
theorem slComp (A B : Nat) (X Y : List Int) (r : Int) (w : World) (hX : X.length = 4) (hY : Y.length = 4) (hA : ∀ n, n < 4 → w.cell? ⟨A, n, none⟩ = some (.int .u16 (X.getD n 0))) (hB : ∀ n, n < 4 → w.cell? ⟨B, n, none⟩ = some (.int .u16 (Y.getD n 0))) (hr : cmpL X Y = r) :
    Calls Try.prog 73 #[.slice (some ⟨A, 0, none⟩) 4 4, .slice (some ⟨B, 0, none⟩) 4 4] w fun e w' => e = .returned (.int .i64 r) ∧ w = w' := by
  have HR := hide hr; have HA := hide hA; have HB := hide hB; clear hr hA hB
  go_enter Try.func73, Try.ntmps73
  go_wp2
  go_loop [11] (fun j => ∃ n : Nat, n ≤ 4 ∧ j = .int .i64 n ∧ Hid (cmpL (X.drop n) (Y.drop n) = r)) (fun j => 4 - (intOf j).toNat)
  case atStart => exact ⟨0, Nat.zero_le _, rfl, HR⟩
  case round =>
    obtain ⟨n, hn, rfl, hcc⟩ := hrel
    by_cases hlt : n < 4
    · obtain ⟨x, hx⟩ : ∃ x, X.getD n 0 = x := ⟨_, rfl⟩
      obtain ⟨y, hy⟩ : ∃ y, Y.getD n 0 = y := ⟨_, rfl⟩
      have cA := HA.out n hlt
      have cB := HB.out n hlt
      rw [hx] at cA; rw [hy] at cB
      have hst := hcc.out
      rw [drop_getD X n (by omega), drop_getD Y n (by omega), hx, hy] at hst
      have hni : (n : Int) < 4 := by omega
      have hge : decide ((4 : Int) ≤ (n : Int)) = false := decide_eq_false (by omega)
      unfold cmpL at hst
      by_cases hc : cmpI x y ≠ 0
      · rw [if_pos hc] at hst
        have hxb : (cmpI x y != 0) = true := bne_iff_ne.2 hc
        obtain ⟨c, hcv⟩ : ∃ c, cmpI x y = c := ⟨_, rfl⟩
        have KC := hide (fun v => cmpU16 x y v)
        rw [hcv] at hxb hst KC
        subst hst
        clear hcc hc hcv hx hy
        go_wp2_with fail
        refine (KC.out _).mono ?_
        rintro e u1 ⟨rfl, rfl⟩
        go_wp2
        go_ret
        exact ⟨rfl, rfl⟩
      · rw [if_neg hc] at hst
        have hc0 : cmpI x y = 0 := Decidable.not_not.1 hc
        have KC := hide (fun v => cmpU16 x y v)
        rw [hc0] at KC
        have hN := hide hst
        clear hcc hst hc hc0 hx hy
        go_wp2_with fail
        refine (KC.out _).mono ?_
        rintro e u1 ⟨rfl, rfl⟩
        go_wp2
        go_round
        case rel => exact ⟨n + 1, by omega, by go_num, hN⟩
        case measure => simp [intOf]; omega
    · obtain rfl : n = 4 := by omega
      have hst := hcc.out
      rw [List.drop_of_length_le (by omega), List.drop_of_length_le (by omega)] at hst
      have hr0 : r = 0 := hst.symm
      subst hr0
      clear hcc hst
      go_wp2
      go_ret
      exact ⟨rfl, rfl⟩
set_option maxRecDepth 100000 in
set_option maxHeartbeats 4000000 in
theorem flHeavier (f g : FW) (w : World) : Calls Try.prog 59 #[fv f, fv g] w fun e w' => e = .returned (.int .i64 (cmpH f g)) ∧ ∃ q os', w' = grow (w.drewN q) os' := by
  unfold cmpH
  by_cases h1 : f.b ≠ g.b
  · rw [if_pos h1]
    have hxb : (f.b != g.b) = true := bne_iff_ne.2 h1
    have KC := hide (fun v => cmpU64 g.b f.b v)
    go_enter Try.func59, Try.ntmps59
    go_wp2_with fail
    refine (KC.out _).mono ?_
    rintro e u1 ⟨rfl, rfl⟩
    go_wp2
    go_ret
    exact ⟨rfl, 0, _, two_allocs _ _ _⟩
  · rw [if_neg h1]
    have hxb : (f.b != g.b) = false := by simpa using h1
    by_cases h2 : f.k = g.k
    · rw [if_pos h2]
      have q1 : ∀ v, (binOp .eql 48 (kv f.k) (kv g.k)).run Try.prog v = .ok (.bool true) v := by rw [h2]; exact keq g.k
      clear h2
      go_enter Try.func59, Try.ntmps59
      go_wp2
      go_ret
      exact ⟨rfl, 0, _, two_allocs _ _ _⟩
    · rw [if_neg h2]
      have q1 : ∀ v, (binOp .eql 48 (kv f.k) (kv g.k)).run Try.prog v = .ok (.bool false) v := kneq2 h2
      clear h2
      obtain ⟨r, hr⟩ : ∃ r, cmpL (kl f.k) (kl g.k) = r := ⟨_, rfl⟩
      rw [hr]
      have HR := hide hr; clear hr
      have cf : ∀ n, ((w.alloc (.cells #[.int .u16 f.k.a, .int .u16 f.k.b, .int .u16 f.k.c, .int .u16 f.k.d, .int .u64 f.p, .int .u64 f.b] 88)).alloc (.cells #[.int .u16 g.k.a, .int .u16 g.k.b, .int .u16 g.k.c, .int .u16 g.k.d, .int .u64 g.p, .int .u64 g.b] 88)).cell? ⟨w.heap.size, n, none⟩ = (#[.int .u16 f.k.a, .int .u16 f.k.b, .int .u16 f.k.c, .int .u16 f.k.d, .int .u64 f.p, .int .u64 f.b] : Array Value)[n]? := (show Blk ((w.alloc (.cells #[.int .u16 f.k.a, .int .u16 f.k.b, .int .u16 f.k.c, .int .u16 f.k.d, .int .u64 f.p, .int .u64 f.b] 88)).alloc (.cells #[.int .u16 g.k.a, .int .u16 g.k.b, .int .u16 g.k.c, .int .u16 g.k.d, .int .u64 g.p, .int .u64 g.b] 88)) w.heap.size #[.int .u16 f.k.a, .int .u16 f.k.b, .int .u16 f.k.c, .int .u16 f.k.d, .int .u64 f.p, .int .u64 f.b] 88 by (repeat' (first | (with_reducible (first | assumption | exact Blk.alloc_new _ _ _ (by first | rfl | (simp; done) | omega) | apply Blk.drewN | apply Blk.drew | apply Blk.alloc_old | apply Blk.set_same | apply Blk.set_other)) | (show (_ : Nat) ≠ _; first | omega | (simp; done) | (simp; omega)) | ((simp only [List.setIfInBounds_toArray, List.set_cons_succ, List.set_cons_zero]); (with_reducible exact rfl)) | (with_reducible exact rfl) | (show (_ : Array Value) = _; exact rfl)))).cell
      have cg : ∀ n, ((w.alloc (.cells #[.int .u16 f.k.a, .int .u16 f.k.b, .int .u16 f.k.c, .int .u16 f.k.d, .int .u64 f.p, .int .u64 f.b] 88)).alloc (.cells #[.int .u16 g.k.a, .int .u16 g.k.b, .int .u16 g.k.c, .int .u16 g.k.d, .int .u64 g.p, .int .u64 g.b] 88)).cell? ⟨w.heap.size + 1, n, none⟩ = (#[.int .u16 g.k.a, .int .u16 g.k.b, .int .u16 g.k.c, .int .u16 g.k.d, .int .u64 g.p, .int .u64 g.b] : Array Value)[n]? := (show Blk ((w.alloc (.cells #[.int .u16 f.k.a, .int .u16 f.k.b, .int .u16 f.k.c, .int .u16 f.k.d, .int .u64 f.p, .int .u64 f.b] 88)).alloc (.cells #[.int .u16 g.k.a, .int .u16 g.k.b, .int .u16 g.k.c, .int .u16 g.k.d, .int .u64 g.p, .int .u64 g.b] 88)) (w.heap.size + 1) #[.int .u16 g.k.a, .int .u16 g.k.b, .int .u16 g.k.c, .int .u16 g.k.d, .int .u64 g.p, .int .u64 g.b] 88 by (repeat' (first | (with_reducible (first | assumption | exact Blk.alloc_new _ _ _ (by first | rfl | (simp; done) | omega) | apply Blk.drewN | apply Blk.drew | apply Blk.alloc_old | apply Blk.set_same | apply Blk.set_other)) | (show (_ : Nat) ≠ _; first | omega | (simp; done) | (simp; omega)) | ((simp only [List.setIfInBounds_toArray, List.set_cons_succ, List.set_cons_zero]); (with_reducible exact rfl)) | (with_reducible exact rfl) | (show (_ : Array Value) = _; exact rfl)))).cell
      have c1 : ∀ n, n < 4 → World.cell? ((w.alloc (.cells #[.int .u16 f.k.a, .int .u16 f.k.b, .int .u16 f.k.c, .int .u16 f.k.d, .int .u64 f.p, .int .u64 f.b] 88)).alloc (.cells #[.int .u16 g.k.a, .int .u16 g.k.b, .int .u16 g.k.c, .int .u16 g.k.d, .int .u64 g.p, .int .u64 g.b] 88)) ⟨w.heap.size, n, none⟩ = some (.int .u16 ((kl f.k).getD n 0)) := fun n hn => by
        rw [cf]; match n, hn with | 0, _ => rfl | 1, _ => rfl | 2, _ => rfl | 3, _ => rfl | j + 4, h => exact absurd h (by omega)
      have c2 : ∀ n, n < 4 → World.cell? ((w.alloc (.cells #[.int .u16 f.k.a, .int .u16 f.k.b, .int .u16 f.k.c, .int .u16 f.k.d, .int .u64 f.p, .int .u64 f.b] 88)).alloc (.cells #[.int .u16 g.k.a, .int .u16 g.k.b, .int .u16 g.k.c, .int .u16 g.k.d, .int .u64 g.p, .int .u64 g.b] 88)) ⟨w.heap.size + 1, n, none⟩ = some (.int .u16 ((kl g.k).getD n 0)) := fun n hn => by
        rw [cg]; match n, hn with | 0, _ => rfl | 1, _ => rfl | 2, _ => rfl | 3, _ => rfl | j + 4, h => exact absurd h (by omega)
      have C1 := hide (show ∀ n, n < 4 → World.cell? ((w.alloc (.cells #[.int .u16 f.k.a, .int .u16 f.k.b, .int .u16 f.k.c, .int .u16 f.k.d, .int .u64 f.p, .int .u64 f.b] 88)).alloc (.cells #[.int .u16 g.k.a, .int .u16 g.k.b, .int .u16 g.k.c, .int .u16 g.k.d, .int .u64 g.p, .int .u64 g.b] 88)).drew ⟨w.heap.size, n, none⟩ = some (.int .u16 ((kl f.k).getD n 0)) from c1)
      have C2 := hide (show ∀ n, n < 4 → World.cell? ((w.alloc (.cells #[.int .u16 f.k.a, .int .u16 f.k.b, .int .u16 f.k.c, .int .u16 f.k.d, .int .u64 f.p, .int .u64 f.b] 88)).alloc (.cells #[.int .u16 g.k.a, .int .u16 g.k.b, .int .u16 g.k.c, .int .u16 g.k.d, .int .u64 g.p, .int .u64 g.b] 88)).drew ⟨w.heap.size + 1, n, none⟩ = some (.int .u16 ((kl g.k).getD n 0)) from c2)
      clear cf cg c1 c2
      go_enter Try.func59, Try.ntmps59
      go_upto_region 5 with (fail)
      go_region_with (go_at_call 73; refine (slComp (w.heap.size) (w.heap.size + 1) (kl f.k) (kl g.k) r _ rfl rfl C1.out C2.out HR.out).mono ?_; rintro e w' ⟨rfl, rfl⟩)
      all_goals
        go_wp2
        go_ret
        exact ⟨rfl, 1, _, two_allocs_d _ _ _⟩
/-- f stands ahead of g. -/
def ltH (f g : FW) : Prop := g.b < f.b ∨ (f.b = g.b ∧ (f.k.a < g.k.a ∨ (f.k.a = g.k.a ∧ (f.k.b < g.k.b ∨ (f.k.b = g.k.b ∧ (f.k.c < g.k.c ∨ (f.k.c = g.k.c ∧ f.k.d < g.k.d)))))))
theorem cmpH_lt (f g : FW) : cmpH f g < 0 ↔ ltH f g := by
  unfold cmpH ltH
  by_cases h1 : f.b ≠ g.b
  · rw [if_pos h1]; unfold cmpI
    split
    · constructor <;> intro h <;> omega
    · split <;> constructor <;> intro h <;> omega
  · rw [if_neg h1]
    by_cases h2 : f.k = g.k
    · rw [if_pos h2, h2]; constructor <;> intro h <;> omega
    · rw [if_neg h2]
      have h2' : ¬ (f.k.a = g.k.a ∧ f.k.b = g.k.b ∧ f.k.c = g.k.c ∧ f.k.d = g.k.d) := fun h => h2 (k4_eq.2 h)
      unfold kl
      simp only [cmpL, cmpI]
      repeat' split
      all_goals (constructor <;> intro h <;> omega)
end Go.Proofs.Ytljpiofpfankoaa
