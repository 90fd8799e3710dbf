/-
  The walks of the link's reference: Until, Send, Ticks, Sum, over a slice of sent packets that the caller owns. Conditions: numbers in range.
-/
import Derived.Test.YtapikbgloagnkaaLinkA
import Derived.Deep.AppendLies
import Derived.Laws.OwnMore
namespace Go.Proofs.Ytapikbgloagnkaa
open Go.RowKit
set_option linter.unusedVariables false

/-- A sent packet: when it began, when it is sent, its bytes. -/
structure SP where
  at_ : Int
  dn : Int
  ln : Int
def SP.ok (s : SP) : Prop := 0 ≤ s.at_ ∧ s.at_ ≤ s.dn ∧ s.dn ≤ 4611686019501129728 ∧ s.dn - s.at_ ≤ 1073741824 ∧ 1 ≤ s.ln ∧ s.ln ≤ 16384
def SP.cells (s : SP) : List Value := [.int .u64 s.at_, .int .u64 s.dn, .int .i64 s.ln]
def flat : List SP → List Value
  | [] => []
  | s :: l => s.cells ++ flat l
theorem flat_app (a b : List SP) : flat (a ++ b) = flat a ++ flat b := by induction a with
  | nil => rfl
  | cons s a ih => simp [flat, ih]
theorem flat_len (a : List SP) : (flat a).length = a.length * 3 := by induction a with
  | nil => rfl
  | cons s a ih => simp [flat, ih, SP.cells]; omega
theorem flat_get (a : List SP) (i : Nat) (h : i < a.length) : (flat a)[i * 3]? = some (.int .u64 a[i].at_) ∧ (flat a)[i * 3 + 1]? = some (.int .u64 a[i].dn) ∧ (flat a)[i * 3 + 2]? = some (.int .i64 a[i].ln) := by
  induction a generalizing i with
  | nil => simp at h
  | cons s a ih =>
    cases i with
    | zero => simp [flat, SP.cells]
    | succ i =>
      have := ih i (by simpa using h)
      have e : ∀ j, j < 3 → (flat (s :: a))[(i + 1) * 3 + j]? = (flat a)[i * 3 + j]? := by
        intro j hj
        rw [show flat (s :: a) = s.cells ++ flat a from rfl, List.getElem?_append_right (by simp [SP.cells]; omega)]
        congr 1; simp [SP.cells]; omega
      have e0 := e 0 (by omega); have e1 := e 1 (by omega); have e2 := e 2 (by omega)
      simp at e0
      rw [e0, e1, e2]
      simpa using this
/-- The slice v holds just these packets. -/
def Holds (w : World) (base : Nat) (v : Value) (ss : List SP) : Prop := w.ownsRow base 68 3 v ss.length (flat ss)
/-- What the walk reads of it. -/
theorem Holds.read {w : World} {base : Nat} {v : Value} {ss : List SP} (h : Holds w base v ss) : (v = .slice none 0 0 ∧ ss = []) ∨ ∃ g cap, v = .slice (some ⟨g, 0, none⟩) ss.length cap ∧ base ≤ g ∧ g < w.heap.size ∧ ss.length ≤ cap ∧ cap ≤ maxLen ∧ ∀ i (hi : i < ss.length), w.cell? ⟨g, i * 3, none⟩ = some (.int .u64 ss[i].at_) ∧ w.cell? ⟨g, i * 3 + 1, none⟩ = some (.int .u64 ss[i].dn) ∧ w.cell? ⟨g, i * 3 + 2, none⟩ = some (.int .i64 ss[i].ln) := by
  rcases h.2 with ⟨hv, hn⟩ | ⟨g, cap, cur, hv, hb, hg, hl, hm, _⟩
  · exact .inl ⟨hv, List.length_eq_zero_iff.1 hn⟩
  · right
    refine ⟨g, cap, hv, hb, (Array.getElem?_eq_some_iff.1 hg).1, hl, hm, fun i hi => ?_⟩
    subst hv
    have hc := World.ownsRow.cellAt h
    obtain ⟨f0, f1, f2⟩ := flat_get ss i hi
    exact ⟨(hc _ (by omega)).trans f0, (hc _ (by omega)).trans f1, (hc _ (by omega)).trans f2⟩
def untilL (ss : List SP) : Int := (ss.getLast?.map SP.dn).getD 0
theorem rTicks (t n : Int) (w : World) (ht : 1 ≤ t ∧ t ≤ 65536) (hn : 1 ≤ n ∧ n ≤ 16384) (y : Int) (hy : t * n = y) :
    Calls Try.prog 38 #[.int .i64 t, .int .i64 n] w fun e w' => e = .returned (.int .u64 y) ∧ w = w' := by
  have h1 : IntKind.u64.wrap t = t := IntWalk.u64_in _ ⟨by omega, by omega⟩
  have h2 : IntKind.u64.wrap n = n := IntWalk.u64_in _ ⟨by omega, by omega⟩
  have hp : 0 ≤ t * n ∧ t * n ≤ 1073741824 := by
    refine ⟨Int.mul_nonneg (by omega) (by omega), ?_⟩
    have := Int.mul_le_mul ht.2 hn.2 (by omega) (by omega : (0 : Int) ≤ 65536)
    omega
  have Hy := hide hy; clear hy
  go_enter Try.func38, Try.ntmps38
  go_wp2
  go_ret
  exact ⟨reti Hy.out, rfl⟩
theorem rUntil (v : Value) (ss : List SP) (base : Nat) (w : World) (h : Holds w base v ss) (u : Int) (hu : untilL ss = u) :
    Calls Try.prog 39 #[v] w fun e w' => e = .returned (.int .u64 u) ∧ w = w' := by
  rcases h.read with ⟨rfl, rfl⟩ | ⟨g, cap, rfl, _, hg, hl, hm, hc⟩
  · have e : u = 0 := by rw [← hu]; rfl
    subst e
    go_enter Try.func39, Try.ntmps39
    go_wp2
    go_ret
    exact ⟨rfl, rfl⟩
  · unfold maxLen at hm
    by_cases h0 : ss.length = 0
    · have e : u = 0 := by rw [← hu, List.length_eq_zero_iff.1 h0]; rfl
      subst e
      rw [h0]
      go_enter Try.func39, Try.ntmps39
      go_wp2
      go_ret
      exact ⟨rfl, rfl⟩
    · obtain ⟨m, hm1⟩ : ∃ m, ss.length = m + 1 := ⟨ss.length - 1, by omega⟩
      have hcm := (hc m (by omega)).2.1
      have e : ss[m].dn = u := by
        rw [← hu]; unfold untilL
        rw [List.getLast?_eq_getElem?, show ss.length - 1 = m by omega, List.getElem?_eq_getElem (by omega)]; rfl
      rw [e] at hcm
      clear hc e hu
      rw [hm1]
      have hmb : m + 1 ≤ 9223372036854775807 := by omega
      have n0 : (((m + 1 : Nat) : Int) == 0) = false := beq_eq_false_iff_ne.2 (by omega)
      clear h0 hm1 h
      go_enter Try.func39, Try.ntmps39
      go_wp2
      go_ret
      exact ⟨rfl, rfl⟩
theorem rSend_clock (v : Value) (id len h0 h1 h2 h3 now : Int) (w : World) (hn : 4611686018427387904 < now) :
    Calls Try.prog 36 #[v, .int .u64 now, pkt id len h0 h1 h2 h3] w fun e w' => e = .returned (.int .i64 27) ∧ Below w.heap.size w w' := by
  have d1 : decide (4611686018427387904 < now) = true := decide_eq_true hn
  go_enter Try.func36, Try.ntmps36
  go_wp2
  go_ret
  exact ⟨rfl, by (repeat' (first | (with_reducible exact Below.refl _ _) | (with_reducible assumption) | (with_reducible refine below_drewN ?_ _) | (with_reducible refine Below.drew ?_) | (with_reducible refine Below.alloc ?_ ?_ _) | (with_reducible refine Below.setCell ?_ ?_ _) | go_size))⟩
theorem rSend_len (v : Value) (id len h0 h1 h2 h3 now : Int) (w : World) (hn : now ≤ 4611686018427387904) (hl : ¬ (1 ≤ len ∧ len ≤ 16384)) :
    Calls Try.prog 36 #[v, .int .u64 now, pkt id len h0 h1 h2 h3] w fun e w' => e = .returned (.int .i64 26) ∧ Below w.heap.size w w' := by
  have d1 : decide (4611686018427387904 < now) = false := decide_eq_false (by omega)
  by_cases l1 : len < 1
  · have d2 : decide (len < 1) = true := decide_eq_true l1
    go_enter Try.func36, Try.ntmps36
    go_wp2
    go_ret
    exact ⟨rfl, by (repeat' (first | (with_reducible exact Below.refl _ _) | (with_reducible assumption) | (with_reducible refine below_drewN ?_ _) | (with_reducible refine Below.drew ?_) | (with_reducible refine Below.alloc ?_ ?_ _) | (with_reducible refine Below.setCell ?_ ?_ _) | go_size))⟩
  · have d2 : decide (len < 1) = false := decide_eq_false l1
    have d3 : decide (16384 < len) = true := decide_eq_true (by omega)
    go_enter Try.func36, Try.ntmps36
    go_wp2
    go_ret
    exact ⟨rfl, by (repeat' (first | (with_reducible exact Below.refl _ _) | (with_reducible assumption) | (with_reducible refine below_drewN ?_ _) | (with_reducible refine Below.drew ?_) | (with_reducible refine Below.alloc ?_ ?_ _) | (with_reducible refine Below.setCell ?_ ?_ _) | go_size))⟩
theorem Holds.below {w w' : World} {base : Nat} {v : Value} {ss : List SP} (h : Holds w base v ss) (hb : Below w.heap.size w w') : Holds w' base v ss := World.ownsRow.kept (row := none) h ⟨hb.os, hb.tape, hb.output, hb.size, fun k hk _ => hb.block k hk⟩ (by cases h.read with | inl h => exact .inl (by rw [h.1]; rfl) | inr h => obtain ⟨g, cap, hv, _⟩ := h; exact .inr (by rw [hv]; simp [Value.ownBlock]))
theorem rSend_u (v : Value) (ss : List SP) (base : Nat) (u : Int) (id len h0 h1 h2 h3 now : Int) (w : World) (h : Holds w base v ss) (hu : untilL ss = u) (hn : now ≤ 4611686018427387904) (hl : 1 ≤ len ∧ len ≤ 16384) (c : Int) (hc : (if now < u then 24 else 0) = c) :
    Calls Try.prog 36 #[v, .int .u64 now, pkt id len h0 h1 h2 h3] w fun e w' => e = .returned (.int .i64 c) ∧ Below w.heap.size w w' := by
  have d1 : decide (4611686018427387904 < now) = false := decide_eq_false (by omega)
  have d2 : decide (len < 1) = false := decide_eq_false (by omega)
  have d3 : decide (16384 < len) = false := decide_eq_false (by omega)
  have H := hide h; have Hu := hide hu; clear h hu
  by_cases l1 : now < u
  · rw [if_pos l1] at hc; subst hc
    have d4 : decide (now < u) = true := decide_eq_true l1
    go_enter Try.func36, Try.ntmps36
    go_wp2_with fail
    refine (rUntil v ss base _ (H.out.below (by (repeat' (first | (with_reducible exact Below.refl _ _) | (with_reducible assumption) | (with_reducible refine below_drewN ?_ _) | (with_reducible refine Below.drew ?_) | (with_reducible refine Below.alloc ?_ ?_ _) | (with_reducible refine Below.setCell ?_ ?_ _) | go_size)))) u Hu.out).mono ?_
    rintro e w1 ⟨rfl, rfl⟩
    go_wp2
    go_ret
    exact ⟨rfl, by (repeat' (first | (with_reducible exact Below.refl _ _) | (with_reducible assumption) | (with_reducible refine below_drewN ?_ _) | (with_reducible refine Below.drew ?_) | (with_reducible refine Below.alloc ?_ ?_ _) | (with_reducible refine Below.setCell ?_ ?_ _) | go_size))⟩
  · rw [if_neg l1] at hc; subst hc
    have d4 : decide (now < u) = false := decide_eq_false l1
    go_enter Try.func36, Try.ntmps36
    go_wp2_with fail
    refine (rUntil v ss base _ (H.out.below (by (repeat' (first | (with_reducible exact Below.refl _ _) | (with_reducible assumption) | (with_reducible refine below_drewN ?_ _) | (with_reducible refine Below.drew ?_) | (with_reducible refine Below.alloc ?_ ?_ _) | (with_reducible refine Below.setCell ?_ ?_ _) | go_size)))) u Hu.out).mono ?_
    rintro e w1 ⟨rfl, rfl⟩
    go_wp2
    go_ret
    exact ⟨rfl, by (repeat' (first | (with_reducible exact Below.refl _ _) | (with_reducible assumption) | (with_reducible refine below_drewN ?_ _) | (with_reducible refine Below.drew ?_) | (with_reducible refine Below.alloc ?_ ?_ _) | (with_reducible refine Below.setCell ?_ ?_ _) | go_size))⟩
/-! The sums. -/
def sumB : List SP → Int
  | [] => 0
  | s :: l => s.ln + sumB l
def sumT : List SP → Int
  | [] => 0
  | s :: l => (s.dn - s.at_) + sumT l
theorem sumB_snoc (l : List SP) (s : SP) : sumB (l ++ [s]) = sumB l + s.ln := by induction l with
  | nil => simp [sumB]
  | cons a l ih => simp [sumB, ih]; omega
theorem sumT_snoc (l : List SP) (s : SP) : sumT (l ++ [s]) = sumT l + (s.dn - s.at_) := by induction l with
  | nil => simp [sumT]
  | cons a l ih => simp [sumT, ih]; omega
theorem sumB_rng {l : List SP} (h : ∀ s ∈ l, s.ok) : 0 ≤ sumB l ∧ sumB l ≤ l.length * 16384 := by
  induction l with
  | nil => simp [sumB]
  | cons a l ih =>
    have h1 := h a (by simp)
    have h2 := ih fun s hs => h s (by simp [hs])
    unfold SP.ok at h1
    simp [sumB]; omega
theorem sumT_rng {l : List SP} (h : ∀ s ∈ l, s.ok) : 0 ≤ sumT l ∧ sumT l ≤ l.length * 1073741824 := by
  induction l with
  | nil => simp [sumT]
  | cons a l ih =>
    have h1 := h a (by simp)
    have h2 := ih fun s hs => h s (by simp [hs])
    unfold SP.ok at h1
    simp [sumT]; omega
theorem take_snoc'' {ss : List SP} {k : Nat} (h : k < ss.length) : ss.take (k + 1) = ss.take k ++ [ss[k]] := List.take_succ_eq_append_getElem h
def SRelB (w : World) (ss : List SP) (o i : Value) (wr : World) : Prop := ∃ k : Nat, k ≤ ss.length ∧ i = .int .i64 k ∧ o = .int .u64 (sumB (ss.take k)) ∧ Below w.heap.size w wr
def SRelT (w : World) (ss : List SP) (o i : Value) (wr : World) : Prop := ∃ k : Nat, k ≤ ss.length ∧ i = .int .i64 k ∧ o = .int .u64 (sumT (ss.take k)) ∧ Below w.heap.size w wr
set_option maxHeartbeats 1000000 in
theorem rSumB (v : Value) (ss : List SP) (base : Nat) (w : World) (h : Holds w base v ss) (hok : ∀ s ∈ ss, s.ok) (hn : ss.length ≤ 200) (c : Int) (hc : sumB ss = c) :
    Calls Try.prog 41 #[v, .bool false] w fun e w' => e = .returned (.int .u64 c) ∧ Below w.heap.size w w' := by
  have Hok := hide hok; clear hok
  have Hc := hide hc; clear hc
  obtain ⟨a, cap, rfl⟩ : ∃ a cap, v = .slice a ss.length cap := by
    rcases h.read with ⟨rfl, rfl⟩ | ⟨g, cap, rfl, _⟩
    · exact ⟨none, 0, rfl⟩
    · exact ⟨_, _, rfl⟩
  have Hr := hide h.read; clear h
  obtain ⟨n, hnn⟩ : ∃ n, ss.length = n := ⟨_, rfl⟩
  have Hn := hide hnn
  rw [hnn] at hn ⊢
  clear hnn
  go_enter Try.func41, Try.ntmps41
  go_wp2
  go_loopw [5, 10] (fun o i wr => SRelB w ss o i wr) (fun _ i _ => n - (intOf i).toNat)
  case atStart => exact ⟨0, Nat.zero_le _, rfl, rfl, by (repeat' (first | (with_reducible exact Below.refl _ _) | (with_reducible assumption) | (with_reducible refine below_drewN ?_ _) | (with_reducible refine Below.drew ?_) | (with_reducible refine Below.alloc ?_ ?_ _) | (with_reducible refine Below.setCell ?_ ?_ _) | go_size))⟩
  case round =>
    obtain ⟨k, hk, rfl, rfl, g0⟩ := hrel
    rw [Hn.out] at hk
    by_cases hlt : k < n
    · have hlt' : k < ss.length := by rw [Hn.out]; exact hlt
      obtain ⟨g, hg, ha, e0, e1, e2⟩ : ∃ g, g < w.heap.size ∧ a = some ⟨g, 0, none⟩ ∧ w.cell? ⟨g, k * 3, none⟩ = some (.int .u64 ss[k].at_) ∧ w.cell? ⟨g, k * 3 + 1, none⟩ = some (.int .u64 ss[k].dn) ∧ w.cell? ⟨g, k * 3 + 2, none⟩ = some (.int .i64 ss[k].ln) := by
        rcases Hr.out with ⟨_, h⟩ | ⟨g, cap', hv, _, hg, _, _, hc⟩
        · subst h; simp at hlt'
        · simp at hv
          exact ⟨g, hg, hv.1, hc k hlt'⟩
      subst ha
      have hsn := hide (show sumB (ss.take (k + 1)) = _ from (by rw [take_snoc'' hlt', sumB_snoc]))
      have hr := sumB_rng (l := ss.take k) fun s hs => Hok.out s (List.mem_of_mem_take hs)
      rw [List.length_take, Nat.min_eq_left (by omega)] at hr
      have hs := Hok.out ss[k] (List.getElem_mem hlt')
      unfold SP.ok at hs
      have cc : ∀ o, wr.cell? ⟨g, o, none⟩ = w.cell? ⟨g, o, none⟩ := fun o => g0.cell (p := ⟨g, o, none⟩) hg
      rw [← cc] at e0 e1 e2
      clear cc
      generalize ss[k].at_ = x at *
      generalize ss[k].dn = y at *
      generalize ss[k].ln = z at *
      generalize sumB (ss.take k) = q at *
      have g0s := g0.size
      have hzw : IntKind.u64.wrap z = z := IntWalk.u64_in _ ⟨by omega, by omega⟩
      clear hlt'
      go_wp2
      go_roundw
      case rel => exact ⟨k + 1, by rw [Hn.out]; omega, by go_num, by first | (rw [hsn.out]; done) | (rw [hsn.out]; go_num), by (repeat' (first | (with_reducible exact Below.refl _ _) | (with_reducible assumption) | (with_reducible refine below_drewN ?_ _) | (with_reducible refine Below.drew ?_) | (with_reducible refine Below.alloc ?_ ?_ _) | (with_reducible refine Below.setCell ?_ ?_ _) | go_size))⟩
      case measure => simp [intOf]; omega
    · obtain rfl : k = n := by omega
      go_wp2
      go_ret
      exact ⟨reti (by rw [← Hc.out, ← Hn.out, List.take_length]), g0⟩

set_option maxHeartbeats 1000000 in
theorem rSumT (v : Value) (ss : List SP) (base : Nat) (w : World) (h : Holds w base v ss) (hok : ∀ s ∈ ss, s.ok) (hn : ss.length ≤ 200) (c : Int) (hc : sumT ss = c) :
    Calls Try.prog 41 #[v, .bool true] w fun e w' => e = .returned (.int .u64 c) ∧ Below w.heap.size w w' := by
  have Hok := hide hok; clear hok
  have Hc := hide hc; clear hc
  obtain ⟨a, cap, rfl⟩ : ∃ a cap, v = .slice a ss.length cap := by
    rcases h.read with ⟨rfl, rfl⟩ | ⟨g, cap, rfl, _⟩
    · exact ⟨none, 0, rfl⟩
    · exact ⟨_, _, rfl⟩
  have Hr := hide h.read; clear h
  obtain ⟨n, hnn⟩ : ∃ n, ss.length = n := ⟨_, rfl⟩
  have Hn := hide hnn
  rw [hnn] at hn ⊢
  clear hnn
  go_enter Try.func41, Try.ntmps41
  go_wp2
  go_loopw [5, 10] (fun o i wr => SRelT w ss o i wr) (fun _ i _ => n - (intOf i).toNat)
  case atStart => exact ⟨0, Nat.zero_le _, rfl, rfl, by (repeat' (first | (with_reducible exact Below.refl _ _) | (with_reducible assumption) | (with_reducible refine below_drewN ?_ _) | (with_reducible refine Below.drew ?_) | (with_reducible refine Below.alloc ?_ ?_ _) | (with_reducible refine Below.setCell ?_ ?_ _) | go_size))⟩
  case round =>
    obtain ⟨k, hk, rfl, rfl, g0⟩ := hrel
    rw [Hn.out] at hk
    by_cases hlt : k < n
    · have hlt' : k < ss.length := by rw [Hn.out]; exact hlt
      obtain ⟨g, hg, ha, e0, e1, e2⟩ : ∃ g, g < w.heap.size ∧ a = some ⟨g, 0, none⟩ ∧ w.cell? ⟨g, k * 3, none⟩ = some (.int .u64 ss[k].at_) ∧ w.cell? ⟨g, k * 3 + 1, none⟩ = some (.int .u64 ss[k].dn) ∧ w.cell? ⟨g, k * 3 + 2, none⟩ = some (.int .i64 ss[k].ln) := by
        rcases Hr.out with ⟨_, h⟩ | ⟨g, cap', hv, _, hg, _, _, hc⟩
        · subst h; simp at hlt'
        · simp at hv
          exact ⟨g, hg, hv.1, hc k hlt'⟩
      subst ha
      have hsn := hide (show sumT (ss.take (k + 1)) = _ from (by rw [take_snoc'' hlt', sumT_snoc]))
      have hr := sumT_rng (l := ss.take k) fun s hs => Hok.out s (List.mem_of_mem_take hs)
      rw [List.length_take, Nat.min_eq_left (by omega)] at hr
      have hs := Hok.out ss[k] (List.getElem_mem hlt')
      unfold SP.ok at hs
      have cc : ∀ o, wr.cell? ⟨g, o, none⟩ = w.cell? ⟨g, o, none⟩ := fun o => g0.cell (p := ⟨g, o, none⟩) hg
      rw [← cc] at e0 e1 e2
      clear cc
      generalize ss[k].at_ = x at *
      generalize ss[k].dn = y at *
      generalize ss[k].ln = z at *
      generalize sumT (ss.take k) = q at *
      have g0s := g0.size
      have hzw : IntKind.u64.wrap z = z := IntWalk.u64_in _ ⟨by omega, by omega⟩
      clear hlt'
      go_wp2
      go_roundw
      case rel => exact ⟨k + 1, by rw [Hn.out]; omega, by go_num, by first | (rw [hsn.out]; done) | (rw [hsn.out]; go_num), by (repeat' (first | (with_reducible exact Below.refl _ _) | (with_reducible assumption) | (with_reducible refine below_drewN ?_ _) | (with_reducible refine Below.drew ?_) | (with_reducible refine Below.alloc ?_ ?_ _) | (with_reducible refine Below.setCell ?_ ?_ _) | go_size))⟩
      case measure => simp [intOf]; omega
    · obtain rfl : k = n := by omega
      go_wp2
      go_ret
      exact ⟨reti (by rw [← Hc.out, ← Hn.out, List.take_length]), g0⟩

end Go.Proofs.Ytapikbgloagnkaa
