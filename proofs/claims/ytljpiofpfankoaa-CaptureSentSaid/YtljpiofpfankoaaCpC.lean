/-
  Captures: prefixes; cutting a frame off. Conditions: strings that are not too long.
-/
import Derived.Test.YtljpiofpfankoaaCpB
import Derived.Test.YtljpiofpfankoaaGuarO
import Derived.Deep.CutRange
import Derived.Deep.DeepCutAuto
namespace Go.Proofs.Ytljpiofpfankoaa
open Go.RowKit Go.Sort
set_option linter.unusedVariables false
set_option linter.unusedSimpArgs false
theorem strOf_inj {a b : List Int} (ha : Byt a) (hb : Byt b) (h1 : (strOfNums a).data.toList = (strOfNums b).data.toList) : a = b := by
  rw [strOfNums_data, strOfNums_data] at h1
  have key : ∀ (l : List Int), Byt l → (l.map fun n => UInt8.ofNat n.toNat).map (fun b => (b.toNat : Int)) = l := by
    intro l hl
    rw [List.map_map]
    conv => rhs; rw [← List.map_id l]
    refine List.map_congr_left fun x hx => ?_
    have := hl x hx
    show ((UInt8.ofNat x.toNat).toNat : Int) = x
    rw [UInt8.toNat_ofNat']; omega
  rw [← key a ha, ← key b hb, h1]
theorem strneb {a b : List Int} (ha : Byt a) (hb : Byt b) (hne : a ≠ b) : ((strOfNums a).toList == (strOfNums b).toList) = false := by
  rw [ByteArray.toList_eq, ByteArray.toList_eq]
  exact beq_eq_false_iff_ne.2 (fun h => hne (strOf_inj ha hb h))
def flog : List Int := [102, 108, 111, 103]
theorem flog_str : SV flog = .string ⟨#[102, 108, 111, 103]⟩ := by rfl
theorem flog_byt : Byt flog := by unfold Byt flog; decide
theorem hasPre (l : List Int) (w : World) (hl : Byt l) (hb : l.length ≤ 4611686018427387904) :
    Calls Try.prog 74 #[SV l, .string ⟨#[102, 108, 111, 103]⟩] w fun e w' => e = .returned (.bool (decide (l.take 4 = flog))) ∧ w = w' := by
  have ks := sv_size
  have kx := strOf_sub
  rw [← flog_str]
  have hf4 : flog.length = 4 := rfl
  by_cases h4 : 4 ≤ l.length
  · have d1 : decide ((4 : Int) ≤ (l.length : Int)) = true := decide_eq_true (by omega)
    have d1n : decide (4 ≤ l.length) = true := decide_eq_true h4
    have h4i : (4 : Int) ≤ (l.length : Int) := by omega
    by_cases he : l.take 4 = flog
    · rw [decide_eq_true he]
      have q1 : ∀ v, (binOp .eql 9 (SV flog) (SV flog)).run Try.prog v = .ok (.bool true) v := strq _
      go_enter Try.func74, Try.ntmps74
      go_wp2
      go_ret
      exact ⟨rfl, rfl⟩
    · rw [decide_eq_false he]
      have q1 := strneb (fun x hx => hl x (List.mem_of_mem_take hx)) flog_byt he
      go_enter Try.func74, Try.ntmps74
      go_wp2
      go_ret
      exact ⟨rfl, rfl⟩
  · have he : ¬ l.take 4 = flog := fun e => by have := congrArg List.length e; rw [List.length_take, hf4] at this; omega
    rw [decide_eq_false he]
    have d1 : decide ((4 : Int) ≤ (l.length : Int)) = false := decide_eq_false (by omega)
    have d1n : decide (4 ≤ l.length) = false := decide_eq_false h4
    go_enter Try.func74, Try.ntmps74
    go_wp2
    go_ret
    exact ⟨rfl, rfl⟩
theorem cutPreL (l : List Int) (w : World) (hl : Byt l) (hb : l.length ≤ 4611686018427387904) :
    Calls Try.prog 61 #[SV l, .string ⟨#[102, 108, 111, 103]⟩] w fun e w' => e = .returned (.tuple #[SV (if l.take 4 = flog then l.drop 4 else l), .bool (decide (l.take 4 = flog))]) ∧ w = w' := by
  have ks := sv_size
  have kx := strOf_sub
  have kf := flog_str
  by_cases he : l.take 4 = flog
  · rw [if_pos he, decide_eq_true he]
    have h4 : 4 ≤ l.length := by have := congrArg List.length he; rw [List.length_take] at this; have hf4 : flog.length = 4 := rfl; omega
    have h4i : (4 : Int) ≤ (l.length : Int) := by omega
    have hH := hide (show ∀ v, Calls Try.prog 74 #[SV l, .string ⟨#[102, 108, 111, 103]⟩] v fun e w' => e = .returned (.bool true) ∧ v = w' from fun v => by have h := hasPre l v hl hb; rw [decide_eq_true he] at h; exact h)
    have hsz : (⟨#[102, 108, 111, 103]⟩ : ByteArray).size = 4 := rfl
    have htk : (l.drop 4).take (l.length - 4) = l.drop 4 := List.take_of_length_le (by simp)
    clear he
    go_enter Try.func61, Try.ntmps61
    go_wp2_with fail
    refine (hH.out _).mono ?_
    rintro e u1 ⟨rfl, rfl⟩
    go_wp2
    go_ret2
    exact ⟨rfl, rfl⟩
  · rw [if_neg he, decide_eq_false he]
    have hH := hide (show ∀ v, Calls Try.prog 74 #[SV l, .string ⟨#[102, 108, 111, 103]⟩] v fun e w' => e = .returned (.bool false) ∧ v = w' from fun v => by have h := hasPre l v hl hb; rw [decide_eq_false he] at h; exact h)
    clear he
    go_enter Try.func61, Try.ntmps61
    go_wp2_with fail
    refine (hH.out _).mono ?_
    rintro e u1 ⟨rfl, rfl⟩
    go_wp2
    go_ret2
    exact ⟨rfl, rfl⟩
theorem cutPre (l : List Int) (w : World) (hl : Byt l) (hb : l.length ≤ 4611686018427387904) :
    Calls Try.prog 42 #[SV l, .string ⟨#[102, 108, 111, 103]⟩] w fun e w' => e = .returned (.tuple #[SV (if l.take 4 = flog then l.drop 4 else l), .bool (decide (l.take 4 = flog))]) ∧ w = w' := by
  obtain ⟨R, hR⟩ : ∃ R, (if l.take 4 = flog then l.drop 4 else l) = R := ⟨_, rfl⟩
  obtain ⟨b, hbb⟩ : ∃ b, decide (l.take 4 = flog) = b := ⟨_, rfl⟩
  have hC := hide (show ∀ v, Calls Try.prog 61 #[SV l, .string ⟨#[102, 108, 111, 103]⟩] v fun e w' => e = .returned (.tuple #[SV R, .bool b]) ∧ v = w' from fun v => by have h := cutPreL l v hl hb; rw [hR, hbb] at h; exact h)
  rw [hR, hbb]
  clear hR hbb
  go_enter Try.func42, Try.ntmps42
  go_wp2_with fail
  refine (hC.out _).mono ?_
  rintro e u1 ⟨rfl, rfl⟩
  go_wp2
  go_ret2
  exact ⟨rfl, rfl⟩
theorem hor_take (l : List Int) (m : Nat) : ∀ k, k ≤ m → hor (l.take m) k = hor l k
  | 0, _ => rfl
  | k + 1, h => by
    show hor (l.take m) k * 256 + (l.take m).getD k 0 = hor l k * 256 + l.getD k 0
    rw [hor_take l m k (by omega)]
    have : (l.take m).getD k 0 = l.getD k 0 := by rw [List.getD_eq_getElem?_getD, List.getElem?_take_of_lt (by omega), List.getD_eq_getElem?_getD]
    rw [this]
theorem cut_3a (l : List Int) (last t n : Int) (w : World) (hl : Byt l) (hb : l.length ≤ 4611686018427387904) (hla : 0 ≤ last ∧ last ≤ 18446744073709551615) (h : l.length < 10) :
    Calls Try.prog 43 #[SV l, .int .u64 last] w fun e w' => e = .returned (.tuple #[.agg #[.int .u64 0, .string ⟨#[]⟩], .string ⟨#[]⟩, .int .i64 3]) ∧ Below w.heap.size w w' := by
  have ks := sv_size
  have d1 : decide ((l.length : Int) < 10) = true := decide_eq_true (by omega)
  go_enter Try.func43, Try.ntmps43
  go_wp2
  refine bp_forget (fun v => Below w.heap.size w v ∧ Blk v (w.heap.size) #[.int .u64 0, .string ⟨#[]⟩] 55) ⟨by (repeat' (first | (with_reducible (first | exact Below.refl _ _ | assumption | refine below_drewN ?_ _ | refine Below.drew ?_ | refine Below.alloc ?_ ?_ _ | refine Below.setCell ?_ ?_ _)) | go_size)), by (repeat' (first | (with_reducible (first | assumption | exact Blk.alloc_new _ _ _ (by first | rfl | (simp; done) | omega) | apply Blk.drewN | apply Blk.drew | apply Blk.alloc_old | apply Blk.set_same | apply Blk.set_other)) | (show (_ : Nat) ≠ _; first | omega | (simp; done) | (simp; omega)) | ((simp only [List.setIfInBounds_toArray, List.set_cons_succ, List.set_cons_zero]); (with_reducible exact rfl)) | (with_reducible exact rfl) | (show (_ : Array Value) = _; exact rfl)))⟩ ?_
  rintro v ⟨gv, Bv⟩
  refine bodyPost_ret (v := .tuple #[.agg #[.int .u64 0, .string ⟨#[]⟩], .string ⟨#[]⟩, .int .i64 3]) ?_ ?_ ?_
  · exact results_dec (w.heap.size) #[.int .u64 0, .string ⟨#[]⟩] 55 _ _ _ _ _ Try.results43 (by rfl) (by rfl) (by rfl) Bv Try.underlying55 rfl (by kernel_rfl)
  · rfl
  · exact ⟨rfl, gv⟩
set_option maxRecDepth 100000 in
set_option maxHeartbeats 4000000 in
theorem cut_26a (l : List Int) (last t n : Int) (w : World) (hl : Byt l) (hb : l.length ≤ 4611686018427387904) (hla : 0 ≤ last ∧ last ≤ 18446744073709551615) (h10 : 10 ≤ l.length) (ht : hor l 8 = t) (hn : hor (l.drop 8) 2 = n) (h1 : n < 1) :
    Calls Try.prog 43 #[SV l, .int .u64 last] w fun e w' => e = .returned (.tuple #[.agg #[.int .u64 0, .string ⟨#[]⟩], .string ⟨#[]⟩, .int .i64 26]) ∧ Below w.heap.size w w' := by
  have ks := sv_size
  have kx := strOf_sub
  have d1 : decide ((l.length : Int) < 10) = false := decide_eq_false (by omega)
  have htr : 0 ≤ t ∧ t ≤ 18446744073709551615 := by rw [← ht]; have := hor_rng hl 8; omega
  have hnr : 0 ≤ n ∧ n ≤ 65535 := by rw [← hn]; have := hor_rng (l := l.drop 8) (fun x hx => hl x (List.mem_of_mem_drop hx)) 2; omega
  have hwn : IntKind.i64.wrap n = n := IntWalk.i64_in _ ⟨by omega, by omega⟩
  have R1 := hide (show ∀ v, Calls Try.prog 62 #[SV (l.take 8)] v fun e w' => e = .returned (.int .u64 t) ∧ v = w' from fun v => ccRead (l.take 8) t v (fun x hx => hl x (List.mem_of_mem_take hx)) (by rw [List.length_take]; omega) (by rw [List.length_take, show min 8 l.length = 8 by omega, hor_take _ _ _ (Nat.le_refl _)]; exact ht))
  have R2 := hide (show ∀ v, Calls Try.prog 62 #[SV ((l.drop 8).take 2)] v fun e w' => e = .returned (.int .u64 n) ∧ v = w' from fun v => ccRead ((l.drop 8).take 2) n v (fun x hx => hl x (List.mem_of_mem_drop (List.mem_of_mem_take hx))) (by rw [List.length_take]; omega) (by rw [List.length_take, List.length_drop, show min 2 (l.length - 8) = 2 by omega, hor_take _ _ _ (Nat.le_refl _)]; exact hn))
  have h8i : (8 : Int) ≤ (l.length : Int) := by omega
  have h10i : (10 : Int) ≤ (l.length : Int) := by omega
  have h8 : 8 ≤ l.length := by omega
  have htk : (l.drop 10).take (l.length - 10) = l.drop 10 := List.take_of_length_le (by simp)
  have hdl : (l.drop 10).length = l.length - 10 := List.length_drop
  clear ht hn
  have d2 : decide (n < 1) = true := decide_eq_true (by omega)
  go_enter Try.func43, Try.ntmps43
  go_wp2_with fail
  refine (R1.out _).mono ?_
  rintro e u1 ⟨rfl, rfl⟩
  go_wp2_with fail
  refine (R2.out _).mono ?_
  rintro e u2 ⟨rfl, rfl⟩
  go_wp2
  refine bp_forget (fun v => Below w.heap.size w v ∧ Blk v (w.heap.size) #[.int .u64 0, .string ⟨#[]⟩] 55) ⟨by (repeat' (first | (with_reducible (first | exact Below.refl _ _ | assumption | refine below_drewN ?_ _ | refine Below.drew ?_ | refine Below.alloc ?_ ?_ _ | refine Below.setCell ?_ ?_ _)) | go_size)), by (repeat' (first | (with_reducible (first | assumption | exact Blk.alloc_new _ _ _ (by first | rfl | (simp; done) | omega) | apply Blk.drewN | apply Blk.drew | apply Blk.alloc_old | apply Blk.set_same | apply Blk.set_other)) | (show (_ : Nat) ≠ _; first | omega | (simp; done) | (simp; omega)) | ((simp only [List.setIfInBounds_toArray, List.set_cons_succ, List.set_cons_zero]); (with_reducible exact rfl)) | (with_reducible exact rfl) | (show (_ : Array Value) = _; exact rfl)))⟩ ?_
  rintro v ⟨gv, Bv⟩
  refine bodyPost_ret (v := .tuple #[.agg #[.int .u64 0, .string ⟨#[]⟩], .string ⟨#[]⟩, .int .i64 26]) ?_ ?_ ?_
  · exact results_dec (w.heap.size) #[.int .u64 0, .string ⟨#[]⟩] 55 _ _ _ _ _ Try.results43 (by rfl) (by rfl) (by rfl) Bv Try.underlying55 rfl (by kernel_rfl)
  · rfl
  · exact ⟨rfl, gv⟩
set_option maxRecDepth 100000 in
set_option maxHeartbeats 4000000 in
theorem cut_26b (l : List Int) (last t n : Int) (w : World) (hl : Byt l) (hb : l.length ≤ 4611686018427387904) (hla : 0 ≤ last ∧ last ≤ 18446744073709551615) (h10 : 10 ≤ l.length) (ht : hor l 8 = t) (hn : hor (l.drop 8) 2 = n) (h1 : 16384 < n) :
    Calls Try.prog 43 #[SV l, .int .u64 last] w fun e w' => e = .returned (.tuple #[.agg #[.int .u64 0, .string ⟨#[]⟩], .string ⟨#[]⟩, .int .i64 26]) ∧ Below w.heap.size w w' := by
  have ks := sv_size
  have kx := strOf_sub
  have d1 : decide ((l.length : Int) < 10) = false := decide_eq_false (by omega)
  have htr : 0 ≤ t ∧ t ≤ 18446744073709551615 := by rw [← ht]; have := hor_rng hl 8; omega
  have hnr : 0 ≤ n ∧ n ≤ 65535 := by rw [← hn]; have := hor_rng (l := l.drop 8) (fun x hx => hl x (List.mem_of_mem_drop hx)) 2; omega
  have hwn : IntKind.i64.wrap n = n := IntWalk.i64_in _ ⟨by omega, by omega⟩
  have R1 := hide (show ∀ v, Calls Try.prog 62 #[SV (l.take 8)] v fun e w' => e = .returned (.int .u64 t) ∧ v = w' from fun v => ccRead (l.take 8) t v (fun x hx => hl x (List.mem_of_mem_take hx)) (by rw [List.length_take]; omega) (by rw [List.length_take, show min 8 l.length = 8 by omega, hor_take _ _ _ (Nat.le_refl _)]; exact ht))
  have R2 := hide (show ∀ v, Calls Try.prog 62 #[SV ((l.drop 8).take 2)] v fun e w' => e = .returned (.int .u64 n) ∧ v = w' from fun v => ccRead ((l.drop 8).take 2) n v (fun x hx => hl x (List.mem_of_mem_drop (List.mem_of_mem_take hx))) (by rw [List.length_take]; omega) (by rw [List.length_take, List.length_drop, show min 2 (l.length - 8) = 2 by omega, hor_take _ _ _ (Nat.le_refl _)]; exact hn))
  have h8i : (8 : Int) ≤ (l.length : Int) := by omega
  have h10i : (10 : Int) ≤ (l.length : Int) := by omega
  have h8 : 8 ≤ l.length := by omega
  have htk : (l.drop 10).take (l.length - 10) = l.drop 10 := List.take_of_length_le (by simp)
  have hdl : (l.drop 10).length = l.length - 10 := List.length_drop
  clear ht hn
  have d2 : decide (n < 1) = false := decide_eq_false (by omega)
  have d3 : decide (16384 < n) = true := decide_eq_true (by omega)
  go_enter Try.func43, Try.ntmps43
  go_wp2_with fail
  refine (R1.out _).mono ?_
  rintro e u1 ⟨rfl, rfl⟩
  go_wp2_with fail
  refine (R2.out _).mono ?_
  rintro e u2 ⟨rfl, rfl⟩
  go_wp2
  refine bp_forget (fun v => Below w.heap.size w v ∧ Blk v (w.heap.size) #[.int .u64 0, .string ⟨#[]⟩] 55) ⟨by (repeat' (first | (with_reducible (first | exact Below.refl _ _ | assumption | refine below_drewN ?_ _ | refine Below.drew ?_ | refine Below.alloc ?_ ?_ _ | refine Below.setCell ?_ ?_ _)) | go_size)), by (repeat' (first | (with_reducible (first | assumption | exact Blk.alloc_new _ _ _ (by first | rfl | (simp; done) | omega) | apply Blk.drewN | apply Blk.drew | apply Blk.alloc_old | apply Blk.set_same | apply Blk.set_other)) | (show (_ : Nat) ≠ _; first | omega | (simp; done) | (simp; omega)) | ((simp only [List.setIfInBounds_toArray, List.set_cons_succ, List.set_cons_zero]); (with_reducible exact rfl)) | (with_reducible exact rfl) | (show (_ : Array Value) = _; exact rfl)))⟩ ?_
  rintro v ⟨gv, Bv⟩
  refine bodyPost_ret (v := .tuple #[.agg #[.int .u64 0, .string ⟨#[]⟩], .string ⟨#[]⟩, .int .i64 26]) ?_ ?_ ?_
  · exact results_dec (w.heap.size) #[.int .u64 0, .string ⟨#[]⟩] 55 _ _ _ _ _ Try.results43 (by rfl) (by rfl) (by rfl) Bv Try.underlying55 rfl (by kernel_rfl)
  · rfl
  · exact ⟨rfl, gv⟩
set_option maxRecDepth 100000 in
set_option maxHeartbeats 4000000 in
theorem cut_3b (l : List Int) (last t n : Int) (w : World) (hl : Byt l) (hb : l.length ≤ 4611686018427387904) (hla : 0 ≤ last ∧ last ≤ 18446744073709551615) (h10 : 10 ≤ l.length) (ht : hor l 8 = t) (hn : hor (l.drop 8) 2 = n) (h1 : 1 ≤ n ∧ n ≤ 16384) (h2 : (l.length : Int) - 10 < n) :
    Calls Try.prog 43 #[SV l, .int .u64 last] w fun e w' => e = .returned (.tuple #[.agg #[.int .u64 0, .string ⟨#[]⟩], .string ⟨#[]⟩, .int .i64 3]) ∧ Below w.heap.size w w' := by
  have ks := sv_size
  have kx := strOf_sub
  have d1 : decide ((l.length : Int) < 10) = false := decide_eq_false (by omega)
  have htr : 0 ≤ t ∧ t ≤ 18446744073709551615 := by rw [← ht]; have := hor_rng hl 8; omega
  have hnr : 0 ≤ n ∧ n ≤ 65535 := by rw [← hn]; have := hor_rng (l := l.drop 8) (fun x hx => hl x (List.mem_of_mem_drop hx)) 2; omega
  have hwn : IntKind.i64.wrap n = n := IntWalk.i64_in _ ⟨by omega, by omega⟩
  have R1 := hide (show ∀ v, Calls Try.prog 62 #[SV (l.take 8)] v fun e w' => e = .returned (.int .u64 t) ∧ v = w' from fun v => ccRead (l.take 8) t v (fun x hx => hl x (List.mem_of_mem_take hx)) (by rw [List.length_take]; omega) (by rw [List.length_take, show min 8 l.length = 8 by omega, hor_take _ _ _ (Nat.le_refl _)]; exact ht))
  have R2 := hide (show ∀ v, Calls Try.prog 62 #[SV ((l.drop 8).take 2)] v fun e w' => e = .returned (.int .u64 n) ∧ v = w' from fun v => ccRead ((l.drop 8).take 2) n v (fun x hx => hl x (List.mem_of_mem_drop (List.mem_of_mem_take hx))) (by rw [List.length_take]; omega) (by rw [List.length_take, List.length_drop, show min 2 (l.length - 8) = 2 by omega, hor_take _ _ _ (Nat.le_refl _)]; exact hn))
  have h8i : (8 : Int) ≤ (l.length : Int) := by omega
  have h10i : (10 : Int) ≤ (l.length : Int) := by omega
  have h8 : 8 ≤ l.length := by omega
  have htk : (l.drop 10).take (l.length - 10) = l.drop 10 := List.take_of_length_le (by simp)
  have hdl : (l.drop 10).length = l.length - 10 := List.length_drop
  clear ht hn
  have d2 : decide (n < 1) = false := decide_eq_false (by omega)
  have d3 : decide (16384 < n) = false := decide_eq_false (by omega)
  have d4 : decide (((l.length - 10 : Nat) : Int) < n) = true := decide_eq_true (by omega)
  go_enter Try.func43, Try.ntmps43
  go_wp2_with fail
  refine (R1.out _).mono ?_
  rintro e u1 ⟨rfl, rfl⟩
  go_wp2_with fail
  refine (R2.out _).mono ?_
  rintro e u2 ⟨rfl, rfl⟩
  go_wp2
  refine bp_forget (fun v => Below w.heap.size w v ∧ Blk v (w.heap.size) #[.int .u64 0, .string ⟨#[]⟩] 55) ⟨by (repeat' (first | (with_reducible (first | exact Below.refl _ _ | assumption | refine below_drewN ?_ _ | refine Below.drew ?_ | refine Below.alloc ?_ ?_ _ | refine Below.setCell ?_ ?_ _)) | go_size)), by (repeat' (first | (with_reducible (first | assumption | exact Blk.alloc_new _ _ _ (by first | rfl | (simp; done) | omega) | apply Blk.drewN | apply Blk.drew | apply Blk.alloc_old | apply Blk.set_same | apply Blk.set_other)) | (show (_ : Nat) ≠ _; first | omega | (simp; done) | (simp; omega)) | ((simp only [List.setIfInBounds_toArray, List.set_cons_succ, List.set_cons_zero]); (with_reducible exact rfl)) | (with_reducible exact rfl) | (show (_ : Array Value) = _; exact rfl)))⟩ ?_
  rintro v ⟨gv, Bv⟩
  refine bodyPost_ret (v := .tuple #[.agg #[.int .u64 0, .string ⟨#[]⟩], .string ⟨#[]⟩, .int .i64 3]) ?_ ?_ ?_
  · exact results_dec (w.heap.size) #[.int .u64 0, .string ⟨#[]⟩] 55 _ _ _ _ _ Try.results43 (by rfl) (by rfl) (by rfl) Bv Try.underlying55 rfl (by kernel_rfl)
  · rfl
  · exact ⟨rfl, gv⟩
set_option maxRecDepth 100000 in
set_option maxHeartbeats 4000000 in
theorem cut_27a (l : List Int) (last t n : Int) (w : World) (hl : Byt l) (hb : l.length ≤ 4611686018427387904) (hla : 0 ≤ last ∧ last ≤ 18446744073709551615) (h10 : 10 ≤ l.length) (ht : hor l 8 = t) (hn : hor (l.drop 8) 2 = n) (h1 : 1 ≤ n ∧ n ≤ 16384) (h2 : n ≤ (l.length : Int) - 10) (h3 : t < last) :
    Calls Try.prog 43 #[SV l, .int .u64 last] w fun e w' => e = .returned (.tuple #[.agg #[.int .u64 0, .string ⟨#[]⟩], .string ⟨#[]⟩, .int .i64 27]) ∧ Below w.heap.size w w' := by
  have ks := sv_size
  have kx := strOf_sub
  have d1 : decide ((l.length : Int) < 10) = false := decide_eq_false (by omega)
  have htr : 0 ≤ t ∧ t ≤ 18446744073709551615 := by rw [← ht]; have := hor_rng hl 8; omega
  have hnr : 0 ≤ n ∧ n ≤ 65535 := by rw [← hn]; have := hor_rng (l := l.drop 8) (fun x hx => hl x (List.mem_of_mem_drop hx)) 2; omega
  have hwn : IntKind.i64.wrap n = n := IntWalk.i64_in _ ⟨by omega, by omega⟩
  have R1 := hide (show ∀ v, Calls Try.prog 62 #[SV (l.take 8)] v fun e w' => e = .returned (.int .u64 t) ∧ v = w' from fun v => ccRead (l.take 8) t v (fun x hx => hl x (List.mem_of_mem_take hx)) (by rw [List.length_take]; omega) (by rw [List.length_take, show min 8 l.length = 8 by omega, hor_take _ _ _ (Nat.le_refl _)]; exact ht))
  have R2 := hide (show ∀ v, Calls Try.prog 62 #[SV ((l.drop 8).take 2)] v fun e w' => e = .returned (.int .u64 n) ∧ v = w' from fun v => ccRead ((l.drop 8).take 2) n v (fun x hx => hl x (List.mem_of_mem_drop (List.mem_of_mem_take hx))) (by rw [List.length_take]; omega) (by rw [List.length_take, List.length_drop, show min 2 (l.length - 8) = 2 by omega, hor_take _ _ _ (Nat.le_refl _)]; exact hn))
  have h8i : (8 : Int) ≤ (l.length : Int) := by omega
  have h10i : (10 : Int) ≤ (l.length : Int) := by omega
  have h8 : 8 ≤ l.length := by omega
  have htk : (l.drop 10).take (l.length - 10) = l.drop 10 := List.take_of_length_le (by simp)
  have hdl : (l.drop 10).length = l.length - 10 := List.length_drop
  clear ht hn
  have d2 : decide (n < 1) = false := decide_eq_false (by omega)
  have d3 : decide (16384 < n) = false := decide_eq_false (by omega)
  have d4 : decide (((l.length - 10 : Nat) : Int) < n) = false := decide_eq_false (by omega)
  have d5 : decide (t < last) = true := decide_eq_true (by omega)
  go_enter Try.func43, Try.ntmps43
  go_wp2_with fail
  refine (R1.out _).mono ?_
  rintro e u1 ⟨rfl, rfl⟩
  go_wp2_with fail
  refine (R2.out _).mono ?_
  rintro e u2 ⟨rfl, rfl⟩
  go_wp2
  refine bp_forget (fun v => Below w.heap.size w v ∧ Blk v (w.heap.size) #[.int .u64 0, .string ⟨#[]⟩] 55) ⟨by (repeat' (first | (with_reducible (first | exact Below.refl _ _ | assumption | refine below_drewN ?_ _ | refine Below.drew ?_ | refine Below.alloc ?_ ?_ _ | refine Below.setCell ?_ ?_ _)) | go_size)), by (repeat' (first | (with_reducible (first | assumption | exact Blk.alloc_new _ _ _ (by first | rfl | (simp; done) | omega) | apply Blk.drewN | apply Blk.drew | apply Blk.alloc_old | apply Blk.set_same | apply Blk.set_other)) | (show (_ : Nat) ≠ _; first | omega | (simp; done) | (simp; omega)) | ((simp only [List.setIfInBounds_toArray, List.set_cons_succ, List.set_cons_zero]); (with_reducible exact rfl)) | (with_reducible exact rfl) | (show (_ : Array Value) = _; exact rfl)))⟩ ?_
  rintro v ⟨gv, Bv⟩
  refine bodyPost_ret (v := .tuple #[.agg #[.int .u64 0, .string ⟨#[]⟩], .string ⟨#[]⟩, .int .i64 27]) ?_ ?_ ?_
  · exact results_dec (w.heap.size) #[.int .u64 0, .string ⟨#[]⟩] 55 _ _ _ _ _ Try.results43 (by rfl) (by rfl) (by rfl) Bv Try.underlying55 rfl (by kernel_rfl)
  · rfl
  · exact ⟨rfl, gv⟩
set_option maxRecDepth 100000 in
set_option maxHeartbeats 4000000 in
theorem cut_27b (l : List Int) (last t n : Int) (w : World) (hl : Byt l) (hb : l.length ≤ 4611686018427387904) (hla : 0 ≤ last ∧ last ≤ 18446744073709551615) (h10 : 10 ≤ l.length) (ht : hor l 8 = t) (hn : hor (l.drop 8) 2 = n) (h1 : 1 ≤ n ∧ n ≤ 16384) (h2 : n ≤ (l.length : Int) - 10) (h3 : last ≤ t) (h4 : 4611686018427387904 < t) :
    Calls Try.prog 43 #[SV l, .int .u64 last] w fun e w' => e = .returned (.tuple #[.agg #[.int .u64 0, .string ⟨#[]⟩], .string ⟨#[]⟩, .int .i64 27]) ∧ Below w.heap.size w w' := by
  have ks := sv_size
  have kx := strOf_sub
  have d1 : decide ((l.length : Int) < 10) = false := decide_eq_false (by omega)
  have htr : 0 ≤ t ∧ t ≤ 18446744073709551615 := by rw [← ht]; have := hor_rng hl 8; omega
  have hnr : 0 ≤ n ∧ n ≤ 65535 := by rw [← hn]; have := hor_rng (l := l.drop 8) (fun x hx => hl x (List.mem_of_mem_drop hx)) 2; omega
  have hwn : IntKind.i64.wrap n = n := IntWalk.i64_in _ ⟨by omega, by omega⟩
  have R1 := hide (show ∀ v, Calls Try.prog 62 #[SV (l.take 8)] v fun e w' => e = .returned (.int .u64 t) ∧ v = w' from fun v => ccRead (l.take 8) t v (fun x hx => hl x (List.mem_of_mem_take hx)) (by rw [List.length_take]; omega) (by rw [List.length_take, show min 8 l.length = 8 by omega, hor_take _ _ _ (Nat.le_refl _)]; exact ht))
  have R2 := hide (show ∀ v, Calls Try.prog 62 #[SV ((l.drop 8).take 2)] v fun e w' => e = .returned (.int .u64 n) ∧ v = w' from fun v => ccRead ((l.drop 8).take 2) n v (fun x hx => hl x (List.mem_of_mem_drop (List.mem_of_mem_take hx))) (by rw [List.length_take]; omega) (by rw [List.length_take, List.length_drop, show min 2 (l.length - 8) = 2 by omega, hor_take _ _ _ (Nat.le_refl _)]; exact hn))
  have h8i : (8 : Int) ≤ (l.length : Int) := by omega
  have h10i : (10 : Int) ≤ (l.length : Int) := by omega
  have h8 : 8 ≤ l.length := by omega
  have htk : (l.drop 10).take (l.length - 10) = l.drop 10 := List.take_of_length_le (by simp)
  have hdl : (l.drop 10).length = l.length - 10 := List.length_drop
  clear ht hn
  have d2 : decide (n < 1) = false := decide_eq_false (by omega)
  have d3 : decide (16384 < n) = false := decide_eq_false (by omega)
  have d4 : decide (((l.length - 10 : Nat) : Int) < n) = false := decide_eq_false (by omega)
  have d5 : decide (t < last) = false := decide_eq_false (by omega)
  have d6 : decide (4611686018427387904 < t) = true := decide_eq_true (by omega)
  go_enter Try.func43, Try.ntmps43
  go_wp2_with fail
  refine (R1.out _).mono ?_
  rintro e u1 ⟨rfl, rfl⟩
  go_wp2_with fail
  refine (R2.out _).mono ?_
  rintro e u2 ⟨rfl, rfl⟩
  go_wp2
  refine bp_forget (fun v => Below w.heap.size w v ∧ Blk v (w.heap.size) #[.int .u64 0, .string ⟨#[]⟩] 55) ⟨by (repeat' (first | (with_reducible (first | exact Below.refl _ _ | assumption | refine below_drewN ?_ _ | refine Below.drew ?_ | refine Below.alloc ?_ ?_ _ | refine Below.setCell ?_ ?_ _)) | go_size)), by (repeat' (first | (with_reducible (first | assumption | exact Blk.alloc_new _ _ _ (by first | rfl | (simp; done) | omega) | apply Blk.drewN | apply Blk.drew | apply Blk.alloc_old | apply Blk.set_same | apply Blk.set_other)) | (show (_ : Nat) ≠ _; first | omega | (simp; done) | (simp; omega)) | ((simp only [List.setIfInBounds_toArray, List.set_cons_succ, List.set_cons_zero]); (with_reducible exact rfl)) | (with_reducible exact rfl) | (show (_ : Array Value) = _; exact rfl)))⟩ ?_
  rintro v ⟨gv, Bv⟩
  refine bodyPost_ret (v := .tuple #[.agg #[.int .u64 0, .string ⟨#[]⟩], .string ⟨#[]⟩, .int .i64 27]) ?_ ?_ ?_
  · exact results_dec (w.heap.size) #[.int .u64 0, .string ⟨#[]⟩] 55 _ _ _ _ _ Try.results43 (by rfl) (by rfl) (by rfl) Bv Try.underlying55 rfl (by kernel_rfl)
  · rfl
  · exact ⟨rfl, gv⟩
end Go.Proofs.Ytljpiofpfankoaa
