/-
  'floodgatelaw44.Ipv4Sums' returns true for every input. Conditions: none.
-/
import Derived.Test.YtldahcfggeebgaaIpQ
import Derived.Test.YtldahcfggeebgaaFrame
import Derived.SizedLaws
import Derived.ChangeMaps5
namespace Go.Proofs.Ytldahcfggeebgaa
open Go.RowKit Go.Sort Go.ChangeShapes Go.WideShapes Go.ChangeAt
open Go.ChangeMaps (open_string shut_string)
set_option linter.unusedVariables false
set_option linter.unusedSimpArgs false
/-- A string's bytes as numbers. -/
def numsOf (a : ByteArray) : List Int := a.data.toList.map fun b => (b.toNat : Int)
theorem numsOf_str (a : ByteArray) : strOfNums (numsOf a) = a := by
  unfold strOfNums numsOf
  rw [List.map_map]
  have : ((fun n : Int => UInt8.ofNat n.toNat) ∘ fun b : UInt8 => (b.toNat : Int)) = id := by
    funext b
    show UInt8.ofNat ((b.toNat : Int).toNat) = b
    rw [Int.toNat_natCast]; exact UInt8.ofNat_toNat
  rw [this, List.map_id, Array.toArray_toList]
theorem numsOf_len (a : ByteArray) : (numsOf a).length = a.size := by
  show (List.map _ a.data.toList).length = a.data.size
  rw [List.length_map, Array.length_toList]
theorem numsOf_sv (a : ByteArray) : Value.string a = SV (numsOf a) := by
  show Value.string a = .string (strOfNums (numsOf a))
  rw [numsOf_str]
theorem numsOf_byt (a : ByteArray) : Byt (numsOf a) := by
  intro x hx
  obtain ⟨b, _, rfl⟩ := List.mem_map.1 hx
  have := b.toNat_lt
  omega
theorem getD_app1 (s t : List Int) {j : Nat} (h : j < s.length) : (s ++ t).getD j 0 = s.getD j 0 := by
  simp [List.getD_eq_getElem?_getD, List.getElem?_append_left h]
theorem getD_app2 (s t : List Int) (k : Nat) : (s ++ t).getD (s.length + k) 0 = t.getD k 0 := by
  simp [List.getD_eq_getElem?_getD, List.getElem?_append_right]
theorem wk4 (a b c d : Int) : wk [a, b, c, d] 4 = 256 * a + b + 256 * c + d := by simp [wk]
theorem wk_app (s t : List Int) (he : s.length % 2 = 0) : ∀ k, wk (s ++ t) (s.length + k) = wk s s.length + wk t k
  | 0 => by
    have : ∀ j, j ≤ s.length → wk (s ++ t) j = wk s j := by
      intro j
      induction j with
      | zero => intro _; rfl
      | succ j ih =>
        intro h
        unfold wk
        rw [ih (by omega), getD_app1 s t (by omega)]
    simp [wk, this]
  | k + 1 => by
    show wk (s ++ t) (s.length + k) + (if (s.length + k) % 2 = 0 then 256 * (s ++ t).getD (s.length + k) 0 else (s ++ t).getD (s.length + k) 0) = wk s s.length + (wk t k + (if k % 2 = 0 then 256 * t.getD k 0 else t.getD k 0))
    rw [wk_app s t he k, getD_app2]
    by_cases hk : k % 2 = 0
    · rw [if_pos hk, if_pos (by omega)]; omega
    · rw [if_neg hk, if_neg (by omega)]; omega
theorem csum_two {a b : Int} (ha : 0 ≤ a) (hb : 0 ≤ b) : csum (csum a + csum b) = csum (a + b) := by
  have h2 := csum_rng hb
  rw [csum_add ha h2.1, Int.add_comm, csum_add hb ha, Int.add_comm]
theorem sums_plain (s t : List Int) (hs : Byt s) (ht : Byt t) (he : s.length % 2 = 0) : sumS (s ++ t) = sumS [sumS s / 256, sumS s % 256, sumS t / 256, sumS t % 256] := by
  have h1 := (wk_rng hs s.length).1
  have h2 := (wk_rng ht t.length).1
  unfold sumS
  rw [List.length_append, wk_app s t he, ← csum_two h1 h2]
  show _ = csum (wk [_, _, _, _] 4)
  rw [wk4]
  congr 1
  omega
theorem kconv4 (v : World) (B : Nat) (h0 : v.cell? ⟨B, 0, none⟩ = some (.int .u8 (intOf ((v.cell? ⟨B, 0, none⟩).getD undef)))) (h1 : v.cell? ⟨B, 1, none⟩ = some (.int .u8 (intOf ((v.cell? ⟨B, 1, none⟩).getD undef)))) (h2 : v.cell? ⟨B, 2, none⟩ = some (.int .u8 (intOf ((v.cell? ⟨B, 2, none⟩).getD undef)))) (h3 : v.cell? ⟨B, 3, none⟩ = some (.int .u8 (intOf ((v.cell? ⟨B, 3, none⟩).getD undef)))) :
    (convert 57 9 (.slice (some ⟨B, 0, none⟩) 4 4)).run Try.prog v = .ok (SV [intOf ((v.cell? ⟨B, 0, none⟩).getD undef), intOf ((v.cell? ⟨B, 1, none⟩).getD undef), intOf ((v.cell? ⟨B, 2, none⟩).getD undef), intOf ((v.cell? ⟨B, 3, none⟩).getD undef)]) v :=
  run_convert_bytes_arg (P := Try.prog) v 57 5 Try.underlying57 Try.underlying5 B 0 4 4 _ rfl (fun i hi => by
    have : i = 0 ∨ i = 1 ∨ i = 2 ∨ i = 3 := by omega
    rcases this with rfl | rfl | rfl | rfl
    · exact h0
    · exact h1
    · exact h2
    · exact h3) 9 Try.underlying9
set_option maxRecDepth 100000 in
set_option maxHeartbeats 4000000 in
theorem sums_main (l m : List Int) (x y : Int) (w : World) (hl : Byt l) (hm : Byt m) (h1 : l.length ≤ 100000) (h2 : m.length ≤ 100000) (he : l.length % 2 = 0) (hx : sumS l = x) (hy : sumS m = y) :
    Calls Try.prog 8 #[SV l, SV m] w fun e w' => e = .returned (.bool true) ∧ Below w.heap.size w w' := by
  have ks := sv_size
  have k4 := kconv4; have ki := intOf_int
  have d1 : decide (100000 < (l.length : Int)) = false := decide_eq_false (by omega)
  have d2 : decide (100000 < (m.length : Int)) = false := decide_eq_false (by omega)
  have hx0 : 0 ≤ x ∧ x ≤ 65535 := by rw [← hx]; exact csum_rng (wk_rng hl _).1
  have hy0 : 0 ≤ y ∧ y ≤ 65535 := by rw [← hy]; exact csum_rng (wk_rng hm _).1
  have hpar : (l.length : Int).tmod 2 = 0 := by rw [Int.tmod_eq_emod_of_nonneg (by omega)]; omega
  have hw1 : IntKind.i64.wrap x = x := IntWalk.i64_in _ ⟨by omega, by omega⟩
  have u1 : IntKind.u8.wrap (x / 256) = x / 256 := by rw [IntKind.wrap_u8]; omega
  have u2 : IntKind.u8.wrap x = x % 256 := by rw [IntKind.wrap_u8]
  have u3 : IntKind.u8.wrap (y / 256) = y / 256 := by rw [IntKind.wrap_u8]; omega
  have u4 : IntKind.u8.wrap y = y % 256 := by rw [IntKind.wrap_u8]
  have ka := strOf_app
  have hadd1 : l.length + m.length ≤ 9223372036854775807 := by omega
  obtain ⟨z, hz⟩ : ∃ z, sumS (l ++ m) = z := ⟨_, rfl⟩
  have hz' : sumS [x / 256, x % 256, y / 256, y % 256] = z := by rw [← hz, sums_plain l m hl hm he, hx, hy]
  have hlm : Byt (l ++ m) := fun q hq => (List.mem_append.1 hq).elim (hl q) (hm q)
  have hb4 : Byt [x / 256, x % 256, y / 256, y % 256] := by intro q hq; simp at hq; rcases hq with rfl | rfl | rfl | rfl <;> omega
  have nlm := hide (show (l ++ m).length ≤ 9223372036854775807 by rw [List.length_append]; omega)
  have HL := hide hl; have HM := hide hm; have HX := hide hx; have HY := hide hy; have HZ := hide hz; have HZ' := hide hz'; have HLM := hide hlm; have HB := hide hb4
  clear hl hm hx hy hz hz' hlm hb4
  go_enter Try.func8, Try.ntmps8
  go_wp2_with fail
  refine (ipSum l _ HL.out (by omega) x HX.out).mono ?_
  rintro e u1 ⟨rfl, rfl⟩
  go_wp2_with fail
  refine (ipRSum l _ HL.out (by omega) x HX.out).mono ?_
  rintro e u2 ⟨rfl, rfl⟩
  go_wp2_with fail
  refine (ipSum m _ HM.out (by omega) y HY.out).mono ?_
  rintro e u3 ⟨rfl, rfl⟩
  go_wp2_with fail
  refine (ipSum (l ++ m) _ HLM.out nlm.out z HZ.out).mono ?_
  rintro e u4 ⟨rfl, rfl⟩
  go_wp2_with fail
  refine (ipSum [x / 256, x % 256, y / 256, y % 256] _ HB.out (by simp) z HZ'.out).mono ?_
  rintro e u5 ⟨rfl, rfl⟩
  go_wp2_with fail
  refine (four_true _).mono ?_
  rintro e w6 ⟨rfl, hb6⟩
  have g6 : Below w.heap.size w w6 := by refine Below.trans ?_ (hb6.mono ?_) <;> (repeat' (first | (with_reducible (first | exact Below.refl _ _ | assumption | refine below_drewN ?_ _ | refine Below.drew ?_ | refine Below.alloc ?_ ?_ _ | refine Below.setCell ?_ ?_ _)) | go_size))
  have hz6 := hb6.size
  (try simp at hz6)
  clear hb6
  go_wp2
  go_ret
  exact ⟨rfl, by (repeat' (first | (with_reducible (first | exact Below.refl _ _ | assumption | refine below_drewN ?_ _ | refine Below.drew ?_ | refine Below.alloc ?_ ?_ _ | refine Below.setCell ?_ ?_ _)) | go_size))⟩
set_option maxHeartbeats 1000000 in
theorem sums_odd (l m : List Int) (x : Int) (w : World) (hl : Byt l) (h1 : l.length ≤ 100000) (h2 : m.length ≤ 100000) (he : l.length % 2 = 1) (hx : sumS l = x) :
    Calls Try.prog 8 #[SV l, SV m] w fun e w' => e = .returned (.bool true) ∧ Below w.heap.size w w' := by
  have ks := sv_size
  have d1 : decide (100000 < (l.length : Int)) = false := decide_eq_false (by omega)
  have d2 : decide (100000 < (m.length : Int)) = false := decide_eq_false (by omega)
  have hx0 : 0 ≤ x ∧ x ≤ 65535 := by rw [← hx]; exact csum_rng (wk_rng hl _).1
  have hpar : (l.length : Int).tmod 2 = 1 := by rw [Int.tmod_eq_emod_of_nonneg (by omega)]; omega
  have hw1 : IntKind.i64.wrap x = x := IntWalk.i64_in _ ⟨by omega, by omega⟩
  have HL := hide hl; have HX := hide hx
  clear hl hx
  go_enter Try.func8, Try.ntmps8
  go_wp2_with fail
  refine (ipSum l _ HL.out (by omega) x HX.out).mono ?_
  rintro e u1 ⟨rfl, rfl⟩
  go_wp2_with fail
  refine (ipRSum l _ HL.out (by omega) x HX.out).mono ?_
  rintro e u2 ⟨rfl, rfl⟩
  go_wp2_with fail
  refine (four_true _).mono ?_
  rintro e w3 ⟨rfl, hb3⟩
  have g3 : Below w.heap.size w w3 := by refine Below.trans ?_ (hb3.mono ?_) <;> (repeat' (first | (with_reducible (first | exact Below.refl _ _ | assumption | refine below_drewN ?_ _ | refine Below.drew ?_ | refine Below.alloc ?_ ?_ _ | refine Below.setCell ?_ ?_ _)) | go_size))
  have hz3 := hb3.size
  (try simp at hz3)
  clear hb3
  go_wp2
  go_ret
  exact ⟨rfl, by (repeat' (first | (with_reducible (first | exact Below.refl _ _ | assumption | refine below_drewN ?_ _ | refine Below.drew ?_ | refine Below.alloc ?_ ?_ _ | refine Below.setCell ?_ ?_ _)) | go_size))⟩
theorem sums_long1 (l m : List Int) (w : World) (h1 : 100000 < l.length) :
    Calls Try.prog 8 #[SV l, SV m] w fun e w' => e = .returned (.bool true) ∧ Below w.heap.size w w' := by
  have ks := sv_size
  have d1 : decide (100000 < (l.length : Int)) = true := decide_eq_true (by omega)
  go_enter Try.func8, Try.ntmps8
  go_wp2_with fail
  refine (four_true _).mono ?_
  rintro e w1 ⟨rfl, hb1⟩
  have g1 : Below w.heap.size w w1 := by refine Below.trans ?_ (hb1.mono ?_) <;> (repeat' (first | (with_reducible (first | exact Below.refl _ _ | assumption | refine below_drewN ?_ _ | refine Below.drew ?_ | refine Below.alloc ?_ ?_ _ | refine Below.setCell ?_ ?_ _)) | go_size))
  have hz1 := hb1.size
  (try simp at hz1)
  clear hb1
  go_wp2
  go_ret
  exact ⟨rfl, by (repeat' (first | (with_reducible (first | exact Below.refl _ _ | assumption | refine below_drewN ?_ _ | refine Below.drew ?_ | refine Below.alloc ?_ ?_ _ | refine Below.setCell ?_ ?_ _)) | go_size))⟩
theorem sums_long2 (l m : List Int) (w : World) (h1 : l.length ≤ 100000) (h2 : 100000 < m.length) :
    Calls Try.prog 8 #[SV l, SV m] w fun e w' => e = .returned (.bool true) ∧ Below w.heap.size w w' := by
  have ks := sv_size
  have d1 : decide (100000 < (l.length : Int)) = false := decide_eq_false (by omega)
  have d2 : decide (100000 < (m.length : Int)) = true := decide_eq_true (by omega)
  go_enter Try.func8, Try.ntmps8
  go_wp2_with fail
  refine (four_true _).mono ?_
  rintro e w1 ⟨rfl, hb1⟩
  have g1 : Below w.heap.size w w1 := by refine Below.trans ?_ (hb1.mono ?_) <;> (repeat' (first | (with_reducible (first | exact Below.refl _ _ | assumption | refine below_drewN ?_ _ | refine Below.drew ?_ | refine Below.alloc ?_ ?_ _ | refine Below.setCell ?_ ?_ _)) | go_size))
  have hz1 := hb1.size
  (try simp at hz1)
  clear hb1
  go_wp2
  go_ret
  exact ⟨rfl, by (repeat' (first | (with_reducible (first | exact Below.refl _ _ | assumption | refine below_drewN ?_ _ | refine Below.drew ?_ | refine Below.alloc ?_ ?_ _ | refine Below.setCell ?_ ?_ _)) | go_size))⟩
theorem Ipv4Sums_walk (a b : ByteArray) (w : World) : Calls Try.prog 8 #[.string a, .string b] w fun e w' => e = .returned (.bool true) ∧ Below w.heap.size w w' := by
  rw [numsOf_sv a, numsOf_sv b]
  by_cases h1 : 100000 < (numsOf a).length
  · exact sums_long1 _ _ w h1
  by_cases h2 : 100000 < (numsOf b).length
  · exact sums_long2 _ _ w (by omega) h2
  by_cases he : (numsOf a).length % 2 = 0
  · exact sums_main _ _ _ _ w (numsOf_byt a) (numsOf_byt b) (by omega) (by omega) he rfl rfl
  · exact sums_odd _ _ _ w (numsOf_byt a) (by omega) (by omega) (by omega) rfl
namespace ipv4SumsDone
theorem own : ownKnob Try.prog.godebug = none := by kernel_rfl
theorem laidOut : laidOutB Try.prog = true := by kernel_rfl
set_option maxRecDepth 100000 in
theorem lifted (os : Os) (started : os.Started) (H : Type) (enc : TypeId × Value → H) :
    ReturnsInHanded {} Try.checked os 8 .any (Rows.ipv4SumsSpec.pre6 enc Try.prog Try.f8 Rows.ipv4SumsRow.domain false) (Rows.ipv4SumsSpec.post enc Try.prog Try.f8 false true false false) := by
  refine returnsInHanded_of_change (C := Try.checked) own started (by kernel_rfl) Try.func8
    (ChangeSpec.witness6 (enc := enc) (C := Try.checked) false ⟨#[], #[.string ⟨#[]⟩, .string ⟨#[]⟩], []⟩ 8 (by kernel_rfl) (by kernel_rfl) (by kernel_rfl) (by kernel_rfl)) ?_
  intro W base args ds gs before hval0 hW hcnd _
  have hval : ∀ (j : Nat) t v, Try.f8.params[j]? = some t → args[j]? = some v → Value.okWide Try.prog W .any base t v := hval0
  have hW' := hW
  obtain ⟨p, q, hA0, hV, rfl, hfz, hnd⟩ := hW
  have hA : DataW.TrodAll enc Try.prog W 0 (fun _ => true) true Try.f8.params.toList args.toList ds p := hA0
  rw [Try.params8] at hA hval
  obtain ⟨v0, vs0, d0, ds0, p0, q0, hargs, rfl, rfl, h0, r0⟩ := trodAll_cons hA
  obtain ⟨v1, vs1, d1, ds1, p1, q1, rfl, rfl, rfl, h1, r1⟩ := trodAll_cons r0
  obtain ⟨rfl, rfl, rfl⟩ := trodAll_nil r1
  obtain rfl : args = #[v0, v1] := by cases args; simp_all
  obtain ⟨rfl, rfl⟩ := trodVars_none hV
  obtain ⟨a0, rfl, rfl, rfl, wf0⟩ := open_string Try.underlying9 (hval 0 9 v0 rfl rfl) h0
  obtain ⟨a1, rfl, rfl, rfl, wf1⟩ := open_string Try.underlying9 (hval 1 9 v1 rfl rfl) h1
  clear hA0 hval0
  refine (Ipv4Sums_walk a0 a1 W).mono fun e W' ⟨he, bel⟩ => ?_
  subst he
  exact ⟨_, rfl, _, _, _, [], _, [], hW', trodAll_mk1 (shut_bool Try.underlying4 _), (trodAll_cons_mk (shut_string Try.underlying9 wf0) (trodAll_cons_mk (shut_string Try.underlying9 wf1) trodAll_mk0)), rfl, bel.frame _, fun h => by cases h⟩
theorem over : Rows.ipv4SumsRow.holds Try.pinned (OpenSpec.ofChange Rows.ipv4SumsSpec) :=
  OpenClaim.holds_of_wide 8 Try.f8 rfl rfl rfl rfl rfl rfl rfl ⟨rfl, rfl, rfl, rfl, rfl⟩ rfl rfl rfl rfl rfl (by kernel_rfl) Try.func8 (by kernel_rfl)
    (of_decide_eq_true (by kernel_rfl)) (by unfold Func.isWrapper; first | (rw [if_pos (by decide +kernel)]; kernel_rfl) | (rw [if_neg (by decide +kernel)]; exact ⟨rfl, rfl⟩))
    (fun os started H enc _ => lifted os started H enc)
end ipv4SumsDone
theorem Ipv4Sums_holds : Rows.Ipv4SumsSaid := ipv4SumsDone.over

end Go.Proofs.Ytldahcfggeebgaa
