/-
  'floodgatelaw44.Ipv4Decodes' returns true for every input. Conditions: none.
-/
import Derived.Test.YtldahcfggeebgaaIpS
import Derived.Test.YtldahcfggeebgaaIpT
import Derived.Test.YtldahcfggeebgaaIpN
namespace Go.Proofs.Ytldahcfggeebgaa
open Go.RowKit Go.Sort Go.ChangeShapes Go.WideShapes Go.ChangeAt
open Go.ChangeMaps (open_string shut_string)
set_option linter.unusedVariables false
set_option linter.unusedSimpArgs false
set_option maxRecDepth 100000 in
set_option maxHeartbeats 4000000 in
theorem decodes_bad (l : List Int) (x : Int) (w : World) (hx : 1 ≤ x ∧ x ≤ 7)
    (KD : Hid (∀ v, Calls Try.prog 29 #[SV l] v fun e w' => e = .returned (.tuple #[.agg #[.int .u8 0, .int .u16 0, .int .u8 0, .int .u16 0, .int .u8 0, .int .u8 0, .int .u32 0, .int .u32 0, .string ⟨#[]⟩], .string ⟨#[]⟩, .int .i64 x]) ∧ Below v.heap.size v w'))
    (KB : Hid (∀ v, Calls Try.prog 32 #[SV l] v fun e w' => e = .returned (.int .i64 x) ∧ Below v.heap.size v w')) :
    Calls Try.prog 10 #[SV l] w fun e w' => e = .returned (.bool true) ∧ Below w.heap.size w w' := by
  have hx0 : ¬ x = 0 := by omega
  have hxb : (x != 0) = true := bne_iff_ne.2 hx0
  have q1 : ∀ v, (binOp .eql 9 (.string ⟨#[]⟩) (.string ⟨#[]⟩)).run Try.prog v = .ok (.bool true) v := strq _
  have q2 : ∀ v, (binOp .eql 61 (.agg #[.int .u8 0, .int .u16 0, .int .u8 0, .int .u16 0, .int .u8 0, .int .u8 0, .int .u32 0, .int .u32 0, .string ⟨#[]⟩]) (.agg #[.int .u8 0, .int .u16 0, .int .u8 0, .int .u16 0, .int .u8 0, .int .u8 0, .int .u32 0, .int .u32 0, .string ⟨#[]⟩])).run Try.prog v = .ok (.bool true) v := hdeq HD.zero
  go_enter Try.func10, Try.ntmps10
  go_wp2_with fail
  refine (KD.out _).mono ?_
  rintro e w1 ⟨rfl, hb1⟩
  have g1 : Below w.heap.size w w1 := by refine Below.trans ?_ (hb1.mono ?_) <;> (repeat' (first | (with_reducible (first | exact Below.refl _ _ | assumption | refine below_drewN ?_ _ | refine Below.drew ?_ | refine Below.alloc ?_ ?_ _ | refine Below.setCell ?_ ?_ _)) | go_size))
  have hz1 := hb1.size
  (try simp at hz1)
  clear hb1
  go_wp2_with fail
  refine (KB.out _).mono ?_
  rintro e w2 ⟨rfl, hb2⟩
  have X2 : Blk w2 (w1.heap.size) #[.int .u8 0, .int .u16 0, .int .u8 0, .int .u16 0, .int .u8 0, .int .u8 0, .int .u32 0, .int .u32 0, .string ⟨#[]⟩] 61 := Blk.below (by (repeat' (first | (with_reducible (first | assumption | exact Blk.alloc_new _ _ _ (by first | rfl | (simp; done) | omega) | apply Blk.drewN | apply Blk.drew | apply Blk.alloc_old | apply Blk.set_same | apply Blk.set_other)) | (show (_ : Nat) ≠ _; first | omega | (simp; done) | (simp; omega)) | ((simp only [List.setIfInBounds_toArray, List.set_cons_succ, List.set_cons_zero]); (with_reducible exact rfl)) | (with_reducible exact rfl) | (show (_ : Array Value) = _; exact rfl)))) hb2 (by first | (simp; done) | omega | (simp; omega))
  have g2 : Below w.heap.size w w2 := by refine Below.trans ?_ (hb2.mono ?_) <;> (repeat' (first | (with_reducible (first | exact Below.refl _ _ | assumption | refine below_drewN ?_ _ | refine Below.drew ?_ | refine Below.alloc ?_ ?_ _ | refine Below.setCell ?_ ?_ _)) | go_size))
  have hz2 := hb2.size
  (try simp at hz2)
  clear hb2
  replace cX := X2.cell
  replace fX := X2.frozen
  replace zX := X2.size
  go_wp2_with fail
  refine (four_true _).mono ?_
  rintro e w3 ⟨rfl, hb3⟩
  have g3 : Below w.heap.size w w3 := by refine Below.trans ?_ (hb3.mono ?_) <;> (repeat' (first | (with_reducible (first | exact Below.refl _ _ | assumption | refine below_drewN ?_ _ | refine Below.drew ?_ | refine Below.alloc ?_ ?_ _ | refine Below.setCell ?_ ?_ _)) | go_size))
  have hz3 := hb3.size
  (try simp at hz3)
  clear hb3
  go_wp2
  go_ret
  exact ⟨rfl, by (repeat' (first | (with_reducible (first | exact Below.refl _ _ | assumption | refine below_drewN ?_ _ | refine Below.drew ?_ | refine Below.alloc ?_ ?_ _ | refine Below.setCell ?_ ?_ _)) | go_size))⟩
set_option maxRecDepth 100000 in
set_option maxHeartbeats 8000000 in
theorem decodes_ok (l b : List Int) (h : HD) (w : World)
    (KD : Hid (∀ v, Calls Try.prog 29 #[SV l] v fun e w' => e = .returned (.tuple #[.agg #[.int .u8 h.tos, .int .u16 h.id, .int .u8 h.fl, .int .u16 h.off, .int .u8 h.ttl, .int .u8 h.pr, .int .u32 h.src, .int .u32 h.dst, SV h.o], SV b, .int .i64 0]) ∧ Below v.heap.size v w'))
    (KB : Hid (∀ v, Calls Try.prog 32 #[SV l] v fun e w' => e = .returned (.int .i64 0) ∧ Below v.heap.size v w'))
    (KH : Hid (∀ v, Calls Try.prog 33 #[SV l] v fun e w' => e = .returned (.agg #[.int .u8 h.tos, .int .u16 h.id, .int .u8 h.fl, .int .u16 h.off, .int .u8 h.ttl, .int .u8 h.pr, .int .u32 h.src, .int .u32 h.dst, SV h.o]) ∧ Below v.heap.size v w'))
    (KY : Hid (∀ v, Calls Try.prog 34 #[SV l] v fun e w' => e = .returned (SV b) ∧ Below v.heap.size v w'))
    (KE : Hid (∀ v, Calls Try.prog 26 #[.agg #[.int .u8 h.tos, .int .u16 h.id, .int .u8 h.fl, .int .u16 h.off, .int .u8 h.ttl, .int .u8 h.pr, .int .u32 h.src, .int .u32 h.dst, SV h.o], SV b] v fun e w' => e = .returned (.tuple #[SV l, .int .i64 0]) ∧ Below v.heap.size v w')) :
    Calls Try.prog 10 #[SV l] w fun e w' => e = .returned (.bool true) ∧ Below w.heap.size w w' := by
  have q1 : ∀ v, (binOp .eql 9 (SV l) (SV l)).run Try.prog v = .ok (.bool true) v := strq _
  have q2 : ∀ v, (binOp .neq 9 (SV b) (SV b)).run Try.prog v = .ok (.bool false) v := strqn _
  have q3 : ∀ v, (binOp .neq 65 (.agg #[.int .u8 h.tos, .int .u16 h.id, .int .u8 h.fl, .int .u16 h.off, .int .u8 h.ttl, .int .u8 h.pr, .int .u32 h.src, .int .u32 h.dst, SV h.o]) (.agg #[.int .u8 h.tos, .int .u16 h.id, .int .u8 h.fl, .int .u16 h.off, .int .u8 h.ttl, .int .u8 h.pr, .int .u32 h.src, .int .u32 h.dst, SV h.o])).run Try.prog v = .ok (.bool false) v := rhdeqn h
  go_enter Try.func10, Try.ntmps10
  go_wp2_with fail
  refine (KD.out _).mono ?_
  rintro e w1 ⟨rfl, hb1⟩
  have g1 : Below w.heap.size w w1 := by refine Below.trans ?_ (hb1.mono ?_) <;> (repeat' (first | (with_reducible (first | exact Below.refl _ _ | assumption | refine below_drewN ?_ _ | refine Below.drew ?_ | refine Below.alloc ?_ ?_ _ | refine Below.setCell ?_ ?_ _)) | go_size))
  have hz1 := hb1.size
  (try simp at hz1)
  clear hb1
  go_wp2_with fail
  refine (KB.out _).mono ?_
  rintro e w2 ⟨rfl, hb2⟩
  have X2 : Blk w2 (w1.heap.size) #[.int .u8 h.tos, .int .u16 h.id, .int .u8 h.fl, .int .u16 h.off, .int .u8 h.ttl, .int .u8 h.pr, .int .u32 h.src, .int .u32 h.dst, SV h.o] 61 := Blk.below (by (repeat' (first | (with_reducible (first | assumption | exact Blk.alloc_new _ _ _ (by first | rfl | (simp; done) | omega) | apply Blk.drewN | apply Blk.drew | apply Blk.alloc_old | apply Blk.set_same | apply Blk.set_other)) | (show (_ : Nat) ≠ _; first | omega | (simp; done) | (simp; omega)) | ((simp only [List.setIfInBounds_toArray, List.set_cons_succ, List.set_cons_zero]); (with_reducible exact rfl)) | (with_reducible exact rfl) | (show (_ : Array Value) = _; exact rfl)))) hb2 (by first | (simp; done) | omega | (simp; omega))
  have g2 : Below w.heap.size w w2 := by refine Below.trans ?_ (hb2.mono ?_) <;> (repeat' (first | (with_reducible (first | exact Below.refl _ _ | assumption | refine below_drewN ?_ _ | refine Below.drew ?_ | refine Below.alloc ?_ ?_ _ | refine Below.setCell ?_ ?_ _)) | go_size))
  have hz2 := hb2.size
  (try simp at hz2)
  clear hb2
  replace cX := X2.cell
  replace fX := X2.frozen
  replace zX := X2.size
  go_wp2_with fail
  refine (ip44ref h _).mono ?_
  rintro e w3 ⟨rfl, hb3⟩
  have X3 : Blk w3 (w1.heap.size) #[.int .u8 h.tos, .int .u16 h.id, .int .u8 h.fl, .int .u16 h.off, .int .u8 h.ttl, .int .u8 h.pr, .int .u32 h.src, .int .u32 h.dst, SV h.o] 61 := Blk.below (by (repeat' (first | (with_reducible (first | assumption | exact Blk.alloc_new _ _ _ (by first | rfl | (simp; done) | omega) | apply Blk.drewN | apply Blk.drew | apply Blk.alloc_old | apply Blk.set_same | apply Blk.set_other)) | (show (_ : Nat) ≠ _; first | omega | (simp; done) | (simp; omega)) | ((simp only [List.setIfInBounds_toArray, List.set_cons_succ, List.set_cons_zero]); (with_reducible exact rfl)) | (with_reducible exact rfl) | (show (_ : Array Value) = _; exact rfl)))) hb3 (by first | (simp; done) | omega | (simp; omega))
  have g3 : Below w.heap.size w w3 := by refine Below.trans ?_ (hb3.mono ?_) <;> (repeat' (first | (with_reducible (first | exact Below.refl _ _ | assumption | refine below_drewN ?_ _ | refine Below.drew ?_ | refine Below.alloc ?_ ?_ _ | refine Below.setCell ?_ ?_ _)) | go_size))
  have hz3 := hb3.size
  (try simp at hz3)
  clear hb3
  replace cX := X3.cell
  replace fX := X3.frozen
  replace zX := X3.size
  go_wp2_with fail
  refine (KH.out _).mono ?_
  rintro e w4 ⟨rfl, hb4⟩
  have X4 : Blk w4 (w1.heap.size) #[.int .u8 h.tos, .int .u16 h.id, .int .u8 h.fl, .int .u16 h.off, .int .u8 h.ttl, .int .u8 h.pr, .int .u32 h.src, .int .u32 h.dst, SV h.o] 61 := Blk.below (by (repeat' (first | (with_reducible (first | assumption | exact Blk.alloc_new _ _ _ (by first | rfl | (simp; done) | omega) | apply Blk.drewN | apply Blk.drew | apply Blk.alloc_old | apply Blk.set_same | apply Blk.set_other)) | (show (_ : Nat) ≠ _; first | omega | (simp; done) | (simp; omega)) | ((simp only [List.setIfInBounds_toArray, List.set_cons_succ, List.set_cons_zero]); (with_reducible exact rfl)) | (with_reducible exact rfl) | (show (_ : Array Value) = _; exact rfl)))) hb4 (by first | (simp; done) | omega | (simp; omega))
  have g4 : Below w.heap.size w w4 := by refine Below.trans ?_ (hb4.mono ?_) <;> (repeat' (first | (with_reducible (first | exact Below.refl _ _ | assumption | refine below_drewN ?_ _ | refine Below.drew ?_ | refine Below.alloc ?_ ?_ _ | refine Below.setCell ?_ ?_ _)) | go_size))
  have hz4 := hb4.size
  (try simp at hz4)
  clear hb4
  replace cX := X4.cell
  replace fX := X4.frozen
  replace zX := X4.size
  go_wp2_with fail
  refine (KY.out _).mono ?_
  rintro e w5 ⟨rfl, hb5⟩
  have X5 : Blk w5 (w1.heap.size) #[.int .u8 h.tos, .int .u16 h.id, .int .u8 h.fl, .int .u16 h.off, .int .u8 h.ttl, .int .u8 h.pr, .int .u32 h.src, .int .u32 h.dst, SV h.o] 61 := Blk.below (by (repeat' (first | (with_reducible (first | assumption | exact Blk.alloc_new _ _ _ (by first | rfl | (simp; done) | omega) | apply Blk.drewN | apply Blk.drew | apply Blk.alloc_old | apply Blk.set_same | apply Blk.set_other)) | (show (_ : Nat) ≠ _; first | omega | (simp; done) | (simp; omega)) | ((simp only [List.setIfInBounds_toArray, List.set_cons_succ, List.set_cons_zero]); (with_reducible exact rfl)) | (with_reducible exact rfl) | (show (_ : Array Value) = _; exact rfl)))) hb5 (by first | (simp; done) | omega | (simp; omega))
  have g5 : Below w.heap.size w w5 := by refine Below.trans ?_ (hb5.mono ?_) <;> (repeat' (first | (with_reducible (first | exact Below.refl _ _ | assumption | refine below_drewN ?_ _ | refine Below.drew ?_ | refine Below.alloc ?_ ?_ _ | refine Below.setCell ?_ ?_ _)) | go_size))
  have hz5 := hb5.size
  (try simp at hz5)
  clear hb5
  replace cX := X5.cell
  replace fX := X5.frozen
  replace zX := X5.size
  go_wp2_with fail
  refine (KE.out _).mono ?_
  rintro e w6 ⟨rfl, hb6⟩
  have X6 : Blk w6 (w1.heap.size) #[.int .u8 h.tos, .int .u16 h.id, .int .u8 h.fl, .int .u16 h.off, .int .u8 h.ttl, .int .u8 h.pr, .int .u32 h.src, .int .u32 h.dst, SV h.o] 61 := Blk.below (by (repeat' (first | (with_reducible (first | assumption | exact Blk.alloc_new _ _ _ (by first | rfl | (simp; done) | omega) | apply Blk.drewN | apply Blk.drew | apply Blk.alloc_old | apply Blk.set_same | apply Blk.set_other)) | (show (_ : Nat) ≠ _; first | omega | (simp; done) | (simp; omega)) | ((simp only [List.setIfInBounds_toArray, List.set_cons_succ, List.set_cons_zero]); (with_reducible exact rfl)) | (with_reducible exact rfl) | (show (_ : Array Value) = _; exact rfl)))) hb6 (by first | (simp; done) | omega | (simp; omega))
  have g6 : Below w.heap.size w w6 := by refine Below.trans ?_ (hb6.mono ?_) <;> (repeat' (first | (with_reducible (first | exact Below.refl _ _ | assumption | refine below_drewN ?_ _ | refine Below.drew ?_ | refine Below.alloc ?_ ?_ _ | refine Below.setCell ?_ ?_ _)) | go_size))
  have hz6 := hb6.size
  (try simp at hz6)
  clear hb6
  replace cX := X6.cell
  replace fX := X6.frozen
  replace zX := X6.size
  go_wp2_with fail
  refine (four_true _).mono ?_
  rintro e w7 ⟨rfl, hb7⟩
  have g7 : Below w.heap.size w w7 := by refine Below.trans ?_ (hb7.mono ?_) <;> (repeat' (first | (with_reducible (first | exact Below.refl _ _ | assumption | refine below_drewN ?_ _ | refine Below.drew ?_ | refine Below.alloc ?_ ?_ _ | refine Below.setCell ?_ ?_ _)) | go_size))
  have hz7 := hb7.size
  (try simp at hz7)
  clear hb7
  go_wp2
  go_ret
  exact ⟨rfl, by (repeat' (first | (with_reducible (first | exact Below.refl _ _ | assumption | refine below_drewN ?_ _ | refine Below.drew ?_ | refine Below.alloc ?_ ?_ _ | refine Below.setCell ?_ ?_ _)) | go_size))⟩
theorem badR_rng (l : List Int) : 0 ≤ badR l ∧ badR l ≤ 7 := by
  unfold badR; repeat' split
  all_goals omega
theorem Ipv4Decodes_walk (a : ByteArray) (w : World) (hz : a.size ≤ 4611686018427387904) : Calls Try.prog 10 #[.string a] w fun e w' => e = .returned (.bool true) ∧ Below w.heap.size w w' := by
  rw [numsOf_sv a]
  have hl := numsOf_byt a
  have hb : (numsOf a).length ≤ 4611686018427387904 := by rw [numsOf_len]; exact hz
  generalize numsOf a = l at hl hb ⊢
  have hr := badR_rng l
  by_cases h0 : badR l = 0
  · obtain ⟨k0, k1, k2, k3, k4, k5⟩ := bad_zero h0
    obtain ⟨e1, e2⟩ := enc_dec hl h0
    have hsz := szR_eq hl
    have q2 := hl.get 2; have q3 := hl.get 3
    have hal : alR l = l.getD 2 0 * 256 + l.getD 3 0 := rfl
    have hol : (hdL l).o.length ≤ 4611686018427387904 := by show ((l.drop 20).take (szR l - 20)).length ≤ _; rw [List.length_take, List.length_drop]; omega
    refine decodes_ok l (bdL l) (hdL l) w (hide fun v => ?_) (hide fun v => ?_) (hide fun v => ?_) (hide fun v => ?_) (hide fun v => ?_)
    · have h := ipDecode l v hl hb; rw [decV_ok h0] at h; exact h
    · have h := ipBad l v hl hb; rw [h0] at h; exact h
    · exact ipHead l _ (szR l) _ _ _ _ _ _ _ _ _ v hl (by omega) k0 ⟨k1, k2⟩ hsz (by omega) rfl rfl rfl rfl rfl rfl rfl rfl rfl rfl
    · exact ipBody l _ (szR l) v hl (by omega) k0 ⟨k1, k2⟩ hsz (by omega) rfl
    · have h := ipEncode (hdL l) (bdL l) v (hdL_ok hl) hol (by unfold bdL; rw [List.length_drop]; omega)
      rw [e1, e2, if_pos rfl] at h; exact h
  · refine decodes_bad l (badR l) w (by omega) (hide fun v => ?_) (hide fun v => ?_)
    · have h := ipDecode l v hl hb; rw [decV_bad rfl h0] at h; exact h
    · exact ipBad l v hl hb
namespace ipv4DecodesDone
theorem own : ownKnob Try.prog.godebug = none := by kernel_rfl
theorem laidOut : laidOutB Try.prog = true := by kernel_rfl
set_option maxRecDepth 100000 in
theorem lifted (os : Os) (started : os.Started) (H : Type) (enc : TypeId × Value → H) :
    ReturnsInHanded {} Try.checked os 10 .any (Rows.ipv4DecodesSpec.pre6 enc Try.prog Try.f10 Rows.ipv4DecodesRow.domain false) (Rows.ipv4DecodesSpec.post enc Try.prog Try.f10 false true false false) := by
  refine returnsInHanded_of_change_sized (C := Try.checked) own started (by kernel_rfl) Try.func10
    (ChangeSpec.witness6 (enc := enc) (C := Try.checked) false ⟨#[], #[.string ⟨#[]⟩], []⟩ 8 (by kernel_rfl) (by kernel_rfl) (by kernel_rfl) (by kernel_rfl)) ?_
  intro W base args ds gs before hval0 hW hcnd hwt _
  have hval : ∀ (j : Nat) t v, Try.f10.params[j]? = some t → args[j]? = some v → Value.okWide Try.prog W .any base t v := hval0
  have hW' := hW
  obtain ⟨p, q, hA0, hV, rfl, hfz, hnd⟩ := hW
  have hA : DataW.TrodAll enc Try.prog W 0 (fun _ => true) true Try.f10.params.toList args.toList ds p := hA0
  rw [Try.params10] at hA hval
  obtain ⟨v0, vs0, d0, ds0, p0, q0, hargs, rfl, rfl, h0, r0⟩ := trodAll_cons hA
  obtain ⟨rfl, rfl, rfl⟩ := trodAll_nil r0
  obtain rfl : args = #[v0] := by cases args; simp_all
  obtain ⟨rfl, rfl⟩ := trodVars_none hV
  obtain ⟨a0, rfl, rfl, rfl, wf0⟩ := open_string Try.underlying9 (hval 0 9 v0 rfl rfl) h0
  clear hA0 hval0
  have hz0 : a0.size ≤ 4611686018427387904 := by simp [DataW.weightsEach, DataW.weights, Try.params10, reachBytes] at hwt; have := of_decide_eq_true hwt; omega
  refine (Ipv4Decodes_walk a0 W hz0).mono fun e W' ⟨he, bel⟩ => ?_
  subst he
  exact ⟨_, rfl, _, _, _, [], _, [], hW', trodAll_mk1 (shut_bool Try.underlying4 _), (trodAll_cons_mk (shut_string Try.underlying9 wf0) trodAll_mk0), rfl, bel.frame _, fun h => by cases h⟩
theorem over : Rows.ipv4DecodesRow.holds Try.pinned (OpenSpec.ofChange Rows.ipv4DecodesSpec) :=
  OpenClaim.holds_of_wide 10 Try.f10 rfl rfl rfl rfl rfl rfl rfl ⟨rfl, rfl, rfl, rfl, rfl⟩ rfl rfl rfl rfl rfl (by kernel_rfl) Try.func10 (by kernel_rfl)
    (of_decide_eq_true (by kernel_rfl)) (by unfold Func.isWrapper; first | (rw [if_pos (by decide +kernel)]; kernel_rfl) | (rw [if_neg (by decide +kernel)]; exact ⟨rfl, rfl⟩))
    (fun os started H enc _ => lifted os started H enc)
end ipv4DecodesDone
theorem Ipv4Decodes_holds : Rows.Ipv4DecodesSaid := ipv4DecodesDone.over

end Go.Proofs.Ytldahcfggeebgaa
