/-
  The statement PacketEncodes: any packet as bytes, or why it is none; decode of encode is the packet. Conditions: none.
-/
import Derived.Test.YtapikbgloagnkaaPackL
import Derived.Test.YtapikbgloagnkaaPackF
namespace Go.Proofs.Ytapikbgloagnkaa
open Go.ChangeShapes Go.WideShapes Go.ChangeAt Go.RowKit
set_option linter.unusedVariables false
theorem PE_lt (id len h0 h1 h2 h3 : Int) (w : World) (hid : 0 ≤ id ∧ id ≤ 18446744073709551615) (hln : -9223372036854775808 ≤ len ∧ len ≤ 9223372036854775807) (q0 : 0 ≤ h0 ∧ h0 ≤ 65535) (q1 : 0 ≤ h1 ∧ h1 ≤ 65535) (q2 : 0 ≤ h2 ∧ h2 ≤ 65535) (q3 : 0 ≤ h3 ∧ h3 ≤ 65535) (l1 : len < 1) :
    Calls Try.prog 8 #[pkt id len h0 h1 h2 h3] w fun e w' => e = .returned (.bool true) ∧ Below w.heap.size w w' := by
  have d1 : decide (len < 1) = true := decide_eq_true l1
  go_enter Try.func8, Try.ntmps8
  go_wp2_with fail
  refine (encode_no id len h0 h1 h2 h3 _ (by omega)).mono ?_
  rintro e w1 ⟨rfl, hb1⟩
  have A1 : Blk w1 (w.heap.size) #[.int .u64 id, .int .i64 len, .int .u16 h0, .int .u16 h1, .int .u16 h2, .int .u16 h3] 42 := Blk.below (by (repeat' (first | (with_reducible assumption) | (with_reducible exact Blk.alloc_new _ _ _ (by first | rfl | (simp; done) | omega)) | (with_reducible refine Blk.drewN ?_ _) | (with_reducible refine Blk.drew ?_) | (with_reducible refine Blk.alloc_old ?_ _) | (with_reducible apply Blk.set_same) | (with_reducible refine Blk.set_other ?_ (by first | omega | (simp; done) | (simp; omega)) _) | (exact rfl)))) hb1 (by first | (simp; done) | omega | (simp; omega))
  have g1 : Below w.heap.size w w1 := by refine Below.trans ?_ (hb1.mono ?_) <;> (repeat' (first | (with_reducible exact Below.refl _ _) | (with_reducible assumption) | (with_reducible refine below_drewN ?_ _) | (with_reducible refine Below.drew ?_) | (with_reducible refine Below.alloc ?_ ?_ _) | (with_reducible refine Below.setCell ?_ ?_ _) | go_size))
  have hz1 := hb1.size
  (try simp at hz1)
  clear hb1
  replace cA := A1.cell
  replace fA := A1.frozen
  replace zA := A1.size
  go_wp2_with fail
  refine (one_true _).mono ?_
  rintro e w2 ⟨rfl, hb2⟩
  have g2 : Below w.heap.size w w2 := by refine Below.trans ?_ (hb2.mono ?_) <;> (repeat' (first | (with_reducible exact Below.refl _ _) | (with_reducible assumption) | (with_reducible refine below_drewN ?_ _) | (with_reducible refine Below.drew ?_) | (with_reducible refine Below.alloc ?_ ?_ _) | (with_reducible refine Below.setCell ?_ ?_ _) | go_size))
  have hz2 := hb2.size
  (try simp at hz2)
  clear hb2
  go_wp2
  go_ret
  exact ⟨rfl, by (repeat' (first | (with_reducible exact Below.refl _ _) | (with_reducible assumption) | (with_reducible refine below_drewN ?_ _) | (with_reducible refine Below.drew ?_) | (with_reducible refine Below.alloc ?_ ?_ _) | (with_reducible refine Below.setCell ?_ ?_ _) | go_size))⟩
theorem PE_gt (id len h0 h1 h2 h3 : Int) (w : World) (hid : 0 ≤ id ∧ id ≤ 18446744073709551615) (hln : -9223372036854775808 ≤ len ∧ len ≤ 9223372036854775807) (q0 : 0 ≤ h0 ∧ h0 ≤ 65535) (q1 : 0 ≤ h1 ∧ h1 ≤ 65535) (q2 : 0 ≤ h2 ∧ h2 ≤ 65535) (q3 : 0 ≤ h3 ∧ h3 ≤ 65535) (l1 : 16384 < len) :
    Calls Try.prog 8 #[pkt id len h0 h1 h2 h3] w fun e w' => e = .returned (.bool true) ∧ Below w.heap.size w w' := by
  have d1 : decide (len < 1) = false := decide_eq_false (by omega)
  have d2 : decide (16384 < len) = true := decide_eq_true l1
  go_enter Try.func8, Try.ntmps8
  go_wp2_with fail
  refine (encode_no id len h0 h1 h2 h3 _ (by omega)).mono ?_
  rintro e w1 ⟨rfl, hb1⟩
  have A1 : Blk w1 (w.heap.size) #[.int .u64 id, .int .i64 len, .int .u16 h0, .int .u16 h1, .int .u16 h2, .int .u16 h3] 42 := Blk.below (by (repeat' (first | (with_reducible assumption) | (with_reducible exact Blk.alloc_new _ _ _ (by first | rfl | (simp; done) | omega)) | (with_reducible refine Blk.drewN ?_ _) | (with_reducible refine Blk.drew ?_) | (with_reducible refine Blk.alloc_old ?_ _) | (with_reducible apply Blk.set_same) | (with_reducible refine Blk.set_other ?_ (by first | omega | (simp; done) | (simp; omega)) _) | (exact rfl)))) hb1 (by first | (simp; done) | omega | (simp; omega))
  have g1 : Below w.heap.size w w1 := by refine Below.trans ?_ (hb1.mono ?_) <;> (repeat' (first | (with_reducible exact Below.refl _ _) | (with_reducible assumption) | (with_reducible refine below_drewN ?_ _) | (with_reducible refine Below.drew ?_) | (with_reducible refine Below.alloc ?_ ?_ _) | (with_reducible refine Below.setCell ?_ ?_ _) | go_size))
  have hz1 := hb1.size
  (try simp at hz1)
  clear hb1
  replace cA := A1.cell
  replace fA := A1.frozen
  replace zA := A1.size
  go_wp2_with fail
  refine (one_true _).mono ?_
  rintro e w2 ⟨rfl, hb2⟩
  have g2 : Below w.heap.size w w2 := by refine Below.trans ?_ (hb2.mono ?_) <;> (repeat' (first | (with_reducible exact Below.refl _ _) | (with_reducible assumption) | (with_reducible refine below_drewN ?_ _) | (with_reducible refine Below.drew ?_) | (with_reducible refine Below.alloc ?_ ?_ _) | (with_reducible refine Below.setCell ?_ ?_ _) | go_size))
  have hz2 := hb2.size
  (try simp at hz2)
  clear hb2
  go_wp2
  go_ret
  exact ⟨rfl, by (repeat' (first | (with_reducible exact Below.refl _ _) | (with_reducible assumption) | (with_reducible refine below_drewN ?_ _) | (with_reducible refine Below.drew ?_) | (with_reducible refine Below.alloc ?_ ?_ _) | (with_reducible refine Below.setCell ?_ ?_ _) | go_size))⟩
theorem PE_ok (id len h0 h1 h2 h3 : Int) (w : World) (hid : 0 ≤ id ∧ id ≤ 18446744073709551615) (hln : -9223372036854775808 ≤ len ∧ len ≤ 9223372036854775807) (q0 : 0 ≤ h0 ∧ h0 ≤ 65535) (q1 : 0 ≤ h1 ∧ h1 ≤ 65535) (q2 : 0 ≤ h2 ∧ h2 ≤ 65535) (q3 : 0 ≤ h3 ∧ h3 ≤ 65535) (l1 : 1 ≤ len ∧ len ≤ 16384) :
    Calls Try.prog 8 #[pkt id len h0 h1 h2 h3] w fun e w' => e = .returned (.bool true) ∧ Below w.heap.size w w' := by
  have d1 : decide (len < 1) = false := decide_eq_false (by omega)
  have d2 : decide (16384 < len) = false := decide_eq_false (by omega)
  have heq := fun v => eq_pkt v id len h0 h1 h2 h3
  obtain ⟨S, hS⟩ : ∃ S, strOfNums (l18 id len h0 h1 h2 h3) = S := ⟨_, rfl⟩
  have hsz : S.size = 18 := by rw [← hS, strOfNums_size]; rfl
  have cenc : ∀ v, Calls Try.prog 27 #[pkt id len h0 h1 h2 h3] v fun e w' => e = .returned (.tuple #[.string S, .int .i64 0]) ∧ Below v.heap.size v w' := fun v => by rw [← hS]; exact encode_ok id len h0 h1 h2 h3 v hid l1 q0 q1 q2 q3
  have cdec : ∀ v, Calls Try.prog 29 #[.string S] v fun e w' => e = .returned (.tuple #[pkt id len h0 h1 h2 h3, .int .i64 0]) ∧ Below v.heap.size v w' := fun v => by rw [← hS]; exact dec_enc id len h0 h1 h2 h3 v hid l1 q0 q1 q2 q3
  have cren : ∀ v, Calls Try.prog 30 #[pkt id len h0 h1 h2 h3] v fun e w' => e = .returned (.string S) ∧ Below v.heap.size v w' := fun v => by rw [← hS]; exact rEncode id len h0 h1 h2 h3 v hid l1 q0 q1 q2 q3
  have Henc := hide cenc; have Hdec := hide cdec; have Hren := hide cren
  clear cenc cdec cren hS
  go_enter Try.func8, Try.ntmps8
  go_wp2_with fail
  refine (Henc.out _).mono ?_
  rintro e w1 ⟨rfl, hb1⟩
  have A1 : Blk w1 (w.heap.size) #[.int .u64 id, .int .i64 len, .int .u16 h0, .int .u16 h1, .int .u16 h2, .int .u16 h3] 42 := Blk.below (by (repeat' (first | (with_reducible assumption) | (with_reducible exact Blk.alloc_new _ _ _ (by first | rfl | (simp; done) | omega)) | (with_reducible refine Blk.drewN ?_ _) | (with_reducible refine Blk.drew ?_) | (with_reducible refine Blk.alloc_old ?_ _) | (with_reducible apply Blk.set_same) | (with_reducible refine Blk.set_other ?_ (by first | omega | (simp; done) | (simp; omega)) _) | (exact rfl)))) hb1 (by first | (simp; done) | omega | (simp; omega))
  have g1 : Below w.heap.size w w1 := by refine Below.trans ?_ (hb1.mono ?_) <;> (repeat' (first | (with_reducible exact Below.refl _ _) | (with_reducible assumption) | (with_reducible refine below_drewN ?_ _) | (with_reducible refine Below.drew ?_) | (with_reducible refine Below.alloc ?_ ?_ _) | (with_reducible refine Below.setCell ?_ ?_ _) | go_size))
  have hz1 := hb1.size
  (try simp at hz1)
  clear hb1
  replace cA := A1.cell
  replace fA := A1.frozen
  replace zA := A1.size
  go_wp2_with fail
  refine (Hdec.out _).mono ?_
  rintro e w2 ⟨rfl, hb2⟩
  have A2 : Blk w2 (w.heap.size) #[.int .u64 id, .int .i64 len, .int .u16 h0, .int .u16 h1, .int .u16 h2, .int .u16 h3] 42 := Blk.below (by (repeat' (first | (with_reducible assumption) | (with_reducible exact Blk.alloc_new _ _ _ (by first | rfl | (simp; done) | omega)) | (with_reducible refine Blk.drewN ?_ _) | (with_reducible refine Blk.drew ?_) | (with_reducible refine Blk.alloc_old ?_ _) | (with_reducible apply Blk.set_same) | (with_reducible refine Blk.set_other ?_ (by first | omega | (simp; done) | (simp; omega)) _) | (exact rfl)))) hb2 (by first | (simp; done) | omega | (simp; omega))
  have g2 : Below w.heap.size w w2 := by refine Below.trans ?_ (hb2.mono ?_) <;> (repeat' (first | (with_reducible exact Below.refl _ _) | (with_reducible assumption) | (with_reducible refine below_drewN ?_ _) | (with_reducible refine Below.drew ?_) | (with_reducible refine Below.alloc ?_ ?_ _) | (with_reducible refine Below.setCell ?_ ?_ _) | go_size))
  have hz2 := hb2.size
  (try simp at hz2)
  clear hb2
  replace cA := A2.cell
  replace fA := A2.frozen
  replace zA := A2.size
  go_wp2_with fail
  refine (Hren.out _).mono ?_
  rintro e w3 ⟨rfl, hb3⟩
  have A3 : Blk w3 (w.heap.size) #[.int .u64 id, .int .i64 len, .int .u16 h0, .int .u16 h1, .int .u16 h2, .int .u16 h3] 42 := Blk.below (by (repeat' (first | (with_reducible assumption) | (with_reducible exact Blk.alloc_new _ _ _ (by first | rfl | (simp; done) | omega)) | (with_reducible refine Blk.drewN ?_ _) | (with_reducible refine Blk.drew ?_) | (with_reducible refine Blk.alloc_old ?_ _) | (with_reducible apply Blk.set_same) | (with_reducible refine Blk.set_other ?_ (by first | omega | (simp; done) | (simp; omega)) _) | (exact rfl)))) hb3 (by first | (simp; done) | omega | (simp; omega))
  have B3 : Blk w3 (w2.heap.size) #[.int .u64 id, .int .i64 len, .int .u16 h0, .int .u16 h1, .int .u16 h2, .int .u16 h3] 42 := Blk.below (by (repeat' (first | (with_reducible assumption) | (with_reducible exact Blk.alloc_new _ _ _ (by first | rfl | (simp; done) | omega)) | (with_reducible refine Blk.drewN ?_ _) | (with_reducible refine Blk.drew ?_) | (with_reducible refine Blk.alloc_old ?_ _) | (with_reducible apply Blk.set_same) | (with_reducible refine Blk.set_other ?_ (by first | omega | (simp; done) | (simp; omega)) _) | (exact rfl)))) hb3 (by first | (simp; done) | omega | (simp; omega))
  have g3 : Below w.heap.size w w3 := by refine Below.trans ?_ (hb3.mono ?_) <;> (repeat' (first | (with_reducible exact Below.refl _ _) | (with_reducible assumption) | (with_reducible refine below_drewN ?_ _) | (with_reducible refine Below.drew ?_) | (with_reducible refine Below.alloc ?_ ?_ _) | (with_reducible refine Below.setCell ?_ ?_ _) | go_size))
  have hz3 := hb3.size
  (try simp at hz3)
  clear hb3
  replace cA := A3.cell
  replace fA := A3.frozen
  replace zA := A3.size
  replace cB := B3.cell
  replace fB := B3.frozen
  replace zB := B3.size
  go_wp2_with fail
  refine (one_true _).mono ?_
  rintro e w4 ⟨rfl, hb4⟩
  have g4 : Below w.heap.size w w4 := by refine Below.trans ?_ (hb4.mono ?_) <;> (repeat' (first | (with_reducible exact Below.refl _ _) | (with_reducible assumption) | (with_reducible refine below_drewN ?_ _) | (with_reducible refine Below.drew ?_) | (with_reducible refine Below.alloc ?_ ?_ _) | (with_reducible refine Below.setCell ?_ ?_ _) | go_size))
  have hz4 := hb4.size
  (try simp at hz4)
  clear hb4
  go_wp2
  go_ret
  exact ⟨rfl, by (repeat' (first | (with_reducible exact Below.refl _ _) | (with_reducible assumption) | (with_reducible refine below_drewN ?_ _) | (with_reducible refine Below.drew ?_) | (with_reducible refine Below.alloc ?_ ?_ _) | (with_reducible refine Below.setCell ?_ ?_ _) | go_size))⟩
theorem PacketEncodes_walk (id len h0 h1 h2 h3 : Int) (hid : 0 ≤ id ∧ id ≤ 18446744073709551615) (hln : -9223372036854775808 ≤ len ∧ len ≤ 9223372036854775807) (q0 : 0 ≤ h0 ∧ h0 ≤ 65535) (q1 : 0 ≤ h1 ∧ h1 ≤ 65535) (q2 : 0 ≤ h2 ∧ h2 ≤ 65535) (q3 : 0 ≤ h3 ∧ h3 ≤ 65535) (w : World) :
    Calls Try.prog 8 #[pkt id len h0 h1 h2 h3] w fun e w' => e = .returned (.bool true) ∧ Below w.heap.size w w' := by
  by_cases l1 : len < 1
  · exact PE_lt id len h0 h1 h2 h3 w hid hln q0 q1 q2 q3 l1
  by_cases l2 : 16384 < len
  · exact PE_gt id len h0 h1 h2 h3 w hid hln q0 q1 q2 q3 l2
  exact PE_ok id len h0 h1 h2 h3 w hid hln q0 q1 q2 q3 (by omega)
namespace packetEncodesDone
theorem own : ownKnob Try.prog.godebug = none := by kernel_rfl
theorem laidOut : laidOutB Try.prog = true := by kernel_rfl
set_option maxRecDepth 100000 in
theorem lifted (os : Os) (started : os.Started) (H : Type) (enc : TypeId × Value → H) :
    ReturnsInHanded {} Try.checked os 8 .any (Rows.packetEncodesSpec.pre6 enc Try.prog Try.f8 Rows.packetEncodesRow.domain false) (Rows.packetEncodesSpec.post enc Try.prog Try.f8 false true false false) := by
  refine returnsInHanded_of_change (C := Try.checked) own started (by kernel_rfl) Try.func8
    (ChangeSpec.witness6 (enc := enc) (C := Try.checked) false ⟨#[], #[.agg #[.int .u64 0, .int .i64 0, .int .u16 0, .int .u16 0, .int .u16 0, .int .u16 0]], []⟩ 8 (by kernel_rfl) (by kernel_rfl) (by kernel_rfl) (by kernel_rfl)) ?_
  intro W base args ds gs before hval0 hW hcnd _
  have hval : ∀ (j : Nat) t v, Try.f8.params[j]? = some t → args[j]? = some v → Value.okWide Try.prog W .any base t v := hval0
  have hW' := hW
  obtain ⟨p, q, hA0, hV, rfl, hfz, hnd⟩ := hW
  have hA : DataW.TrodAll enc Try.prog W 0 (fun _ => true) true Try.f8.params.toList args.toList ds p := hA0
  rw [Try.params8] at hA hval
  obtain ⟨v0, vs0, d0, ds0, p0, q0, hargs, rfl, rfl, h0, r0⟩ := trodAll_cons hA
  obtain ⟨rfl, rfl, rfl⟩ := trodAll_nil r0
  obtain rfl : args = #[v0] := by cases args; simp_all
  obtain ⟨rfl, rfl⟩ := trodVars_none hV
  have k0 := h0
  have lt0 : ∀ x ∈ p0, x.block < W.heap.size := by obtain ⟨m, hm⟩ := k0; exact DataW.trod_lt m _ _ _ hm
  obtain ⟨id0, ln0, g00, g01, g02, g03, rfl, bd0, bl0, bg00, bg01, bg02, bg03⟩ := open_pkt (hval 0 42 v0 rfl rfl) h0
  clear hA0 hval0
  refine (PacketEncodes_walk id0 ln0 g00 g01 g02 g03 bd0 bl0 bg00 bg01 bg02 bg03 W).mono fun e W' ⟨he, bel⟩ => ?_
  subst he
  exact ⟨_, rfl, _, _, _, [], _, [], hW', trodAll_mk1 (shut_bool Try.underlying4 _), (trodAll_cons_mk (Below.trod laidOut (by kernel_rfl) (of_decide_eq_true (by kernel_rfl)) k0 bel lt0) trodAll_mk0), rfl, bel.frame _, fun h => by cases h⟩
theorem over : Rows.packetEncodesRow.holds Try.pinned (OpenSpec.ofChange Rows.packetEncodesSpec) :=
  OpenClaim.holds_of_wide 8 Try.f8 rfl rfl rfl rfl rfl rfl rfl ⟨rfl, rfl, rfl, rfl, rfl⟩ rfl rfl rfl rfl rfl (by kernel_rfl) Try.func8 (by kernel_rfl)
    (of_decide_eq_true (by kernel_rfl)) (by unfold Func.isWrapper; first | (rw [if_pos (by decide +kernel)]; kernel_rfl) | (rw [if_neg (by decide +kernel)]; exact ⟨rfl, rfl⟩))
    (fun os started H enc _ => lifted os started H enc)
end packetEncodesDone
theorem PacketEncodes_holds : Rows.PacketEncodesSaid := packetEncodesDone.over

end Go.Proofs.Ytapikbgloagnkaa
