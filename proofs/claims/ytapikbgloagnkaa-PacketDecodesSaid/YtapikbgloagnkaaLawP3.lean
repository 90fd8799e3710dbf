/-
  The statement PacketDecodes: the packet of any bytes, or why they are none; encode of decode is the bytes. Conditions: none.
-/
import Derived.Test.YtapikbgloagnkaaPackM
import Derived.Test.YtapikbgloagnkaaPackT
import Derived.Test.YtapikbgloagnkaaPackF
import Derived.ChangeMaps5
namespace Go.Proofs.Ytapikbgloagnkaa
open Go.ChangeShapes Go.WideShapes Go.ChangeAt Go.RowKit
open Go.ChangeMaps (open_string shut_string)
set_option linter.unusedVariables false
theorem PD_100 (s : ByteArray) (w : World) (h : 100 < s.size) :
    Calls Try.prog 9 #[.string s] w fun e w' => e = .returned (.bool true) ∧ Below w.heap.size w w' := by
  have d1 : (100 : Int) < (s.size : Int) := by omega
  go_enter Try.func9, Try.ntmps9
  go_wp2_with fail
  refine (one_true _).mono ?_
  rintro e w1 ⟨rfl, hb1⟩
  have g1 : Below w.heap.size w w1 := by refine Below.trans ?_ (hb1.mono ?_) <;> (repeat' (first | (with_reducible exact Below.refl _ _) | (with_reducible assumption) | (with_reducible refine below_drewN ?_ _) | (with_reducible refine Below.drew ?_) | (with_reducible refine Below.alloc ?_ ?_ _) | (with_reducible refine Below.setCell ?_ ?_ _) | go_size))
  have hz1 := hb1.size
  (try simp at hz1)
  clear hb1
  go_wp2
  go_ret
  exact ⟨rfl, by (repeat' (first | (with_reducible exact Below.refl _ _) | (with_reducible assumption) | (with_reducible refine below_drewN ?_ _) | (with_reducible refine Below.drew ?_) | (with_reducible refine Below.alloc ?_ ?_ _) | (with_reducible refine Below.setCell ?_ ?_ _) | go_size))⟩
theorem PD_err (s : ByteArray) (w : World) (n : Int) (hn : (n != 0) = true) (h : s.size ≤ 100) (hd : ∀ v, Calls Try.prog 29 #[.string s] v fun e w' => e = .returned (.tuple #[pkt 0 0 0 0 0 0, .int .i64 n]) ∧ Below v.heap.size v w')
    (hr : ∀ v, Calls Try.prog 31 #[.string s] v fun e w' => e = .returned (got 0 0 0 0 0 0 n) ∧ Below v.heap.size v w') :
    Calls Try.prog 9 #[.string s] w fun e w' => e = .returned (.bool true) ∧ Below w.heap.size w w' := by
  have d1 : ¬ (100 : Int) < (s.size : Int) := by omega
  have Hd := hide hd; have Hr := hide hr; clear hd hr
  have heq := fun v => neq_pkt v 0 0 0 0 0 0
  go_enter Try.func9, Try.ntmps9
  go_wp2_with fail
  refine (Hd.out _).mono ?_
  rintro e w1 ⟨rfl, hb1⟩
  have g1 : Below w.heap.size w w1 := by refine Below.trans ?_ (hb1.mono ?_) <;> (repeat' (first | (with_reducible exact Below.refl _ _) | (with_reducible assumption) | (with_reducible refine below_drewN ?_ _) | (with_reducible refine Below.drew ?_) | (with_reducible refine Below.alloc ?_ ?_ _) | (with_reducible refine Below.setCell ?_ ?_ _) | go_size))
  have hz1 := hb1.size
  (try simp at hz1)
  clear hb1
  go_wp2_with fail
  refine (Hr.out _).mono ?_
  rintro e w2 ⟨rfl, hb2⟩
  have B2 : Blk w2 (w1.heap.size) #[.int .u64 0, .int .i64 0, .int .u16 0, .int .u16 0, .int .u16 0, .int .u16 0] 42 := Blk.below (by (repeat' (first | (with_reducible assumption) | (with_reducible exact Blk.alloc_new _ _ _ (by first | rfl | (simp; done) | omega)) | (with_reducible refine Blk.drewN ?_ _) | (with_reducible refine Blk.drew ?_) | (with_reducible refine Blk.alloc_old ?_ _) | (with_reducible apply Blk.set_same) | (with_reducible refine Blk.set_other ?_ (by first | omega | (simp; done) | (simp; omega)) _) | (exact rfl)))) hb2 (by first | (simp; done) | omega | (simp; omega))
  have g2 : Below w.heap.size w w2 := by refine Below.trans ?_ (hb2.mono ?_) <;> (repeat' (first | (with_reducible exact Below.refl _ _) | (with_reducible assumption) | (with_reducible refine below_drewN ?_ _) | (with_reducible refine Below.drew ?_) | (with_reducible refine Below.alloc ?_ ?_ _) | (with_reducible refine Below.setCell ?_ ?_ _) | go_size))
  have hz2 := hb2.size
  (try simp at hz2)
  clear hb2
  replace cB := B2.cell
  replace fB := B2.frozen
  replace zB := B2.size
  go_wp2_with fail
  refine (one_true _).mono ?_
  rintro e w3 ⟨rfl, hb3⟩
  have g3 : Below w.heap.size w w3 := by refine Below.trans ?_ (hb3.mono ?_) <;> (repeat' (first | (with_reducible exact Below.refl _ _) | (with_reducible assumption) | (with_reducible refine below_drewN ?_ _) | (with_reducible refine Below.drew ?_) | (with_reducible refine Below.alloc ?_ ?_ _) | (with_reducible refine Below.setCell ?_ ?_ _) | go_size))
  have hz3 := hb3.size
  (try simp at hz3)
  clear hb3
  go_wp2
  go_ret
  exact ⟨rfl, by (repeat' (first | (with_reducible exact Below.refl _ _) | (with_reducible assumption) | (with_reducible refine below_drewN ?_ _) | (with_reducible refine Below.drew ?_) | (with_reducible refine Below.alloc ?_ ?_ _) | (with_reducible refine Below.setCell ?_ ?_ _) | go_size))⟩
theorem PD_ok (s : ByteArray) (w : World) (id len h0 h1 h2 h3 : Int) (h : s.size ≤ 100) (hd : ∀ v, Calls Try.prog 29 #[.string s] v fun e w' => e = .returned (.tuple #[pkt id len h0 h1 h2 h3, .int .i64 0]) ∧ Below v.heap.size v w')
    (hr : ∀ v, Calls Try.prog 31 #[.string s] v fun e w' => e = .returned (got id len h0 h1 h2 h3 0) ∧ Below v.heap.size v w')
    (he : ∀ v, Calls Try.prog 27 #[pkt id len h0 h1 h2 h3] v fun e w' => e = .returned (.tuple #[.string s, .int .i64 0]) ∧ Below v.heap.size v w') :
    Calls Try.prog 9 #[.string s] w fun e w' => e = .returned (.bool true) ∧ Below w.heap.size w w' := by
  have d1 : ¬ (100 : Int) < (s.size : Int) := by omega
  have Hd := hide hd; have Hr := hide hr; have He := hide he; clear hd hr he
  have heq := fun v => neq_pkt v id len h0 h1 h2 h3
  go_enter Try.func9, Try.ntmps9
  go_wp2_with fail
  refine (Hd.out _).mono ?_
  rintro e w1 ⟨rfl, hb1⟩
  have g1 : Below w.heap.size w w1 := by refine Below.trans ?_ (hb1.mono ?_) <;> (repeat' (first | (with_reducible exact Below.refl _ _) | (with_reducible assumption) | (with_reducible refine below_drewN ?_ _) | (with_reducible refine Below.drew ?_) | (with_reducible refine Below.alloc ?_ ?_ _) | (with_reducible refine Below.setCell ?_ ?_ _) | go_size))
  have hz1 := hb1.size
  (try simp at hz1)
  clear hb1
  go_wp2_with fail
  refine (Hr.out _).mono ?_
  rintro e w2 ⟨rfl, hb2⟩
  have B2 : Blk w2 (w1.heap.size) #[.int .u64 id, .int .i64 len, .int .u16 h0, .int .u16 h1, .int .u16 h2, .int .u16 h3] 42 := Blk.below (by (repeat' (first | (with_reducible assumption) | (with_reducible exact Blk.alloc_new _ _ _ (by first | rfl | (simp; done) | omega)) | (with_reducible refine Blk.drewN ?_ _) | (with_reducible refine Blk.drew ?_) | (with_reducible refine Blk.alloc_old ?_ _) | (with_reducible apply Blk.set_same) | (with_reducible refine Blk.set_other ?_ (by first | omega | (simp; done) | (simp; omega)) _) | (exact rfl)))) hb2 (by first | (simp; done) | omega | (simp; omega))
  have g2 : Below w.heap.size w w2 := by refine Below.trans ?_ (hb2.mono ?_) <;> (repeat' (first | (with_reducible exact Below.refl _ _) | (with_reducible assumption) | (with_reducible refine below_drewN ?_ _) | (with_reducible refine Below.drew ?_) | (with_reducible refine Below.alloc ?_ ?_ _) | (with_reducible refine Below.setCell ?_ ?_ _) | go_size))
  have hz2 := hb2.size
  (try simp at hz2)
  clear hb2
  replace cB := B2.cell
  replace fB := B2.frozen
  replace zB := B2.size
  go_wp2_with fail
  refine (He.out _).mono ?_
  rintro e w3 ⟨rfl, hb3⟩
  have B3 : Blk w3 (w1.heap.size) #[.int .u64 id, .int .i64 len, .int .u16 h0, .int .u16 h1, .int .u16 h2, .int .u16 h3] 42 := Blk.below (by (repeat' (first | (with_reducible assumption) | (with_reducible exact Blk.alloc_new _ _ _ (by first | rfl | (simp; done) | omega)) | (with_reducible refine Blk.drewN ?_ _) | (with_reducible refine Blk.drew ?_) | (with_reducible refine Blk.alloc_old ?_ _) | (with_reducible apply Blk.set_same) | (with_reducible refine Blk.set_other ?_ (by first | omega | (simp; done) | (simp; omega)) _) | (exact rfl)))) hb3 (by first | (simp; done) | omega | (simp; omega))
  have g3 : Below w.heap.size w w3 := by refine Below.trans ?_ (hb3.mono ?_) <;> (repeat' (first | (with_reducible exact Below.refl _ _) | (with_reducible assumption) | (with_reducible refine below_drewN ?_ _) | (with_reducible refine Below.drew ?_) | (with_reducible refine Below.alloc ?_ ?_ _) | (with_reducible refine Below.setCell ?_ ?_ _) | go_size))
  have hz3 := hb3.size
  (try simp at hz3)
  clear hb3
  replace cB := B3.cell
  replace fB := B3.frozen
  replace zB := B3.size
  go_wp2_with fail
  refine (one_true _).mono ?_
  rintro e w4 ⟨rfl, hb4⟩
  have g4 : Below w.heap.size w w4 := by refine Below.trans ?_ (hb4.mono ?_) <;> (repeat' (first | (with_reducible exact Below.refl _ _) | (with_reducible assumption) | (with_reducible refine below_drewN ?_ _) | (with_reducible refine Below.drew ?_) | (with_reducible refine Below.alloc ?_ ?_ _) | (with_reducible refine Below.setCell ?_ ?_ _) | go_size))
  have hz4 := hb4.size
  (try simp at hz4)
  clear hb4
  go_wp2
  go_ret
  exact ⟨rfl, by (repeat' (first | (with_reducible exact Below.refl _ _) | (with_reducible assumption) | (with_reducible refine below_drewN ?_ _) | (with_reducible refine Below.drew ?_) | (with_reducible refine Below.alloc ?_ ?_ _) | (with_reducible refine Below.setCell ?_ ?_ _) | go_size))⟩
theorem PacketDecodes_walk (s : ByteArray) (w : World) :
    Calls Try.prog 9 #[.string s] w fun e w' => e = .returned (.bool true) ∧ Below w.heap.size w w' := by
  rcases Nat.lt_or_ge 100 s.size with h | h
  · exact PD_100 s w h
  rcases Nat.lt_trichotomy s.size 18 with h2 | h2 | h2
  · exact PD_err s w 3 rfl h (fun v => decode_short s v h2) (fun v => rDecode_short s v h2)
  · have k1 : 18 ≤ s.size := by omega
    have k2 : s.size ≤ 18 := by omega
    by_cases l1 : nB s 8 10 < 1
    · exact PD_err s w 26 rfl h (fun v => decode_len s v k1 k2 (by omega)) (fun v => rDecode_lt s v k1 k2 l1)
    by_cases l2 : 16384 < nB s 8 10
    · exact PD_err s w 26 rfl h (fun v => decode_len s v k1 k2 (by omega)) (fun v => rDecode_gt s v k1 k2 l2)
    have hl : 1 ≤ nB s 8 10 ∧ nB s 8 10 ≤ 16384 := by omega
    have r0 : 0 ≤ nB s 0 8 ∧ nB s 0 8 ≤ 18446744073709551615 := by have := nB_rng s 0 8 (by omega); simp at this; omega
    have r2 : 0 ≤ nB s 10 12 ∧ nB s 10 12 ≤ 65535 := by have := nB_rng s 10 12 (by omega); simp at this; omega
    have r3 : 0 ≤ nB s 12 14 ∧ nB s 12 14 ≤ 65535 := by have := nB_rng s 12 14 (by omega); simp at this; omega
    have r4 : 0 ≤ nB s 14 16 ∧ nB s 14 16 ≤ 65535 := by have := nB_rng s 14 16 (by omega); simp at this; omega
    have r5 : 0 ≤ nB s 16 18 ∧ nB s 16 18 ≤ 65535 := by have := nB_rng s 16 18 (by omega); simp at this; omega
    refine PD_ok s w _ _ _ _ _ _ h (fun v => decode_ok s v k1 k2 hl) (fun v => rDecode_ok s v k1 k2 hl) (fun v => ?_)
    have := encode_ok (nB s 0 8) (nB s 8 10) (nB s 10 12) (nB s 12 14) (nB s 14 16) (nB s 16 18) v r0 hl r2 r3 r4 r5
    rw [enc_dec s h2] at this
    exact this
  · exact PD_err s w 2 rfl h (fun v => decode_long s v h2) (fun v => rDecode_long s v h2)
namespace packetDecodesDone
theorem own : ownKnob Try.prog.godebug = none := by kernel_rfl
theorem laidOut : laidOutB Try.prog = true := by kernel_rfl
set_option maxRecDepth 100000 in
theorem lifted (os : Os) (started : os.Started) (H : Type) (enc : TypeId × Value → H) :
    ReturnsInHanded {} Try.checked os 9 .any (Rows.packetDecodesSpec.pre6 enc Try.prog Try.f9 Rows.packetDecodesRow.domain false) (Rows.packetDecodesSpec.post enc Try.prog Try.f9 false true false false) := by
  refine returnsInHanded_of_change (C := Try.checked) own started (by kernel_rfl) Try.func9
    (ChangeSpec.witness6 (enc := enc) (C := Try.checked) false ⟨#[], #[.string ⟨#[]⟩], []⟩ 8 (by kernel_rfl) (by kernel_rfl) (by kernel_rfl) (by kernel_rfl)) ?_
  intro W base args ds gs before hval0 hW hcnd _
  have hval : ∀ (j : Nat) t v, Try.f9.params[j]? = some t → args[j]? = some v → Value.okWide Try.prog W .any base t v := hval0
  have hW' := hW
  obtain ⟨p, q, hA0, hV, rfl, hfz, hnd⟩ := hW
  have hA : DataW.TrodAll enc Try.prog W 0 (fun _ => true) true Try.f9.params.toList args.toList ds p := hA0
  rw [Try.params9] at hA hval
  obtain ⟨v0, vs0, d0, ds0, p0, q0, hargs, rfl, rfl, h0, r0⟩ := trodAll_cons hA
  obtain ⟨rfl, rfl, rfl⟩ := trodAll_nil r0
  obtain rfl : args = #[v0] := by cases args; simp_all
  obtain ⟨rfl, rfl⟩ := trodVars_none hV
  obtain ⟨a0, rfl, rfl, rfl, wf0⟩ := open_string Try.underlying9 (hval 0 9 v0 rfl rfl) h0
  clear hA0 hval0
  refine (PacketDecodes_walk a0 W).mono fun e W' ⟨he, bel⟩ => ?_
  subst he
  exact ⟨_, rfl, _, _, _, [], _, [], hW', trodAll_mk1 (shut_bool Try.underlying4 _), (trodAll_cons_mk (shut_string Try.underlying9 wf0) trodAll_mk0), rfl, bel.frame _, fun h => by cases h⟩
theorem over : Rows.packetDecodesRow.holds Try.pinned (OpenSpec.ofChange Rows.packetDecodesSpec) :=
  OpenClaim.holds_of_wide 9 Try.f9 rfl rfl rfl rfl rfl rfl rfl ⟨rfl, rfl, rfl, rfl, rfl⟩ rfl rfl rfl rfl rfl (by kernel_rfl) Try.func9 (by kernel_rfl)
    (of_decide_eq_true (by kernel_rfl)) (by unfold Func.isWrapper; first | (rw [if_pos (by decide +kernel)]; kernel_rfl) | (rw [if_neg (by decide +kernel)]; exact ⟨rfl, rfl⟩))
    (fun os started H enc _ => lifted os started H enc)
end packetDecodesDone
theorem PacketDecodes_holds : Rows.PacketDecodesSaid := packetDecodesDone.over

end Go.Proofs.Ytapikbgloagnkaa
