/-
  The walk of ipv4.Decode: what is refused. Conditions: fields in range.
-/
import Derived.Test.YtljpiofpfankoaaIpC
import Derived.Test.YtljpiofpfankoaaPart
import Derived.Deep.CutRange
import Derived.Deep.DeepCutAuto
import Derived.Deep.RegionWith
import Derived.Laws.Strings2
namespace Go.Proofs.Ytljpiofpfankoaa
open Go.RowKit Go.Sort
set_option linter.unusedVariables false
set_option linter.unusedSimpArgs false
theorem bp_forget {P : Program} {f : Func} {Q : Ending → World → Prop} {x : Exit} {a : Act} {W : World} (F : World → Prop) (h : F W) (k : ∀ v, F v → bodyPost P f Q x a v) : bodyPost P f Q x a W := k W h
theorem ipJoin2 (x y : Int) (B : Nat) (w : World) (hx : 0 ≤ x ∧ x ≤ 255) (hy : 0 ≤ y ∧ y ≤ 255) (r : Int) (hr : x * 256 + y = r) (h0 : w.cell? ⟨B, 0, none⟩ = some (.int .u8 x)) (h1 : w.cell? ⟨B, 1, none⟩ = some (.int .u8 y)) :
    Calls Try.prog 63 #[.slice (some ⟨B, 0, none⟩) 2 2] w fun e w' => e = .returned (.int .u32 r) ∧ w = w' :=
  ipJoin [x, y] B 2 w (by intro z hz; simp at hz; rcases hz with rfl | rfl <;> assumption) rfl (by omega) r (by show (0 * 256 + x) * 256 + y = r; omega) (fun i hi => by
    have : i = 0 ∨ i = 1 := by omega
    rcases this with rfl | rfl
    · exact h0
    · exact h1)
theorem ipJoin4 (x y z t : Int) (B : Nat) (w : World) (hx : 0 ≤ x ∧ x ≤ 255) (hy : 0 ≤ y ∧ y ≤ 255) (hz : 0 ≤ z ∧ z ≤ 255) (ht : 0 ≤ t ∧ t ≤ 255) (r : Int) (hr : ((x * 256 + y) * 256 + z) * 256 + t = r) (h0 : w.cell? ⟨B, 0, none⟩ = some (.int .u8 x)) (h1 : w.cell? ⟨B, 1, none⟩ = some (.int .u8 y)) (h2 : w.cell? ⟨B, 2, none⟩ = some (.int .u8 z)) (h3 : w.cell? ⟨B, 3, none⟩ = some (.int .u8 t)) :
    Calls Try.prog 63 #[.slice (some ⟨B, 0, none⟩) 4 4] w fun e w' => e = .returned (.int .u32 r) ∧ w = w' :=
  ipJoin [x, y, z, t] B 4 w (by intro q hq; simp at hq; rcases hq with rfl | rfl | rfl | rfl <;> assumption) rfl (by omega) r (by show (((0 * 256 + x) * 256 + y) * 256 + z) * 256 + t = r; omega) (fun i hi => by
    have : i = 0 ∨ i = 1 ∨ i = 2 ∨ i = 3 := by omega
    rcases this with rfl | rfl | rfl | rfl
    · exact h0
    · exact h1
    · exact h2
    · exact h3)
theorem strOf_sub (l : List Int) (a b : Nat) : (strOfNums l).extract a b = strOfNums ((l.drop a).take (b - a)) := by
  unfold strOfNums
  rw [ByteArray.extract_mk, List.map_take, List.map_drop]
theorem results_dec {P : Program} {fn : Func} {s a b : Tmp} {T : TypeId} (B : Nat) (cs : Array Value) (t : TypeId) (d : TypeDesc) (tmps : Array Value) (w : World) (x y : Value)
    (h : fn.results = #[.cell s T, .tmp a, .tmp b]) (hx : tmps.getD s undef = .pointer (some ⟨B, 0, none⟩)) (ha : tmps.getD a undef = x) (hb : tmps.getD b undef = y) (hB : Blk w B cs t) (hu : P.underlying T = some d) (hd : d.isRow = true) (hi : (P.info? T).map (·.size) = some cs.size) : (results fn tmps).run P w = .ok (.tuple #[.agg cs, x, y]) w := by
  have hl := run_loadVar_mid (P := P) w B 0 T cs.toList d (fun j v hj => by rw [hB.cell, Nat.zero_add]; simpa using hj) hu hd (by simpa using hi)
  have hx' : tmps[s]?.getD undef = .pointer (some ⟨B, 0, none⟩) := by simpa [Array.getD_eq_getD_getElem?] using hx
  have ha' : tmps[a]?.getD undef = x := by simpa [Array.getD_eq_getD_getElem?] using ha
  have hb' : tmps[b]?.getD undef = y := by simpa [Array.getD_eq_getD_getElem?] using hb
  simp [results, h, Sem.run_bind, Result.andThen, hx', ha', hb', asAddr, hl]
theorem ipDec_3 (l : List Int) (w : World) (h : l.length < 20) :
    Calls Try.prog 47 #[SV l] w fun e w' => e = .returned (.tuple #[.agg #[.int .u8 0, .int .u16 0, .int .u8 0, .int .u16 0, .int .u8 0, .int .u8 0, .int .u32 0, .int .u32 0, .string ⟨#[]⟩], .string ⟨#[]⟩, .int .i64 3]) ∧ Below w.heap.size w w' := by
  have ks := sv_size
  have d1 : decide ((l.length : Int) < 20) = true := decide_eq_true (by omega)
  go_enter Try.func47, Try.ntmps47
  go_wp2
  refine bp_forget (fun v => Below w.heap.size w v ∧ Blk v (w.heap.size) #[.int .u8 0, .int .u16 0, .int .u8 0, .int .u16 0, .int .u8 0, .int .u8 0, .int .u32 0, .int .u32 0, .string ⟨#[]⟩] 70) ⟨by (repeat' (first | (with_reducible (first | exact Below.refl _ _ | assumption | refine below_drewN ?_ _ | refine Below.drew ?_ | refine Below.alloc ?_ ?_ _ | refine Below.setCell ?_ ?_ _)) | go_size)), by (repeat' (first | (with_reducible (first | assumption | exact Blk.alloc_new _ _ _ (by first | rfl | (simp; done) | omega) | apply Blk.drewN | apply Blk.drew | apply Blk.alloc_old | apply Blk.set_same | apply Blk.set_other)) | (show (_ : Nat) ≠ _; first | omega | (simp; done) | (simp; omega)) | ((simp only [List.setIfInBounds_toArray, List.set_cons_succ, List.set_cons_zero]); (with_reducible exact rfl)) | (with_reducible exact rfl) | (show (_ : Array Value) = _; exact rfl)))⟩ ?_
  rintro v ⟨gv, Bv⟩
  refine bodyPost_ret (v := .tuple #[.agg #[.int .u8 0, .int .u16 0, .int .u8 0, .int .u16 0, .int .u8 0, .int .u8 0, .int .u32 0, .int .u32 0, .string ⟨#[]⟩], .string ⟨#[]⟩, .int .i64 3]) ?_ ?_ ?_
  · exact results_dec (w.heap.size) #[.int .u8 0, .int .u16 0, .int .u8 0, .int .u16 0, .int .u8 0, .int .u8 0, .int .u32 0, .int .u32 0, .string ⟨#[]⟩] 70 _ _ _ _ _ Try.results47 (by rfl) (by rfl) (by rfl) Bv Try.underlying70 rfl (by kernel_rfl)
  · rfl
  · exact ⟨rfl, gv⟩
set_option maxRecDepth 100000 in
set_option maxHeartbeats 4000000 in
theorem ipDec_4a (l : List Int) (sz al : Int) (w : World) (hl : Byt l) (hb : l.length ≤ 4611686018427387904) (h20 : 20 ≤ l.length) (hsz : l.getD 0 0 % 16 * 4 = sz) (hal : l.getD 2 0 * 256 + l.getD 3 0 = al) (h1 : l.getD 0 0 / 16 ≠ 4) :
    Calls Try.prog 47 #[SV l] w fun e w' => e = .returned (.tuple #[.agg #[.int .u8 0, .int .u16 0, .int .u8 0, .int .u16 0, .int .u8 0, .int .u8 0, .int .u32 0, .int .u32 0, .string ⟨#[]⟩], .string ⟨#[]⟩, .int .i64 4]) ∧ Below w.heap.size w w' := by
  have ks := sv_size
  have d1 : decide ((l.length : Int) < 20) = false := decide_eq_false (by omega)
  obtain ⟨b0, hb0⟩ : ∃ x, l.getD 0 0 = x := ⟨_, rfl⟩
  have r0 := hl.get 0
  rw [hb0] at r0
  have x0 : ∀ v, (Instr.index 9 (SV l) (.int .i64 0)).run Try.prog v = .ok (.int .u8 b0) v := fun v => sv_idx hl 0 b0 (by omega) hb0 v
  obtain ⟨b2, hb2⟩ : ∃ x, l.getD 2 0 = x := ⟨_, rfl⟩
  have r2 := hl.get 2
  rw [hb2] at r2
  have x2 : ∀ v, (Instr.index 9 (SV l) (.int .i64 2)).run Try.prog v = .ok (.int .u8 b2) v := fun v => sv_idx hl 2 b2 (by omega) hb2 v
  obtain ⟨b3, hb3⟩ : ∃ x, l.getD 3 0 = x := ⟨_, rfl⟩
  have r3 := hl.get 3
  rw [hb3] at r3
  have x3 : ∀ v, (Instr.index 9 (SV l) (.int .i64 3)).run Try.prog v = .ok (.int .u8 b3) v := fun v => sv_idx hl 3 b3 (by omega) hb3 v
  rw [hb0] at hsz h1; rw [hb2, hb3] at hal
  have hszr : 0 ≤ sz ∧ sz ≤ 60 := by omega
  have halr : 0 ≤ al ∧ al ≤ 65535 := by omega
  have hwal : IntKind.i64.wrap al = al := IntWalk.i64_in _ ⟨by omega, by omega⟩
  clear hb0 hb2 hb3
  skip
  have d2 : (b0 / 16 * 16 != 64) = true := by simp; omega
  go_enter Try.func47, Try.ntmps47
  go_upto_region 4 with (fail)
  go_cut [6] (fun s6 wx => s6 = .int .i64 al ∧ Below w.heap.size w wx ∧ Blk wx (w.heap.size) #[.int .u8 0, .int .u16 0, .int .u8 0, .int .u16 0, .int .u8 0, .int .u8 0, .int .u32 0, .int .u32 0, .string ⟨#[]⟩] 70)
  case first =>
    go_region_with (first
      | (go_at_call 63; (with_reducible refine (ipJoin2 b2 b3 _ _ r2 r3 al hal (by simp) (by simp)).mono ?_); rintro e w' ⟨rfl, rfl⟩))
    all_goals
      go_wp2_with fail
      go_meet
      exact ⟨rfl, by (repeat' (first | (with_reducible (first | exact Below.refl _ _ | assumption | refine below_drewN ?_ _ | refine Below.drew ?_ | refine Below.alloc ?_ ?_ _ | refine Below.setCell ?_ ?_ _)) | go_size)), by (repeat' (first | (with_reducible (first | assumption | exact Blk.alloc_new _ _ _ (by first | rfl | (simp; done) | omega) | apply Blk.drewN | apply Blk.drew | apply Blk.alloc_old | apply Blk.set_same | apply Blk.set_other)) | (show (_ : Nat) ≠ _; first | omega | (simp; done) | (simp; omega)) | ((simp only [List.setIfInBounds_toArray, List.set_cons_succ, List.set_cons_zero]); (with_reducible exact rfl)) | (with_reducible exact rfl) | (show (_ : Array Value) = _; exact rfl)))⟩
  case rest =>
    obtain ⟨rfl, g3, R3⟩ := hcut
    have cR := R3.cell; have fR := R3.frozen; have zR := R3.size
    have hz3 := g3.size
    go_wp2
    refine bp_forget (fun v => Below w.heap.size w v ∧ Blk v (w.heap.size) #[.int .u8 0, .int .u16 0, .int .u8 0, .int .u16 0, .int .u8 0, .int .u8 0, .int .u32 0, .int .u32 0, .string ⟨#[]⟩] 70) ⟨by (repeat' (first | (with_reducible (first | exact Below.refl _ _ | assumption | refine below_drewN ?_ _ | refine Below.drew ?_ | refine Below.alloc ?_ ?_ _ | refine Below.setCell ?_ ?_ _)) | go_size)), by (repeat' (first | (with_reducible (first | assumption | exact Blk.alloc_new _ _ _ (by first | rfl | (simp; done) | omega) | apply Blk.drewN | apply Blk.drew | apply Blk.alloc_old | apply Blk.set_same | apply Blk.set_other)) | (show (_ : Nat) ≠ _; first | omega | (simp; done) | (simp; omega)) | ((simp only [List.setIfInBounds_toArray, List.set_cons_succ, List.set_cons_zero]); (with_reducible exact rfl)) | (with_reducible exact rfl) | (show (_ : Array Value) = _; exact rfl)))⟩ ?_
    rintro v ⟨gv, Bv⟩
    refine bodyPost_ret (v := .tuple #[.agg #[.int .u8 0, .int .u16 0, .int .u8 0, .int .u16 0, .int .u8 0, .int .u8 0, .int .u32 0, .int .u32 0, .string ⟨#[]⟩], .string ⟨#[]⟩, .int .i64 4]) ?_ ?_ ?_
    · exact results_dec (w.heap.size) #[.int .u8 0, .int .u16 0, .int .u8 0, .int .u16 0, .int .u8 0, .int .u8 0, .int .u32 0, .int .u32 0, .string ⟨#[]⟩] 70 _ _ _ _ _ Try.results47 (by rfl) (by rfl) (by rfl) Bv Try.underlying70 rfl (by kernel_rfl)
    · rfl
    · exact ⟨rfl, gv⟩
set_option maxRecDepth 100000 in
set_option maxHeartbeats 4000000 in
theorem ipDec_4b (l : List Int) (sz al : Int) (w : World) (hl : Byt l) (hb : l.length ≤ 4611686018427387904) (h20 : 20 ≤ l.length) (hsz : l.getD 0 0 % 16 * 4 = sz) (hal : l.getD 2 0 * 256 + l.getD 3 0 = al) (h1 : l.getD 0 0 / 16 = 4) (h2 : sz < 20) :
    Calls Try.prog 47 #[SV l] w fun e w' => e = .returned (.tuple #[.agg #[.int .u8 0, .int .u16 0, .int .u8 0, .int .u16 0, .int .u8 0, .int .u8 0, .int .u32 0, .int .u32 0, .string ⟨#[]⟩], .string ⟨#[]⟩, .int .i64 4]) ∧ Below w.heap.size w w' := by
  have ks := sv_size
  have d1 : decide ((l.length : Int) < 20) = false := decide_eq_false (by omega)
  obtain ⟨b0, hb0⟩ : ∃ x, l.getD 0 0 = x := ⟨_, rfl⟩
  have r0 := hl.get 0
  rw [hb0] at r0
  have x0 : ∀ v, (Instr.index 9 (SV l) (.int .i64 0)).run Try.prog v = .ok (.int .u8 b0) v := fun v => sv_idx hl 0 b0 (by omega) hb0 v
  obtain ⟨b2, hb2⟩ : ∃ x, l.getD 2 0 = x := ⟨_, rfl⟩
  have r2 := hl.get 2
  rw [hb2] at r2
  have x2 : ∀ v, (Instr.index 9 (SV l) (.int .i64 2)).run Try.prog v = .ok (.int .u8 b2) v := fun v => sv_idx hl 2 b2 (by omega) hb2 v
  obtain ⟨b3, hb3⟩ : ∃ x, l.getD 3 0 = x := ⟨_, rfl⟩
  have r3 := hl.get 3
  rw [hb3] at r3
  have x3 : ∀ v, (Instr.index 9 (SV l) (.int .i64 3)).run Try.prog v = .ok (.int .u8 b3) v := fun v => sv_idx hl 3 b3 (by omega) hb3 v
  rw [hb0] at hsz h1; rw [hb2, hb3] at hal
  have hszr : 0 ≤ sz ∧ sz ≤ 60 := by omega
  have halr : 0 ≤ al ∧ al ≤ 65535 := by omega
  have hwal : IntKind.i64.wrap al = al := IntWalk.i64_in _ ⟨by omega, by omega⟩
  clear hb0 hb2 hb3
  have d2 : (b0 / 16 * 16 != 64) = false := by simp; omega
  have d3 : decide (sz < 20) = true := decide_eq_true (by omega)
  go_enter Try.func47, Try.ntmps47
  go_upto_region 4 with (fail)
  go_cut [6] (fun s6 wx => s6 = .int .i64 al ∧ Below w.heap.size w wx ∧ Blk wx (w.heap.size) #[.int .u8 0, .int .u16 0, .int .u8 0, .int .u16 0, .int .u8 0, .int .u8 0, .int .u32 0, .int .u32 0, .string ⟨#[]⟩] 70)
  case first =>
    go_region_with (first
      | (go_at_call 63; (with_reducible refine (ipJoin2 b2 b3 _ _ r2 r3 al hal (by simp) (by simp)).mono ?_); rintro e w' ⟨rfl, rfl⟩))
    all_goals
      go_wp2_with fail
      go_meet
      exact ⟨rfl, by (repeat' (first | (with_reducible (first | exact Below.refl _ _ | assumption | refine below_drewN ?_ _ | refine Below.drew ?_ | refine Below.alloc ?_ ?_ _ | refine Below.setCell ?_ ?_ _)) | go_size)), by (repeat' (first | (with_reducible (first | assumption | exact Blk.alloc_new _ _ _ (by first | rfl | (simp; done) | omega) | apply Blk.drewN | apply Blk.drew | apply Blk.alloc_old | apply Blk.set_same | apply Blk.set_other)) | (show (_ : Nat) ≠ _; first | omega | (simp; done) | (simp; omega)) | ((simp only [List.setIfInBounds_toArray, List.set_cons_succ, List.set_cons_zero]); (with_reducible exact rfl)) | (with_reducible exact rfl) | (show (_ : Array Value) = _; exact rfl)))⟩
  case rest =>
    obtain ⟨rfl, g3, R3⟩ := hcut
    have cR := R3.cell; have fR := R3.frozen; have zR := R3.size
    have hz3 := g3.size
    go_wp2
    refine bp_forget (fun v => Below w.heap.size w v ∧ Blk v (w.heap.size) #[.int .u8 0, .int .u16 0, .int .u8 0, .int .u16 0, .int .u8 0, .int .u8 0, .int .u32 0, .int .u32 0, .string ⟨#[]⟩] 70) ⟨by (repeat' (first | (with_reducible (first | exact Below.refl _ _ | assumption | refine below_drewN ?_ _ | refine Below.drew ?_ | refine Below.alloc ?_ ?_ _ | refine Below.setCell ?_ ?_ _)) | go_size)), by (repeat' (first | (with_reducible (first | assumption | exact Blk.alloc_new _ _ _ (by first | rfl | (simp; done) | omega) | apply Blk.drewN | apply Blk.drew | apply Blk.alloc_old | apply Blk.set_same | apply Blk.set_other)) | (show (_ : Nat) ≠ _; first | omega | (simp; done) | (simp; omega)) | ((simp only [List.setIfInBounds_toArray, List.set_cons_succ, List.set_cons_zero]); (with_reducible exact rfl)) | (with_reducible exact rfl) | (show (_ : Array Value) = _; exact rfl)))⟩ ?_
    rintro v ⟨gv, Bv⟩
    refine bodyPost_ret (v := .tuple #[.agg #[.int .u8 0, .int .u16 0, .int .u8 0, .int .u16 0, .int .u8 0, .int .u8 0, .int .u32 0, .int .u32 0, .string ⟨#[]⟩], .string ⟨#[]⟩, .int .i64 4]) ?_ ?_ ?_
    · exact results_dec (w.heap.size) #[.int .u8 0, .int .u16 0, .int .u8 0, .int .u16 0, .int .u8 0, .int .u8 0, .int .u32 0, .int .u32 0, .string ⟨#[]⟩] 70 _ _ _ _ _ Try.results47 (by rfl) (by rfl) (by rfl) Bv Try.underlying70 rfl (by kernel_rfl)
    · rfl
    · exact ⟨rfl, gv⟩
set_option maxRecDepth 100000 in
set_option maxHeartbeats 4000000 in
theorem ipDec_4c (l : List Int) (sz al : Int) (w : World) (hl : Byt l) (hb : l.length ≤ 4611686018427387904) (h20 : 20 ≤ l.length) (hsz : l.getD 0 0 % 16 * 4 = sz) (hal : l.getD 2 0 * 256 + l.getD 3 0 = al) (h1 : l.getD 0 0 / 16 = 4) (h2 : 20 ≤ sz) (h3 : al < sz) :
    Calls Try.prog 47 #[SV l] w fun e w' => e = .returned (.tuple #[.agg #[.int .u8 0, .int .u16 0, .int .u8 0, .int .u16 0, .int .u8 0, .int .u8 0, .int .u32 0, .int .u32 0, .string ⟨#[]⟩], .string ⟨#[]⟩, .int .i64 4]) ∧ Below w.heap.size w w' := by
  have ks := sv_size
  have d1 : decide ((l.length : Int) < 20) = false := decide_eq_false (by omega)
  obtain ⟨b0, hb0⟩ : ∃ x, l.getD 0 0 = x := ⟨_, rfl⟩
  have r0 := hl.get 0
  rw [hb0] at r0
  have x0 : ∀ v, (Instr.index 9 (SV l) (.int .i64 0)).run Try.prog v = .ok (.int .u8 b0) v := fun v => sv_idx hl 0 b0 (by omega) hb0 v
  obtain ⟨b2, hb2⟩ : ∃ x, l.getD 2 0 = x := ⟨_, rfl⟩
  have r2 := hl.get 2
  rw [hb2] at r2
  have x2 : ∀ v, (Instr.index 9 (SV l) (.int .i64 2)).run Try.prog v = .ok (.int .u8 b2) v := fun v => sv_idx hl 2 b2 (by omega) hb2 v
  obtain ⟨b3, hb3⟩ : ∃ x, l.getD 3 0 = x := ⟨_, rfl⟩
  have r3 := hl.get 3
  rw [hb3] at r3
  have x3 : ∀ v, (Instr.index 9 (SV l) (.int .i64 3)).run Try.prog v = .ok (.int .u8 b3) v := fun v => sv_idx hl 3 b3 (by omega) hb3 v
  rw [hb0] at hsz h1; rw [hb2, hb3] at hal
  have hszr : 0 ≤ sz ∧ sz ≤ 60 := by omega
  have halr : 0 ≤ al ∧ al ≤ 65535 := by omega
  have hwal : IntKind.i64.wrap al = al := IntWalk.i64_in _ ⟨by omega, by omega⟩
  clear hb0 hb2 hb3
  have d2 : (b0 / 16 * 16 != 64) = false := by simp; omega
  have d3 : decide (sz < 20) = false := decide_eq_false (by omega)
  have d4 : decide (al < sz) = true := decide_eq_true (by omega)
  go_enter Try.func47, Try.ntmps47
  go_upto_region 4 with (fail)
  go_cut [6] (fun s6 wx => s6 = .int .i64 al ∧ Below w.heap.size w wx ∧ Blk wx (w.heap.size) #[.int .u8 0, .int .u16 0, .int .u8 0, .int .u16 0, .int .u8 0, .int .u8 0, .int .u32 0, .int .u32 0, .string ⟨#[]⟩] 70)
  case first =>
    go_region_with (first
      | (go_at_call 63; (with_reducible refine (ipJoin2 b2 b3 _ _ r2 r3 al hal (by simp) (by simp)).mono ?_); rintro e w' ⟨rfl, rfl⟩))
    all_goals
      go_wp2_with fail
      go_meet
      exact ⟨rfl, by (repeat' (first | (with_reducible (first | exact Below.refl _ _ | assumption | refine below_drewN ?_ _ | refine Below.drew ?_ | refine Below.alloc ?_ ?_ _ | refine Below.setCell ?_ ?_ _)) | go_size)), by (repeat' (first | (with_reducible (first | assumption | exact Blk.alloc_new _ _ _ (by first | rfl | (simp; done) | omega) | apply Blk.drewN | apply Blk.drew | apply Blk.alloc_old | apply Blk.set_same | apply Blk.set_other)) | (show (_ : Nat) ≠ _; first | omega | (simp; done) | (simp; omega)) | ((simp only [List.setIfInBounds_toArray, List.set_cons_succ, List.set_cons_zero]); (with_reducible exact rfl)) | (with_reducible exact rfl) | (show (_ : Array Value) = _; exact rfl)))⟩
  case rest =>
    obtain ⟨rfl, g3, R3⟩ := hcut
    have cR := R3.cell; have fR := R3.frozen; have zR := R3.size
    have hz3 := g3.size
    go_wp2
    refine bp_forget (fun v => Below w.heap.size w v ∧ Blk v (w.heap.size) #[.int .u8 0, .int .u16 0, .int .u8 0, .int .u16 0, .int .u8 0, .int .u8 0, .int .u32 0, .int .u32 0, .string ⟨#[]⟩] 70) ⟨by (repeat' (first | (with_reducible (first | exact Below.refl _ _ | assumption | refine below_drewN ?_ _ | refine Below.drew ?_ | refine Below.alloc ?_ ?_ _ | refine Below.setCell ?_ ?_ _)) | go_size)), by (repeat' (first | (with_reducible (first | assumption | exact Blk.alloc_new _ _ _ (by first | rfl | (simp; done) | omega) | apply Blk.drewN | apply Blk.drew | apply Blk.alloc_old | apply Blk.set_same | apply Blk.set_other)) | (show (_ : Nat) ≠ _; first | omega | (simp; done) | (simp; omega)) | ((simp only [List.setIfInBounds_toArray, List.set_cons_succ, List.set_cons_zero]); (with_reducible exact rfl)) | (with_reducible exact rfl) | (show (_ : Array Value) = _; exact rfl)))⟩ ?_
    rintro v ⟨gv, Bv⟩
    refine bodyPost_ret (v := .tuple #[.agg #[.int .u8 0, .int .u16 0, .int .u8 0, .int .u16 0, .int .u8 0, .int .u8 0, .int .u32 0, .int .u32 0, .string ⟨#[]⟩], .string ⟨#[]⟩, .int .i64 4]) ?_ ?_ ?_
    · exact results_dec (w.heap.size) #[.int .u8 0, .int .u16 0, .int .u8 0, .int .u16 0, .int .u8 0, .int .u8 0, .int .u32 0, .int .u32 0, .string ⟨#[]⟩] 70 _ _ _ _ _ Try.results47 (by rfl) (by rfl) (by rfl) Bv Try.underlying70 rfl (by kernel_rfl)
    · rfl
    · exact ⟨rfl, gv⟩
set_option maxRecDepth 100000 in
set_option maxHeartbeats 4000000 in
theorem ipDec_s (l : List Int) (sz al : Int) (w : World) (hl : Byt l) (hb : l.length ≤ 4611686018427387904) (h20 : 20 ≤ l.length) (hsz : l.getD 0 0 % 16 * 4 = sz) (hal : l.getD 2 0 * 256 + l.getD 3 0 = al) (h1 : l.getD 0 0 / 16 = 4) (h2 : 20 ≤ sz) (h3 : sz ≤ al) (h4 : (l.length : Int) < al) :
    Calls Try.prog 47 #[SV l] w fun e w' => e = .returned (.tuple #[.agg #[.int .u8 0, .int .u16 0, .int .u8 0, .int .u16 0, .int .u8 0, .int .u8 0, .int .u32 0, .int .u32 0, .string ⟨#[]⟩], .string ⟨#[]⟩, .int .i64 3]) ∧ Below w.heap.size w w' := by
  have ks := sv_size
  have d1 : decide ((l.length : Int) < 20) = false := decide_eq_false (by omega)
  obtain ⟨b0, hb0⟩ : ∃ x, l.getD 0 0 = x := ⟨_, rfl⟩
  have r0 := hl.get 0
  rw [hb0] at r0
  have x0 : ∀ v, (Instr.index 9 (SV l) (.int .i64 0)).run Try.prog v = .ok (.int .u8 b0) v := fun v => sv_idx hl 0 b0 (by omega) hb0 v
  obtain ⟨b2, hb2⟩ : ∃ x, l.getD 2 0 = x := ⟨_, rfl⟩
  have r2 := hl.get 2
  rw [hb2] at r2
  have x2 : ∀ v, (Instr.index 9 (SV l) (.int .i64 2)).run Try.prog v = .ok (.int .u8 b2) v := fun v => sv_idx hl 2 b2 (by omega) hb2 v
  obtain ⟨b3, hb3⟩ : ∃ x, l.getD 3 0 = x := ⟨_, rfl⟩
  have r3 := hl.get 3
  rw [hb3] at r3
  have x3 : ∀ v, (Instr.index 9 (SV l) (.int .i64 3)).run Try.prog v = .ok (.int .u8 b3) v := fun v => sv_idx hl 3 b3 (by omega) hb3 v
  rw [hb0] at hsz h1; rw [hb2, hb3] at hal
  have hszr : 0 ≤ sz ∧ sz ≤ 60 := by omega
  have halr : 0 ≤ al ∧ al ≤ 65535 := by omega
  have hwal : IntKind.i64.wrap al = al := IntWalk.i64_in _ ⟨by omega, by omega⟩
  clear hb0 hb2 hb3
  have d2 : (b0 / 16 * 16 != 64) = false := by simp; omega
  have d3 : decide (sz < 20) = false := decide_eq_false (by omega)
  have d4 : decide (al < sz) = false := decide_eq_false (by omega)
  have d5 : decide ((l.length : Int) < al) = true := decide_eq_true (by omega)
  go_enter Try.func47, Try.ntmps47
  go_upto_region 4 with (fail)
  go_cut [6] (fun s6 wx => s6 = .int .i64 al ∧ Below w.heap.size w wx ∧ Blk wx (w.heap.size) #[.int .u8 0, .int .u16 0, .int .u8 0, .int .u16 0, .int .u8 0, .int .u8 0, .int .u32 0, .int .u32 0, .string ⟨#[]⟩] 70)
  case first =>
    go_region_with (first
      | (go_at_call 63; (with_reducible refine (ipJoin2 b2 b3 _ _ r2 r3 al hal (by simp) (by simp)).mono ?_); rintro e w' ⟨rfl, rfl⟩))
    all_goals
      go_wp2_with fail
      go_meet
      exact ⟨rfl, by (repeat' (first | (with_reducible (first | exact Below.refl _ _ | assumption | refine below_drewN ?_ _ | refine Below.drew ?_ | refine Below.alloc ?_ ?_ _ | refine Below.setCell ?_ ?_ _)) | go_size)), by (repeat' (first | (with_reducible (first | assumption | exact Blk.alloc_new _ _ _ (by first | rfl | (simp; done) | omega) | apply Blk.drewN | apply Blk.drew | apply Blk.alloc_old | apply Blk.set_same | apply Blk.set_other)) | (show (_ : Nat) ≠ _; first | omega | (simp; done) | (simp; omega)) | ((simp only [List.setIfInBounds_toArray, List.set_cons_succ, List.set_cons_zero]); (with_reducible exact rfl)) | (with_reducible exact rfl) | (show (_ : Array Value) = _; exact rfl)))⟩
  case rest =>
    obtain ⟨rfl, g3, R3⟩ := hcut
    have cR := R3.cell; have fR := R3.frozen; have zR := R3.size
    have hz3 := g3.size
    go_wp2
    refine bp_forget (fun v => Below w.heap.size w v ∧ Blk v (w.heap.size) #[.int .u8 0, .int .u16 0, .int .u8 0, .int .u16 0, .int .u8 0, .int .u8 0, .int .u32 0, .int .u32 0, .string ⟨#[]⟩] 70) ⟨by (repeat' (first | (with_reducible (first | exact Below.refl _ _ | assumption | refine below_drewN ?_ _ | refine Below.drew ?_ | refine Below.alloc ?_ ?_ _ | refine Below.setCell ?_ ?_ _)) | go_size)), by (repeat' (first | (with_reducible (first | assumption | exact Blk.alloc_new _ _ _ (by first | rfl | (simp; done) | omega) | apply Blk.drewN | apply Blk.drew | apply Blk.alloc_old | apply Blk.set_same | apply Blk.set_other)) | (show (_ : Nat) ≠ _; first | omega | (simp; done) | (simp; omega)) | ((simp only [List.setIfInBounds_toArray, List.set_cons_succ, List.set_cons_zero]); (with_reducible exact rfl)) | (with_reducible exact rfl) | (show (_ : Array Value) = _; exact rfl)))⟩ ?_
    rintro v ⟨gv, Bv⟩
    refine bodyPost_ret (v := .tuple #[.agg #[.int .u8 0, .int .u16 0, .int .u8 0, .int .u16 0, .int .u8 0, .int .u8 0, .int .u32 0, .int .u32 0, .string ⟨#[]⟩], .string ⟨#[]⟩, .int .i64 3]) ?_ ?_ ?_
    · exact results_dec (w.heap.size) #[.int .u8 0, .int .u16 0, .int .u8 0, .int .u16 0, .int .u8 0, .int .u8 0, .int .u32 0, .int .u32 0, .string ⟨#[]⟩] 70 _ _ _ _ _ Try.results47 (by rfl) (by rfl) (by rfl) Bv Try.underlying70 rfl (by kernel_rfl)
    · rfl
    · exact ⟨rfl, gv⟩
set_option maxRecDepth 100000 in
set_option maxHeartbeats 4000000 in
theorem ipDec_l (l : List Int) (sz al : Int) (w : World) (hl : Byt l) (hb : l.length ≤ 4611686018427387904) (h20 : 20 ≤ l.length) (hsz : l.getD 0 0 % 16 * 4 = sz) (hal : l.getD 2 0 * 256 + l.getD 3 0 = al) (h1 : l.getD 0 0 / 16 = 4) (h2 : 20 ≤ sz) (h3 : sz ≤ al) (h4 : al < (l.length : Int)) :
    Calls Try.prog 47 #[SV l] w fun e w' => e = .returned (.tuple #[.agg #[.int .u8 0, .int .u16 0, .int .u8 0, .int .u16 0, .int .u8 0, .int .u8 0, .int .u32 0, .int .u32 0, .string ⟨#[]⟩], .string ⟨#[]⟩, .int .i64 2]) ∧ Below w.heap.size w w' := by
  have ks := sv_size
  have d1 : decide ((l.length : Int) < 20) = false := decide_eq_false (by omega)
  obtain ⟨b0, hb0⟩ : ∃ x, l.getD 0 0 = x := ⟨_, rfl⟩
  have r0 := hl.get 0
  rw [hb0] at r0
  have x0 : ∀ v, (Instr.index 9 (SV l) (.int .i64 0)).run Try.prog v = .ok (.int .u8 b0) v := fun v => sv_idx hl 0 b0 (by omega) hb0 v
  obtain ⟨b2, hb2⟩ : ∃ x, l.getD 2 0 = x := ⟨_, rfl⟩
  have r2 := hl.get 2
  rw [hb2] at r2
  have x2 : ∀ v, (Instr.index 9 (SV l) (.int .i64 2)).run Try.prog v = .ok (.int .u8 b2) v := fun v => sv_idx hl 2 b2 (by omega) hb2 v
  obtain ⟨b3, hb3⟩ : ∃ x, l.getD 3 0 = x := ⟨_, rfl⟩
  have r3 := hl.get 3
  rw [hb3] at r3
  have x3 : ∀ v, (Instr.index 9 (SV l) (.int .i64 3)).run Try.prog v = .ok (.int .u8 b3) v := fun v => sv_idx hl 3 b3 (by omega) hb3 v
  rw [hb0] at hsz h1; rw [hb2, hb3] at hal
  have hszr : 0 ≤ sz ∧ sz ≤ 60 := by omega
  have halr : 0 ≤ al ∧ al ≤ 65535 := by omega
  have hwal : IntKind.i64.wrap al = al := IntWalk.i64_in _ ⟨by omega, by omega⟩
  clear hb0 hb2 hb3
  have d2 : (b0 / 16 * 16 != 64) = false := by simp; omega
  have d3 : decide (sz < 20) = false := decide_eq_false (by omega)
  have d4 : decide (al < sz) = false := decide_eq_false (by omega)
  have d5 : decide ((l.length : Int) < al) = false := decide_eq_false (by omega)
  have d6 : decide (al < (l.length : Int)) = true := decide_eq_true (by omega)
  go_enter Try.func47, Try.ntmps47
  go_upto_region 4 with (fail)
  go_cut [6] (fun s6 wx => s6 = .int .i64 al ∧ Below w.heap.size w wx ∧ Blk wx (w.heap.size) #[.int .u8 0, .int .u16 0, .int .u8 0, .int .u16 0, .int .u8 0, .int .u8 0, .int .u32 0, .int .u32 0, .string ⟨#[]⟩] 70)
  case first =>
    go_region_with (first
      | (go_at_call 63; (with_reducible refine (ipJoin2 b2 b3 _ _ r2 r3 al hal (by simp) (by simp)).mono ?_); rintro e w' ⟨rfl, rfl⟩))
    all_goals
      go_wp2_with fail
      go_meet
      exact ⟨rfl, by (repeat' (first | (with_reducible (first | exact Below.refl _ _ | assumption | refine below_drewN ?_ _ | refine Below.drew ?_ | refine Below.alloc ?_ ?_ _ | refine Below.setCell ?_ ?_ _)) | go_size)), by (repeat' (first | (with_reducible (first | assumption | exact Blk.alloc_new _ _ _ (by first | rfl | (simp; done) | omega) | apply Blk.drewN | apply Blk.drew | apply Blk.alloc_old | apply Blk.set_same | apply Blk.set_other)) | (show (_ : Nat) ≠ _; first | omega | (simp; done) | (simp; omega)) | ((simp only [List.setIfInBounds_toArray, List.set_cons_succ, List.set_cons_zero]); (with_reducible exact rfl)) | (with_reducible exact rfl) | (show (_ : Array Value) = _; exact rfl)))⟩
  case rest =>
    obtain ⟨rfl, g3, R3⟩ := hcut
    have cR := R3.cell; have fR := R3.frozen; have zR := R3.size
    have hz3 := g3.size
    go_wp2
    refine bp_forget (fun v => Below w.heap.size w v ∧ Blk v (w.heap.size) #[.int .u8 0, .int .u16 0, .int .u8 0, .int .u16 0, .int .u8 0, .int .u8 0, .int .u32 0, .int .u32 0, .string ⟨#[]⟩] 70) ⟨by (repeat' (first | (with_reducible (first | exact Below.refl _ _ | assumption | refine below_drewN ?_ _ | refine Below.drew ?_ | refine Below.alloc ?_ ?_ _ | refine Below.setCell ?_ ?_ _)) | go_size)), by (repeat' (first | (with_reducible (first | assumption | exact Blk.alloc_new _ _ _ (by first | rfl | (simp; done) | omega) | apply Blk.drewN | apply Blk.drew | apply Blk.alloc_old | apply Blk.set_same | apply Blk.set_other)) | (show (_ : Nat) ≠ _; first | omega | (simp; done) | (simp; omega)) | ((simp only [List.setIfInBounds_toArray, List.set_cons_succ, List.set_cons_zero]); (with_reducible exact rfl)) | (with_reducible exact rfl) | (show (_ : Array Value) = _; exact rfl)))⟩ ?_
    rintro v ⟨gv, Bv⟩
    refine bodyPost_ret (v := .tuple #[.agg #[.int .u8 0, .int .u16 0, .int .u8 0, .int .u16 0, .int .u8 0, .int .u8 0, .int .u32 0, .int .u32 0, .string ⟨#[]⟩], .string ⟨#[]⟩, .int .i64 2]) ?_ ?_ ?_
    · exact results_dec (w.heap.size) #[.int .u8 0, .int .u16 0, .int .u8 0, .int .u16 0, .int .u8 0, .int .u8 0, .int .u32 0, .int .u32 0, .string ⟨#[]⟩] 70 _ _ _ _ _ Try.results47 (by rfl) (by rfl) (by rfl) Bv Try.underlying70 rfl (by kernel_rfl)
    · rfl
    · exact ⟨rfl, gv⟩
end Go.Proofs.Ytljpiofpfankoaa
