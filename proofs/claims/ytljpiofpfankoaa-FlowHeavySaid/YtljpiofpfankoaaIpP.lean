/-
  ipv4.Decode, all of it, in plain lists; a header compared with itself; the closed example of the law's package. Conditions: a string that is not too long.
-/
import Derived.Test.YtljpiofpfankoaaIpH
import Derived.Test.YtljpiofpfankoaaIpI
import Derived.Test.YtljpiofpfankoaaIpK
import Derived.Test.YtljpiofpfankoaaIpM
namespace Go.Proofs.Ytljpiofpfankoaa
open Go.RowKit Go.Sort
set_option linter.unusedVariables false
set_option linter.unusedSimpArgs false
def ptL (l : List Int) : Int := l.getD 6 0 * 256 + l.getD 7 0
/-- The header that the bytes tell; the body. -/
def hdL (l : List Int) : HD := ⟨l.getD 1 0, l.getD 4 0 * 256 + l.getD 5 0, ptL l / 8192, ptL l % 8192, l.getD 8 0, l.getD 9 0, ((l.getD 12 0 * 256 + l.getD 13 0) * 256 + l.getD 14 0) * 256 + l.getD 15 0, ((l.getD 16 0 * 256 + l.getD 17 0) * 256 + l.getD 18 0) * 256 + l.getD 19 0, (l.drop 20).take (szR l - 20)⟩
def bdL (l : List Int) : List Int := l.drop (szR l)
def decV (l : List Int) : Value := .tuple #[hdv (if badR l = 0 then hdL l else HD.zero), SV (if badR l = 0 then bdL l else []), .int .i64 (badR l)]
theorem decV_bad {l : List Int} {e : Int} (h : badR l = e) (h0 : e ≠ 0) : decV l = .tuple #[.agg #[.int .u8 0, .int .u16 0, .int .u8 0, .int .u16 0, .int .u8 0, .int .u8 0, .int .u32 0, .int .u32 0, .string ⟨#[]⟩], .string ⟨#[]⟩, .int .i64 e] := by
  unfold decV; rw [h, if_neg h0, if_neg h0]; rfl
theorem decV_ok {l : List Int} (h : badR l = 0) : decV l = .tuple #[hdv (hdL l), SV (bdL l), .int .i64 0] := by
  unfold decV; rw [h, if_pos rfl, if_pos rfl]
theorem szR_eq {l : List Int} (hl : Byt l) : l.getD 0 0 % 16 * 4 = (szR l : Int) := by have := hl.get 0; unfold szR; omega
theorem ipDecode (l : List Int) (w : World) (hl : Byt l) (hb : l.length ≤ 4611686018427387904) :
    Calls Try.prog 47 #[SV l] w fun e w' => e = .returned (decV l) ∧ Below w.heap.size w w' := by
  have hsz := szR_eq hl
  have q0 := hl.get 0
  have q2 := hl.get 2
  have q3 := hl.get 3
  have hal : alR l = l.getD 2 0 * 256 + l.getD 3 0 := rfl
  by_cases c0 : l.length < 20
  · rw [decV_bad (e := 3) (by unfold badR; rw [if_pos c0]) (by omega)]; exact ipDec_3 l w c0
  by_cases c1 : l.getD 0 0 < 69 ∨ 79 < l.getD 0 0
  · rw [decV_bad (e := 4) (by unfold badR; rw [if_neg c0, if_pos c1]) (by omega)]
    by_cases d1 : l.getD 0 0 / 16 = 4
    · exact ipDec_4b l _ _ w hl hb (by omega) hsz rfl d1 (by omega)
    · exact ipDec_4a l _ _ w hl hb (by omega) hsz rfl d1
  have h1 : l.getD 0 0 / 16 = 4 := by omega
  have h2 : (20 : Int) ≤ (szR l : Int) := by omega
  by_cases c2 : alR l < szR l
  · rw [decV_bad (e := 4) (by unfold badR; rw [if_neg c0, if_neg c1, if_pos c2]) (by omega)]
    exact ipDec_4c l _ _ w hl hb (by omega) hsz rfl h1 h2 c2
  by_cases c3 : (l.length : Int) < alR l
  · rw [decV_bad (e := 3) (by unfold badR; rw [if_neg c0, if_neg c1, if_neg c2, if_pos c3]) (by omega)]
    exact ipDec_s l _ _ w hl hb (by omega) hsz rfl h1 h2 (by omega) c3
  by_cases c4 : alR l < l.length
  · rw [decV_bad (e := 2) (by unfold badR; rw [if_neg c0, if_neg c1, if_neg c2, if_neg c3, if_pos c4]) (by omega)]
    exact ipDec_l l _ _ w hl hb (by omega) hsz rfl h1 h2 (by omega) c4
  have hlen : (l.length : Int) = alR l := by omega
  by_cases c5 : l.getD 10 0 * 256 + l.getD 11 0 ≠ 65535 - sumS (ckL l)
  · rw [decV_bad (e := 7) (by unfold badR; rw [if_neg c0, if_neg c1, if_neg c2, if_neg c3, if_neg c4, if_pos c5]) (by omega)]
    exact ipDec_7 l (ckL l) 0 (szR l) (alR l) _ _ _ w hl (by omega) (by omega) hsz rfl h1 (by omega) (by omega) hlen rfl rfl rfl rfl c5
  · rw [decV_ok (by unfold badR; rw [if_neg c0, if_neg c1, if_neg c2, if_neg c3, if_neg c4, if_neg c5])]
    exact ipDec_ok l (ckL l) 0 (szR l) (alR l) _ _ _ w hl (by omega) (by omega) hsz rfl h1 (by omega) (by omega) hlen rfl rfl rfl rfl _ _ _ _ _ _ _ _ _ _ _ (Decidable.not_not.1 c5) rfl rfl rfl rfl rfl rfl rfl rfl rfl rfl rfl
theorem bad_zero {l : List Int} (h : badR l = 0) : 20 ≤ l.length ∧ 69 ≤ l.getD 0 0 ∧ l.getD 0 0 ≤ 79 ∧ (szR l : Int) ≤ alR l ∧ (l.length : Int) = alR l ∧ l.getD 10 0 * 256 + l.getD 11 0 = 65535 - sumS (ckL l) := by
  unfold badR at h
  by_cases c0 : l.length < 20
  · rw [if_pos c0] at h; omega
  rw [if_neg c0] at h
  by_cases c1 : l.getD 0 0 < 69 ∨ 79 < l.getD 0 0
  · rw [if_pos c1] at h; omega
  rw [if_neg c1] at h
  by_cases c2 : alR l < szR l
  · rw [if_pos c2] at h; omega
  rw [if_neg c2] at h
  by_cases c3 : (l.length : Int) < alR l
  · rw [if_pos c3] at h; omega
  rw [if_neg c3] at h
  by_cases c4 : alR l < l.length
  · rw [if_pos c4] at h; omega
  rw [if_neg c4] at h
  by_cases c5 : l.getD 10 0 * 256 + l.getD 11 0 ≠ 65535 - sumS (ckL l)
  · rw [if_pos c5] at h; omega
  · exact ⟨by omega, by omega, by omega, by omega, by omega, Decidable.not_not.1 c5⟩
/-- A header's equality with itself. -/
theorem u8_run (k : Nat) (w : World) (x y : Int) : (Op.equalIn (k + 1) 5 (.int .u8 x) (.int .u8 y)).run Try.prog w = .ok (x == y) w := by simp [Op.equalIn, Try.underlying5, go_sem]
theorem u16_run (k : Nat) (w : World) (x y : Int) : (Op.equalIn (k + 1) 46 (.int .u16 x) (.int .u16 y)).run Try.prog w = .ok (x == y) w := by simp [Op.equalIn, Try.underlying46, go_sem]
theorem u32_run (k : Nat) (w : World) (x y : Int) : (Op.equalIn (k + 1) 68 (.int .u32 x) (.int .u32 y)).run Try.prog w = .ok (x == y) w := by simp [Op.equalIn, Try.underlying68, go_sem]
theorem str_run (k : Nat) (w : World) (a : ByteArray) : (Op.equalIn (k + 1) 9 (.string a) (.string a)).run Try.prog w = .ok true w := by
  rw [run_equalIn_string (h := Try.underlying9)]; simp
theorem hdeqIn (d : Nat) (h : HD) (v : World) : (Op.equalIn (d + 3) 70 (hdv h) (hdv h)).run Try.prog v = .ok true v := by
  have a1 : ∀ w, (isAgg 5).run Try.prog w = .ok false w := fun _ => by kernel_rfl
  have a2 : ∀ w, (isAgg 46).run Try.prog w = .ok false w := fun _ => by kernel_rfl
  have a3 : ∀ w, (isAgg 68).run Try.prog w = .ok false w := fun _ => by kernel_rfl
  have a4 : ∀ w, (isAgg 9).run Try.prog w = .ok false w := fun _ => by kernel_rfl
  have s1 : ∀ w, (sizeOf 5).run Try.prog w = .ok 1 w := fun _ => by kernel_rfl
  have s2 : ∀ w, (sizeOf 46).run Try.prog w = .ok 1 w := fun _ => by kernel_rfl
  have s3 : ∀ w, (sizeOf 68).run Try.prog w = .ok 1 w := fun _ => by kernel_rfl
  have s4 : ∀ w, (sizeOf 9).run Try.prog w = .ok 1 w := fun _ => by kernel_rfl
  have e1 := fun w x y => u8_run (d + 1) w x y
  have e2 := fun w x y => u16_run (d + 1) w x y
  have e3 := fun w x y => u32_run (d + 1) w x y
  have e4 := fun w x => str_run (d + 1) w x
  rw [run_equalIn_struct _ (d + 2) 70 _ _ (by kernel_rfl) (by kernel_rfl)]
  simp [Program.fieldsOf, Try.underlying70, go_sem, part, a1, a2, a3, a4, s1, s2, s3, s4, e1, e2, e3, e4]
theorem hdeq (h : HD) (v : World) : (binOp .eql 70 (hdv h) (hdv h)).run Try.prog v = .ok (.bool true) v := by
  rw [run_eql_struct, hdeqIn 9997 h]; rfl
theorem hdeqn (h : HD) (v : World) : (binOp .neq 70 (hdv h) (hdv h)).run Try.prog v = .ok (.bool false) v := by
  rw [run_neq_struct, hdeqIn 9997 h]; rfl
theorem rhdeqIn (d : Nat) (h : HD) (v : World) : (Op.equalIn (d + 3) 121 (hdv h) (hdv h)).run Try.prog v = .ok true v := by
  have a1 : ∀ w, (isAgg 5).run Try.prog w = .ok false w := fun _ => by kernel_rfl
  have a2 : ∀ w, (isAgg 46).run Try.prog w = .ok false w := fun _ => by kernel_rfl
  have a3 : ∀ w, (isAgg 68).run Try.prog w = .ok false w := fun _ => by kernel_rfl
  have a4 : ∀ w, (isAgg 9).run Try.prog w = .ok false w := fun _ => by kernel_rfl
  have s1 : ∀ w, (sizeOf 5).run Try.prog w = .ok 1 w := fun _ => by kernel_rfl
  have s2 : ∀ w, (sizeOf 46).run Try.prog w = .ok 1 w := fun _ => by kernel_rfl
  have s3 : ∀ w, (sizeOf 68).run Try.prog w = .ok 1 w := fun _ => by kernel_rfl
  have s4 : ∀ w, (sizeOf 9).run Try.prog w = .ok 1 w := fun _ => by kernel_rfl
  have e1 := fun w x y => u8_run (d + 1) w x y
  have e2 := fun w x y => u16_run (d + 1) w x y
  have e3 := fun w x y => u32_run (d + 1) w x y
  have e4 := fun w x => str_run (d + 1) w x
  rw [run_equalIn_struct _ (d + 2) 121 _ _ (by kernel_rfl) (by kernel_rfl)]
  simp [Program.fieldsOf, Try.underlying121, go_sem, part, a1, a2, a3, a4, s1, s2, s3, s4, e1, e2, e3, e4]
theorem rhdeq (h : HD) (v : World) : (binOp .eql 121 (hdv h) (hdv h)).run Try.prog v = .ok (.bool true) v := by
  rw [run_eql_struct, rhdeqIn 9997 h]; rfl
theorem rhdeqn (h : HD) (v : World) : (binOp .neq 121 (hdv h) (hdv h)).run Try.prog v = .ok (.bool false) v := by
  rw [run_neq_struct, rhdeqIn 9997 h]; rfl
theorem strq (a : ByteArray) (v : World) : (binOp .eql 9 (.string a) (.string a)).run Try.prog v = .ok (.bool true) v := by
  rw [binOp_string_eql]; simp
theorem strqn (a : ByteArray) (v : World) : (binOp .neq 9 (.string a) (.string a)).run Try.prog v = .ok (.bool false) v := by
  rw [binOp_string_neq]; simp
theorem kconvB (l : List Int) (B : Nat) (v : World) (c : Array Value) (t : TypeId) (hB : Blk v B c t) (hc : c = (l.map (Value.int .u8)).toArray) : (convert 73 9 (.slice (some ⟨B, 0, none⟩) c.size c.size)).run Try.prog v = .ok (SV l) v := by
  refine run_convert_bytes_arg (P := Try.prog) v 73 5 Try.underlying73 Try.underlying5 B 0 c.size c.size l (by rw [hc]; simp) (fun i hi => ?_) 9 Try.underlying9
  have hi' : i < l.length := by rw [hc] at hi; simpa using hi
  rw [hB.cell, Nat.zero_add, hc]
  simp [List.getElem?_eq_getElem hi', List.getD_eq_getElem?_getD]
end Go.Proofs.Ytljpiofpfankoaa
