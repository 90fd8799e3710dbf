/-
  ipv4.Encode, all of it, in plain lists; and the reference's. Conditions: fields in range.
-/
import Derived.Test.YtljpiofpfankoaaIpF
import Derived.Test.YtljpiofpfankoaaIpD
namespace Go.Proofs.Ytljpiofpfankoaa
open Go.RowKit Go.Sort
set_option linter.unusedVariables false
set_option linter.unusedSimpArgs false
theorem full_eq (o : List Int) (k : Nat) (hk4 : (4 - (o.length : Int) % 4) % 4 = (k : Int)) : full o = o ++ List.replicate k 0 := by
  have : o.length % 4 = 0 ∨ o.length % 4 = 1 ∨ o.length % 4 = 2 ∨ o.length % 4 = 3 := by omega
  rcases this with h | h | h | h
  · obtain rfl : k = 0 := by omega
    simp [full, flr, h]
  · obtain rfl : k = 3 := by omega
    have h1 : (o.length + 1) % 4 = 2 := by omega
    have h2 : (o.length + 1 + 1) % 4 = 3 := by omega
    simp [full, flr, h, h1, h2, List.replicate]
  · obtain rfl : k = 2 := by omega
    have h1 : (o.length + 1) % 4 = 3 := by omega
    have h2 : (o.length + 1 + 1) % 4 = 0 := by omega
    simp [full, flr, h, h1, h2, List.replicate]
  · obtain rfl : k = 1 := by omega
    have h1 : (o.length + 1) % 4 = 0 := by omega
    simp [full, flr, h, h1, List.replicate]
def HD.P (h : HD) : Int := h.fl * 8192 + h.off
/-- The front, ahead of the sum; the back, behind it. -/
def frB (h : HD) (n : Nat) : List Int := [64 + (20 + ((full h.o).length : Int)) / 4, h.tos, (20 + ((full h.o).length : Int) + n) / 256, (20 + ((full h.o).length : Int) + n) % 256, h.id / 256, h.id % 256, h.P / 256, h.P % 256, h.ttl, h.pr]
def adB (h : HD) : List Int := [h.src / 16777216, h.src / 65536 % 256, h.src / 256 % 256, h.src % 256, h.dst / 16777216, h.dst / 65536 % 256, h.dst / 256 % 256, h.dst % 256]
def ckB (h : HD) (n : Nat) : Int := 65535 - sumS (frB h n ++ (adB h ++ full h.o))
def encR (h : HD) (b : List Int) : List Int := frB h b.length ++ ([ckB h b.length / 256, ckB h b.length % 256] ++ (adB h ++ (full h.o ++ b)))
theorem full_byt {o : List Int} (h : Byt o) : Byt (full o) := by
  obtain ⟨k, hk⟩ : ∃ k : Nat, (4 - (o.length : Int) % 4) % 4 = (k : Int) := ⟨((4 - (o.length : Int) % 4) % 4).toNat, by omega⟩
  rw [full_eq o k hk]
  intro x hx
  rcases List.mem_append.1 hx with hx | hx
  · exact h x hx
  · have := List.eq_of_mem_replicate hx; omega
theorem front_byt {h : HD} {n : Nat} (ok : h.ok) (hw : wrongR h n = 0) : Byt (frB h n ++ (adB h ++ full h.o)) := by
  obtain ⟨o1, o2, o3, o4, o5, o6, o7, o8, o9⟩ := ok
  have hF := full_len h.o
  have hw' : h.fl ≤ 7 ∧ h.off ≤ 8191 ∧ h.o.length ≤ 40 ∧ (n : Int) ≤ 65515 - (full h.o).length := by
    unfold wrongR at hw
    by_cases c1 : 7 < h.fl ∨ 8191 < h.off
    · rw [if_pos c1] at hw; omega
    rw [if_neg c1] at hw
    by_cases c2 : 40 < h.o.length ∨ 65535 - 20 - ((full h.o).length : Int) < n
    · rw [if_pos c2] at hw; omega
    · omega
  have hP : h.P = h.fl * 8192 + h.off := rfl
  intro x hx
  rcases List.mem_append.1 hx with hx | hx
  · unfold frB at hx
    simp only [List.mem_cons, List.not_mem_nil, or_false] at hx
    rcases hx with rfl | rfl | rfl | rfl | rfl | rfl | rfl | rfl | rfl | rfl <;> omega
  · rcases List.mem_append.1 hx with hx | hx
    · unfold adB at hx
      simp only [List.mem_cons, List.not_mem_nil, or_false] at hx
      rcases hx with rfl | rfl | rfl | rfl | rfl | rfl | rfl | rfl <;> omega
    · exact full_byt o9 x hx
theorem ipEncode (h : HD) (b : List Int) (w : World) (ok : h.ok) (hob : h.o.length ≤ 4611686018427387904) (hbb : b.length ≤ 4611686018427387904) :
    Calls Try.prog 31 #[hdv h, SV b] w fun e w' => e = .returned (.tuple #[if wrongR h b.length = 0 then SV (encR h b) else .string ⟨#[]⟩, .int .i64 (wrongR h b.length)]) ∧ Below w.heap.size w w' := by
  have okk := ok
  obtain ⟨o1, o2, o3, o4, o5, o6, o7, o8, o9⟩ := ok
  obtain ⟨k, hk4⟩ : ∃ k : Nat, (4 - (h.o.length : Int) % 4) % 4 = (k : Int) := ⟨((4 - (h.o.length : Int) % 4) % 4).toNat, by omega⟩
  have hk : k ≤ 3 := by omega
  have hF := full_eq h.o k hk4
  have hl := full_len h.o
  by_cases c1 : 7 < h.fl
  · have hw : wrongR h b.length = 1 := by unfold wrongR; rw [if_pos (.inl c1)]
    rw [hw, if_neg (by omega)]
    exact ipEnc_1a h.tos h.id h.fl h.off h.ttl h.pr h.src h.dst 0 h.o b [] [] 0 w o1 o2 o3 o4 o5 o6 o7 o8 hob hbb c1
  by_cases c2 : 8191 < h.off
  · have hw : wrongR h b.length = 1 := by unfold wrongR; rw [if_pos (.inr c2)]
    rw [hw, if_neg (by omega)]
    exact ipEnc_1b h.tos h.id h.fl h.off h.ttl h.pr h.src h.dst 0 h.o b [] [] 0 w o1 o2 o3 o4 o5 o6 o7 o8 hob hbb (by omega) (by omega)
  by_cases c3 : 40 < h.o.length
  · have hw : wrongR h b.length = 2 := by unfold wrongR; rw [if_neg (by omega), if_pos (.inl c3)]
    rw [hw, if_neg (by omega)]
    exact ipEnc_2a h.tos h.id h.fl h.off h.ttl h.pr h.src h.dst _ h.o b _ _ k w o1 o2 o3 o4 o5 o6 o7 o8 hob hbb hk hk4 rfl rfl rfl (by omega) (by omega) c3
  by_cases c4 : 65535 - (20 + ((full h.o).length : Int)) < b.length
  · have hw : wrongR h b.length = 2 := by unfold wrongR; rw [if_neg (by omega), if_pos (.inr (by omega))]
    rw [hw, if_neg (by omega)]
    exact ipEnc_2b h.tos h.id h.fl h.off h.ttl h.pr h.src h.dst _ h.o b _ _ k w o1 o2 o3 o4 o5 o6 o7 o8 hob hbb hk hk4 rfl hF.symm rfl (by omega) (by omega) (by omega) c4
  · have hw : wrongR h b.length = 0 := by unfold wrongR; rw [if_neg (by omega), if_neg (by omega)]
    have hby := front_byt okk hw
    rw [hw, if_pos rfl]
    exact ipEncode_ok h.tos h.id h.fl h.off h.ttl h.pr h.src h.dst _ _ _ _ (ckB h b.length) _ _ _ _ _ _ _ _ _ _ _ _ _ _ _ _ _ h.o b (full h.o) _ k w o1 o2 o3 o4 o5 o6 o7 o8 (by omega) (by omega) hk hk4 rfl hF.symm rfl (by omega) c4 rfl rfl (by omega) (by omega) hby rfl rfl rfl rfl rfl rfl rfl rfl rfl rfl rfl rfl rfl rfl rfl rfl rfl rfl rfl
end Go.Proofs.Ytljpiofpfankoaa
