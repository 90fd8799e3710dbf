/-
  The plain law: the bytes of the packet of bytes are these bytes. Conditions: 18 bytes.
-/
import Derived.Test.YtapikbgloagnkaaPackL
namespace Go.Proofs.Ytapikbgloagnkaa
open Go.RowKit
set_option linter.unusedVariables false
theorem list18 {α : Type} {l : List α} (h : l.length = 18) : ∃ b0 b1 b2 b3 b4 b5 b6 b7 b8 b9 b10 b11 b12 b13 b14 b15 b16 b17, l = [b0, b1, b2, b3, b4, b5, b6, b7, b8, b9, b10, b11, b12, b13, b14, b15, b16, b17] := by
  match l, h with
  | [b0, b1, b2, b3, b4, b5, b6, b7, b8, b9, b10, b11, b12, b13, b14, b15, b16, b17], _ => exact ⟨b0, b1, b2, b3, b4, b5, b6, b7, b8, b9, b10, b11, b12, b13, b14, b15, b16, b17, rfl⟩
theorem u8back (b : UInt8) : UInt8.ofNat ((b.toNat : Int)).toNat = b := by simp
theorem bt8 (b0 b1 b2 b3 b4 b5 b6 b7 : UInt8) : bsL (numB [b0, b1, b2, b3, b4, b5, b6, b7]) 8 = [(b0.toNat : Int), b1.toNat, b2.toNat, b3.toNat, b4.toNat, b5.toNat, b6.toNat, b7.toNat] := by
  have h0 := b0.toNat_lt; have h1 := b1.toNat_lt; have h2 := b2.toNat_lt; have h3 := b3.toNat_lt; have h4 := b4.toNat_lt; have h5 := b5.toNat_lt; have h6 := b6.toNat_lt; have h7 := b7.toNat_lt
  simp only [numB, List.foldl, bsL, bt]
  simp
  refine ⟨?_, ?_, ?_, ?_, ?_, ?_, ?_, ?_⟩ <;> omega
theorem bt2 (b0 b1 : UInt8) : bsL (numB [b0, b1]) 2 = [(b0.toNat : Int), b1.toNat] := by
  have h0 := b0.toNat_lt; have h1 := b1.toNat_lt
  simp only [numB, List.foldl, bsL, bt]
  simp
  omega
theorem l18_bsL (id len h0 h1 h2 h3 : Int) : l18 id len h0 h1 h2 h3 = bsL id 8 ++ bsL len 2 ++ bsL h0 2 ++ bsL h1 2 ++ bsL h2 2 ++ bsL h3 2 := rfl
theorem enc_dec (s : ByteArray) (h : s.size = 18) : strOfNums (l18 (nB s 0 8) (nB s 8 10) (nB s 10 12) (nB s 12 14) (nB s 14 16) (nB s 16 18)) = s := by
  obtain ⟨⟨l⟩⟩ := s
  obtain ⟨b0, b1, b2, b3, b4, b5, b6, b7, b8, b9, b10, b11, b12, b13, b14, b15, b16, b17, rfl⟩ := list18 (l := l) h
  have e : ∀ a b, nB (⟨⟨[b0, b1, b2, b3, b4, b5, b6, b7, b8, b9, b10, b11, b12, b13, b14, b15, b16, b17]⟩⟩ : ByteArray) a b = numB (([b0, b1, b2, b3, b4, b5, b6, b7, b8, b9, b10, b11, b12, b13, b14, b15, b16, b17].drop a).take (b - a)) := by
    intro a b
    unfold nB
    have e : ((⟨⟨[b0, b1, b2, b3, b4, b5, b6, b7, b8, b9, b10, b11, b12, b13, b14, b15, b16, b17]⟩⟩ : ByteArray).extract a b).data.toList = ([b0, b1, b2, b3, b4, b5, b6, b7, b8, b9, b10, b11, b12, b13, b14, b15, b16, b17].drop a).take (b - a) := by
      rw [ByteArray.data_extract, Array.toList_extract]
    rw [e]
  rw [e, e, e, e, e, e, l18_bsL]
  show strOfNums (bsL (numB [b0, b1, b2, b3, b4, b5, b6, b7]) 8 ++ bsL (numB [b8, b9]) 2 ++ bsL (numB [b10, b11]) 2 ++ bsL (numB [b12, b13]) 2 ++ bsL (numB [b14, b15]) 2 ++ bsL (numB [b16, b17]) 2) = _
  rw [bt8, bt2, bt2, bt2, bt2, bt2]
  apply ByteArray.ext
  simp [strOfNums]
theorem neq_pkt (v : World) (id len h0 h1 h2 h3 : Int) : (binOp .neq 42 (pkt id len h0 h1 h2 h3) (pkt id len h0 h1 h2 h3)).run Try.prog v = .ok (.bool false) v := by
  have h := eq_pkt v id len h0 h1 h2 h3
  rw [run_eql_struct] at h
  rw [run_neq_struct]
  generalize (Op.equalIn 10000 42 (pkt id len h0 h1 h2 h3) (pkt id len h0 h1 h2 h3)).run Try.prog v = x at *
  cases x with
  | ok b w => simp [Result.andThen] at h ⊢; obtain ⟨rfl, rfl⟩ := h; simp
  | halt e w => simp [Result.andThen] at h
end Go.Proofs.Ytapikbgloagnkaa
