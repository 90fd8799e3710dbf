/-
  strings.Repeat at this program: the kit's contract laid (by the kit's tools, in plain words), and its use at a byte 0. Conditions: none.
-/
import Derived.Shelf.Strings.Repeat
import Derived.Test.YtldahcfggeebgaaIpB
namespace Go.Proofs.Ytldahcfggeebgaa
open Go.Shelf
def lays105_ren : Go.Shelf.Ren := ⟨fun | 105 => 39 | 212 => 48 | 99 => 49 | 165 => 50 | 166 => 51 | 170 => 52 | 169 => 53 | 263 => 54 | 264 => 55 | 206 => 56 | 240 => 57 | 241 => 58 | 276 => 59 | 277 => 60 | n => n, fun | 9 => 9 | 3 => 3 | 4 => 4 | 20 => 20 | 0 => 0 | 46 => 44 | 109 => 96 | 5 => 5 | 72 => 100 | 76 => 104 | 51 => 59 | 146 => 108 | 53 => 22 | 148 => 41 | 70 => 98 | 37 => 57 | 75 => 103 | 127 => 111 | 164 => 112 | 80 => 107 | n => n, fun | n => n⟩
theorem lays105 : Go.Proofs.Lays.n105 Try.prog lays105_ren := {
  mixed := by kernel_rfl
  f99 := Try.func49.trans (congrArg some (by kernel_rfl))
  f105 := Try.func39.trans (congrArg some (by kernel_rfl))
  f165 := Try.func50.trans (congrArg some (by kernel_rfl))
  f166 := Try.func51.trans (congrArg some (by kernel_rfl))
  f169 := Try.func53.trans (congrArg some (by kernel_rfl))
  f170 := Try.func52.trans (congrArg some (by kernel_rfl))
  f206 := Try.func56.trans (congrArg some (by kernel_rfl))
  f212 := Try.func48.trans (congrArg some (by kernel_rfl))
  f240 := Try.func57.trans (congrArg some (by kernel_rfl))
  f241 := Try.func58.trans (congrArg some (by kernel_rfl))
  f263 := Try.func54.trans (congrArg some (by kernel_rfl))
  f264 := Try.func55.trans (congrArg some (by kernel_rfl))
  f276 := Try.func59.trans (congrArg some (by kernel_rfl))
  f277 := Try.func60.trans (congrArg some (by kernel_rfl))
  t0 := Try.underlying0
  a0 := Try.isAgg0
  z0 := Try.sizeOf0
  v0 := Try.zeroValue0
  t3 := Try.underlying3
  a3 := Try.isAgg3
  z3 := Try.sizeOf3
  v3 := Try.zeroValue3
  t4 := Try.underlying4
  a4 := Try.isAgg4
  z4 := Try.sizeOf4
  v4 := Try.zeroValue4
  t5 := Try.underlying5
  a5 := Try.isAgg5
  z5 := Try.sizeOf5
  v5 := Try.zeroValue5
  t9 := Try.underlying9
  a9 := Try.isAgg9
  z9 := Try.sizeOf9
  v9 := Try.zeroValue9
  t20 := Try.underlying20
  a20 := Try.isAgg20
  z20 := Try.sizeOf20
  v20 := Try.zeroValue20
  t37 := Try.underlying57
  a37 := Try.isAgg57
  z37 := Try.sizeOf57
  v37 := Try.zeroValue57
  t46 := Try.underlying44
  a46 := Try.isAgg44
  z46 := Try.sizeOf44
  v46 := Try.zeroValue44
  t51 := Try.underlying59
  a51 := Try.isAgg59
  z51 := Try.sizeOf59
  v51 := Try.zeroValue59
  t53 := Try.underlying22
  a53 := Try.isAgg22
  z53 := Try.sizeOf22
  v53 := Try.zeroValue22
  t70 := Try.underlying98
  a70 := Try.isAgg98
  z70 := Try.sizeOf98
  v70 := Try.zeroValue98
  t72 := Try.underlying100
  a72 := Try.isAgg100
  z72 := Try.sizeOf100
  v72 := Try.zeroValue100
  t75 := Try.underlying103
  a75 := Try.isAgg103
  z75 := Try.sizeOf103
  v75 := Try.zeroValue103
  t76 := Try.underlying104
  a76 := Try.isAgg104
  z76 := Try.sizeOf104
  v76 := Try.zeroValue104
  t109 := Try.underlying96
  a109 := Try.isAgg96
  z109 := Try.sizeOf96
  v109 := Try.zeroValue96
  t127 := Try.underlying111
  a127 := Try.isAgg111
  z127 := Try.sizeOf111
  v127 := Try.zeroValue111
  t146 := Try.underlying108
  a146 := Try.isAgg108
  z146 := Try.sizeOf108
  v146 := Try.zeroValue108
  t148 := Try.underlying41
  a148 := Try.isAgg41
  z148 := Try.sizeOf41
  v148 := Try.zeroValue41
  t164 := Try.underlying112
  a164 := Try.isAgg112
  z164 := Try.sizeOf112
  v164 := Try.zeroValue112 }

theorem builderExtra105 : Builder.Extra Try.prog lays105_ren := {
  sizeBuilder := by kernel_rfl
  liesBuilder := by kernel_rfl
  t5 := Try.underlying5
  a5 := Try.isAgg5
  z5 := Try.sizeOf5
  v5 := Try.zeroValue5
  infoByte := by kernel_rfl
  cellsByte := by kernel_rfl
  sizeByte := by kernel_rfl
  neB5 := by decide }

theorem repeat0 : ∀ k : Nat, Lib.repeatL [0] k = (List.replicate k (0 : Int)).map fun n => UInt8.ofNat n.toNat := by
  intro k
  induction k with
  | zero => rfl
  | succ k ih => simp [Lib.repeatL, List.replicate_succ] at *; first | exact ih | simp [ih]
open Go.RowKit Go.Lib in
theorem ipRepeat (c : Int) (k : Nat) (w : World) (hc : c = (k : Int)) (hk : k ≤ 3) :
    Calls Try.prog 39 #[SV [0], .int .i64 c] w fun e w' => e = .returned (SV (List.replicate k 0)) ∧ Below w.heap.size w w' := by
  subst hc
  have h := Any.strings_Repeat lays105 builderExtra105 (strOfNums [0]) k w (by omega) (by rw [sv_size]; show 1 * k ≤ _; omega)
  refine h.mono ?_
  rintro e w' ⟨rfl, hb⟩
  refine ⟨?_, hb⟩
  have : (Lib.repeatL (strOfNums [0]).data.toList k).toArray = ((List.replicate k (0 : Int)).map fun n => UInt8.ofNat n.toNat).toArray := by
    rw [← repeat0]; rfl
  rw [this]; rfl
end Go.Proofs.Ytldahcfggeebgaa
