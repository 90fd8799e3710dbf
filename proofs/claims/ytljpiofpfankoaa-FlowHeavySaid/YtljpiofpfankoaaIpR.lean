/-
  strings.Repeat at this program: the kit's contract laid (by the kit's tools, in plain words), and its use at a byte 0. Conditions: none.
-/
import Derived.Shelf.Strings.Repeat
import Derived.Test.YtljpiofpfankoaaIpB
namespace Go.Proofs.Ytljpiofpfankoaa
open Go.Shelf
def lays105_ren : Go.Shelf.Ren := ⟨fun | 105 => 54 | 212 => 64 | 99 => 65 | 165 => 66 | 166 => 67 | 170 => 68 | 169 => 69 | 263 => 75 | 264 => 76 | 206 => 74 | 240 => 77 | 241 => 78 | 276 => 91 | 277 => 92 | n => n, fun | 9 => 9 | 3 => 3 | 4 => 4 | 20 => 20 | 0 => 0 | 46 => 127 | 109 => 139 | 5 => 5 | 72 => 144 | 76 => 148 | 51 => 68 | 146 => 156 | 53 => 43 | 148 => 158 | 70 => 142 | 37 => 73 | 75 => 147 | 127 => 160 | 164 => 173 | 80 => 150 | n => n, fun | n => n⟩
theorem lays105 : Go.Proofs.Lays.n105 Try.prog lays105_ren := {
  mixed := by kernel_rfl
  f99 := Try.func65.trans (congrArg some (by kernel_rfl))
  f105 := Try.func54.trans (congrArg some (by kernel_rfl))
  f165 := Try.func66.trans (congrArg some (by kernel_rfl))
  f166 := Try.func67.trans (congrArg some (by kernel_rfl))
  f169 := Try.func69.trans (congrArg some (by kernel_rfl))
  f170 := Try.func68.trans (congrArg some (by kernel_rfl))
  f206 := Try.func74.trans (congrArg some (by kernel_rfl))
  f212 := Try.func64.trans (congrArg some (by kernel_rfl))
  f240 := Try.func77.trans (congrArg some (by kernel_rfl))
  f241 := Try.func78.trans (congrArg some (by kernel_rfl))
  f263 := Try.func75.trans (congrArg some (by kernel_rfl))
  f264 := Try.func76.trans (congrArg some (by kernel_rfl))
  f276 := Try.func91.trans (congrArg some (by kernel_rfl))
  f277 := Try.func92.trans (congrArg some (by kernel_rfl))
  t0 := Try.underlying0
  a0 := Try.isAgg0
  z0 := Try.sizeOf0
  v0 := Try.zeroValue0
  t3 := Try.underlying3
  a3 := Try.isAgg3
  z3 := Try.sizeOf3
  v3 := Try.zeroValue3
  t4 := Try.underlying4
  a4 := Try.isAgg4
  z4 := Try.sizeOf4
  v4 := Try.zeroValue4
  t5 := Try.underlying5
  a5 := Try.isAgg5
  z5 := Try.sizeOf5
  v5 := Try.zeroValue5
  t9 := Try.underlying9
  a9 := Try.isAgg9
  z9 := Try.sizeOf9
  v9 := Try.zeroValue9
  t20 := Try.underlying20
  a20 := Try.isAgg20
  z20 := Try.sizeOf20
  v20 := Try.zeroValue20
  t37 := Try.underlying73
  a37 := Try.isAgg73
  z37 := Try.sizeOf73
  v37 := Try.zeroValue73
  t46 := Try.underlying127
  a46 := Try.isAgg127
  z46 := Try.sizeOf127
  v46 := Try.zeroValue127
  t51 := Try.underlying68
  a51 := Try.isAgg68
  z51 := Try.sizeOf68
  v51 := Try.zeroValue68
  t53 := Try.underlying43
  a53 := Try.isAgg43
  z53 := Try.sizeOf43
  v53 := Try.zeroValue43
  t70 := Try.underlying142
  a70 := Try.isAgg142
  z70 := Try.sizeOf142
  v70 := Try.zeroValue142
  t72 := Try.underlying144
  a72 := Try.isAgg144
  z72 := Try.sizeOf144
  v72 := Try.zeroValue144
  t75 := Try.underlying147
  a75 := Try.isAgg147
  z75 := Try.sizeOf147
  v75 := Try.zeroValue147
  t76 := Try.underlying148
  a76 := Try.isAgg148
  z76 := Try.sizeOf148
  v76 := Try.zeroValue148
  t109 := Try.underlying139
  a109 := Try.isAgg139
  z109 := Try.sizeOf139
  v109 := Try.zeroValue139
  t127 := Try.underlying160
  a127 := Try.isAgg160
  z127 := Try.sizeOf160
  v127 := Try.zeroValue160
  t146 := Try.underlying156
  a146 := Try.isAgg156
  z146 := Try.sizeOf156
  v146 := Try.zeroValue156
  t148 := Try.underlying158
  a148 := Try.isAgg158
  z148 := Try.sizeOf158
  v148 := Try.zeroValue158
  t164 := Try.underlying173
  a164 := Try.isAgg173
  z164 := Try.sizeOf173
  v164 := Try.zeroValue173 }

theorem builderExtra105 : Builder.Extra Try.prog lays105_ren := {
  sizeBuilder := by kernel_rfl
  liesBuilder := by kernel_rfl
  t5 := Try.underlying5
  a5 := Try.isAgg5
  z5 := Try.sizeOf5
  v5 := Try.zeroValue5
  infoByte := by kernel_rfl
  cellsByte := by kernel_rfl
  sizeByte := by kernel_rfl
  neB5 := by decide }

theorem repeat0 : ∀ k : Nat, Lib.repeatL [0] k = (List.replicate k (0 : Int)).map fun n => UInt8.ofNat n.toNat := by
  intro k
  induction k with
  | zero => rfl
  | succ k ih => simp [Lib.repeatL, List.replicate_succ] at *; first | exact ih | simp [ih]
open Go.RowKit Go.Lib in
theorem ipRepeat (c : Int) (k : Nat) (w : World) (hc : c = (k : Int)) (hk : k ≤ 3) :
    Calls Try.prog 54 #[SV [0], .int .i64 c] w fun e w' => e = .returned (SV (List.replicate k 0)) ∧ Below w.heap.size w w' := by
  subst hc
  have h := Any.strings_Repeat lays105 builderExtra105 (strOfNums [0]) k w (by omega) (by rw [sv_size]; show 1 * k ≤ _; omega)
  refine h.mono ?_
  rintro e w' ⟨rfl, hb⟩
  refine ⟨?_, hb⟩
  have : (Lib.repeatL (strOfNums [0]).data.toList k).toArray = ((List.replicate k (0 : Int)).map fun n => UInt8.ofNat n.toNat).toArray := by
    rw [← repeat0]; rfl
  rw [this]; rfl
end Go.Proofs.Ytljpiofpfankoaa
