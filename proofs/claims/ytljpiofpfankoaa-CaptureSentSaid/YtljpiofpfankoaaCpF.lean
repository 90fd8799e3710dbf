/-
  Captures: capture.Encode. Conditions: what the slice of frames holds is known.
-/
import Derived.Test.YtljpiofpfankoaaCpE
import Derived.Test.YtljpiofpfankoaaSink
import Derived.Lib.AppendStr
namespace Go.Proofs.Ytljpiofpfankoaa
open Go.RowKit Go.Sort
set_option linter.unusedVariables false
set_option linter.unusedSimpArgs false
theorem Blk.grown {w w' : World} {row : Option Nat} {B : Nat} {cs : Array Value} {t : TypeId} (h : Blk w B cs t) (hg : w.grownBy w' row) (hne : some B ≠ row) : Blk w' B cs t :=
  (hg.block B h.size hne).trans h
theorem below_grown {w0 w w' : World} {row : Option Nat} {K : Nat} (h : Below K w0 w) (hg : w.grownBy w' row) (hK : K ≤ w.heap.size) (hr : ∀ k, row = some k → K ≤ k) : Below K w0 w' :=
  h.trans ⟨hg.os, hg.tape, hg.output, hg.size, fun k hk => hg.block k (by omega) (fun e => by have := hr k e.symm; omega)⟩
def byteVs (l : List Int) : List Value := l.map (Value.int .u8)
/-- A slice of bytes that the program has made itself. -/
def HoldB (w : World) (base : Nat) (v : Value) (l : List Int) : Prop := w.ownsRow base 5 1 v l.length (byteVs l)
theorem HoldB.below {w w' : World} {base : Nat} {v : Value} {l : List Int} (h : HoldB w base v l) (hb : Below w.heap.size w w') : HoldB w' base v l := by
  obtain ⟨h1, h2⟩ := h
  refine ⟨h1, ?_⟩
  rcases h2 with h2 | ⟨g, cap, cur, e, hg, hh, r⟩
  · exact .inl h2
  · exact .inr ⟨g, cap, cur, e, hg, (hb.block g (Array.getElem?_eq_some_iff.1 hh).1).trans hh, r⟩
theorem HoldB.own_ge {w : World} {base : Nat} {v : Value} {l : List Int} (h : HoldB w base v l) : ∀ k, v.ownBlock = some k → base ≤ k ∧ k < w.heap.size := by
  intro k hk
  rcases h.2 with ⟨e, _⟩ | ⟨g, cap, cur, e, hg, hh, r⟩
  · rw [e] at hk; cases hk
  · rw [e] at hk; cases hk; exact ⟨hg, (Array.getElem?_eq_some_iff.1 hh).1⟩
theorem strCells_str (l : List Int) (hl : Byt l) : Lib.strCells (strOfNums l) = byteVs l := by
  unfold Lib.strCells byteVs
  rw [strOfNums_data, List.map_map]
  refine List.map_congr_left fun x hx => ?_
  have := hl x hx
  show Value.int .u8 ((UInt8.ofNat x.toNat).toNat : Int) = Value.int .u8 x
  rw [UInt8.toNat_ofNat']; congr 1; omega
theorem HoldB.conv {w : World} {base : Nat} {v : Value} {l : List Int} (h : HoldB w base v l) (h0 : 0 < l.length) : (convert 73 9 v).run Try.prog w = .ok (SV l) w := by
  rcases h.2 with ⟨_, e⟩ | ⟨g, cap, cur, e, hg, hh, hc, hm, hs, ht⟩
  · omega
  · rw [e]
    refine run_convert_bytes_arg (P := Try.prog) w 73 5 Try.underlying73 Try.underlying5 g 0 l.length cap l rfl (fun i hi => ?_) 9 Try.underlying9
    rw [Nat.zero_add]
    have h1 : w.cell? ⟨g, i, none⟩ = cur[i]? := by simp [World.cell?, hh]
    rw [h1]
    have h2 : (cur.toList.take (l.length * 1))[i]? = (byteVs l)[i]? := by rw [ht]
    rw [List.getElem?_take_of_lt (by omega)] at h2
    rw [← Array.getElem?_toList, h2]
    unfold byteVs
    simp [List.getD_eq_getElem?_getD, List.getElem?_eq_getElem hi]
theorem u8_info : ∃ i, Try.prog.info? 5 = some i ∧ i.zero = some (.int .u8 0) ∧ i.size = 1 ∧ i.bytes = 1 := by
  have h : (Try.prog.info? 5).map (fun i => (i.zero, i.size, i.bytes)) = some (some (.int .u8 0), 1, 1) := by kernel_rfl
  obtain ⟨i, hi, e⟩ := Option.map_eq_some_iff.1 h
  simp only [Prod.mk.injEq] at e
  exact ⟨i, hi, e.1, e.2.1, e.2.2⟩
def flogV : Array Value := #[.int .u8 102, .int .u8 108, .int .u8 111, .int .u8 103]
/-- Such a slice, or the four bytes that a captured text begins with, as the conversion of a constant has laid them. -/
def HoldB2 (w : World) (base : Nat) (v : Value) (l : List Int) : Prop := HoldB w base v l ∨ ∃ g fz, v = .slice (some ⟨g, 0, none⟩) 4 4 ∧ base ≤ g ∧ w.heap[g]? = some (.cells flogV 5 fz) ∧ l = flog
theorem HoldB2.below {w w' : World} {base : Nat} {v : Value} {l : List Int} (h : HoldB2 w base v l) (hb : Below w.heap.size w w') : HoldB2 w' base v l := by
  rcases h with h | ⟨g, fz, e, hg, hh, hs⟩
  · exact .inl (h.below hb)
  · exact .inr ⟨g, fz, e, hg, (hb.block g (Array.getElem?_eq_some_iff.1 hh).1).trans hh, hs⟩
theorem HoldB2.conv {w : World} {base : Nat} {v : Value} {l : List Int} (h : HoldB2 w base v l) (h0 : 0 < l.length) : (convert 73 9 v).run Try.prog w = .ok (SV l) w := by
  rcases h with h | ⟨g, fz, rfl, hg, hh, rfl⟩
  · exact h.conv h0
  · refine run_convert_bytes_arg (P := Try.prog) w 73 5 Try.underlying73 Try.underlying5 g 0 4 4 flog rfl (fun i hi => ?_) 9 Try.underlying9
    rw [Nat.zero_add]
    have h1 : w.cell? ⟨g, i, none⟩ = flogV[i]? := by simp [World.cell?, hh]
    rw [h1]
    have : i = 0 ∨ i = 1 ∨ i = 2 ∨ i = 3 := by omega
    rcases this with rfl | rfl | rfl | rfl <;> rfl
theorem byteVs_app (a b : List Int) : byteVs (a ++ b) = byteVs a ++ byteVs b := by unfold byteVs; exact List.map_append
open Go.Lib in
theorem append2 {w : World} {base : Nat} {v : Value} {s : List Int} (l : List Int) (ty : TypeId) (h : HoldB2 w base v s) (hl : Byt l) (h0 : 0 < l.length) (hsz : s.length + l.length ≤ 140737488355328) (hbase : base ≤ w.heap.size) :
    ∃ v' w', (Builtin.append_ #[73, 9] ty #[v, SV l]).run Try.prog w = .ok v' w' ∧ HoldB w' base v' (s ++ l) ∧ Below base w w' ∧ w.heap.size ≤ w'.heap.size ∧ (∀ b c t, some b ≠ v.ownBlock → Blk w b c t → Blk w' b c t) := by
  obtain ⟨i, hi, hz, hs1, hb1⟩ := u8_info
  have ks := sv_size l
  rcases h with h | ⟨g, fz, rfl, hg, hh, rfl⟩
  · obtain ⟨v', w', hr, ho, hgr, _⟩ := run_append_own_string (P := Try.prog) w base 73 9 ty 5 i Try.underlying73 Try.underlying9 hi hz hs1 hb1 v s.length (byteVs s) h (strOfNums l) (by rw [ks]; unfold maxLen; omega) (by rw [ks]; exact hsz) hbase
    refine ⟨v', w', hr, ?_, ?_, hgr.size, fun b c t hne hbb => Blk.grown hbb hgr hne⟩
    · unfold HoldB
      rw [ks, strCells_str l hl] at ho
      rw [List.length_append, byteVs_app]; exact ho
    · exact below_grown (Below.refl _ _) hgr hbase (fun k hk => (h.own_ge k hk).1)
  · have hf4 : flog.length = 4 := rfl
    have hc : ∀ j u, (byteVs flog)[j]? = some u → w.cell? ((⟨g, 0, none⟩ : Addr).add j) = some u := fun j u hj => by
      have hj4 : j < 4 := by
        have := (List.getElem?_eq_some_iff.1 hj).1
        unfold byteVs at this; simpa [hf4] using this
      have h1 : w.cell? ⟨g, j, none⟩ = flogV[j]? := by simp [World.cell?, hh]
      rw [Addr.add_mid, Nat.zero_add, h1, ← hj]
      have : j = 0 ∨ j = 1 ∨ j = 2 ∨ j = 3 := by omega
      rcases this with rfl | rfl | rfl | rfl <;> rfl
    have hr := run_append_grow_string (P := Try.prog) w 73 9 ty 5 i (.int .u8 0) Try.underlying73 Try.underlying9 hi hz ⟨g, 0, none⟩ 4 4 (byteVs flog) (by rw [hs1]; rfl) hc (strOfNums l) (by rw [ks]; omega) (by rw [ks]; omega) (by rw [ks, hb1]; exact growslice_fits (by omega) (by omega))
    refine ⟨_, _, hr, ?_, ?_, by simp, fun b c t _ hbb => (Below.heap_alloc w.drew _ b (by show b < w.heap.size; exact hbb.size)).trans hbb⟩
    · unfold HoldB
      rw [ks, strCells_str l hl]
      have hge := grownCap_ge w (4 + l.length) 4 5
      have hcm : grownCap w (4 + l.length) 4 5 ≤ maxLen := grownCap_le_maxLen w (4 + l.length) 4 5 (by unfold maxLen; omega)
      have hbl : (byteVs l).length = l.length := by unfold byteVs; simp
      have hbf : (byteVs flog).length = 4 := rfl
      rw [List.length_append, hf4, byteVs_app]
      refine ⟨by rw [List.length_append, hbf, hbl]; omega, .inr ⟨w.heap.size, _, _, rfl, hbase, heap_alloc_new w.drew _, hge, hcm, ?_, ?_⟩⟩
      · have hz1 : (Value.int IntKind.u8 0).cells.size = 1 := rfl
        simp only [Array.size_append, List.size_toArray, size_zeroCells, hz1, hbf, hbl]
        omega
      · simp only [Array.toList_append, List.append_assoc]
        rw [← List.append_assoc, show (4 + l.length) * 1 = (byteVs flog ++ byteVs l).length by rw [List.length_append, hbf, hbl]; omega]
        exact List.take_left
    · exact ⟨rfl, rfl, rfl, by simp, fun k hk => Below.heap_alloc w.drew _ k (by show k < w.heap.size; omega)⟩
theorem wpList_append2 {w : World} {ops : Array Oper} {rest : List Oper} {o : Oper} {a : Act} {Q : Exit → Act → World → Prop} (hgd : o.guard = none) (sl x : Operand)
    (ho : o.op = .call { callee := .builtin .append, args := #[sl, x], argTypes := #[73, 9] })
    (base : Nat) (v : Value) (s l : List Int) (hs : a.eval sl = v) (hx : a.eval x = SV l) (h : HoldB2 w base v s) (hl : Byt l) (h0 : 0 < l.length) (hsz : s.length + l.length ≤ 140737488355328) (hbase : base ≤ w.heap.size)
    (hk : ∀ v' w', HoldB w' base v' (s ++ l) → Below base w w' → w.heap.size ≤ w'.heap.size → (∀ b c t, some b ≠ v.ownBlock → Blk w b c t → Blk w' b c t) → wpList Try.prog ops Q rest (a.put o.dst v') w') : wpList Try.prog ops Q (o :: rest) a w := by
  refine wpList_plain hgd fun K hK => ?_
  obtain ⟨v', w', hr, h2, h3, h4, h5⟩ := append2 l o.type h hl h0 hsz hbase
  unfold Oper.wp execOp
  simp only [ho, resolve, invoke, builtin, Sem.run_bind, Sem.run_pure, Result.andThen_ok, List.map_toArray, List.map_cons, List.map_nil, hs, hx, hr]
  exact hK _ _ (hk v' w' h2 h3 h4 h5)
theorem freeze_at (w : World) (c : Array Value) (e : TypeId) (n : Nat) : ((w.alloc (.cells c e)).freeze ⟨w.heap.size, n, none⟩ 1).heap[w.heap.size]? = some (.cells c e (n, n + 1)) := by
  have h : (w.alloc (.cells c e)).heap[w.heap.size]? = some (.cells c e) := Blk.alloc_new _ _ _ rfl
  unfold World.freeze
  rw [if_neg (by decide)]
  show ((w.alloc (.cells c e)).heap.modify w.heap.size _)[w.heap.size]? = _
  rw [Array.getElem?_modify, if_pos rfl, h]
  rfl
theorem below_freeze {w0 w : World} {K : Nat} (h : Below K w0 w) (a : Addr) (n : Nat) (hK : K ≤ a.block) : Below K w0 (w.freeze a n) := by
  refine h.trans ?_
  unfold World.freeze
  split
  · exact Below.refl _ _
  · refine ⟨rfl, rfl, rfl, by simp, fun k hk => ?_⟩
    show (w.heap.modify a.block _)[k]? = _
    rw [Array.getElem?_modify, if_neg (by omega)]
theorem conv_mark (w : World) : (convert 73 73 (.slice (some ⟨w.heap.size, 0, none⟩) 4 4)).run Try.prog (w.alloc (.cells flogV 5)) = .ok (.slice (some ⟨w.heap.size, 0, none⟩) 4 4) ((w.alloc (.cells flogV 5)).freeze ⟨w.heap.size, 4, none⟩ 1) := by
  have hsh : (w.alloc (.cells flogV 5)).shape? w.heap.size = some (5, 4) := by
    have : (w.alloc (.cells flogV 5)).heap[w.heap.size]? = some (.cells flogV 5) := Blk.alloc_new _ _ _ rfl
    unfold World.shape?; rw [this]; rfl
  simp [convert, run_underlying Try.underlying73, run_underlying Try.underlying5, markStringish, hsh, Result.andThen]
def capE : List FM → Int → Int
  | [], _ => 0
  | f :: r, last => if f.d.length = 0 ∨ 16384 < f.d.length then 26 else if f.t < last ∨ 4611686018427387904 < f.t then 27 else capE r f.t
def frmB (f : FM) : List Int := (blr 8 f.t [] ++ blr 2 f.d.length []) ++ f.d
def capB : List FM → List Int → List Int
  | [], s => s
  | f :: r, s => capB r (s ++ frmB f)
theorem blr_len : ∀ (n : Nat) (v : Int) (l : List Int), (blr n v l).length = n + l.length
  | 0, _, _ => by simp [blr]
  | n + 1, v, l => by unfold blr; rw [blr_len n]; simp; omega
theorem blr_byt : ∀ (n : Nat) (v : Int) (l : List Int), Byt l → Byt (blr n v l)
  | 0, _, _, h => h
  | n + 1, v, l, h => by
    unfold blr
    refine blr_byt n _ _ fun x hx => ?_
    rcases List.mem_cons.1 hx with rfl | hx
    · omega
    · exact h x hx
theorem frmB_len (f : FM) : (frmB f).length = 10 + f.d.length := by unfold frmB; rw [List.length_append, List.length_append, blr_len, blr_len]; simp
theorem frmB_byt {f : FM} (h : Byt f.d) : Byt (frmB f) := by
  intro x hx
  unfold frmB at hx
  rcases List.mem_append.1 hx with hx | hx
  · rcases List.mem_append.1 hx with hx | hx
    · exact blr_byt 8 _ [] (fun _ h => absurd h (by simp)) x hx
    · exact blr_byt 2 _ [] (fun _ h => absurd h (by simp)) x hx
  · exact h x hx
set_option maxRecDepth 100000 in
set_option maxHeartbeats 8000000 in
theorem capEncode (L : List FM) (a : Option Addr) (b off cap : Nat) (e : Int) (S : List Int) (w : World) (ha : L ≠ [] → a = some ⟨b, off, none⟩) (hb : L ≠ [] → b < w.heap.size) (hL : FmAt w b off L) (ok : ∀ f ∈ L, f.ok) (hn : L.length ≤ 1000) (hcap : L.length ≤ cap) (he : capE L 0 = e) (hS : capB L flog = S) :
    Calls Try.prog 14 #[.slice a L.length cap] w fun x w' => x = .returned (.tuple #[if e = 0 then SV S else .string ⟨#[]⟩, .int .i64 e]) ∧ Below w.heap.size w w' := by
  have ks := sv_size
  have HE := hide he; have HS := hide hS; clear he hS
  have d0 : decide (1000 < (L.length : Int)) = false := decide_eq_false (by omega)
  have d0n : decide (1000 < L.length) = false := decide_eq_false (by omega)
  have hcm := conv_mark w
  unfold flogV at hcm
  go_enter Try.func14, Try.ntmps14
  go_upto_region 4 with (fail)
  refine wp_forget (fun v => Below w.heap.size w v ∧ HoldB2 v w.heap.size (.slice (some ⟨w.heap.size, 0, none⟩) 4 4) flog) ⟨?_, ?_⟩ ?_
  · exact below_freeze (by (repeat' (first | (with_reducible (first | exact Below.refl _ _ | assumption | refine below_drewN ?_ _ | refine Below.drew ?_ | refine Below.alloc ?_ ?_ _ | refine Below.setCell ?_ ?_ _)) | go_size))) _ _ (Nat.le_refl _)
  · exact .inr ⟨w.heap.size, _, rfl, Nat.le_refl _, freeze_at w _ _ 4, rfl⟩
  rintro w1 ⟨g1, H1⟩
  have hz1 := g1.size
  go_wp2
  go_loopw [4, 5, 15] (fun o la i wr => ∃ (k : Nat) (last : Int) (s : List Int), k ≤ L.length ∧ i = .int .i64 k ∧ la = .int .u64 last ∧ (0 ≤ last ∧ last ≤ 4611686018427387904) ∧ HoldB2 wr w.heap.size o s ∧ (4 ≤ s.length ∧ s.length ≤ 4 + k * 16394) ∧ Below w.heap.size w wr ∧ Hid (capE (L.drop k) last = e) ∧ Hid (capB (L.drop k) s = S)) (fun _ _ i _ => L.length - (intOf i).toNat)
  case atStart => exact ⟨0, 0, flog, Nat.zero_le _, rfl, rfl, by omega, H1, ⟨by decide, by decide⟩, by (repeat' (first | (with_reducible (first | exact Below.refl _ _ | assumption | refine below_drewN ?_ _ | refine Below.drew ?_ | refine Below.alloc ?_ ?_ _ | refine Below.setCell ?_ ?_ _)) | go_size)), HE, HS⟩
  case round =>
    obtain ⟨k, last, s, hk, rfl, rfl, hla, H0, hsl, g0, hcc, hss⟩ := hrel
    have hl0 := g0.size
    by_cases hlt : k < L.length
    · obtain ⟨f, hf⟩ : ∃ f, L[k]? = some f := ⟨_, List.getElem?_eq_getElem hlt⟩
      have hne : L ≠ [] := by intro e; rw [e] at hlt; simp at hlt
      have hbw := hb hne
      obtain rfl := ha hne
      obtain ⟨q0, q1⟩ := (hL.below g0 hbw) k f hf
      obtain ⟨o1, o2, o3⟩ := ok f (List.mem_of_getElem? hf)
      have hst := hcc.out
      have hsb := hss.out
      rw [drop_next hf] at hst hsb
      have hki : (k : Int) < (L.length : Int) := by omega
      have hlb : (k : Int) ≤ 1000 := by omega
      have hx62 : 0 ≤ f.t ∧ f.t ≤ 18446744073709551615 := o1
      have hne0 : ∀ c : Prop, c → True := fun _ _ => trivial
      by_cases c1 : f.d.length = 0
      · have hres : 26 = e := by unfold capE at hst; rw [if_pos (.inl c1)] at hst; exact hst
        have hfd : f.d = [] := List.length_eq_zero_iff.1 c1
        have hfe : SV f.d = .string ⟨#[]⟩ := by rw [hfd]; rfl
        rw [hfe] at q1
        clear hcc hss hst hsb
        subst hres
        go_wp2
        go_ret2
        first | exact ⟨rfl, by (repeat' (first | (with_reducible (first | exact Below.refl _ _ | assumption | refine below_drewN ?_ _ | refine Below.drew ?_ | refine Below.alloc ?_ ?_ _ | refine Below.setCell ?_ ?_ _)) | go_size))⟩ | exact ⟨by rw [if_neg (by decide)]; rfl, by (repeat' (first | (with_reducible (first | exact Below.refl _ _ | assumption | refine below_drewN ?_ _ | refine Below.drew ?_ | refine Below.alloc ?_ ?_ _ | refine Below.setCell ?_ ?_ _)) | go_size))⟩
      have hpos : 0 < f.d.length := by omega
      have dq : ¬ (strOfNums f.d).toList = [] := fun h => by
        rw [ByteArray.toList_eq, strOfNums_data] at h
        have := congrArg List.length h
        rw [List.length_map] at this
        exact c1 this
      have dqb : ((strOfNums f.d).toList == []) = false := beq_eq_false_iff_ne.2 dq
      by_cases c2 : 16384 < f.d.length
      · have hres : 26 = e := by unfold capE at hst; rw [if_pos (.inr c2)] at hst; exact hst
        have d2 : decide (16384 < (f.d.length : Int)) = true := decide_eq_true (by omega)
        have d2n : decide (16384 < f.d.length) = true := decide_eq_true c2
        clear hcc hss hst hsb
        subst hres
        go_wp2
        go_ret2
        first | exact ⟨rfl, by (repeat' (first | (with_reducible (first | exact Below.refl _ _ | assumption | refine below_drewN ?_ _ | refine Below.drew ?_ | refine Below.alloc ?_ ?_ _ | refine Below.setCell ?_ ?_ _)) | go_size))⟩ | exact ⟨by rw [if_neg (by decide)]; rfl, by (repeat' (first | (with_reducible (first | exact Below.refl _ _ | assumption | refine below_drewN ?_ _ | refine Below.drew ?_ | refine Below.alloc ?_ ?_ _ | refine Below.setCell ?_ ?_ _)) | go_size))⟩
      have d2 : decide (16384 < (f.d.length : Int)) = false := decide_eq_false (by omega)
      have d2n : decide (16384 < f.d.length) = false := decide_eq_false c2
      by_cases c3 : f.t < last
      · have hres : 27 = e := by unfold capE at hst; rw [if_neg (by omega), if_pos (.inl c3)] at hst; exact hst
        have d3 : decide (f.t < last) = true := decide_eq_true c3
        clear hcc hss hst hsb
        subst hres
        go_wp2
        go_ret2
        first | exact ⟨rfl, by (repeat' (first | (with_reducible (first | exact Below.refl _ _ | assumption | refine below_drewN ?_ _ | refine Below.drew ?_ | refine Below.alloc ?_ ?_ _ | refine Below.setCell ?_ ?_ _)) | go_size))⟩ | exact ⟨by rw [if_neg (by decide)]; rfl, by (repeat' (first | (with_reducible (first | exact Below.refl _ _ | assumption | refine below_drewN ?_ _ | refine Below.drew ?_ | refine Below.alloc ?_ ?_ _ | refine Below.setCell ?_ ?_ _)) | go_size))⟩
      have d3 : decide (f.t < last) = false := decide_eq_false c3
      by_cases c4 : 4611686018427387904 < f.t
      · have hres : 27 = e := by unfold capE at hst; rw [if_neg (by omega), if_pos (.inr c4)] at hst; exact hst
        have d4 : decide (4611686018427387904 < f.t) = true := decide_eq_true c4
        clear hcc hss hst hsb
        subst hres
        go_wp2
        go_ret2
        first | exact ⟨rfl, by (repeat' (first | (with_reducible (first | exact Below.refl _ _ | assumption | refine below_drewN ?_ _ | refine Below.drew ?_ | refine Below.alloc ?_ ?_ _ | refine Below.setCell ?_ ?_ _)) | go_size))⟩ | exact ⟨by rw [if_neg (by decide)]; rfl, by (repeat' (first | (with_reducible (first | exact Below.refl _ _ | assumption | refine below_drewN ?_ _ | refine Below.drew ?_ | refine Below.alloc ?_ ?_ _ | refine Below.setCell ?_ ?_ _)) | go_size))⟩
      have d4 : decide (4611686018427387904 < f.t) = false := decide_eq_false c4
      have hN1 : Hid (capE (L.drop (k + 1)) f.t = e) := by unfold capE at hst; rw [if_neg (by omega), if_neg (by omega)] at hst; exact hst
      have hN2 : Hid (capB (L.drop (k + 1)) (s ++ frmB f) = S) := hsb
      clear hcc hss hst hsb
      obtain ⟨A, hA⟩ : ∃ A, blr 8 f.t [] = A := ⟨_, rfl⟩
      obtain ⟨B, hB⟩ : ∃ B, blr 2 f.d.length [] = B := ⟨_, rfl⟩
      obtain ⟨C, hC⟩ : ∃ C, A ++ B = C := ⟨_, rfl⟩
      obtain ⟨D, hD⟩ : ∃ D, C ++ f.d = D := ⟨_, rfl⟩
      have hDf : frmB f = D := by unfold frmB; rw [hA, hB, hC, hD]
      have hDl : D.length = 10 + f.d.length := by rw [← hDf]; exact frmB_len f
      have hDb : Byt D := by rw [← hDf]; exact frmB_byt o2
      have lA : A.length = 8 := by rw [← hA, blr_len]; rfl
      have lB : B.length = 2 := by rw [← hB, blr_len]; rfl
      have lC : C.length = 10 := by rw [← hC, List.length_append, lA, lB]
      rw [hDf] at hN2
      have ad1 : ∀ v, (Op.stringOp .add (strOfNums A) (strOfNums B)).run Try.prog v = .ok (SV C) v := fun v => (run_string_add_sum v _ _ (by rw [sv_size, sv_size]; omega)).trans (by rw [strOf_app, hC])
      have ad2 : ∀ v, (binOp .add 9 (SV A) (SV B)).run Try.prog v = .ok (SV C) v := fun v => by
        show Sem.run Try.prog (binOp .add 9 (.string _) (.string _)) v = _
        rw [binOp_string_add]; exact ad1 v
      have ad3 : ∀ v, (Op.stringOp .add (strOfNums C) (strOfNums f.d)).run Try.prog v = .ok (SV D) v := fun v => (run_string_add_sum v _ _ (by rw [sv_size, sv_size]; omega)).trans (by rw [strOf_app, hD])
      have ad4 : ∀ v, (binOp .add 9 (SV C) (SV f.d)).run Try.prog v = .ok (SV D) v := fun v => by
        show Sem.run Try.prog (binOp .add 9 (.string _) (.string _)) v = _
        rw [binOp_string_add]; exact ad3 v
      have hwl : IntKind.u64.wrap (f.d.length : Int) = (f.d.length : Int) := IntWalk.u64_in _ ⟨by omega, by omega⟩
      have HA := hide hA; have HB := hide hB
      clear hA hB hC hD hDf lA lB lC
      go_upto_region 13 with (fail)
      refine wp_forget (fun v => Below w.heap.size w v ∧ Blk v (wr.heap.size) #[.int .u64 f.t, SV f.d] 55 ∧ HoldB2 v w.heap.size u4 s) ⟨by (repeat' (first | (with_reducible (first | exact Below.refl _ _ | assumption | refine below_drewN ?_ _ | refine Below.drew ?_ | refine Below.alloc ?_ ?_ _ | refine Below.setCell ?_ ?_ _)) | go_size)), by (repeat' (first | (with_reducible (first | assumption | exact Blk.alloc_new _ _ _ (by first | rfl | (simp; done) | omega) | apply Blk.drewN | apply Blk.drew | apply Blk.alloc_old | apply Blk.set_same | apply Blk.set_other)) | (show (_ : Nat) ≠ _; first | omega | (simp; done) | (simp; omega)) | ((simp only [List.setIfInBounds_toArray, List.set_cons_succ, List.set_cons_zero]); (with_reducible exact rfl)) | (with_reducible exact rfl) | (show (_ : Array Value) = _; exact rfl))), H0.below (by (repeat' (first | (with_reducible (first | exact Below.refl _ _ | assumption | refine below_drewN ?_ _ | refine Below.drew ?_ | refine Below.alloc ?_ ?_ _ | refine Below.setCell ?_ ?_ _)) | go_size)))⟩ ?_
      rintro v13 ⟨g13, X13, H13⟩
      have hz13 := g13.size
      have cX := X13.cell; have fX := X13.frozen; have zX := X13.size
      have qX := blk_calm X13
      refine wp_region_sink_below 13 (by kernel_rfl) (by kernel_rfl) ?_
      simp only [List.take_succ_cons, List.take_zero, List.drop_succ_cons, List.drop_zero]
      repeat (go_big_quiet_step ((first
        | (go_at_call 41; (with_reducible exact Calls.regrown_of (ccNumber f.t 8 8 A _ rfl o1 (by decide) HA.out)))
        | (go_at_call 41; (with_reducible exact Calls.regrown_of (ccNumber f.d.length 2 2 B _ rfl (by omega) (by decide) HB.out))))))
      refine wpQuiet_nil ?_
      intro _ hw'
      obtain ⟨pq, hw''⟩ := hw'
      subst hw''
      have hb14 := below_regrown v13 pq.d pq.os
      generalize Sort.grow (redrawn v13 pq.d) pq.os = w14 at *
      have H14 := H13.below hb14
      have g14 : Below w.heap.size w w14 := g13.trans (hb14.mono g13.size)
      refine wpList_append2 rfl (.tmp 41) (.tmp 53) rfl w.heap.size u4 s D (by rfl) (by rfl) H14 hDb (by omega) (by omega) g14.size ?_
      intro v' w' H15 hb15 hs15 hk15
      have g15 : Below w.heap.size w w' := g14.trans hb15
      have hz15 := g15.size
      go_wp2
      go_roundw
      case rel => exact ⟨k + 1, f.t, s ++ D, by omega, by go_num, rfl, by omega, .inl H15, by rw [List.length_append]; omega, by (repeat' (first | (with_reducible (first | exact Below.refl _ _ | assumption | refine below_drewN ?_ _ | refine Below.drew ?_ | refine Below.alloc ?_ ?_ _ | refine Below.setCell ?_ ?_ _)) | go_size)), hN1, hN2⟩
      case measure => simp [intOf]; omega
    · obtain rfl : k = L.length := by omega
      have h1 := hcc.out
      have h2 := hss.out
      rw [List.drop_length] at h1 h2
      have he0 : e = 0 := h1.symm
      have hsS : s = S := h2
      subst he0 hsS
      have hcv := H0.conv (by omega)
      clear hcc hss h1 h2
      go_wp2
      go_ret2
      first | exact ⟨rfl, by (repeat' (first | (with_reducible (first | exact Below.refl _ _ | assumption | refine below_drewN ?_ _ | refine Below.drew ?_ | refine Below.alloc ?_ ?_ _ | refine Below.setCell ?_ ?_ _)) | go_size))⟩ | exact ⟨by rw [if_pos rfl]; rfl, by (repeat' (first | (with_reducible (first | exact Below.refl _ _ | assumption | refine below_drewN ?_ _ | refine Below.drew ?_ | refine Below.alloc ?_ ?_ _ | refine Below.setCell ?_ ?_ _)) | go_size))⟩
end Go.Proofs.Ytljpiofpfankoaa
