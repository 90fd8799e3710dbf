/-
  Captures: a slice that the program has made itself, in general; slices of operations; capture.Ops. Conditions: what the slice of frames holds is known.
-/
import Derived.Test.YtljpiofpfankoaaCpL
import Derived.Test.YtljpiofpfankoaaFlD
namespace Go.Proofs.Ytljpiofpfankoaa
open Go.RowKit Go.Sort
set_option linter.unusedVariables false
set_option linter.unusedSimpArgs false
/-- A slice that the program has made itself: of things that have n cells each. -/
def HoldG {α : Type} (e : TypeId) (n : Nat) (enc : α → List Value) (w : World) (base : Nat) (v : Value) (l : List α) : Prop := w.ownsRow base e n v l.length (l.flatMap enc)
section
variable {α : Type} {e : TypeId} {n : Nat} {enc : α → List Value}
theorem HoldG.nil (w : World) (base : Nat) : HoldG e n enc w base (.slice none 0 0) [] := ⟨by simp, .inl ⟨rfl, rfl⟩⟩
theorem HoldG.below {w w' : World} {base : Nat} {v : Value} {l : List α} (h : HoldG e n enc w base v l) (hb : Below w.heap.size w w') : HoldG e n enc w' base v l := by
  obtain ⟨h1, h2⟩ := h
  refine ⟨h1, ?_⟩
  rcases h2 with h2 | ⟨g, cap, cur, e, hg, hh, r⟩
  · exact .inl h2
  · exact .inr ⟨g, cap, cur, e, hg, (hb.block g (Array.getElem?_eq_some_iff.1 hh).1).trans hh, r⟩
theorem HoldG.own_ge {w : World} {base : Nat} {v : Value} {l : List α} (h : HoldG e n enc w base v l) : ∀ k, v.ownBlock = some k → base ≤ k ∧ k < w.heap.size := by
  intro k hk
  rcases h.2 with ⟨e, _⟩ | ⟨g, cap, cur, e, hg, hh, r⟩
  · rw [e] at hk; cases hk
  · rw [e] at hk; cases hk; exact ⟨hg, (Array.getElem?_eq_some_iff.1 hh).1⟩
theorem HoldG.slice {w : World} {base : Nat} {v : Value} {l : List α} (h : HoldG e n enc w base v l) : ∃ a cap, v = .slice a l.length cap := by
  rcases h.2 with ⟨e, h0⟩ | ⟨g, cap, cur, e, _⟩
  · exact ⟨none, 0, by rw [e, h0]⟩
  · exact ⟨_, cap, e⟩
theorem HoldG.ne_blk {w : World} {base : Nat} {v : Value} {l : List α} {B : Nat} {cs : Array Value} {t : TypeId} (h : HoldG e n enc w base v l) (hB : Blk w B cs t) (ht : t ≠ e) : some B ≠ v.ownBlock := by
  intro q
  rcases h.2 with ⟨hv, _⟩ | ⟨g, cap, cur, hv, _, hh, _⟩
  · rw [hv] at q; cases q
  · rw [hv] at q
    cases q
    unfold Blk at hB
    rw [hh] at hB
    cases hB
    exact ht rfl
theorem HoldG.base_le {w : World} {b b' : Nat} {v : Value} {l : List α} (h : HoldG e n enc w b v l) (hb : b' ≤ b) : HoldG e n enc w b' v l := by
  refine ⟨h.1, ?_⟩
  rcases h.2 with h2 | ⟨g, cap, cur, e, hg, r⟩
  · exact .inl h2
  · exact .inr ⟨g, cap, cur, e, by omega, r⟩
/-- The things lie at this place. -/
def AtG (n : Nat) (enc : α → List Value) (w : World) (b off : Nat) (L : List α) : Prop := ∀ i x, L[i]? = some x → ∀ j u, (enc x)[j]? = some u → w.cell? ⟨b, off + i * n + j, none⟩ = some u
theorem AtG.below {w w' : World} {b off K : Nat} {L : List α} (h : AtG n enc w b off L) (hb : Below K w w') (hB : b < K) : AtG n enc w' b off L := fun i x hi j u hj =>
  (hb.cell (p := ⟨b, off + i * n + j, none⟩) hB).trans (h i x hi j u hj)
theorem flat_len (hn : ∀ x, (enc x).length = n) : ∀ (L : List α), (L.flatMap enc).length = L.length * n
  | [] => by simp
  | x :: r => by rw [List.flatMap_cons, List.length_append, hn, flat_len hn r, List.length_cons, Nat.add_mul]; omega
theorem flat_get (hn : ∀ x, (enc x).length = n) : ∀ (L : List α) (i : Nat) (x : α), L[i]? = some x → ∀ j u, (enc x)[j]? = some u → (L.flatMap enc)[i * n + j]? = some u
  | [], i, x, h => by simp at h
  | y :: r, 0, x, h => by
    intro j u hj
    simp at h; subst h
    have hj' := (List.getElem?_eq_some_iff.1 hj).1
    rw [List.flatMap_cons, Nat.zero_mul, Nat.zero_add, List.getElem?_append_left hj']; exact hj
  | y :: r, i + 1, x, h => by
    intro j u hj
    have ih := flat_get hn r i x (by simpa using h) j u hj
    rw [List.flatMap_cons, List.getElem?_append_right (by rw [hn, Nat.add_mul]; omega), hn, show (i + 1) * n + j - n = i * n + j by rw [Nat.add_mul]; omega]
    exact ih
theorem HoldG.at {w : World} {base : Nat} {v : Value} {L : List α} (h : HoldG e n enc w base v L) (hn : ∀ x, (enc x).length = n) : ∃ a cap g, v = .slice a L.length cap ∧ L.length ≤ cap ∧ (L ≠ [] → a = some ⟨g, 0, none⟩) ∧ (L ≠ [] → g < w.heap.size) ∧ AtG n enc w g 0 L := by
  obtain ⟨h1, h2⟩ := h
  rcases h2 with ⟨rfl, h0⟩ | ⟨g, cap, cur, rfl, hg, hh, hc, hm, hs, ht⟩
  · have : L = [] := List.length_eq_zero_iff.1 h0
    subst this
    exact ⟨none, 0, 0, rfl, by simp, fun h => absurd rfl h, fun h => absurd rfl h, fun i f hf => by simp at hf⟩
  · refine ⟨_, cap, g, rfl, hc, fun _ => rfl, fun _ => (Array.getElem?_eq_some_iff.1 hh).1, fun i x hx j u hj => ?_⟩
    have hi := (List.getElem?_eq_some_iff.1 hx).1
    have hj' := (List.getElem?_eq_some_iff.1 hj).1
    rw [hn] at hj'
    have q := flat_get hn L i x hx j u hj
    have hcell : ∀ o, w.cell? ⟨g, o, none⟩ = cur[o]? := fun o => by simp [World.cell?, hh]
    rw [hcell, Nat.zero_add, ← Array.getElem?_toList]
    rw [← ht] at q
    have hlt : i * n + j < L.length * n := by
      have : (i + 1) * n ≤ L.length * n := Nat.mul_le_mul_right n hi
      rw [Nat.add_mul] at this; omega
    rw [List.getElem?_take_of_lt hlt] at q
    exact q
end
open Go.Lib in
/-- append(l, x) of one thing, which a block of its own holds. -/
theorem wpList_append_g {α : Type} {e : TypeId} {n : Nat} {enc : α → List Value} {st : TypeId} {by_ : Nat} {z : Value} (hu : Try.prog.underlying st = some (.slice e)) (hinf : (Try.prog.info? e).map (fun i => (i.zero, i.size, i.bytes)) = some (some z, n, by_)) (hz : z.cells.size = n) (hn : ∀ x, (enc x).length = n) (h1 : ∀ x, ∀ u ∈ enc x, u.oneCell' = true) (hn0 : 0 < n) (hb9 : by_ ≤ 1000)
    {w : World} {ops : Array Oper} {rest : List Oper} {o : Oper} {a : Act} {Q : Exit → Act → World → Prop} (hgd : o.guard = none) (sl x : Operand)
    (ho : o.op = .call { callee := .builtin .append, args := #[sl, x], argTypes := #[st, st] })
    (base : Nat) (v : Value) (s : List α) (f : α) (B : Nat) (cs : Array Value) (hcs : cs.toList = enc f) (hs : a.eval sl = v) (hx : a.eval x = .slice (some ⟨B, 0, none⟩) 1 1) (h : HoldG e n enc w base v s) (hB : Blk w B cs e) (hsz : s.length ≤ 1000000) (hbase : base ≤ w.heap.size)
    (hk : ∀ v' w', HoldG e n enc w' base v' (s ++ [f]) → Below base w w' → w.heap.size ≤ w'.heap.size → (∀ b c t, some b ≠ v.ownBlock → Blk w b c t → Blk w' b c t) → wpList Try.prog ops Q rest (a.put o.dst v') w') : wpList Try.prog ops Q (o :: rest) a w := by
  refine wpList_plain hgd fun K hK => ?_
  obtain ⟨i, hi, q⟩ := Option.map_eq_some_iff.1 hinf
  simp only [Prod.mk.injEq] at q
  obtain ⟨v', w', hr, h2, h3, _⟩ := run_append_own_at (P := Try.prog) w base st o.type e i z n by_ hu hi q.1 q.2.1 q.2.2 hz hn0 v s.length (s.flatMap enc) h ⟨B, 0, none⟩ 1 1 (enc f) (by rw [hn, Nat.one_mul]) (fun j u hj => by
    rw [Addr.add_mid, hB.cell, Nat.zero_add, ← Array.getElem?_toList, hcs]; exact hj) (h1 f) (by unfold maxLen; omega) (by have : (s.length + 1) * by_ ≤ (s.length + 1) * 1000 := Nat.mul_le_mul_left _ hb9; omega) hbase
  unfold Oper.wp execOp
  simp only [ho, resolve, invoke, builtin, Sem.run_bind, Sem.run_pure, Result.andThen_ok, List.map_toArray, List.map_cons, List.map_nil, hs, hx, hr]
  refine hK _ _ (hk v' w' ?_ ?_ h3.size ?_)
  · unfold HoldG; rw [List.length_append, List.flatMap_append]; simpa using h2
  · exact below_grown (Below.refl _ _) h3 hbase (fun k hk => (h.own_ge k hk).1)
  · intro b c t hne hbb; exact Blk.grown hbb h3 hne
/-- An operation that a capture brings: kind, the packet's number, its bytes, its key, ticks. -/
structure OP where
  (kind id len : Int)
  (k : K4)
  (ticks : Int)
def opVs (o : OP) : List Value := [.int .i64 o.kind, .slice none 0 0, .slice none 0 0, .int .u64 o.id, .int .i64 o.len, .int .u16 o.k.a, .int .u16 o.k.b, .int .u16 o.k.c, .int .u16 o.k.d, .int .u64 o.ticks]
theorem opVs_len (o : OP) : (opVs o).length = 10 := rfl
theorem opVs_one (o : OP) : ∀ u ∈ opVs o, u.oneCell' = true := by
  intro u hu
  unfold opVs at hu
  simp at hu
  rcases hu with rfl | rfl | rfl | rfl | rfl | rfl | rfl | rfl | rfl | rfl <;> rfl
abbrev HoldO := HoldG (α := OP) 52 10 opVs
def opZ : Value := .agg #[.int .i64 0, .slice none 0 0, .slice none 0 0, .int .u64 0, .int .i64 0, .int .u16 0, .int .u16 0, .int .u16 0, .int .u16 0, .int .u64 0]
theorem op_info : (Try.prog.info? 52).map (fun i => (i.zero, i.size, i.bytes)) = some (some opZ, 10, 88) := by kernel_rfl
theorem wpList_append_op {w : World} {ops : Array Oper} {rest : List Oper} {o : Oper} {a : Act} {Q : Exit → Act → World → Prop} (hgd : o.guard = none) (sl x : Operand)
    (ho : o.op = .call { callee := .builtin .append, args := #[sl, x], argTypes := #[39, 39] })
    (base : Nat) (v : Value) (s : List OP) (f : OP) (B : Nat) (cs : Array Value) (hcs : cs.toList = opVs f) (hs : a.eval sl = v) (hx : a.eval x = .slice (some ⟨B, 0, none⟩) 1 1) (h : HoldO w base v s) (hB : Blk w B cs 52) (hsz : s.length ≤ 1000000) (hbase : base ≤ w.heap.size)
    (hk : ∀ v' w', HoldO w' base v' (s ++ [f]) → Below base w w' → w.heap.size ≤ w'.heap.size → (∀ b c t, some b ≠ v.ownBlock → Blk w b c t → Blk w' b c t) → wpList Try.prog ops Q rest (a.put o.dst v') w') : wpList Try.prog ops Q (o :: rest) a w :=
  wpList_append_g (st := 39) (z := opZ) Try.underlying39 op_info rfl opVs_len opVs_one (by decide) (by decide) hgd sl x ho base v s f B cs hcs hs hx h hB hsz hbase hk
def advO (t : Int) : OP := ⟨4, 0, 0, ⟨0, 0, 0, 0⟩, t⟩
def pktK (d : List Int) (most : Int) : K4 := if fpE d most = 0 then fkV d else ⟨0, 0, 0, 0⟩
def pktO (i : Int) (d : List Int) (most : Int) : OP := ⟨3, i, d.length, pktK d most, 0⟩
def advs (last t : Int) : List OP := if last < t then [advO (t - last)] else []
/-- The operations that bring frames. -/
def opsG (most : Int) : List FM → Int → Int → List OP → List OP
  | [], _, _, out => out
  | f :: r, i, last, out => opsG most r (i + 1) f.t ((out ++ advs last f.t) ++ [pktO i f.d most])
theorem capE_zero {f : FM} {r : List FM} {last : Int} (h : capE (f :: r) last = 0) : 0 < f.d.length ∧ f.d.length ≤ 16384 ∧ last ≤ f.t ∧ f.t ≤ 4611686018427387904 ∧ capE r f.t = 0 := by
  unfold capE at h
  by_cases c1 : f.d.length = 0 ∨ 16384 < f.d.length
  · rw [if_pos c1] at h; omega
  rw [if_neg c1] at h
  by_cases c2 : f.t < last ∨ 4611686018427387904 < f.t
  · rw [if_pos c2] at h; omega
  rw [if_neg c2] at h
  exact ⟨by omega, by omega, by omega, by omega, h⟩
set_option maxRecDepth 100000 in
set_option maxHeartbeats 4000000 in
theorem capOps_bad (v : Value) (e : Int) (most : Int) (w : World) (he : e ≠ 0) (KE : Hid (∀ v1, Calls Try.prog 14 #[v] v1 fun x w' => x = .returned (.tuple #[.string ⟨#[]⟩, .int .i64 e]) ∧ Below v1.heap.size v1 w')) :
    Calls Try.prog 21 #[v, .int .i64 most] w fun x w' => x = .returned (.tuple #[.slice none 0 0, .int .i64 e]) ∧ Below w.heap.size w w' := by
  have hxb : (e != 0) = true := bne_iff_ne.2 he
  go_enter Try.func21, Try.ntmps21
  go_wp2_with fail
  refine (KE.out _).mono ?_
  rintro e w1 ⟨rfl, hb1⟩
  have g1 : Below w.heap.size w w1 := by refine Below.trans ?_ (hb1.mono ?_) <;> (repeat' (first | (with_reducible (first | exact Below.refl _ _ | assumption | refine below_drewN ?_ _ | refine Below.drew ?_ | refine Below.alloc ?_ ?_ _ | refine Below.setCell ?_ ?_ _)) | go_size))
  have hz1 := hb1.size
  (try simp at hz1)
  clear hb1
  go_wp2
  go_ret2
  exact ⟨rfl, by (repeat' (first | (with_reducible (first | exact Below.refl _ _ | assumption | refine below_drewN ?_ _ | refine Below.drew ?_ | refine Below.alloc ?_ ?_ _ | refine Below.setCell ?_ ?_ _)) | go_size))⟩
set_option maxRecDepth 100000 in
set_option maxHeartbeats 8000000 in
theorem capOps_ok (L : List FM) (a : Option Addr) (b off cap : Nat) (most : Int) (S : List Int) (O : List OP) (w : World) (ha : L ≠ [] → a = some ⟨b, off, none⟩) (hb : L ≠ [] → b < w.heap.size) (hL : FmAt w b off L) (ok : ∀ f ∈ L, f.ok) (hmo : -9223372036854775808 ≤ most ∧ most ≤ 9223372036854775807) (hn : L.length ≤ 1000) (hcap : L.length ≤ cap) (he : capE L 0 = 0) (hO : opsG most L 0 0 [] = O)
    (KE : Hid (∀ v1, Below w.heap.size w v1 → Calls Try.prog 14 #[.slice a L.length cap] v1 fun x w' => x = .returned (.tuple #[SV S, .int .i64 0]) ∧ Below v1.heap.size v1 w')) :
    Calls Try.prog 21 #[.slice a L.length cap, .int .i64 most] w fun x w' => ∃ v, x = .returned (.tuple #[v, .int .i64 0]) ∧ HoldO w' w.heap.size v O ∧ Below w.heap.size w w' := by
  have ks := sv_size
  have HE := hide he; have HO := hide hO; clear he hO
  go_enter Try.func21, Try.ntmps21
  go_wp2_with fail
  refine (KE.out _ (by (repeat' (first | (with_reducible (first | exact Below.refl _ _ | assumption | refine below_drewN ?_ _ | refine Below.drew ?_ | refine Below.alloc ?_ ?_ _ | refine Below.setCell ?_ ?_ _)) | go_size)))).mono ?_
  rintro e1 w1 ⟨rfl, hb1⟩
  have g1 : Below w.heap.size w w1 := Below.trans (by (repeat' (first | (with_reducible (first | exact Below.refl _ _ | assumption | refine below_drewN ?_ _ | refine Below.drew ?_ | refine Below.alloc ?_ ?_ _ | refine Below.setCell ?_ ?_ _)) | go_size))) (hb1.mono (by simp))
  have hz1 := g1.size
  go_wp2
  go_loopw [8, 9, 24] (fun o la i wr => ∃ (k : Nat) (last : Int) (out : List OP), k ≤ L.length ∧ i = .int .i64 k ∧ la = .int .u64 last ∧ (0 ≤ last ∧ last ≤ 4611686018427387904) ∧ HoldO wr w.heap.size o out ∧ out.length ≤ 2 * k ∧ Below w.heap.size w wr ∧ Hid (capE (L.drop k) last = 0) ∧ Hid (opsG most (L.drop k) k last out = O)) (fun _ _ i _ => L.length - (intOf i).toNat)
  case atStart => exact ⟨0, 0, [], Nat.zero_le _, rfl, rfl, by omega, HoldG.nil _ _, by simp, by (repeat' (first | (with_reducible (first | exact Below.refl _ _ | assumption | refine below_drewN ?_ _ | refine Below.drew ?_ | refine Below.alloc ?_ ?_ _ | refine Below.setCell ?_ ?_ _)) | go_size)), HE, HO⟩
  case round =>
    obtain ⟨k, last, out, hk, rfl, rfl, hla, H0, hol, g0, hcc, hss⟩ := hrel
    have hl0 := g0.size
    by_cases hlt : k < L.length
    · obtain ⟨f, hf⟩ : ∃ f, L[k]? = some f := ⟨_, List.getElem?_eq_getElem hlt⟩
      have hne : L ≠ [] := by intro e; rw [e] at hlt; simp at hlt
      have hbw := hb hne
      obtain rfl := ha hne
      obtain ⟨q0, q1⟩ := (hL.below g0 hbw) k f hf
      obtain ⟨o1, o2, o3⟩ := ok f (List.mem_of_getElem? hf)
      have hst := hcc.out
      have hsb := hss.out
      rw [drop_next hf] at hst hsb
      have hki : (k : Int) < (L.length : Int) := by omega
      have hlb : (k : Int) ≤ 1000 := by omega
      have hwk : IntKind.u64.wrap (k : Int) = (k : Int) := IntWalk.u64_in _ ⟨by omega, by omega⟩
      obtain ⟨z1, z2, z3, z4, z5⟩ := capE_zero hst
      have hwt : IntKind.u64.wrap (f.t - last) = f.t - last := IntWalk.u64_in _ ⟨by omega, by omega⟩
      obtain ⟨A, hA⟩ : ∃ A, out ++ advs last f.t = A := ⟨_, rfl⟩
      have hAl : A.length ≤ out.length + 1 := by
        rw [← hA, List.length_append]; unfold advs; split <;> simp
      have hN1 : Hid (capE (L.drop (k + 1)) f.t = 0) := z5
      have hN2 : Hid (opsG most (L.drop (k + 1)) ((k + 1 : Nat) : Int) f.t (A ++ [pktO k f.d most]) = O) := by rw [← hA]; exact hsb
      have KP := hide (fun v => flowPacket f.d k most v o2 (by omega) (by omega) hmo)
      clear hcc hss hst hsb z5
      go_upto_if 32 with (fail)
      go_cut [8, 9, 24] (fun o la i wx => la = .int .u64 f.t ∧ i = .int .i64 k ∧ HoldO wx w.heap.size o A ∧ Below w.heap.size w wx ∧ Blk wx (wr.heap.size) #[.int .u64 f.t, SV f.d] 55)
      case first =>
        by_cases c : last < f.t
        · have d1 : decide (last < f.t) = true := decide_eq_true c
          have hAA : A = out ++ [advO (f.t - last)] := by rw [← hA]; unfold advs; rw [if_pos c]
          subst hAA
          clear hA
          go_wp2_with (refine wpList_append_op rfl (.tmp 33) (.tmp 39) rfl w.heap.size u8 out (advO (f.t - last)) (wr.heap.size + 1) #[.int .i64 4, .slice none 0 0, .slice none 0 0, .int .u64 0, .int .i64 0, .int .u16 0, .int .u16 0, .int .u16 0, .int .u16 0, .int .u64 (f.t - last)] rfl (by rfl) (by rfl) (H0.below (by (repeat' (first | (with_reducible (first | exact Below.refl _ _ | assumption | refine below_drewN ?_ _ | refine Below.drew ?_ | refine Below.alloc ?_ ?_ _ | refine Below.setCell ?_ ?_ _)) | go_size)))) (by (repeat' (first | (with_reducible (first | assumption | exact Blk.alloc_new _ _ _ (by first | rfl | (simp; done) | omega) | apply Blk.drewN | apply Blk.drew | apply Blk.alloc_old | apply Blk.set_same | apply Blk.set_other)) | (show (_ : Nat) ≠ _; first | omega | (simp; done) | (simp; omega)) | ((simp only [List.setIfInBounds_toArray, List.set_cons_succ, List.set_cons_zero]); (with_reducible exact rfl)) | (with_reducible exact rfl) | (show (_ : Array Value) = _; exact rfl)))) (by omega) (by simp; omega) ?_; intro v' w2 H2 hb2 hs2 hoth; have g2 : Below w.heap.size w w2 := Below.trans (by (repeat' (first | (with_reducible (first | exact Below.refl _ _ | assumption | refine below_drewN ?_ _ | refine Below.drew ?_ | refine Below.alloc ?_ ?_ _ | refine Below.setCell ?_ ?_ _)) | go_size))) hb2; have hz2 := g2.size; have X2 : Blk w2 (wr.heap.size) #[.int .u64 f.t, SV f.d] 55 := hoth _ _ _ (by intro e; have := (H0.own_ge _ e.symm).2; omega) (by (repeat' (first | (with_reducible (first | assumption | exact Blk.alloc_new _ _ _ (by first | rfl | (simp; done) | omega) | apply Blk.drewN | apply Blk.drew | apply Blk.alloc_old | apply Blk.set_same | apply Blk.set_other)) | (show (_ : Nat) ≠ _; first | omega | (simp; done) | (simp; omega)) | ((simp only [List.setIfInBounds_toArray, List.set_cons_succ, List.set_cons_zero]); (with_reducible exact rfl)) | (with_reducible exact rfl) | (show (_ : Array Value) = _; exact rfl)))); have cX := X2.cell; have fX := X2.frozen; have zX := X2.size)
          go_meet
          exact ⟨rfl, rfl, by first | assumption | exact H2.below (by (repeat' (first | (with_reducible (first | exact Below.refl _ _ | assumption | refine below_drewN ?_ _ | refine Below.drew ?_ | refine Below.alloc ?_ ?_ _ | refine Below.setCell ?_ ?_ _)) | go_size))), by (repeat' (first | (with_reducible (first | exact Below.refl _ _ | assumption | refine below_drewN ?_ _ | refine Below.drew ?_ | refine Below.alloc ?_ ?_ _ | refine Below.setCell ?_ ?_ _)) | go_size)), by (repeat' (first | (with_reducible (first | assumption | exact Blk.alloc_new _ _ _ (by first | rfl | (simp; done) | omega) | apply Blk.drewN | apply Blk.drew | apply Blk.alloc_old | apply Blk.set_same | apply Blk.set_other)) | (show (_ : Nat) ≠ _; first | omega | (simp; done) | (simp; omega)) | ((simp only [List.setIfInBounds_toArray, List.set_cons_succ, List.set_cons_zero]); (with_reducible exact rfl)) | (with_reducible exact rfl) | (show (_ : Array Value) = _; exact rfl)))⟩
        · have d1 : decide (last < f.t) = false := decide_eq_false c
          have hla' : last = f.t := by omega
          have hAA : A = out := by rw [← hA]; unfold advs; rw [if_neg c]; simp
          subst hAA
          clear hA
          go_wp2
          go_meet
          exact ⟨by first | rfl | rw [hla'], rfl, H0.below (by (repeat' (first | (with_reducible (first | exact Below.refl _ _ | assumption | refine below_drewN ?_ _ | refine Below.drew ?_ | refine Below.alloc ?_ ?_ _ | refine Below.setCell ?_ ?_ _)) | go_size))), by (repeat' (first | (with_reducible (first | exact Below.refl _ _ | assumption | refine below_drewN ?_ _ | refine Below.drew ?_ | refine Below.alloc ?_ ?_ _ | refine Below.setCell ?_ ?_ _)) | go_size)), by (repeat' (first | (with_reducible (first | assumption | exact Blk.alloc_new _ _ _ (by first | rfl | (simp; done) | omega) | apply Blk.drewN | apply Blk.drew | apply Blk.alloc_old | apply Blk.set_same | apply Blk.set_other)) | (show (_ : Nat) ≠ _; first | omega | (simp; done) | (simp; omega)) | ((simp only [List.setIfInBounds_toArray, List.set_cons_succ, List.set_cons_zero]); (with_reducible exact rfl)) | (with_reducible exact rfl) | (show (_ : Array Value) = _; exact rfl)))⟩
      case rest =>
        obtain ⟨rfl, rfl, H3, g3, X3⟩ := hcut
        clear hA
        have cX := X3.cell; have fX := X3.frozen; have zX := X3.size; have hz3 := g3.size
        have hp := KP.out
        unfold fpV' at hp
        obtain ⟨K, hK⟩ : ∃ K, fkV f.d = K := ⟨_, rfl⟩
        rw [hK] at hp
        by_cases c : fpE f.d most = 0
        · rw [c, if_pos rfl] at hp
          have hpk : pktO k f.d most = ⟨3, k, f.d.length, K, 0⟩ := by unfold pktO pktK; rw [if_pos c, hK]
          rw [hpk] at hN2
          have KP2 := hide hp
          clear hp c hK KP
          go_wp2_with fail
          refine (KP2.out _).mono ?_
          rintro e4 w4 ⟨rfl, hb4⟩
          have g4 : Below w.heap.size w w4 := Below.trans (by (repeat' (first | (with_reducible (first | exact Below.refl _ _ | assumption | refine below_drewN ?_ _ | refine Below.drew ?_ | refine Below.alloc ?_ ?_ _ | refine Below.setCell ?_ ?_ _)) | go_size))) (hb4.mono (by (try simp); omega))
          have H4 := (H3.below (show Below wc.heap.size wc _ from by (repeat' (first | (with_reducible (first | exact Below.refl _ _ | assumption | refine below_drewN ?_ _ | refine Below.drew ?_ | refine Below.alloc ?_ ?_ _ | refine Below.setCell ?_ ?_ _)) | go_size)))).below hb4
          have X4 : Blk w4 (wr.heap.size) #[.int .u64 f.t, SV f.d] 55 := Blk.below (by (repeat' (first | (with_reducible (first | assumption | exact Blk.alloc_new _ _ _ (by first | rfl | (simp; done) | omega) | apply Blk.drewN | apply Blk.drew | apply Blk.alloc_old | apply Blk.set_same | apply Blk.set_other)) | (show (_ : Nat) ≠ _; first | omega | (simp; done) | (simp; omega)) | ((simp only [List.setIfInBounds_toArray, List.set_cons_succ, List.set_cons_zero]); (with_reducible exact rfl)) | (with_reducible exact rfl) | (show (_ : Array Value) = _; exact rfl)))) hb4 (by (try simp); omega)
          have hz4 := g4.size
          replace cX := X4.cell; replace fX := X4.frozen; replace zX := X4.size
          go_wp2_with (refine wpList_append_op rfl (.tmp 60) (.tmp 63) rfl w.heap.size u8 A ⟨3, k, f.d.length, K, 0⟩ (w4.heap.size + 1) #[.int .i64 3, .slice none 0 0, .slice none 0 0, .int .u64 k, .int .i64 f.d.length, .int .u16 K.a, .int .u16 K.b, .int .u16 K.c, .int .u16 K.d, .int .u64 0] rfl (by rfl) (by rfl) (H4.below (by (repeat' (first | (with_reducible (first | exact Below.refl _ _ | assumption | refine below_drewN ?_ _ | refine Below.drew ?_ | refine Below.alloc ?_ ?_ _ | refine Below.setCell ?_ ?_ _)) | go_size)))) (by (repeat' (first | (with_reducible (first | assumption | exact Blk.alloc_new _ _ _ (by first | rfl | (simp; done) | omega) | apply Blk.drewN | apply Blk.drew | apply Blk.alloc_old | apply Blk.set_same | apply Blk.set_other)) | (show (_ : Nat) ≠ _; first | omega | (simp; done) | (simp; omega)) | ((simp only [List.setIfInBounds_toArray, List.set_cons_succ, List.set_cons_zero]); (with_reducible exact rfl)) | (with_reducible exact rfl) | (show (_ : Array Value) = _; exact rfl)))) (by omega) (by simp; omega) ?_; intro v5 w5 H5 hb5 hs5 hoth; have g5 : Below w.heap.size w w5 := Below.trans (by (repeat' (first | (with_reducible (first | exact Below.refl _ _ | assumption | refine below_drewN ?_ _ | refine Below.drew ?_ | refine Below.alloc ?_ ?_ _ | refine Below.setCell ?_ ?_ _)) | go_size))) hb5; have hz5 := g5.size)
          go_roundw
          case rel => exact ⟨k + 1, f.t, _, by omega, by go_num, rfl, by omega, H5, by simp only [List.length_append, List.length_cons, List.length_nil]; omega, by (repeat' (first | (with_reducible (first | exact Below.refl _ _ | assumption | refine below_drewN ?_ _ | refine Below.drew ?_ | refine Below.alloc ?_ ?_ _ | refine Below.setCell ?_ ?_ _)) | go_size)), hN1, hN2⟩
          case measure => simp [intOf]; omega
        · rw [if_neg c] at hp
          have hpk : pktO k f.d most = ⟨3, k, f.d.length, ⟨0, 0, 0, 0⟩, 0⟩ := by unfold pktO pktK; rw [if_neg c]
          rw [hpk] at hN2
          obtain ⟨E, hE⟩ : ∃ E, fpE f.d most = E := ⟨_, rfl⟩
          rw [hE] at hp c
          have hEb : (E != 0) = true := bne_iff_ne.2 c
          have KP2 := hide hp
          clear hp c hK KP hE
          go_wp2_with fail
          refine (KP2.out _).mono ?_
          rintro e4 w4 ⟨rfl, hb4⟩
          have g4 : Below w.heap.size w w4 := Below.trans (by (repeat' (first | (with_reducible (first | exact Below.refl _ _ | assumption | refine below_drewN ?_ _ | refine Below.drew ?_ | refine Below.alloc ?_ ?_ _ | refine Below.setCell ?_ ?_ _)) | go_size))) (hb4.mono (by (try simp); omega))
          have H4 := (H3.below (show Below wc.heap.size wc _ from by (repeat' (first | (with_reducible (first | exact Below.refl _ _ | assumption | refine below_drewN ?_ _ | refine Below.drew ?_ | refine Below.alloc ?_ ?_ _ | refine Below.setCell ?_ ?_ _)) | go_size)))).below hb4
          have X4 : Blk w4 (wr.heap.size) #[.int .u64 f.t, SV f.d] 55 := Blk.below (by (repeat' (first | (with_reducible (first | assumption | exact Blk.alloc_new _ _ _ (by first | rfl | (simp; done) | omega) | apply Blk.drewN | apply Blk.drew | apply Blk.alloc_old | apply Blk.set_same | apply Blk.set_other)) | (show (_ : Nat) ≠ _; first | omega | (simp; done) | (simp; omega)) | ((simp only [List.setIfInBounds_toArray, List.set_cons_succ, List.set_cons_zero]); (with_reducible exact rfl)) | (with_reducible exact rfl) | (show (_ : Array Value) = _; exact rfl)))) hb4 (by (try simp); omega)
          have hz4 := g4.size
          replace cX := X4.cell; replace fX := X4.frozen; replace zX := X4.size
          go_wp2_with (refine wpList_append_op rfl (.tmp 60) (.tmp 63) rfl w.heap.size u8 A ⟨3, k, f.d.length, ⟨0, 0, 0, 0⟩, 0⟩ (w4.heap.size + 1) #[.int .i64 3, .slice none 0 0, .slice none 0 0, .int .u64 k, .int .i64 f.d.length, .int .u16 0, .int .u16 0, .int .u16 0, .int .u16 0, .int .u64 0] rfl (by rfl) (by rfl) (H4.below (by (repeat' (first | (with_reducible (first | exact Below.refl _ _ | assumption | refine below_drewN ?_ _ | refine Below.drew ?_ | refine Below.alloc ?_ ?_ _ | refine Below.setCell ?_ ?_ _)) | go_size)))) (by (repeat' (first | (with_reducible (first | assumption | exact Blk.alloc_new _ _ _ (by first | rfl | (simp; done) | omega) | apply Blk.drewN | apply Blk.drew | apply Blk.alloc_old | apply Blk.set_same | apply Blk.set_other)) | (show (_ : Nat) ≠ _; first | omega | (simp; done) | (simp; omega)) | ((simp only [List.setIfInBounds_toArray, List.set_cons_succ, List.set_cons_zero]); (with_reducible exact rfl)) | (with_reducible exact rfl) | (show (_ : Array Value) = _; exact rfl)))) (by omega) (by simp; omega) ?_; intro v5 w5 H5 hb5 hs5 hoth; have g5 : Below w.heap.size w w5 := Below.trans (by (repeat' (first | (with_reducible (first | exact Below.refl _ _ | assumption | refine below_drewN ?_ _ | refine Below.drew ?_ | refine Below.alloc ?_ ?_ _ | refine Below.setCell ?_ ?_ _)) | go_size))) hb5; have hz5 := g5.size)
          go_roundw
          case rel => exact ⟨k + 1, f.t, _, by omega, by go_num, rfl, by omega, H5, by simp only [List.length_append, List.length_cons, List.length_nil]; omega, by (repeat' (first | (with_reducible (first | exact Below.refl _ _ | assumption | refine below_drewN ?_ _ | refine Below.drew ?_ | refine Below.alloc ?_ ?_ _ | refine Below.setCell ?_ ?_ _)) | go_size)), hN1, hN2⟩
          case measure => simp [intOf]; omega
    · obtain rfl : k = L.length := by omega
      have h2 := hss.out
      rw [List.drop_length] at h2
      have hsS : out = O := h2
      subst hsS
      clear hcc hss h2
      go_wp2
      go_ret2
      exact ⟨_, rfl, H0, by (repeat' (first | (with_reducible (first | exact Below.refl _ _ | assumption | refine below_drewN ?_ _ | refine Below.drew ?_ | refine Below.alloc ?_ ?_ _ | refine Below.setCell ?_ ?_ _)) | go_size))⟩
end Go.Proofs.Ytljpiofpfankoaa
