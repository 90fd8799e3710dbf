/-
  The reference's tables of flows: Add. Conditions: what the slice holds is known.
-/
import Derived.Test.YtljpiofpfankoaaFlX
import Derived.Deep.MidRow
namespace Go.Proofs.Ytljpiofpfankoaa
open Go.RowKit Go.Sort
set_option linter.unusedVariables false
set_option linter.unusedSimpArgs false
theorem rf_info45 : (Try.prog.info? 90).map (fun i => (i.zero, i.size, i.bytes)) = some (some (.agg #[.int .u16 0, .int .u16 0, .int .u16 0, .int .u16 0, .int .u64 0, .int .u64 0]), 6, 24) := by kernel_rfl
theorem AtG.flat {α : Type} {n : Nat} {enc : α → List Value} (hn : ∀ x, (enc x).length = n) (h0 : 0 < n) {w : World} {b off : Nat} {L : List α} (h : AtG n enc w b off L) : ∀ t u, (L.flatMap enc)[t]? = some u → w.cell? ⟨b, off + t, none⟩ = some u := by
  intro t u ht
  have hl := (List.getElem?_eq_some_iff.1 ht).1
  rw [flat_len hn] at hl
  have hi : t / n < L.length := Nat.div_lt_of_lt_mul (by rw [Nat.mul_comm]; exact hl)
  have hj : t % n < n := Nat.mod_lt _ h0
  have hx : L[t / n]? = some L[t / n] := List.getElem?_eq_getElem hi
  obtain ⟨x, hx⟩ : ∃ x, L[t / n]? = some x := ⟨_, hx⟩
  obtain ⟨u', hu⟩ : ∃ u', (enc x)[t % n]? = some u' := ⟨_, List.getElem?_eq_getElem (by rw [hn]; exact hj)⟩
  have q := flat_get hn L (t / n) _ hx (t % n) _ hu
  have e : t / n * n + t % n = t := by rw [Nat.mul_comm]; exact Nat.div_add_mod t n
  rw [e, ht] at q
  have := h (t / n) _ hx (t % n) _ hu
  rw [Nat.add_assoc, e] at this
  rw [this, q]
theorem AtG.below0 {α : Type} {n : Nat} {enc : α → List Value} {w v : World} {b off : Nat} {L : List α} (h : AtG n enc w b off L) (hv : Below w.heap.size w v) (hb : L ≠ [] → b < w.heap.size) : AtG n enc v b off L := by
  by_cases h0 : L = []
  · subst h0; intro i x hx; simp at hx
  · exact h.below hv (hb h0)
theorem HoldG.at2 {α : Type} {e : TypeId} {n : Nat} {enc : α → List Value} {w : World} {base : Nat} {v : Value} {L : List α} (h : HoldG e n enc w base v L) (hn : ∀ x, (enc x).length = n) : ∃ a cap g, v = .slice a L.length cap ∧ L.length ≤ cap ∧ (L ≠ [] → a = some ⟨g, 0, none⟩) ∧ (L ≠ [] → g < w.heap.size) ∧ AtG n enc w g 0 L := HoldG.at h hn
open Go.Lib in
/-- append(nil, l...): a slice of the program's own that holds the same. -/
theorem wpList_append_all {α : Type} {e : TypeId} {n : Nat} {enc : α → List Value} {st : TypeId} {by_ : Nat} {z : Value} (hu : Try.prog.underlying st = some (.slice e)) (hinf : (Try.prog.info? e).map (fun i => (i.zero, i.size, i.bytes)) = some (some z, n, by_)) (hz : z.cells.size = n) (hn : ∀ x, (enc x).length = n) (h1 : ∀ x, ∀ u ∈ enc x, u.oneCell' = true) (hn0 : 0 < n) (hb9 : by_ ≤ 1000)
    {w : World} {ops : Array Oper} {rest : List Oper} {o : Oper} {a : Act} {Q : Exit → Act → World → Prop} (hgd : o.guard = none) (sl x : Operand)
    (ho : o.op = .call { callee := .builtin .append, args := #[sl, x], argTypes := #[st, st] })
    (base base0 : Nat) (v : Value) (L : List α) (hs : a.eval sl = .slice none 0 0) (hx : a.eval x = v) (h : HoldG e n enc w base0 v L) (hsz : L.length ≤ 1000000) (hbase : base ≤ w.heap.size)
    (hk : ∀ v' w', HoldG e n enc w' base v' L → Below base w w' → w.heap.size ≤ w'.heap.size → (∀ b c t, Blk w b c t → Blk w' b c t) → wpList Try.prog ops Q rest (a.put o.dst v') w') : wpList Try.prog ops Q (o :: rest) a w := by
  refine wpList_plain hgd fun K hK => ?_
  obtain ⟨i, hi, q⟩ := Option.map_eq_some_iff.1 hinf
  simp only [Prod.mk.injEq] at q
  rcases h with ⟨hl, ⟨rfl, h0⟩ | ⟨g, cap, cur, rfl, hg, hh, hc, hm, hs2, ht⟩⟩
  · have hL : L = [] := List.length_eq_zero_iff.1 h0
    subst hL
    have hr : (Builtin.append_ #[st, st] o.type #[.slice none 0 0, .slice none 0 0]).run Try.prog w = .ok (.slice none 0 0) w := by
      simp [Builtin.append_, run_underlying hu, Result.andThen, go_sem, sizeOf, typeInfo, hi]
    unfold Oper.wp execOp
    simp only [ho, resolve, invoke, builtin, Sem.run_bind, Sem.run_pure, Result.andThen_ok, List.map_toArray, List.map_cons, List.map_nil, hs, hx, hr]
    exact hK _ _ (hk _ _ (HoldG.nil _ _) (Below.refl _ _) (Nat.le_refl _) (fun _ _ _ h => h))
  · have hHold : HoldG e n enc w base0 (.slice (some ⟨g, 0, none⟩) L.length cap) L := ⟨hl, .inr ⟨g, cap, cur, rfl, hg, hh, hc, hm, hs2, ht⟩⟩
    obtain ⟨a2, c2, g2, e2, _, _, _, hat⟩ := HoldG.at hHold hn
    have hat' : ∀ t u, (L.flatMap enc)[t]? = some u → w.cell? ⟨g, 0 + t, none⟩ = some u := by
      intro t u htu
      have hcell : w.cell? ⟨g, 0 + t, none⟩ = cur[t]? := by simp [World.cell?, hh]
      rw [hcell, ← Array.getElem?_toList]
      have htl := (List.getElem?_eq_some_iff.1 htu).1
      rw [flat_len hn] at htl
      rw [← ht, List.getElem?_take_of_lt htl] at htu
      exact htu
    obtain ⟨v', w', hr, h2, h3, _, _⟩ := run_append_own_at (P := Try.prog) w base st o.type e i z n by_ hu hi q.1 q.2.1 q.2.2 hz hn0 (.slice none 0 0) 0 [] ⟨by simp, .inl ⟨rfl, rfl⟩⟩ ⟨g, 0, none⟩ L.length cap (L.flatMap enc) (flat_len hn L) (fun j u hj => by
      rw [Addr.add_mid]; exact hat' j u hj) (fun u hu => by obtain ⟨x, _, hx⟩ := List.mem_flatMap.1 hu; exact h1 x u hx) (by unfold maxLen; omega) (by have : (0 + L.length) * by_ ≤ (0 + L.length) * 1000 := Nat.mul_le_mul_left _ hb9; omega) hbase
    unfold Oper.wp execOp
    simp only [ho, resolve, invoke, builtin, Sem.run_bind, Sem.run_pure, Result.andThen_ok, List.map_toArray, List.map_cons, List.map_nil, hs, hx, hr]
    refine hK _ _ (hk v' w' ?_ ?_ h3.size ?_)
    · unfold HoldG; simpa using h2
    · exact below_grown (Below.refl _ _) h3 hbase (fun k hk => by cases hk)
    · intro b c t hbb; exact Blk.grown hbb h3 (fun e => by cases e)
set_option maxRecDepth 100000 in
set_option maxHeartbeats 4000000 in
theorem rAdd_full (L : List FW) (k : K4) (n : Int) (v : Value) (base : Nat) (w : World) (h : HoldR w base v L) (hn : L.length ≤ 300) (hf : findF L k 0 = none) (h256 : L.length = 256) :
    Calls Try.prog 34 #[v, .agg #[.int .u16 k.a, .int .u16 k.b, .int .u16 k.c, .int .u16 k.d], .int .i64 n] w fun x w' => x = .returned (.tuple #[v, .int .i64 5]) ∧ Below w.heap.size w w' := by
  obtain ⟨a, cap, g, rfl, hcap, ha, hg, hat⟩ := HoldG.at h rvs_len
  have hfx := hf
  replace hf : fidx L k = -1 := by unfold fidx; rw [hfx]
  have hgl : g < w.heap.size := hg (by intro e; rw [e] at h256; simp at h256)
  have d2 : ((L.length : Int) == 256) = true := beq_iff_eq.2 (by omega)
  have d2n : (L.length == 256) = true := beq_iff_eq.2 h256
  have KF := hide (fun (v : World) (hv : Below w.heap.size w v) => rFind L k a g 0 cap (-1) v ha (fun h => Nat.lt_of_lt_of_le (hg h) hv.size) (hat.below0 hv hg) (by omega) hf)
  clear hf hfx h256
  go_enter Try.func34, Try.ntmps34
  go_wp2_with fail
  refine (KF.out _ (by (repeat' (first | (with_reducible (first | exact Below.refl _ _ | assumption | refine below_drewN ?_ _ | refine Below.drew ?_ | refine Below.alloc ?_ ?_ _ | refine Below.setCell ?_ ?_ _)) | go_size)))).mono ?_
  rintro e1 w1 ⟨rfl, hb1⟩
  have g1 : Below w.heap.size w w1 := Below.trans (by (repeat' (first | (with_reducible (first | exact Below.refl _ _ | assumption | refine below_drewN ?_ _ | refine Below.drew ?_ | refine Below.alloc ?_ ?_ _ | refine Below.setCell ?_ ?_ _)) | go_size))) (hb1.mono (by simp))
  have A1 : Blk w1 w.heap.size #[.int .u16 k.a, .int .u16 k.b, .int .u16 k.c, .int .u16 k.d] 48 := Blk.below (by (repeat' (first | (with_reducible (first | assumption | exact Blk.alloc_new _ _ _ (by first | rfl | (simp; done) | omega) | apply Blk.drewN | apply Blk.drew | apply Blk.alloc_old | apply Blk.set_same | apply Blk.set_other)) | (show (_ : Nat) ≠ _; first | omega | (simp; done) | (simp; omega)) | ((simp only [List.setIfInBounds_toArray, List.set_cons_succ, List.set_cons_zero]); (with_reducible exact rfl)) | (with_reducible exact rfl) | (show (_ : Array Value) = _; exact rfl)))) hb1 (by simp)
  have cA := A1.cell; have fA := A1.frozen; have zA := A1.size; have hz1 := g1.size
  go_wp2
  go_ret2
  exact ⟨rfl, by (repeat' (first | (with_reducible (first | exact Below.refl _ _ | assumption | refine below_drewN ?_ _ | refine Below.drew ?_ | refine Below.alloc ?_ ?_ _ | refine Below.setCell ?_ ?_ _)) | go_size))⟩
set_option maxRecDepth 100000 in
set_option maxHeartbeats 4000000 in
theorem rAdd_new (L : List FW) (k : K4) (n : Int) (v : Value) (base : Nat) (w : World) (h : HoldR w base v L) (hn : L.length ≤ 300) (hr : 0 ≤ n ∧ n ≤ 9223372036854775807) (hf : findF L k 0 = none) (h256 : L.length ≠ 256) :
    Calls Try.prog 34 #[v, .agg #[.int .u16 k.a, .int .u16 k.b, .int .u16 k.c, .int .u16 k.d], .int .i64 n] w fun x w' => ∃ v', x = .returned (.tuple #[v', .int .i64 0]) ∧ HoldR w' w.heap.size v' (L ++ [⟨k, 1, n⟩]) ∧ Below w.heap.size w w' := by
  obtain ⟨a, cap, g, rfl, hcap, ha, hg, hat⟩ := HoldG.at2 h rvs_len
  have hfx := hf
  replace hf : fidx L k = -1 := by unfold fidx; rw [hfx]
  have d2 : ((L.length : Int) == 256) = false := beq_eq_false_iff_ne.2 (by omega)
  have d2n : (L.length == 256) = false := beq_eq_false_iff_ne.2 h256
  have hu : IntKind.u64.wrap n = n := IntWalk.u64_in _ ⟨by omega, by omega⟩
  have KF := hide (fun (v : World) (hv : Below w.heap.size w v) => rFind L k a g 0 cap (-1) v ha (fun h => Nat.lt_of_lt_of_le (hg h) hv.size) (hat.below0 hv hg) (by omega) hf)
  clear hf hfx h256
  go_enter Try.func34, Try.ntmps34
  go_wp2_with fail
  refine (KF.out _ (by (repeat' (first | (with_reducible (first | exact Below.refl _ _ | assumption | refine below_drewN ?_ _ | refine Below.drew ?_ | refine Below.alloc ?_ ?_ _ | refine Below.setCell ?_ ?_ _)) | go_size)))).mono ?_
  rintro e1 w1 ⟨rfl, hb1⟩
  have g1 : Below w.heap.size w w1 := Below.trans (by (repeat' (first | (with_reducible (first | exact Below.refl _ _ | assumption | refine below_drewN ?_ _ | refine Below.drew ?_ | refine Below.alloc ?_ ?_ _ | refine Below.setCell ?_ ?_ _)) | go_size))) (hb1.mono (by simp))
  have A1 : Blk w1 w.heap.size #[.int .u16 k.a, .int .u16 k.b, .int .u16 k.c, .int .u16 k.d] 48 := Blk.below (by (repeat' (first | (with_reducible (first | assumption | exact Blk.alloc_new _ _ _ (by first | rfl | (simp; done) | omega) | apply Blk.drewN | apply Blk.drew | apply Blk.alloc_old | apply Blk.set_same | apply Blk.set_other)) | (show (_ : Nat) ≠ _; first | omega | (simp; done) | (simp; omega)) | ((simp only [List.setIfInBounds_toArray, List.set_cons_succ, List.set_cons_zero]); (with_reducible exact rfl)) | (with_reducible exact rfl) | (show (_ : Array Value) = _; exact rfl)))) hb1 (by simp)
  have cA := A1.cell; have fA := A1.frozen; have zA := A1.size; have hz1 := g1.size
  have h1 : HoldR w1 base (.slice a L.length cap) L := (h.below (Below.alloc (Below.refl _ _) (Nat.le_refl _) _)).below hb1
  go_wp2_with (first
    | (refine wpList_append_all Try.underlying78 rf_info45 rfl rvs_len rvs_one (by decide) (by decide) rfl (.tmp 21) (.tmp 22) rfl w.heap.size base (.slice a L.length cap) L (by rfl) (by rfl) h1 (by omega) (by omega) ?_; intro v2 w2 H2 hb2 hs2 hk2; have g2 : Below w.heap.size w w2 := g1.trans hb2; have hz2 := g2.size; have A2 : Blk w2 w.heap.size #[.int .u16 k.a, .int .u16 k.b, .int .u16 k.c, .int .u16 k.d] 48 := hk2 _ _ _ A1; replace cA := A2.cell; replace fA := A2.frozen; replace zA := A2.size)
    | (refine wpList_append_g Try.underlying78 rf_info45 rfl rvs_len rvs_one (by decide) (by decide) rfl (.tmp 26) (.tmp 31) rfl w.heap.size v2 L ⟨k, 1, n⟩ (w2.heap.size) #[.int .u16 k.a, .int .u16 k.b, .int .u16 k.c, .int .u16 k.d, .int .u64 1, .int .u64 n] rfl (by rfl) (by rfl) (H2.below (by (repeat' (first | (with_reducible (first | exact Below.refl _ _ | assumption | refine below_drewN ?_ _ | refine Below.drew ?_ | refine Below.alloc ?_ ?_ _ | refine Below.setCell ?_ ?_ _)) | go_size)))) (by (repeat' (first | (with_reducible (first | assumption | exact Blk.alloc_new _ _ _ (by first | rfl | (simp; done) | omega) | apply Blk.drewN | apply Blk.drew | apply Blk.alloc_old | apply Blk.set_same | apply Blk.set_other)) | (show (_ : Nat) ≠ _; first | omega | (simp; done) | (simp; omega)) | ((simp only [List.setIfInBounds_toArray, List.set_cons_succ, List.set_cons_zero]); (with_reducible exact rfl)) | (with_reducible exact rfl) | (show (_ : Array Value) = _; exact rfl)))) (by omega) (by simp; omega) ?_; intro v3 w3 H3 hb3 hs3 hk3; have g3 : Below w.heap.size w w3 := Below.trans (by (repeat' (first | (with_reducible (first | exact Below.refl _ _ | assumption | refine below_drewN ?_ _ | refine Below.drew ?_ | refine Below.alloc ?_ ?_ _ | refine Below.setCell ?_ ?_ _)) | go_size))) hb3; have hz3 := g3.size))
  go_ret2
  exact ⟨_, rfl, H3, by (repeat' (first | (with_reducible (first | exact Below.refl _ _ | assumption | refine below_drewN ?_ _ | refine Below.drew ?_ | refine Below.alloc ?_ ?_ _ | refine Below.setCell ?_ ?_ _)) | go_size))⟩
set_option maxRecDepth 100000 in
set_option maxHeartbeats 8000000 in
theorem rAdd_set (L : List FW) (k : K4) (n : Int) (v : Value) (base : Nat) (w : World) (h : HoldR w base v L) (hn : L.length ≤ 300) (hr : 0 ≤ n ∧ n ≤ 9223372036854775807) (i : Nat) (f : FW) (P B : Int) (hP : IntKind.u64.wrap (f.p + 1) = P) (hB : IntKind.u64.wrap (f.b + n) = B) (hf : findF L k 0 = some (i, f)) (hif : L[i]? = some f) :
    Calls Try.prog 34 #[v, .agg #[.int .u16 k.a, .int .u16 k.b, .int .u16 k.c, .int .u16 k.d], .int .i64 n] w fun x w' => ∃ v', x = .returned (.tuple #[v', .int .i64 0]) ∧ HoldR w' w.heap.size v' (L.set i ⟨k, P, B⟩) ∧ Below w.heap.size w w' := by
  obtain ⟨a, cap, g, rfl, hcap, ha, hg, hat⟩ := HoldG.at h rvs_len
  have hfx := hf
  replace hf : fidx L k = i := by unfold fidx; rw [hfx]
  have hne : L ≠ [] := by intro e; rw [e] at hif; simp at hif
  have hil : i < L.length := (List.getElem?_eq_some_iff.1 hif).1
  have hgl : g < w.heap.size := hg hne
  have hii : (i : Int) < (L.length : Int) := by omega
  have hib : (i : Int) ≤ 300 := by omega
  have dneg : decide ((i : Int) < 0) = false := decide_eq_false (by omega)
  have hu : IntKind.u64.wrap n = n := IntWalk.u64_in _ ⟨by omega, by omega⟩
  obtain rfl := ha hne
  have KF := hide (fun (v : World) (hv : Below w.heap.size w v) => rFind L k (some ⟨g, 0, none⟩) g 0 cap (i) v (fun _ => rfl) (fun h => Nat.lt_of_lt_of_le (hg h) hv.size) (hat.below0 hv hg) (by omega) hf)
  clear hf hfx
  go_enter Try.func34, Try.ntmps34
  go_wp2_with fail
  refine (KF.out _ (by (repeat' (first | (with_reducible (first | exact Below.refl _ _ | assumption | refine below_drewN ?_ _ | refine Below.drew ?_ | refine Below.alloc ?_ ?_ _ | refine Below.setCell ?_ ?_ _)) | go_size)))).mono ?_
  rintro e1 w1 ⟨rfl, hb1⟩
  have g1 : Below w.heap.size w w1 := Below.trans (by (repeat' (first | (with_reducible (first | exact Below.refl _ _ | assumption | refine below_drewN ?_ _ | refine Below.drew ?_ | refine Below.alloc ?_ ?_ _ | refine Below.setCell ?_ ?_ _)) | go_size))) (hb1.mono (by simp))
  have A1 : Blk w1 w.heap.size #[.int .u16 k.a, .int .u16 k.b, .int .u16 k.c, .int .u16 k.d] 48 := Blk.below (by (repeat' (first | (with_reducible (first | assumption | exact Blk.alloc_new _ _ _ (by first | rfl | (simp; done) | omega) | apply Blk.drewN | apply Blk.drew | apply Blk.alloc_old | apply Blk.set_same | apply Blk.set_other)) | (show (_ : Nat) ≠ _; first | omega | (simp; done) | (simp; omega)) | ((simp only [List.setIfInBounds_toArray, List.set_cons_succ, List.set_cons_zero]); (with_reducible exact rfl)) | (with_reducible exact rfl) | (show (_ : Array Value) = _; exact rfl)))) hb1 (by simp)
  have cA := A1.cell; have fA := A1.frozen; have zA := A1.size; have hz1 := g1.size
  have h1 : HoldR w1 base (.slice (some ⟨g, 0, none⟩) L.length cap) L := (h.below (Below.alloc (Below.refl _ _) (Nat.le_refl _) _)).below hb1
  have hat1 : AtG 6 rvs w1 g 0 L := (hat.below (Below.alloc (Below.refl _ _) (Nat.le_refl _) _) hgl).below hb1 (by simp; omega)
  go_wp2_with (refine wpList_append_all Try.underlying78 rf_info45 rfl rvs_len rvs_one (by decide) (by decide) rfl (.tmp 21) (.tmp 22) rfl w.heap.size base (.slice (some ⟨g, 0, none⟩) L.length cap) L (by rfl) (by rfl) h1 (by omega) (by omega) ?_; intro v2 w2 H2 hb2 hs2 hk2; have g2b : Below w.heap.size w w2 := g1.trans hb2; have hz2 := g2b.size; have A2 : Blk w2 w.heap.size #[.int .u16 k.a, .int .u16 k.b, .int .u16 k.c, .int .u16 k.d] 48 := hk2 _ _ _ A1; replace cA := A2.cell; replace fA := A2.frozen; replace zA := A2.size; obtain ⟨a2, cap2, g2, rfl, hcap2, ha2, hgg2, _⟩ := HoldG.at H2 rvs_len; obtain rfl := ha2 hne; have hat2 : AtG 6 rvs w2 g 0 L := hat1.below hb2 hgl)
  have hg2 : g < w2.heap.size := by omega
  go_upto_region 8 with (fail)
  refine wp_region_guarV 19 [.val (.slice (some ⟨g2, 0, none⟩) L.length cap2), .val (.int .i64 i), .val (.agg #[.int .u16 k.a, .int .u16 k.b, .int .u16 k.c, .int .u16 k.d]), .val (.slice (some ⟨g, 0, none⟩) L.length cap), .val (.int .i64 i), .val (.pointer (some ⟨g, i * 6, none⟩)), .val (.pointer (some ⟨g, i * 6 + 4, none⟩)), .val (.int .u64 f.p), .val (.int .u64 P), .val (.slice (some ⟨g, 0, none⟩) L.length cap), .val (.int .i64 i), .val (.pointer (some ⟨g, i * 6, none⟩)), .val (.pointer (some ⟨g, i * 6 + 5, none⟩)), .val (.int .u64 f.b), .val (.int .i64 n), .val (.int .u64 n), .val (.int .u64 B), .val (.agg #[.int .u16 k.a, .int .u16 k.b, .int .u16 k.c, .int .u16 k.d, .int .u64 P, .int .u64 B]), .val (.pointer (some ⟨g2, i * 6, none⟩))] (by kernel_rfl) (by kernel_rfl) (by simp) (by kernel_rfl) (by kernel_rfl) ?_ ?_
  · refine ⟨?_, ?_, ?_, ?_, ?_, ?_, ?_, ?_, ?_, ?_, ?_, ?_, ?_, ?_, ?_, ?_, ?_, ?_, ?_, trivial⟩
    · intro a v c
      have e9 : a.eval (.tmp 9) = .slice (some ⟨g2, 0, none⟩) L.length cap2 := (c.off 9 (by kernel_rfl)).trans rfl
      have f9 := (eval_opt a 9).trans e9
      exact gvalV (.slice (some ⟨g2, 0, none⟩) L.length cap2) (by simp only [execOp, f9, e9]; go_simp) rfl
    · intro a v c
      have e8 : a.eval (.tmp 8) = .int .i64 i := (c.off 8 (by kernel_rfl)).trans rfl
      have f8 := (eval_opt a 8).trans e8
      exact gvalV (.int .i64 i) (by simp only [execOp, f8, e8]; go_simp) rfl
    · intro a v c
      have e4 : a.eval (.tmp 4) = .pointer (some ⟨w.heap.size, 0, none⟩) := (c.off 4 (by kernel_rfl)).trans rfl
      have f4 := (eval_opt a 4).trans e4
      have bb : Below w2.heap.size w2 v := Below.trans (Below.drew (Below.refl _ _)) c.below
      have kA := A2.below bb A2.size; have cA := kA.cell
      exact gvalV (.agg #[.int .u16 k.a, .int .u16 k.b, .int .u16 k.c, .int .u16 k.d]) (by simp only [execOp, f4, e4]; go_simp) rfl
    · intro a v c
      have e0 : a.eval (.tmp 0) = .slice (some ⟨g, 0, none⟩) L.length cap := (c.off 0 (by kernel_rfl)).trans rfl
      have f0 := (eval_opt a 0).trans e0
      exact gvalV (.slice (some ⟨g, 0, none⟩) L.length cap) (by simp only [execOp, f0, e0]; go_simp) rfl
    · intro a v c
      have e8 : a.eval (.tmp 8) = .int .i64 i := (c.off 8 (by kernel_rfl)).trans rfl
      have f8 := (eval_opt a 8).trans e8
      exact gvalV (.int .i64 i) (by simp only [execOp, f8, e8]; go_simp) rfl
    · intro a v c
      have e36 : a.eval (.tmp 36) = .slice (some ⟨g, 0, none⟩) L.length cap := c.dep 3 _ 36 (by kernel_rfl) rfl rfl
      have e37 : a.eval (.tmp 37) = .int .i64 i := c.dep 4 _ 37 (by kernel_rfl) rfl rfl
      have f36 := (eval_opt a 36).trans e36
      have f37 := (eval_opt a 37).trans e37
      exact gvalV (.pointer (some ⟨g, i * 6, none⟩)) (by simp only [execOp, f36, f37, e36, e37]; go_simp) rfl
    · intro a v c
      have e38 : a.eval (.tmp 38) = .pointer (some ⟨g, i * 6, none⟩) := c.dep 5 _ 38 (by kernel_rfl) rfl rfl
      have f38 := (eval_opt a 38).trans e38
      exact gvalV (.pointer (some ⟨g, i * 6 + 4, none⟩)) (by simp only [execOp, f38, e38]; go_simp) rfl
    · intro a v c
      have e39 : a.eval (.tmp 39) = .pointer (some ⟨g, i * 6 + 4, none⟩) := c.dep 6 _ 39 (by kernel_rfl) rfl rfl
      have f39 := (eval_opt a 39).trans e39
      have bb : Below w2.heap.size w2 v := Below.trans (Below.drew (Below.refl _ _)) c.below
      have y4 : World.cell? v ⟨g, 0 + i * 6 + 4, none⟩ = some (.int .u64 f.p) := hat2.below bb hg2 i f hif 4 _ rfl; simp only [Nat.zero_add] at y4
      exact gvalV (.int .u64 f.p) (by simp only [execOp, f39, e39]; go_simp) rfl
    · intro a v c
      have e40 : a.eval (.tmp 40) = .int .u64 f.p := c.dep 7 _ 40 (by kernel_rfl) rfl rfl
      have f40 := (eval_opt a 40).trans e40
      exact gvalV (.int .u64 P) (by simp only [execOp, f40, e40]; go_simp) rfl
    · intro a v c
      have e0 : a.eval (.tmp 0) = .slice (some ⟨g, 0, none⟩) L.length cap := (c.off 0 (by kernel_rfl)).trans rfl
      have f0 := (eval_opt a 0).trans e0
      exact gvalV (.slice (some ⟨g, 0, none⟩) L.length cap) (by simp only [execOp, f0, e0]; go_simp) rfl
    · intro a v c
      have e8 : a.eval (.tmp 8) = .int .i64 i := (c.off 8 (by kernel_rfl)).trans rfl
      have f8 := (eval_opt a 8).trans e8
      exact gvalV (.int .i64 i) (by simp only [execOp, f8, e8]; go_simp) rfl
    · intro a v c
      have e42 : a.eval (.tmp 42) = .slice (some ⟨g, 0, none⟩) L.length cap := c.dep 9 _ 42 (by kernel_rfl) rfl rfl
      have e43 : a.eval (.tmp 43) = .int .i64 i := c.dep 10 _ 43 (by kernel_rfl) rfl rfl
      have f42 := (eval_opt a 42).trans e42
      have f43 := (eval_opt a 43).trans e43
      exact gvalV (.pointer (some ⟨g, i * 6, none⟩)) (by simp only [execOp, f42, f43, e42, e43]; go_simp) rfl
    · intro a v c
      have e44 : a.eval (.tmp 44) = .pointer (some ⟨g, i * 6, none⟩) := c.dep 11 _ 44 (by kernel_rfl) rfl rfl
      have f44 := (eval_opt a 44).trans e44
      exact gvalV (.pointer (some ⟨g, i * 6 + 5, none⟩)) (by simp only [execOp, f44, e44]; go_simp) rfl
    · intro a v c
      have e45 : a.eval (.tmp 45) = .pointer (some ⟨g, i * 6 + 5, none⟩) := c.dep 12 _ 45 (by kernel_rfl) rfl rfl
      have f45 := (eval_opt a 45).trans e45
      have bb : Below w2.heap.size w2 v := Below.trans (Below.drew (Below.refl _ _)) c.below
      have y5 : World.cell? v ⟨g, 0 + i * 6 + 5, none⟩ = some (.int .u64 f.b) := hat2.below bb hg2 i f hif 5 _ rfl; simp only [Nat.zero_add] at y5
      exact gvalV (.int .u64 f.b) (by simp only [execOp, f45, e45]; go_simp) rfl
    · intro a v c
      have e2 : a.eval (.tmp 2) = .int .i64 n := (c.off 2 (by kernel_rfl)).trans rfl
      have f2 := (eval_opt a 2).trans e2
      exact gvalV (.int .i64 n) (by simp only [execOp, f2, e2]; go_simp) rfl
    · intro a v c
      have e47 : a.eval (.tmp 47) = .int .i64 n := c.dep 14 _ 47 (by kernel_rfl) rfl rfl
      have f47 := (eval_opt a 47).trans e47
      exact gvalV (.int .u64 n) (by simp only [execOp, f47, e47]; go_simp) rfl
    · intro a v c
      have e46 : a.eval (.tmp 46) = .int .u64 f.b := c.dep 13 _ 46 (by kernel_rfl) rfl rfl
      have e48 : a.eval (.tmp 48) = .int .u64 n := c.dep 15 _ 48 (by kernel_rfl) rfl rfl
      have f46 := (eval_opt a 46).trans e46
      have f48 := (eval_opt a 48).trans e48
      exact gvalV (.int .u64 B) (by simp only [execOp, f46, f48, e46, e48]; go_simp) rfl
    · intro a v c
      have e35 : a.eval (.tmp 35) = .agg #[.int .u16 k.a, .int .u16 k.b, .int .u16 k.c, .int .u16 k.d] := c.dep 2 _ 35 (by kernel_rfl) rfl rfl
      have e41 : a.eval (.tmp 41) = .int .u64 P := c.dep 8 _ 41 (by kernel_rfl) rfl rfl
      have e49 : a.eval (.tmp 49) = .int .u64 B := c.dep 16 _ 49 (by kernel_rfl) rfl rfl
      have f35 := (eval_opt a 35).trans e35
      have f41 := (eval_opt a 41).trans e41
      have f49 := (eval_opt a 49).trans e49
      exact gvalV (.agg #[.int .u16 k.a, .int .u16 k.b, .int .u16 k.c, .int .u16 k.d, .int .u64 P, .int .u64 B]) (by simp only [execOp, f35, f41, f49, e35, e41, e49]; go_simp) rfl
    · intro a v c
      have e33 : a.eval (.tmp 33) = .slice (some ⟨g2, 0, none⟩) L.length cap2 := c.dep 0 _ 33 (by kernel_rfl) rfl rfl
      have e34 : a.eval (.tmp 34) = .int .i64 i := c.dep 1 _ 34 (by kernel_rfl) rfl rfl
      have f33 := (eval_opt a 33).trans e33
      have f34 := (eval_opt a 34).trans e34
      exact gvalV (.pointer (some ⟨g2, i * 6, none⟩)) (by simp only [execOp, f33, f34, e33, e34]; go_simp) rfl
  intro a v hb hd ho hs hf
  have e50 : a.eval (.tmp 50) = .agg #[.int .u16 k.a, .int .u16 k.b, .int .u16 k.c, .int .u16 k.d, .int .u64 P, .int .u64 B] := hd 17 _ 50 (by omega) rfl rfl
  have e51 : a.eval (.tmp 51) = .pointer (some ⟨g2, i * 6, none⟩) := hd 18 _ 51 (by omega) rfl rfl
  have gG := g2b.trans (hb.mono g2b.size)
  have H2v := H2.below hb
  obtain ⟨H3, ht3, hb3⟩ := HoldG.set rvs_len H2v i ⟨k, P, B⟩ hil
  refine wpList_store_mid rfl 90 (.tmp 51) (.tmp 50) rfl g2 (i * 6) #[.int .u16 k.a, .int .u16 k.b, .int .u16 k.c, .int .u16 k.d, .int .u64 P, .int .u64 B] e51 e50 ht3 (by kernel_rfl) (by simp [Value.oneCell']) ?_
  have g3 : Below w.heap.size w (v.setCells g2 (i * 6) (rvs ⟨k, P, B⟩)) := Below.setCells hb3 _ _ _ gG
  rw [show ((#[.int .u16 k.a, .int .u16 k.b, .int .u16 k.c, .int .u16 k.d, .int .u64 P, .int .u64 B] : Array Value)).toList = rvs ⟨k, P, B⟩ from rfl]
  generalize v.setCells g2 (i * 6) (rvs ⟨k, P, B⟩) = v3 at H3 g3 ⊢
  rw [frame_eta a 53 hs, hf]
  simp only [List.range, List.range.loop, List.map_cons, List.map_nil, ho 0 (by kernel_rfl), ho 1 (by kernel_rfl), ho 2 (by kernel_rfl), ho 3 (by kernel_rfl), ho 4 (by kernel_rfl), ho 5 (by kernel_rfl), ho 6 (by kernel_rfl), ho 7 (by kernel_rfl), ho 8 (by kernel_rfl), ho 9 (by kernel_rfl), ho 10 (by kernel_rfl), ho 11 (by kernel_rfl), ho 12 (by kernel_rfl), ho 13 (by kernel_rfl), ho 14 (by kernel_rfl), ho 15 (by kernel_rfl), ho 16 (by kernel_rfl), ho 17 (by kernel_rfl), ho 18 (by kernel_rfl), ho 19 (by kernel_rfl), ho 20 (by kernel_rfl), ho 21 (by kernel_rfl), ho 22 (by kernel_rfl), ho 23 (by kernel_rfl), ho 24 (by kernel_rfl), ho 25 (by kernel_rfl), ho 26 (by kernel_rfl), ho 27 (by kernel_rfl), ho 28 (by kernel_rfl), ho 29 (by kernel_rfl), ho 30 (by kernel_rfl), ho 31 (by kernel_rfl), ho 32 (by kernel_rfl), ho 52 (by kernel_rfl)]
  clear hd ho hf hs hb e50 e51
  generalize a.eval (.tmp 33) = u33
  generalize a.eval (.tmp 34) = u34
  generalize a.eval (.tmp 35) = u35
  generalize a.eval (.tmp 36) = u36
  generalize a.eval (.tmp 37) = u37
  generalize a.eval (.tmp 38) = u38
  generalize a.eval (.tmp 39) = u39
  generalize a.eval (.tmp 40) = u40
  generalize a.eval (.tmp 41) = u41
  generalize a.eval (.tmp 42) = u42
  generalize a.eval (.tmp 43) = u43
  generalize a.eval (.tmp 44) = u44
  generalize a.eval (.tmp 45) = u45
  generalize a.eval (.tmp 46) = u46
  generalize a.eval (.tmp 47) = u47
  generalize a.eval (.tmp 48) = u48
  generalize a.eval (.tmp 49) = u49
  generalize a.eval (.tmp 50) = u50
  generalize a.eval (.tmp 51) = u51
  clear a
  go_simp
  go_wp2
  go_ret2
  exact ⟨_, rfl, H3, g3⟩
end Go.Proofs.Ytljpiofpfankoaa
