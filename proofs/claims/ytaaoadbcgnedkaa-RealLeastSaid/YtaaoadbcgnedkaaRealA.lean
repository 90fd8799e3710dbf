/-
  Slices of calls that a law builds by append. Conditions: none.
-/
import Derived.Test.YtaaoadbcgnedkaaRealS
import Derived.Deep.AppendSrc
namespace Go.Proofs.Ytaaoadbcgnedkaa
open Go.RowKit Go.Sort
set_option linter.unusedVariables false
set_option linter.unusedSimpArgs false
theorem info_call : (Try.prog.info? 67).map (fun i => (i.zero, i.size, i.bytes)) = some (some (.agg #[.int .i64 0, .int .u64 0, .int .i64 0, .int .i64 0]), 4, 32) := by kernel_rfl
def flatc : List CL → List Value
  | [] => []
  | c :: l => .int .i64 c.k :: .int .u64 c.x :: .int .i64 c.s :: .int .i64 c.h :: flatc l
theorem flatc_app (a b : List CL) : flatc (a ++ b) = flatc a ++ flatc b := by induction a with
  | nil => rfl
  | cons s a ih => simp [flatc, ih]
theorem flatc_len (a : List CL) : (flatc a).length = a.length * 4 := by induction a with
  | nil => rfl
  | cons s a ih => simp [flatc, ih]; omega
theorem flatc_get (a : List CL) (i : Nat) (c : CL) (h : a[i]? = some c) : (flatc a)[i * 4]? = some (.int .i64 c.k) ∧ (flatc a)[i * 4 + 1]? = some (.int .u64 c.x) ∧ (flatc a)[i * 4 + 2]? = some (.int .i64 c.s) ∧ (flatc a)[i * 4 + 3]? = some (.int .i64 c.h) := by
  induction a generalizing i with
  | nil => simp at h
  | cons s a ih =>
    cases i with
    | zero => simp at h; subst h; simp [flatc]
    | succ i =>
      have := ih i (by simpa using h)
      rw [show (i + 1) * 4 = i * 4 + 1 + 1 + 1 + 1 by omega]
      simpa [flatc] using this
theorem flatc_one (a : List CL) : ∀ u ∈ flatc a, u.oneCell' = true := by
  induction a with
  | nil => intro u h; cases h
  | cons s a ih => intro u h; simp [flatc] at h; rcases h with rfl | rfl | rfl | rfl | h <;> first | rfl | exact ih u h
theorem calls_news {w : World} {b off : Nat} {L : List CL} (h : ∀ i c, L[i]? = some c → w.cell? ⟨b, off + i * 4, none⟩ = some (.int .i64 c.k) ∧ w.cell? ⟨b, off + i * 4 + 1, none⟩ = some (.int .u64 c.x) ∧ w.cell? ⟨b, off + i * 4 + 2, none⟩ = some (.int .i64 c.s) ∧ w.cell? ⟨b, off + i * 4 + 3, none⟩ = some (.int .i64 c.h)) (j : Nat) (u : Value) (hj : (flatc L)[j]? = some u) : w.cell? ((⟨b, off, none⟩ : Addr).add j) = some u := by
  have hlt : j < L.length * 4 := by rw [← flatc_len]; exact (List.getElem?_eq_some_iff.1 hj).1
  obtain ⟨i, hi⟩ : ∃ i, j / 4 = i := ⟨_, rfl⟩
  have hil : i < L.length := by omega
  obtain ⟨c, hc⟩ : ∃ c, L[i]? = some c := ⟨_, List.getElem?_eq_getElem hil⟩
  obtain ⟨g0, g1, g2, g3⟩ := flatc_get L i c hc
  obtain ⟨f0, f1, f2, f3⟩ := h i c hc
  have hr : j = i * 4 ∨ j = i * 4 + 1 ∨ j = i * 4 + 2 ∨ j = i * 4 + 3 := by omega
  rcases hr with rfl | rfl | rfl | rfl
  · rw [g0] at hj; rw [← hj]
    by_cases hi0 : i = 0
    · subst hi0; simpa [Addr.add] using f0
    · have h4 : ¬ i * 4 = 0 := by omega
      simp only [Addr.add, if_neg h4]; exact f0
  · rw [g1] at hj; rw [← hj]; simpa [Addr.add, Nat.add_assoc] using f1
  · rw [g2] at hj; rw [← hj]; simpa [Addr.add, Nat.add_assoc] using f2
  · rw [g3] at hj; rw [← hj]; simpa [Addr.add, Nat.add_assoc] using f3
/-- The slice v holds just these calls. -/
def HoldC (w : World) (base : Nat) (v : Value) (L : List CL) : Prop := w.ownsRow base 67 4 v L.length (flatc L)
theorem HoldC.at_ {w : World} {base g n cap : Nat} {L : List CL} (h : HoldC w base (.slice (some ⟨g, 0, none⟩) n cap) L) (hn : n = L.length) : CallsAt w (some ⟨g, 0, none⟩) L := by
  subst hn
  by_cases h0 : L = []
  · exact .inl h0
  · have hl : 0 < L.length := List.length_pos_iff.2 h0
    refine .inr ⟨g, 0, rfl, ?_, fun i c hi => ?_⟩
    · rcases h.2 with ⟨hv, _⟩ | ⟨g', cap', cur, hv, hb, hg, _⟩
      · simp at hv
      · simp at hv; obtain ⟨rfl, _⟩ := hv; exact (Array.getElem?_eq_some_iff.1 hg).1
    · have hlt : i < L.length := (List.getElem?_eq_some_iff.1 hi).1
      have hc := World.ownsRow.cellAt h
      obtain ⟨f0, f1, f2, f3⟩ := flatc_get L i c hi
      rw [Nat.zero_add]
      exact ⟨(hc _ (by omega)).trans f0, (hc _ (by omega)).trans f1, (hc _ (by omega)).trans f2, (hc _ (by omega)).trans f3⟩
/-- The law of append, whatever is appended (nothing, too), onto a slice that holds something. -/
theorem wpList_append_any {P : Program} {w : World} {ops : Array Oper} {rest : List Oper} {o : Oper} {a : Act} {Q : Exit → Act → World → Prop} (hgd : o.guard = none) (s x : Operand) (t : TypeId)
    (ho : o.op = .call { callee := .builtin .append, args := #[s, x], argTypes := #[t, t] })
    (base : Nat) (e : TypeId) (i : TypeInfo) (z : Value) (size bytes : Nat) (ht : P.underlying t = some (.slice e)) (hi : P.info? e = some i) (hz : i.zero = some z)
    (hsize : i.size = size) (hby : i.bytes = bytes) (hzs : z.cells.size = size) (hsz : 0 < size)
    (v : Value) (n : Nat) (xs : List Value) (hs : a.eval s = v) (hown : w.ownsRow base e size v n xs) (hn : 0 < n)
    (ad : Option Addr) (m c : Nat) (news : List Value) (hx : a.eval x = .slice ad m c) (hl : news.length = m * size) (hnil : ad = none → m = 0) (hnews : ∀ A, ad = some A → ∀ j u, news[j]? = some u → w.cell? (A.add j) = some u) (h1 : ∀ u ∈ news, u.oneCell' = true)
    (h63 : n + m ≤ maxLen) (hbytes : (n + m) * bytes ≤ 140737488355328) (hbase : base ≤ w.heap.size)
    (h : ∀ g cap w', w'.ownsRow base e size (.slice (some ⟨g, 0, none⟩) (n + m) cap) (n + m) (xs ++ news) → w.grownBy w' v.ownBlock → g < w'.heap.size → wpList P ops Q rest (a.put o.dst (.slice (some ⟨g, 0, none⟩) (n + m) cap)) w') : wpList P ops Q (o :: rest) a w := by
  refine wpList_plain hgd fun K hK => ?_
  have fin : ∀ g cap w', (Builtin.append_ #[t, t] o.type #[v, .slice ad m c]).run P w = .ok (.slice (some ⟨g, 0, none⟩) (n + m) cap) w' → w'.ownsRow base e size (.slice (some ⟨g, 0, none⟩) (n + m) cap) (n + m) (xs ++ news) → w.grownBy w' v.ownBlock → g < w'.heap.size → o.wp P a w K Q := by
    intro g cap w' hr h2 h3 h4
    unfold Oper.wp execOp
    simp only [ho, resolve, invoke, builtin, Sem.run_bind, Sem.run_pure, Result.andThen_ok, List.map_toArray, List.map_cons, List.map_nil, hs, hx, hr]
    exact hK _ _ (h g cap w' h2 h3 h4)
  cases ad with
  | some A =>
    obtain ⟨v', w', hr, h2, h3, _, h5⟩ := run_append_own_at (P := P) w base t o.type e i z size bytes ht hi hz hsize hby hzs hsz v n xs hown A m c news hl (hnews A rfl) h1 h63 hbytes hbase
    obtain ⟨g, cap, rfl, _, hlt⟩ := h2.form (by omega)
    exact fin g cap w' hr h2 h3 hlt
  | none =>
    obtain rfl := hnil rfl
    have hne : news = [] := List.length_eq_zero_iff.1 (by omega)
    subst hne
    obtain ⟨g, cap, rfl, hb, hg⟩ := hown.form hn
    have hcap : n ≤ cap := by
      rcases hown.2 with ⟨hv, _⟩ | ⟨g', cap', cur, hv, _, _, hle, _⟩
      · simp at hv
      · simp at hv; obtain ⟨_, rfl⟩ := hv; exact hle
    have hr := run_append_room_src (P := P) w t t o.type e i ht hi g 0 n cap (.slice none 0 c) 0 [] (Src.ofNil w ht c) (by omega) (by simp) (by simp)
    refine fin g cap w ?_ ?_ ⟨rfl, rfl, rfl, Nat.le_refl _, fun _ _ _ => rfl⟩ hg
    · exact hr
    · simpa using hown
end Go.Proofs.Ytaaoadbcgnedkaa
