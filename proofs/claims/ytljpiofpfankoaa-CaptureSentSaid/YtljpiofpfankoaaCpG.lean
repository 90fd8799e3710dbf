/-
  Captures: capture.Decode. Conditions: a string that is not too long.
-/
import Derived.Test.YtljpiofpfankoaaCpF
namespace Go.Proofs.Ytljpiofpfankoaa
open Go.RowKit Go.Sort
set_option linter.unusedVariables false
set_option linter.unusedSimpArgs false
def frVs : List FM → List Value
  | [] => []
  | f :: r => .int .u64 f.t :: SV f.d :: frVs r
theorem frVs_app : ∀ (a b : List FM), frVs (a ++ b) = frVs a ++ frVs b
  | [], _ => rfl
  | f :: r, b => by show _ :: _ :: frVs (r ++ b) = _; rw [frVs_app r b]; rfl
/-- A slice of frames that the program has made itself. -/
def HoldFr (w : World) (base : Nat) (v : Value) (l : List FM) : Prop := w.ownsRow base 55 2 v l.length (frVs l)
theorem HoldFr.nil (w : World) (base : Nat) : HoldFr w base (.slice none 0 0) [] := ⟨rfl, .inl ⟨rfl, rfl⟩⟩
theorem HoldFr.below {w w' : World} {base : Nat} {v : Value} {l : List FM} (h : HoldFr w base v l) (hb : Below w.heap.size w w') : HoldFr w' base v l := by
  obtain ⟨h1, h2⟩ := h
  refine ⟨h1, ?_⟩
  rcases h2 with h2 | ⟨g, cap, cur, e, hg, hh, r⟩
  · exact .inl h2
  · exact .inr ⟨g, cap, cur, e, hg, (hb.block g (Array.getElem?_eq_some_iff.1 hh).1).trans hh, r⟩
theorem HoldFr.own_ge {w : World} {base : Nat} {v : Value} {l : List FM} (h : HoldFr w base v l) : ∀ k, v.ownBlock = some k → base ≤ k ∧ k < w.heap.size := by
  intro k hk
  rcases h.2 with ⟨e, _⟩ | ⟨g, cap, cur, e, hg, hh, r⟩
  · rw [e] at hk; cases hk
  · rw [e] at hk; cases hk; exact ⟨hg, (Array.getElem?_eq_some_iff.1 hh).1⟩
theorem HoldFr.slice {w : World} {base : Nat} {v : Value} {l : List FM} (h : HoldFr w base v l) : ∃ a cap, v = .slice a l.length cap := by
  rcases h.2 with ⟨e, h0⟩ | ⟨g, cap, cur, e, _⟩
  · exact ⟨none, 0, by rw [e, h0]⟩
  · exact ⟨_, cap, e⟩
theorem fr_info : (Try.prog.info? 55).map (fun i => (i.zero, i.size, i.bytes)) = some (some (.agg #[.int .u64 0, .string ⟨#[]⟩]), 2, 24) := by kernel_rfl
open Go.Lib in
theorem wpList_append_fr {w : World} {ops : Array Oper} {rest : List Oper} {o : Oper} {a : Act} {Q : Exit → Act → World → Prop} (hgd : o.guard = none) (sl x : Operand)
    (ho : o.op = .call { callee := .builtin .append, args := #[sl, x], argTypes := #[22, 22] })
    (base : Nat) (v : Value) (s : List FM) (f : FM) (B : Nat) (hs : a.eval sl = v) (hx : a.eval x = .slice (some ⟨B, 0, none⟩) 1 1) (h : HoldFr w base v s) (hB : Blk w B #[.int .u64 f.t, SV f.d] 55) (hsz : s.length ≤ 100000) (hbase : base ≤ w.heap.size)
    (hk : ∀ v' w', HoldFr w' base v' (s ++ [f]) → Below base w w' → (∀ b c t, b < base → Blk w b c t → Blk w' b c t) → (∀ b c t, some b ≠ v.ownBlock → Blk w b c t → Blk w' b c t) → wpList Try.prog ops Q rest (a.put o.dst v') w') : wpList Try.prog ops Q (o :: rest) a w := by
  refine wpList_plain hgd fun K hK => ?_
  obtain ⟨i, hi, e⟩ := Option.map_eq_some_iff.1 fr_info
  simp only [Prod.mk.injEq] at e
  obtain ⟨v', w', hr, h2, h3, _⟩ := run_append_own_at (P := Try.prog) w base 22 o.type 55 i (.agg #[.int .u64 0, .string ⟨#[]⟩]) 2 24 Try.underlying22 hi e.1 e.2.1 e.2.2 rfl (by omega) v s.length (frVs s) h ⟨B, 0, none⟩ 1 1 [.int .u64 f.t, SV f.d] rfl (fun j u hj => by
    rw [Addr.add_mid, hB.cell, Nat.zero_add]; simpa using hj) (by intro u hu; simp at hu; rcases hu with rfl | rfl <;> rfl) (by unfold maxLen; omega) (by omega) hbase
  unfold Oper.wp execOp
  simp only [ho, resolve, invoke, builtin, Sem.run_bind, Sem.run_pure, Result.andThen_ok, List.map_toArray, List.map_cons, List.map_nil, hs, hx, hr]
  refine hK _ _ (hk v' w' ?_ ?_ ?_ ?_)
  · unfold HoldFr; rw [List.length_append, frVs_app]; exact h2
  · exact below_grown (Below.refl _ _) h3 hbase (fun k hk => (h.own_ge k hk).1)
  · intro b c t hb hbb; exact Blk.grown hbb h3 (fun e => by have := (h.own_ge b e.symm).1; omega)
  · intro b c t hne hbb; exact Blk.grown hbb h3 hne
/-- What the bytes are: an error's number, and the frames. -/
def decG : Nat → List Int → Int → List FM → Int × List FM
  | 0, _, _, out => (2, out)
  | n + 1, l, last, out => if l.length = 0 then (0, out) else if out.length = 1000 then (2, out) else if cutE l last ≠ 0 then (cutE l last, out) else decG n (cutR l) (hor l 8) (out ++ [⟨hor l 8, cutD l⟩])
def szOf : Value → Nat
  | .string s => s.size
  | _ => 0
theorem cut_zero {l : List Int} {last : Int} (h : cutE l last = 0) : 10 ≤ l.length ∧ 1 ≤ hor (l.drop 8) 2 ∧ hor (l.drop 8) 2 ≤ (l.length : Int) - 10 ∧ last ≤ hor l 8 ∧ hor l 8 ≤ 4611686018427387904 := by
  unfold cutE at h
  by_cases c0 : l.length < 10
  · rw [if_pos c0] at h; omega
  rw [if_neg c0] at h
  by_cases c1 : hor (l.drop 8) 2 < 1 ∨ 16384 < hor (l.drop 8) 2
  · rw [if_pos c1] at h; omega
  rw [if_neg c1] at h
  by_cases c3 : (l.length : Int) - 10 < hor (l.drop 8) 2
  · rw [if_pos c3] at h; omega
  rw [if_neg c3] at h
  by_cases c4 : hor l 8 < last ∨ 4611686018427387904 < hor l 8
  · rw [if_pos c4] at h; omega
  · omega
theorem cutR_len {l : List Int} {last : Int} (h : cutE l last = 0) : (cutR l).length + 11 ≤ l.length := by
  have := cut_zero h
  unfold cutR; rw [List.length_drop, List.length_drop]; omega
theorem cutR_byt {l : List Int} (h : Byt l) : Byt (cutR l) := fun x hx => h x (List.mem_of_mem_drop (List.mem_of_mem_drop hx))
set_option maxRecDepth 100000 in
set_option maxHeartbeats 8000000 in
theorem capDecode_ok (l r : List Int) (e : Int) (F : List FM) (w : World) (hl : Byt l) (hb : l.length ≤ 4611686018427387904) (h4 : 4 ≤ l.length) (hf : l.take 4 = flog) (hr : l.drop 4 = r) (he : decG (r.length + 1) r 0 [] = (e, F)) :
    Calls Try.prog 17 #[SV l] w fun x w' => ∃ v, x = .returned (.tuple #[v, .int .i64 e]) ∧ (e = 0 → HoldFr w' w.heap.size v F) ∧ (e ≠ 0 → v = .slice none 0 0) ∧ Below w.heap.size w w' := by
  have ks := sv_size
  have d0 : decide ((l.length : Int) < 4) = false := decide_eq_false (by omega)
  have KP := hide (show ∀ v, Calls Try.prog 42 #[SV l, .string ⟨#[102, 108, 111, 103]⟩] v fun e w' => e = .returned (.tuple #[SV r, .bool true]) ∧ v = w' from fun v => by have h := cutPre l v hl hb; rw [if_pos hf, hr, decide_eq_true hf] at h; exact h)
  have hrb : Byt r := by rw [← hr]; exact fun x hx => hl x (List.mem_of_mem_drop hx)
  have hrl : r.length ≤ 4611686018427387904 := by rw [← hr, List.length_drop]; omega
  have HE := hide he; have HRB := hide hrb
  clear he hrb hf hr
  go_enter Try.func17, Try.ntmps17
  go_wp2
  go_step3
  go_upto_region 3 with (fail)
  go_wp2_with fail
  refine (KP.out _).mono ?_
  rintro e u1 ⟨rfl, rfl⟩
  go_wp2
  go_step3
  go_wp2
  go_loopw [4, 6, 7, 8] (fun t o la bd wr => ∃ (s : List Int) (last : Int) (out : List FM), t = SV s ∧ la = .int .u64 last ∧ bd = .int .i64 0 ∧ (0 ≤ last ∧ last ≤ 18446744073709551615) ∧ s.length ≤ 4611686018427387904 ∧ Hid (Byt s) ∧ out.length ≤ 1000 ∧ HoldFr wr w.heap.size o out ∧ Below w.heap.size w wr ∧ Hid (decG (s.length + 1) s last out = (e, F))) (fun t _ _ _ _ => szOf t)
  case atStart => exact ⟨r, 0, [], rfl, rfl, rfl, by omega, hrl, HRB, by simp, HoldFr.nil _ _, by (repeat' (first | (with_reducible (first | exact Below.refl _ _ | assumption | refine below_drewN ?_ _ | refine Below.drew ?_ | refine Below.alloc ?_ ?_ _ | refine Below.setCell ?_ ?_ _)) | go_size)), HE⟩
  case round =>
    obtain ⟨s, last, out, rfl, rfl, rfl, hla, hsl, hsb, hol, H0, g0, hcc⟩ := hrel
    have hl0 := g0.size
    have hst := hcc.out
    unfold decG at hst
    by_cases c0 : s.length = 0
    · rw [if_pos c0] at hst
      obtain ⟨rfl, rfl⟩ := Prod.mk.inj hst
      have hs0 : s = [] := List.length_eq_zero_iff.1 c0
      have dq3 : (strOfNums ([] : List Int)).toList = [] := by rw [ByteArray.toList_eq]; rfl
      subst hs0
      clear hcc hst
      go_wp2
      try simp only [Exit.noGoto]
      go_ret2
      exact ⟨_, rfl, fun _ => H0, fun h => absurd rfl h, by (repeat' (first | (with_reducible (first | exact Below.refl _ _ | assumption | refine below_drewN ?_ _ | refine Below.drew ?_ | refine Below.alloc ?_ ?_ _ | refine Below.setCell ?_ ?_ _)) | go_size))⟩
    rw [if_neg c0] at hst
    have dq : ¬ (strOfNums s).toList = [] := fun h => by
      rw [ByteArray.toList_eq, strOfNums_data] at h
      have := congrArg List.length h
      rw [List.length_map] at this
      exact c0 this
    have dqb : ((strOfNums s).toList == []) = false := beq_eq_false_iff_ne.2 dq
    obtain ⟨oa, oc, rfl⟩ := H0.slice
    by_cases c1 : out.length = 1000
    · rw [if_pos c1] at hst
      obtain ⟨rfl, rfl⟩ := Prod.mk.inj hst
      have d1 : ((out.length : Int) == 1000) = true := beq_iff_eq.2 (by omega)
      clear hcc hst
      go_wp2
      try simp only [Exit.noGoto]
      go_ret2
      exact ⟨_, rfl, fun h => absurd h (by decide), fun _ => rfl, by (repeat' (first | (with_reducible (first | exact Below.refl _ _ | assumption | refine below_drewN ?_ _ | refine Below.drew ?_ | refine Below.alloc ?_ ?_ _ | refine Below.setCell ?_ ?_ _)) | go_size))⟩
    rw [if_neg c1] at hst
    have d1 : ((out.length : Int) == 1000) = false := beq_eq_false_iff_ne.2 (by omega)
    have d1n : (out.length == 1000) = false := beq_eq_false_iff_ne.2 c1
    by_cases c2 : cutE s last ≠ 0
    · rw [if_pos c2] at hst
      obtain ⟨hx, rfl⟩ := Prod.mk.inj hst
      rw [hx] at c2
      have hxb : (e != 0) = true := bne_iff_ne.2 c2
      have KC := hide (show ∀ v, Calls Try.prog 43 #[SV s, .int .u64 last] v fun z w' => z = .returned (.tuple #[.agg #[.int .u64 0, .string ⟨#[]⟩], .string ⟨#[]⟩, .int .i64 e]) ∧ Below v.heap.size v w' from fun v => by have h := capCut s last v hsb.out hsl hla; rw [hx, if_neg c2, if_neg c2] at h; exact h)
      clear hcc hst hx
      go_wp2_with fail
      refine (KC.out _).mono ?_
      rintro e w2 ⟨rfl, hb2⟩
      have g2 : Below w.heap.size w w2 := by refine Below.trans ?_ (hb2.mono ?_) <;> (repeat' (first | (with_reducible (first | exact Below.refl _ _ | assumption | refine below_drewN ?_ _ | refine Below.drew ?_ | refine Below.alloc ?_ ?_ _ | refine Below.setCell ?_ ?_ _)) | go_size))
      have hz2 := hb2.size
      (try simp at hz2)
      clear hb2
      go_wp2
      try simp only [Exit.noGoto]
      go_ret2
      exact ⟨_, rfl, fun h => absurd h c2, fun _ => rfl, by (repeat' (first | (with_reducible (first | exact Below.refl _ _ | assumption | refine below_drewN ?_ _ | refine Below.drew ?_ | refine Below.alloc ?_ ?_ _ | refine Below.setCell ?_ ?_ _)) | go_size))⟩
    rw [if_neg c2] at hst
    have hz0 : cutE s last = 0 := Decidable.not_not.1 c2
    obtain ⟨z1, z2, z3, z4, z5⟩ := cut_zero hz0
    have hcl := cutR_len hz0
    have hcb := hide (cutR_byt hsb.out)
    obtain ⟨tt, htt⟩ : ∃ x, hor s 8 = x := ⟨_, rfl⟩
    obtain ⟨D, hD⟩ : ∃ x, cutD s = x := ⟨_, rfl⟩
    obtain ⟨R, hR⟩ : ∃ x, cutR s = x := ⟨_, rfl⟩
    have KC := hide (show ∀ v, Calls Try.prog 43 #[SV s, .int .u64 last] v fun e w' => e = .returned (.tuple #[.agg #[.int .u64 tt, SV D], SV R, .int .i64 0]) ∧ Below v.heap.size v w' from fun v => by have h := capCut s last v hsb.out hsl hla; rw [hz0, if_pos rfl, if_pos rfl, htt, hD, hR] at h; exact h)
    rw [htt, hD, hR] at hst
    rw [hR] at hcl hcb
    rw [htt] at z4 z5
    obtain ⟨nn, hnn⟩ : ∃ n, s.length = n + 1 := ⟨s.length - 1, by omega⟩
    have hfuel : ∀ (n m : Nat) (l : List Int) (la : Int) (o : List FM), l.length < n → l.length < m → decG n l la o = decG m l la o := by
      intro n
      induction n with
      | zero => intro m l la o h; omega
      | succ n ih =>
        intro m l la o h1 h2
        cases m with
        | zero => omega
        | succ m =>
          unfold decG
          by_cases a0 : l.length = 0
          · rw [if_pos a0, if_pos a0]
          rw [if_neg a0, if_neg a0]
          by_cases a1 : o.length = 1000
          · rw [if_pos a1, if_pos a1]
          rw [if_neg a1, if_neg a1]
          by_cases a2 : cutE l la ≠ 0
          · rw [if_pos a2, if_pos a2]
          rw [if_neg a2, if_neg a2]
          have := cutR_len (Decidable.not_not.1 a2)
          exact ih m _ _ _ (by omega) (by omega)
    have hN : Hid (decG (R.length + 1) R tt (out ++ [⟨tt, D⟩]) = (e, F)) := by
      rw [← hst]; exact hfuel _ _ _ _ _ (by omega) (by omega)
    clear hcc hst c2 hz0 htt hD hR hfuel
    go_wp2_with fail
    refine (KC.out _).mono ?_
    rintro e1 w1 ⟨rfl, hb1⟩
    have g1 : Below w.heap.size w w1 := g0.trans (hb1.mono g0.size)
    have H1 := H0.below hb1
    have hz1 := g1.size
    go_wp2_with (refine wpList_append_fr rfl (.tmp 37) (.tmp 39) rfl w.heap.size (.slice oa out.length oc) out ⟨tt, D⟩ (w1.heap.size + 1) (by rfl) (by rfl) (H1.below (by (repeat' (first | (with_reducible (first | exact Below.refl _ _ | assumption | refine below_drewN ?_ _ | refine Below.drew ?_ | refine Below.alloc ?_ ?_ _ | refine Below.setCell ?_ ?_ _)) | go_size)))) (by (repeat' (first | (with_reducible (first | assumption | exact Blk.alloc_new _ _ _ (by first | rfl | (simp; done) | omega) | apply Blk.drewN | apply Blk.drew | apply Blk.alloc_old | apply Blk.set_same | apply Blk.set_other)) | (show (_ : Nat) ≠ _; first | omega | (simp; done) | (simp; omega)) | ((simp only [List.setIfInBounds_toArray, List.set_cons_succ, List.set_cons_zero]); (with_reducible exact rfl)) | (with_reducible exact rfl) | (show (_ : Array Value) = _; exact rfl)))) (by omega) (by simp; omega) ?_; intro v' w2 H2 hb2 hlow hoth; have X2 : Blk w2 (w1.heap.size) #[.int .u64 tt, SV D] 55 := hoth _ _ _ (by intro e; have := (H1.own_ge _ e.symm).2; omega) (by (repeat' (first | (with_reducible (first | assumption | exact Blk.alloc_new _ _ _ (by first | rfl | (simp; done) | omega) | apply Blk.drewN | apply Blk.drew | apply Blk.alloc_old | apply Blk.set_same | apply Blk.set_other)) | (show (_ : Nat) ≠ _; first | omega | (simp; done) | (simp; omega)) | ((simp only [List.setIfInBounds_toArray, List.set_cons_succ, List.set_cons_zero]); (with_reducible exact rfl)) | (with_reducible exact rfl) | (show (_ : Array Value) = _; exact rfl)))); have g2 : Below w.heap.size w w2 := Below.trans (by (repeat' (first | (with_reducible (first | exact Below.refl _ _ | assumption | refine below_drewN ?_ _ | refine Below.drew ?_ | refine Below.alloc ?_ ?_ _ | refine Below.setCell ?_ ?_ _)) | go_size))) hb2; have hz2 := g2.size; have cX := X2.cell; have fX := X2.frozen; have zX := X2.size)
    go_region
    rotate_left
    go_roundw
    case rel =>
      have H3 : HoldFr w2.drew w.heap.size v' (out ++ [⟨tt, D⟩]) := H2.below (by (repeat' (first | (with_reducible (first | exact Below.refl _ _ | assumption | refine below_drewN ?_ _ | refine Below.drew ?_ | refine Below.alloc ?_ ?_ _ | refine Below.setCell ?_ ?_ _)) | go_size)))
      refine ⟨_, _, _, _, _, _, _, _, _, _, _, _, _, _, _, _, _, _, _, _, _, _, _, _, _, _, _, _, _, ⟨R, tt, out ++ [⟨tt, D⟩], rfl, rfl, rfl, by omega, by omega, hcb, by rw [List.length_append]; simp; omega, H3, by (repeat' (first | (with_reducible (first | exact Below.refl _ _ | assumption | refine below_drewN ?_ _ | refine Below.drew ?_ | refine Below.alloc ?_ ?_ _ | refine Below.setCell ?_ ?_ _)) | go_size)), hN⟩, rfl⟩
    case measure => simp [szOf, sv_size]; omega
    all_goals exact undef
end Go.Proofs.Ytljpiofpfankoaa
