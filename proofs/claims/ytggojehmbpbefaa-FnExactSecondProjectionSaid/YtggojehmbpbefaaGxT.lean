/- The runner is sound. -/
import Derived.Test.YtggojehmbpbefaaGxS
namespace Go.Gx
section
variable {P : Program} {T : Tab} {st : St} {o : Oper} {N t : Nat}

theorem needs_parts {parts : List (Nat × Operand)} : Needs (look st) (partNeed st parts) := by
  unfold partNeed; rw [Needs.append]; exact ⟨needs_all, needs_roots⟩

theorem hasRoots_one {r : Nat} (h : hasRoots st [r] = true) : ∃ rt, look st (2 * r + 1) = some (.r rt) := by
  simp only [hasRoots, Bool.and_true] at h
  split at h
  · rename_i x hx; exact ⟨x, hx⟩
  · cases h

theorem sizeOK_spec {j : TI} (h : sizeOK j = true) : 0 < j.size ∧ j.zero.length = j.size ∧ oneAll j.zero = true ∧ j.bytes ≤ 512 := by
  simp only [sizeOK, Bool.and_eq_true, decide_eq_true_eq] at h
  exact ⟨h.1.1.1, h.1.1.2, h.1.2, h.2⟩

theorem outV_need {need : List (Nat × Ent)} {d : D} {cs : List Prop} {orc : Orc} {out : Out} (h : outV need t d cs orc = some out) (hn : Needs (look st) need) : Needs (look st) out.need := by
  cases orc <;> simp [outV] at h <;> subst h <;> exact hn

theorem wr_len {l : List Prop} {p : Prop} (h : allP (l ++ [p])) : p := (allP_append.1 h).2.1

theorem rinOf_need {ρ : List (Nat × Nat)} : ∀ {l : List (Nat × Nat)} {rin : List (Nat × Root)}, rinOf st ρ l = some rin → Needs (look st) (rinNeed (rhoOf ρ) rin)
  | [], rin, h => by simp only [rinOf, Option.some.injEq] at h; subst h; trivial
  | p :: l, rin, h => by
    simp only [rinOf] at h
    split at h
    · rename_i x r h1 h2
      cases h
      exact ⟨h1, rinOf_need h2⟩
    · cases h

theorem rbOf_look : ∀ {B : List Nat} {rB : List (Nat × Root)}, rbOf st B = some rB → ∀ r x, look (rootSt rB) (2 * r + 1) = some (.r x) → look st (2 * r + 1) = some (.r x)
  | [], rB, h, r, x, hx => by simp only [rbOf, Option.some.injEq] at h; subst h; cases hx
  | q :: l, rB, h, r, x, hx => by
    simp only [rbOf] at h
    split at h
    · rename_i x' rs h1 h2
      cases h
      have hx' : (if 2 * r + 1 = 2 * q + 1 then some (Ent.r x') else look (rootSt rs) (2 * r + 1)) = some (.r x) := hx
      by_cases e : r = q
      · subst e
        rw [if_pos rfl] at hx'; cases hx'; exact h1
      · rw [if_neg (by omega)] at hx'; exact rbOf_look h2 r x hx'
    · cases h

theorem rbOf_needs {B : List Nat} {rB : List (Nat × Root)} (h : rbOf st B = some rB) {g : X} : ∀ {l : List Nat}, Needs g (needRoots st l) → Needs g (needRoots (rootSt rB) l)
  | [], _ => trivial
  | r :: l, hn => by
    rw [needRoots, Needs.append] at hn ⊢
    refine ⟨?_, rbOf_needs h hn.2⟩
    unfold needRoot
    split
    · rename_i x hx
      have h1 := rbOf_look h r x hx
      have h2 := hn.1
      simp only [needRoot, h1, Needs] at h2
      exact h2
    · trivial

theorem rbOf_bor {B : List Nat} {rB : List (Nat × Root)} (h : rbOf st B = some rB) {ρ : Nat → Nat} {ds ds' : List D} (hb : BorL (rootSt rB) B ρ ds ds') : BorL st B ρ ds ds' :=
  fun Γ g a w S β Fs hi hn ys hr => hb Γ g a w S β Fs hi (rbOf_needs h hn) ys hr

theorem callOut_ok {fop : Operand} {xs : Array Operand} {ts : Array TypeId} {orc : Orc} {out : Out} {dst : Option Nat} {n : Nat} (hd : o.dst = dst) (hN : ∀ t, dst = some t → t < N) (hN0 : 0 < N) (ho : o.op = .call ⟨.value fop, xs, ts⟩)
    (h : callOut P st fop xs dst n orc = some out) (hc : allP out.conds) :
    OpX P o N out.need out.wr out.fresh ∧ Needs (look st) out.need := by
  unfold callOut at h
  split at h
  · rename_i B ρ args rout res
    split at h
    · rename_i f caps rin rB hf hrin hrB
      split at h
      · rename_i hb
        cases h
        simp only [Bool.and_eq_true, List.isEmpty_iff] at hb
        obtain ⟨⟨⟨⟨⟨b1, b0⟩, b2⟩, b3⟩, b4⟩, b5⟩ := hb
        have b0 : ∀ p ∈ rin, rhoOf ρ p.1 ∉ B := fun p hp hm => by
          have := List.all_eq_true.1 b0 p hp
          simp at this; exact this hm
        obtain ⟨c1, c2, c3, c4, _⟩ := hc
        have c2 := rbOf_bor hrB c2
        refine ⟨?_, by rw [Needs.append, Needs.append, Needs.append]; exact ⟨needs_look, needs_all, rinOf_need hrin, needs_roots⟩⟩
        cases hdd : dst with
        | some t =>
          have := opx_callB (t := t) (n := n) ho (by left; rw [hd, hdd]) (hN t hdd) hf c1 c2 c3 b1 b0 b2 b3 b4 c4
          rw [hd, hdd] at this
          exact this
        | none =>
          rw [hdd] at b5
          have := opx_callB (t := 0) (n := n) ho (by right; rw [hd, hdd]; exact ⟨rfl, by simpa [isNoneB] using b5⟩) hN0 hf c1 c2 c3 b1 b0 b2 b3 b4 c4
          rw [hd, hdd] at this
          exact this
      · cases h
    · cases h
  · cases h

theorem stepOp_ok (hT : TabOk P T) {orc : Orc} {out : Out} (hN : ∀ t, o.dst = some t → t < N) (hN0 : 0 < N) (h : stepOp P T st o orc = some out) (hc : allP out.conds) :
    OpX P o N out.need out.wr out.fresh ∧ Needs (look st) out.need := by
  unfold stepOp at h
  split at h
  · -- move
    rename_i t x hd hop
    exact ⟨outV_ok h hc fun _ => opx_move (.inl hop) hd (hN t hd), outV_need h needs_look⟩
  · rename_i t x hd hop
    exact ⟨outV_ok h hc fun _ => opx_move (.inr hop) hd (hN t hd), outV_need h needs_look⟩
  · rename_i t c x y hd hop
    split at h
    · rename_i b hb
      exact ⟨outV_ok h hc fun _ => opx_pick hop hd (hN t hd) hb, outV_need h (by simp only [Needs.append]; exact ⟨needs_look, needs_look, needs_look⟩)⟩
    · cases h
  · rename_i t x hd hop
    split at h
    · rename_i hb
      simp only [Bool.and_eq_true] at hb
      exact ⟨outV_ok h hc fun _ => opx_nilCheck hop hd (hN t hd) hb.2 hb.1, outV_need h (by rw [Needs.append]; exact ⟨needs_look, needs_roots⟩)⟩
    · cases h
  · rename_i t op s x y _ hd hop
    split at h
    · rename_i d cs hb
      exact ⟨outV_ok h hc fun hcs => opx_bin hop hd (hN t hd) hb hcs, outV_need h (by rw [Needs.append]; exact ⟨needs_look, needs_look⟩)⟩
    · split at h
      · rename_i d cs hb
        exact ⟨outV_ok h hc fun hcs => opx_eq hT hop hd (hN t hd) hb hcs, outV_need h (by rw [Needs.append]; exact ⟨needs_look, needs_look⟩)⟩
      · cases h
  · rename_i t _ x hd hop
    split at h
    · rename_i b hb
      exact ⟨outV_ok h hc fun _ => opx_not hop hd (hN t hd) hb, outV_need h needs_look⟩
    · cases h
  · rename_i t _ x hd hop
    split at h
    · rename_i k n hb
      exact ⟨outV_ok h hc fun _ => opx_neg hop hd (hN t hd) hb, outV_need h needs_look⟩
    · cases h
  · rename_i t s1 s2 x hd hop
    split at h
    · rename_i i1 i2 k n h1 h2 hx
      split at h
      · rename_i k' hk
        exact ⟨outV_ok h hc fun _ => opx_convInt hT hop hd (hN t hd) h1 h2 hk hx, outV_need h needs_look⟩
      · cases h
    · cases h
  · rename_i t s x f hd hop
    split at h
    · rename_i fo hf
      split at h
      · rename_i d hdd
        split at h
        · rename_i hr
          exact ⟨outV_ok h hc fun _ => opx_fieldAddr hT hop hd (hN t hd) hf hdd hr, outV_need h (by rw [Needs.append]; exact ⟨needs_look, needs_roots⟩)⟩
        · cases h
      · cases h
    · cases h
  · rename_i t s x y hd hop
    split at h
    · rename_i sz hf
      split at h
      · rename_i d cs hdd
        split at h
        · rename_i hr
          exact ⟨outV_ok h hc fun hcs => opx_index hT hop hd (hN t hd) hf hdd hcs hr, outV_need h (by simp only [Needs.append]; exact ⟨needs_look, needs_look, needs_roots⟩)⟩
        · cases h
      · cases h
    · cases h
  · rename_i t s x hd hop
    have hn : Needs (look st) (needOf st x ++ needRoots st (dRoot (evD st x))) := by rw [Needs.append]; exact ⟨needs_look, needs_roots⟩
    split at h
    · rename_i i ds off refs hi hs
      split at h
      · rename_i ha
        split at h
        · split at h
          · rename_i hb
            cases h
            simp only [Bool.and_eq_true, beq_iff_eq] at hb
            exact ⟨opx_loadAgg hT hop hd (hN t hd) hi ha hs rfl hb.1.1 hb.1.2 hb.2, hn⟩
          · cases h
        · split at h
          · rename_i ds' hb
            cases h
            simp only [Bool.and_eq_true, beq_iff_eq] at hb
            exact ⟨opx_loadAgg hT hop hd (hN t hd) hi ha hs hc.1 hb.1.1 hb.1.2 hb.2, hn⟩
          · cases h
        · cases h
      · rename_i ha
        have ha' : isAggD i.desc = false := by simpa using ha
        split at h
        · split at h
          · rename_i d hdd
            split at h
            · rename_i hb
              cases h
              simp only [Bool.and_eq_true] at hb
              exact ⟨opx_load hT hop hd (hN t hd) hi ha' hs hdd hb.1 hb.2, hn⟩
            · cases h
          · cases h
        · split at h
          · rename_i d hb
            cases h
            simp only [Bool.and_eq_true] at hb
            exact ⟨opx_load hT hop hd (hN t hd) hi ha' hs hc.1 hb.1 hb.2, hn⟩
          · cases h
        · cases h
    · cases h
  · rename_i s x y hd hop
    split at h
    · rename_i i r off hi hx
      split at h
      · rename_i sz cells refs hl
        split at h
        · rename_i hb
          cases h
          simp only [Bool.and_eq_true, beq_iff_eq] at hb
          exact ⟨opx_store hT hop hd hi hx hl hb.1.1 hb.1.2 hb.2 hc.1, by simp only [Needs.append]; exact ⟨needs_look, needs_look, needs_root, needs_roots⟩⟩
        · cases h
      · cases h
    · cases h
  · rename_i t E hd hop
    split at h
    · rename_i i hi
      split at h
      · rename_i h1
        cases h
        exact ⟨opx_alloc hT hop hd (hN t hd) hi h1, trivial⟩
      · cases h
    · cases h
  · rename_i t E x hd hop
    split at h
    · rename_i hb
      cases h
      simp only [Bool.and_eq_true, Bool.not_eq_true'] at hb
      exact ⟨opx_box hop hd (hN t hd) hb.1.1 hb.1.2 hb.2, by rw [Needs.append]; exact ⟨needs_look, needs_roots⟩⟩
    · cases h
  · rename_i t s parts hd hop
    split at h
    · rename_i i hi
      split at h
      · rename_i pl hp
        split at h
        · rename_i cells hf
          split at h
          · rename_i hb
            simp only [Bool.and_eq_true] at hb
            exact ⟨outV_ok h hc fun _ => opx_build hT hop hd (hN t hd) hi hp hb.1.1 hb.1.2 hb.2 hf, outV_need h needs_parts⟩
          · cases h
        · cases h
      · cases h
    · cases h
  · rename_i t s len parts hd hop
    split at h
    · rename_i i hi
      split at h
      · rename_i E he
        split at h
        · rename_i j hj
          split at h
          · rename_i cells hf
            split at h
            · rename_i hb
              cases h
              simp only [Bool.and_eq_true, Bool.not_eq_true', decide_eq_true_eq] at hb
              obtain ⟨⟨⟨⟨⟨b1, b2⟩, b3⟩, b4⟩, b5⟩, b6⟩ := hb
              obtain ⟨s1, s2, s3, _⟩ := sizeOK_spec b1
              exact ⟨opx_buildSlice hT hop hd (hN t hd) hi he hj s2 s3 s1 b2 b3 b4 hf b5 b6, needs_parts⟩
            · cases h
          · cases h
        · cases h
      · cases h
    · cases h
  · rename_i t s x y hd hop
    split at h
    · rename_i i hi
      split at h
      · rename_i E he
        split at h
        · rename_i j hj
          split at h
          · rename_i n c hx hy
            split at h
            · rename_i hb
              cases h
              obtain ⟨s1, s2, s3, s4⟩ := sizeOK_spec hb
              obtain ⟨c1, c2, c3, _⟩ := hc
              have c3' : c ≤ 274877906944 := c3
              refine ⟨opx_make hT hop hd (hN t hd) hi he hj s2 s3 s1 hx hy c1 c2 (by omega) ?_, by rw [Needs.append]; exact ⟨needs_look, needs_look⟩⟩
              have h1 : (j.bytes : Int) ≤ 512 := by omega
              calc (j.bytes : Int) * c ≤ 512 * c := Int.mul_le_mul_of_nonneg_right h1 (by omega)
                _ ≤ 281474976710656 := by omega
            · cases h
          · cases h
        · cases h
      · cases h
    · cases h
  · rename_i t x ix hd hop
    split at h
    · rename_i ds hx
      split at h
      · rename_i d hdd
        exact ⟨outV_ok h hc fun _ => opx_extract hop hd (hN t hd) hx hdd, outV_need h needs_look⟩
      · cases h
    · cases h
  · rename_i t f first caps hd hop
    split at h
    · rename_i hb
      simp only [Bool.and_eq_true, List.all_eq_true] at hb
      have hfe : first = #[] := by simpa [Array.isEmpty_iff] using hb.1
      subst hfe
      refine ⟨outV_ok h hc fun _ => opx_makeFunc hop hd (hN t hd) (fun x hx => (hb.2 x hx).1) (fun x hx => (hb.2 x hx).2), outV_need h ?_⟩
      rw [Needs.append]
      refine ⟨needs_all, ?_⟩
      generalize caps.toList = l
      clear h hb hop
      induction l with
      | nil => trivial
      | cons x l ih => rw [List.flatMap_cons, Needs.append]; exact ⟨needs_roots, ih⟩
    · cases h
  · rename_i t xs ts hd hop
    split at h
    · rename_i x s hx hs
      split at h
      · rename_i i n hi hl
        split at h
        · rename_i hb
          simp only [Bool.and_eq_true] at hb
          have e1 : xs = #[x] := by apply Array.ext'; simpa using hx
          have e2 : ts = #[s] := by apply Array.ext'; simpa using hs
          subst e1 e2
          exact ⟨outV_ok h hc fun _ => opx_len hT hop hd (hN t hd) hi hb.1 hl hb.2, outV_need h (by rw [Needs.append]; exact ⟨needs_look, needs_roots⟩)⟩
        · cases h
      · cases h
    · cases h
  · rename_i t xs _ hd hop
    split at h
    · rename_i x y hx
      split at h
      · rename_i k m k' n h1 h2
        split at h
        · rename_i hk
          subst hk
          have e1 : xs = #[x, y] := by apply Array.ext'; simpa using hx
          subst e1
          exact ⟨outV_ok h hc fun _ => opx_max2 hop hd (hN t hd) h1 h2, outV_need h (by rw [Needs.append]; exact ⟨needs_look, needs_look⟩)⟩
        · cases h
      · cases h
    · cases h
  · rename_i t xs _ hd hop
    split at h
    · rename_i x y hx
      split at h
      · rename_i k m k' n h1 h2
        split at h
        · rename_i hk
          subst hk
          have e1 : xs = #[x, y] := by apply Array.ext'; simpa using hx
          subst e1
          exact ⟨outV_ok h hc fun _ => opx_min2 hop hd (hN t hd) h1 h2, outV_need h (by rw [Needs.append]; exact ⟨needs_look, needs_look⟩)⟩
        · cases h
      · cases h
    · cases h
  · rename_i t xs ts hd hop
    split at h
    · rename_i mv x y s s' hx hs
      split at h
      · rename_i i hi
        split at h
        · rename_i E he
          split at h
          · rename_i j hj
            split at h
            · rename_i cells refs r n news refs2 q m h1 h2
              split at h
              · rename_i hb
                cases h
                simp only [Bool.and_eq_true, Bool.not_eq_true', beq_iff_eq] at hb
                obtain ⟨⟨⟨⟨b1, b2⟩, b3⟩, b4⟩, b5⟩ := hb
                subst b1
                obtain ⟨s1, s2, s3, s4⟩ := sizeOK_spec b2
                have e1 : xs = #[x, y] := by apply Array.ext'; simpa using hx
                have e2 : ts = #[s, s] := by apply Array.ext'; simpa using hs
                subst e1 e2
                obtain ⟨c1, c2, c3, c4⟩ := hc
                refine ⟨opx_append hT hop hd (hN t hd) hi he hj s1 s2 s4 h1 h2 c1 c2 ?_ ?_ c3 b3 b4, by simp only [Needs.append]; exact ⟨needs_look, needs_look, needs_roots, needs_roots⟩⟩
                · rintro rfl
                  by_cases hsl : ∃ n off ds, evD st y = .sl n off ds
                  · exact .inr hsl
                  · left
                    have c4' : allP (srcConds none (evD st y) news) := c4
                    generalize evD st y = dy at c4' hsl
                    cases dy <;> first | exact c4'.1 | exact absurd ⟨_, _, _, rfl⟩ hsl
                · rintro k rfl hq
                  subst hq
                  simp [neOpt] at b5
              · cases h
            · cases h
          · cases h
        · cases h
      · cases h
    · cases h
  · rename_i fop xs ts hop
    cases hd : o.dst with
    | some t => rw [hd] at h; exact callOut_ok hd (fun t' e => hN t' (by rw [hd, e])) hN0 hop h hc
    | none => rw [hd] at h; exact callOut_ok hd (fun t' e => by cases e) hN0 hop h hc
  · cases h
end
end Go.Gx
