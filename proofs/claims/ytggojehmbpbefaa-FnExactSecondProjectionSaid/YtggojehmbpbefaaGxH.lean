/- Stores and appends. -/
import Derived.Test.YtggojehmbpbefaaGxG
import Derived.Laws.AppendOwn
namespace Go.Gx

section
variable {Γ : Ctx} {g : X} {a : Act} {w w' : World} {S : Nat → Prop} {β : Beta} {Fs : Nat → List Nat}

/-- One owned block is written: the root takes new contents. -/
theorem Inv.setRoot {r b : Nat} {x : Root} {F : List Nat} (h : Inv Γ g a w S β Fs) (hw : ∀ q, q ≠ b → w'.heap[q]? = w.heap[q]?) (hsz : w'.heap.size = w.heap.size)
    (hos : w'.os = w.os) (htp : w'.tape = w.tape) (hout : w'.output = w.output) (hb : b ∈ Fs r) (hx : RootRep w' S β x (β r) F) (hsub : ∀ q ∈ F, q ∈ Fs r) (hn : F.Nodup) :
    Inv Γ (upd g [(2 * r + 1, some (.r x))]) a w' S β (setF Fs r F) := by
  have hbS : ¬ S b := (h.own r b hb).1
  have hS : ∀ q, S q → w'.heap[q]? = w.heap[q]? := fun q hq => hw q (by rintro rfl; exact hbS hq)
  have hF : ∀ r', r' ≠ r → ∀ q ∈ Fs r', w'.heap[q]? = w.heap[q]? := fun r' hr q hq => hw q (by rintro rfl; exact h.disj r' r hr q hq hb)
  exact {
    defers := h.defers
    size := h.size
    slots := fun t d ht => by
      rw [upd_one, if_neg (by omega)] at ht
      exact Rep.mono hS (fun _ h => h) d β _ [] (by simp) (h.slots t d ht)
    roots := fun q z hq => by
      rw [upd_one] at hq
      by_cases e : q = r
      · subst e; simp at hq; subst hq; simpa [setF] using hx
      · rw [if_neg (by omega)] at hq
        simp only [setF, if_neg e]
        exact RootRep.mono hS (fun _ h => h) (hF q e) (h.roots q z hq)
    noroot := fun q hq => by
      by_cases e : q = r
      · subst e; exact absurd (by rw [upd_one, if_pos rfl]) (hq x)
      · simp only [setF, if_neg e]
        exact h.noroot q (fun z hz => hq z (by rw [upd_one, if_neg (by omega)]; exact hz))
    nodup := fun q => by unfold setF; split; exact hn; exact h.nodup q
    disj := fun q q' hne c hc hc' => by
      unfold setF at hc hc'
      split at hc <;> split at hc'
      · omega
      · rename_i e e'; subst e; exact h.disj q q' hne c (hsub c hc) hc'
      · rename_i e e'; subst e'; exact h.disj q q' hne c hc (hsub c hc')
      · exact h.disj q q' hne c hc hc'
    own := fun q c hc => by
      unfold setF at hc
      rw [hsz]
      split at hc
      · rename_i e; subst e; exact h.own q c (hsub c hc)
      · exact h.own q c hc
    s0 := h.s0
    sOk := fun c hc => by rw [hsz]; exact h.sOk c hc
    ext := ⟨hos.trans h.ext.os, htp.trans h.ext.tape, hout.trans h.ext.output, by rw [hsz]; exact h.ext.size,
      fun c hc hn => (hw c (by
        rintro rfl
        rcases (h.own r c hb).2.2 with h1 | h1
        · exact hn h1
        · omega)).trans (h.ext.kept c hc hn)⟩
    fix := h.fix }

/-- A root is given up. -/
theorem Inv.dropRoot {r : Nat} (h : Inv Γ g a w S β Fs) : Inv Γ (upd g [(2 * r + 1, none)]) a w S β (setF Fs r []) where
  defers := h.defers
  size := h.size
  slots := fun t d ht => by
    rw [upd_one, if_neg (by omega)] at ht
    exact h.slots t d ht
  roots := fun q z hq => by
    rw [upd_one] at hq
    by_cases e : q = r
    · subst e; simp at hq
    · rw [if_neg (by omega)] at hq
      simp only [setF, if_neg e]
      exact h.roots q z hq
  noroot := fun q hq => by
    by_cases e : q = r
    · subst e; simp [setF]
    · simp only [setF, if_neg e]
      exact h.noroot q (fun z hz => hq z (by rw [upd_one, if_neg (by omega)]; exact hz))
  nodup := fun q => by unfold setF; split; exact List.nodup_nil; exact h.nodup q
  disj := fun q q' hne c hc hc' => by
    unfold setF at hc hc'
    split at hc <;> split at hc' <;> simp_all
    exact h.disj q q' hne c hc hc'
  own := fun q c hc => by
    unfold setF at hc
    split at hc
    · simp at hc
    · exact h.own q c hc
  s0 := h.s0
  sOk := h.sOk
  ext := h.ext
  fix := h.fix
end

theorem res_more {β : Beta} {old : List D} {refs more : List Nat} (h : ∀ m ∈ menL old, refs.contains m = true) : ∀ m ∈ menL old, (β.res (refs ++ more)) m = (β.res refs) m := by
  intro m hm
  have := h m hm
  unfold Beta.res
  rw [if_pos this, if_pos (by simp at this ⊢; exact .inl this)]

theorem menL_append : ∀ (a b : List D), menL (a ++ b) = menL a ++ menL b
  | [], _ => rfl
  | d :: a, b => by simp [menL, menL_append a b]

theorem menL_take_sub (ds : List D) (n : Nat) : ∀ m ∈ menL (ds.take n), m ∈ menL ds := by
  intro m hm
  have : menL ds = menL (ds.take n) ++ menL (ds.drop n) := by rw [← menL_append, List.take_append_drop]
  rw [this]; simp [hm]
theorem menL_drop_sub (ds : List D) (n : Nat) : ∀ m ∈ menL (ds.drop n), m ∈ menL ds := by
  intro m hm
  have : menL ds = menL (ds.take n) ++ menL (ds.drop n) := by rw [← menL_append, List.take_append_drop]
  rw [this]; simp [hm]

/-- A part of the cells is written over. -/
theorem RepL_splice {w : World} {S : Nat → Prop} {β : Beta} {ds news : List D} {ys vs : List Value} {F : List Nat} {off : Nat} (h : RepL w S ds β ys F) (hn : RepL w S news β vs []) (hle : off + news.length ≤ ds.length) :
    ∃ Fa Fb Fc, F = Fa ++ Fb ++ Fc ∧ RepL w S (ds.take off ++ news ++ ds.drop (off + news.length)) β (ys.take off ++ vs ++ ys.drop (off + news.length)) (Fa ++ Fc) := by
  have e : ds = ds.take off ++ ((ds.drop off).take news.length ++ ds.drop (off + news.length)) := by
    rw [← List.drop_drop, List.take_append_drop, List.take_append_drop]
  have hly := RepL_length h
  rw [e] at h
  obtain ⟨ya, y2, Fa, F2, rfl, rfl, h1, h2⟩ := RepL_append h
  obtain ⟨yb, yc, Fb, Fc, rfl, rfl, h3, h4⟩ := RepL_append h2
  have l1 := RepL_length h1
  have l3 := RepL_length h3
  have l4 := RepL_length h4
  simp at l1 l3 l4
  refine ⟨Fa, Fb, Fc, by simp, ?_⟩
  have e1 : (ya ++ (yb ++ yc)).take off = ya := by
    have : ya.length = off := by omega
    rw [← this, List.take_left]
  have e2 : (ya ++ (yb ++ yc)).drop (off + news.length) = yc := by
    have : (ya ++ yb).length = off + news.length := by simp; omega
    rw [← this, ← List.append_assoc, List.drop_left]
  rw [e1, e2]
  have := RepL_append_mk (RepL_append_mk h1 hn) h4
  simpa using this

theorem RepL.oneCell {w : World} {S : Nat → Prop} {β : Beta} : ∀ {ds : List D} {ys : List Value} {F : List Nat}, RepL w S ds β ys F → ∀ y ∈ ys, y.oneCell' = true
  | [], _, _, h, y, hy => by unfold RepL at h; rw [h.1] at hy; simp at hy
  | d :: ds, _, _, h, y, hy => by
    unfold RepL at h
    obtain ⟨y', ys', F1, F2, rfl, rfl, h0, _, h2⟩ := h
    rcases List.mem_cons.1 hy with rfl | hy
    · exact h0
    · exact RepL.oneCell h2 y hy

section
variable {P : Program} {o : Oper} {N t : Nat} {st : St} {T : Tab}

theorem opx_store (hT : TabOk P T) {s : TypeId} {i : TI} {x y : Operand} {r off sz : Nat} {cells : List D} {refs : List Nat} (ho : o.op = .store s x y) (hd : o.dst = none)
    (hs : T.get s = some i) (hx : evD st x = .rp r off) (hl : look st (2 * r + 1) = some (.r (.arr sz cells refs)))
    (hc : (dCells (evD st y)).all D.cellish = true) (hr : hasRoots st (menL (dCells (evD st y))) = true) (hn : (dCells (evD st y)).length = i.size) (hle : off + i.size ≤ cells.length) :
    OpX P o N (needOf st x ++ (needOf st y ++ (needRoot st r ++ needRoots st (menL (dCells (evD st y))))))
      [(2 * r + 1, some (.r (.arr sz (cells.take off ++ dCells (evD st y) ++ cells.drop (off + i.size)) (refs ++ menL (dCells (evD st y))))))] [] := by
  intro Γ hN g a w K Q hsat hneed _ hK
  obtain ⟨S, β, Fs, hi⟩ := hsat
  simp only [Needs.append] at hneed
  obtain ⟨n1, n2, n3, n4⟩ := hneed
  have e1 := hi.eval n1
  rw [hx] at e1
  simp only [needRoot, hl, Needs] at n3
  have hroot := hi.roots r _ n3.1
  obtain ⟨vs, ecells, hvs⟩ := cells_rep (hi.eval n2) hc (hi.root_known hr n4)
  unfold Rep at e1
  cases eb : β r with
  | none => rw [eb] at hroot; exact hroot.ne.elim
  | nil => rw [eb] at e1; exact e1.2.elim
  | blk b o' sz' m =>
    rw [eb] at e1 hroot
    obtain ⟨rfl, pre, ys, rest, E, F', h1, h2, h3, hF, h5, h6⟩ := hroot
    have hly := RepL_length h5
    have hlv := RepL_length hvs
    have hbF : b ∈ Fs r := by rw [hF]; simp
    have hst := run_storeCells_at P b (o' + off) E vs 0 (pre ++ ys ++ rest).toArray w h1 (by simp; omega) (RepL.oneCell hvs)
    have hrun : (execOp a.eval o).run P w = .ok .skip (w.setRow b (pre ++ (ys.take off ++ vs ++ ys.drop (off + i.size)) ++ rest).toArray) := by
      simp only [execOp, ho, e1.2]
      simp only [Instr.storeAt, Instr.sureAddr, storeVar, Sem.run_bind, Sem.run_pure, Result.andThen_ok, (hT.get hs).size, ecells, List.size_toArray, hlv, hn, ne_eq, not_true_eq_false, if_false, hst]
      congr 3
      simp only [Nat.add_zero]
      have hpl : (pre ++ ys ++ rest).take (o' + off) = pre ++ ys.take off := by
        rw [List.append_assoc, ← h3, List.take_length_add_append, List.take_append_of_le_length (by omega)]
      have hdl : (pre ++ ys ++ rest).drop (o' + off + i.size) = ys.drop (off + i.size) ++ rest := by
        rw [List.append_assoc, ← h3, Nat.add_assoc, List.drop_length_add_append, List.drop_append_of_le_length (by omega)]
      rw [hpl, hdl]
      simp
    unfold Oper.wp
    rw [hrun]
    show K (a.put o.dst undef) _
    rw [hd]
    · have hold := RepL.beta cells ys F' (res_more (β := β) (more := menL (dCells (evD st y))) h6) h5
      have hnew : RepL w S (dCells (evD st y)) (β.res (refs ++ menL (dCells (evD st y)))) vs [] := hvs.toRes (List.all_eq_true.2 fun m hm => by simp [hm])
      obtain ⟨Fa, Fb, Fc, eF, hsp⟩ := RepL_splice hold hnew (by rw [hn]; exact hle)
      rw [hn] at hsp
      have hnd := hi.nodup r
      rw [hF, eF] at hnd
      have hne : ∀ q ∈ Fa ++ Fc, q ≠ b := by
        intro q hq e
        subst e
        simp at hnd hq
        rcases hq with h | h <;> simp_all
      have hw : ∀ q, q ≠ b → (w.setRow b (pre ++ (ys.take off ++ vs ++ ys.drop (off + i.size)) ++ rest).toArray).heap[q]? = w.heap[q]? := fun q hq => setRow_other w b q _ hq
      refine hK _ _ ⟨S, β, _, hi.setRoot (F := b :: (Fa ++ Fc)) hw (by simp) rfl rfl rfl hbF ?_ ?_ ?_⟩
      · rw [eb]
        refine ⟨rfl, pre, _, rest, E, _, setRow_heap w b _ _ E (0, 0) h1, ?_, h3, rfl, ?_, ?_⟩
        · rw [h2]; simp; omega
        · refine RepL.mono (fun q hq => hw q ?_) (fun _ h => h) _ _ _ _ (fun q hq => hw q (hne q hq)) hsp
          rintro rfl; exact (hi.own r q hbF).1 hq
        · intro m hm
          simp only [menL_append, List.mem_append] at hm
          simp only [List.contains_iff_mem, List.mem_append]
          rcases hm with (hm | hm) | hm
          · exact .inl (by simpa using h6 m (menL_take_sub _ _ m hm))
          · exact .inr hm
          · exact .inl (by simpa using h6 m (menL_drop_sub _ _ m hm))
      · intro q hq
        rw [hF, eF]
        simp at hq ⊢
        rcases hq with h | h | h <;> simp [h]
      · exact List.Nodup.sublist (List.Sublist.cons_cons b (by rw [List.append_assoc]; exact List.Sublist.append (List.Sublist.refl _) (List.sublist_append_right _ _))) hnd
end
end Go.Gx
