/- append: the rule. -/
import Derived.Test.YtggojehmbpbefaaGxI
namespace Go.Gx

def lim : Nat := 274877906944

section
variable {Γ : Ctx} {g : X} {a : Act} {w w' : World} {S : Nat → Prop} {β : Beta} {Fs : Nat → List Nat}

/-- The roots r (of the slice) and q (of what is appended) are given up. -/
theorem Inv.dropKeys (h : Inv Γ g a w S β Fs) (r : Option Nat) : ∃ Fs', Inv Γ (upd g (dropKeys r)) a w S β Fs' ∧ (∀ k b, b ∈ Fs' k → b ∈ Fs k) ∧ ∀ k, r = some k → Fs' k = [] := by
  cases r with
  | none => exact ⟨Fs, h, fun _ _ h => h, fun _ h => by cases h⟩
  | some k =>
    refine ⟨_, h.dropRoot, fun q b hb => ?_, fun q hq => ?_⟩
    · unfold setF at hb; split at hb
      · simp at hb
      · exact hb
    · cases hq; simp [setF]

theorem FreshName.dropKeys {r : Nat} {q : Option Nat} (h : FreshName g r) : FreshName (upd g (Gx.dropKeys q)) r := by
  cases q with
  | none => exact h
  | some k => exact h.drop

theorem upd_append (g : X) : ∀ (l l' : Wr), upd g (l ++ l') = upd (upd g l') l
  | [], _ => rfl
  | (k, e) :: l, l' => by
    funext q
    show (if q = k then e else upd g (l ++ l') q) = if q = k then e else upd (upd g l') l q
    rw [upd_append g l l']

/-- The slice that is appended to. -/
theorem to_rep (hi : Inv Γ g a w S β Fs) {st : St} {sz n : Nat} {d : D} {y : Value} {cells : List D} {refs : List Nat} {r : Option Nat}
    (h : Rep w S d β y []) (hs : appTo st sz d = some (cells, refs, r, n)) (hlen : cells.length = n * sz) (hn : Needs g (needRoots st (dRoot d))) :
    (cells = [] ∧ n = 0 ∧ y = .slice .none 0 0) ∨
    ∃ k b o cap pre ys rest E F, r = some k ∧ y = .slice (some ⟨b, o, .none⟩) n cap ∧ n ≤ cap ∧ o + cap * sz ≤ (pre ++ ys ++ rest).length ∧ w.heap[b]? = some (.cells (pre ++ ys ++ rest).toArray E (0, 0)) ∧
      pre.length = o ∧ Fs k = b :: F ∧ RepL w S cells (β.res refs) ys F ∧ (∀ m ∈ menL cells, refs.contains m = true) ∧ ys.length = n * sz := by
  unfold appTo at hs
  split at hs
  · rename_i k n'
    split at hs
    · rename_i sz' cells' refs' hl
      split at hs
      · rename_i hsz; subst hsz
        simp at hs
        obtain ⟨rfl, rfl, rfl, rfl⟩ := hs
        simp only [dRoot, needRoots, needRoot, hl, List.append_nil, Needs] at hn
        have hr := hi.roots k _ hn.1
        unfold Rep at h
        cases eb : β k with
        | none => rw [eb] at hr; exact hr.ne.elim
        | nil =>
          rw [eb] at h hr
          obtain ⟨_, rfl, _, rfl⟩ := h
          obtain ⟨rfl, hF⟩ := hr
          exact .inl ⟨rfl, rfl, rfl⟩
        | blk b o' sz2 m2 =>
          rw [eb] at h hr
          obtain ⟨_, cap, rfl, h1, h2⟩ := h
          obtain ⟨rfl, pre, ys, rest, E, F', k1, k2, k3, hF, k5, k6⟩ := hr
          exact .inr ⟨k, b, o', cap, pre, ys, rest, E, F', rfl, rfl, h1, by rw [← k2]; simpa using h2, k1, k3, hF, k5, k6, by rw [RepL_length k5, hlen]⟩
      · cases hs
    · cases hs
  · simp at hs
    obtain ⟨rfl, rfl, rfl, rfl⟩ := hs
    rw [Rep_v] at h
    exact .inl ⟨rfl, rfl, h.1⟩
  · cases hs
end

def dropAll (r q : Option Nat) : Wr := dropKeys r ++ dropKeys q

section
variable {P : Program} {o : Oper} {N t : Nat} {st : St} {T : Tab}

theorem fresh_refs {g : X} {k sz : Nat} {cells : List D} {refs : List Nat} (h : FreshName g t) (hg : g (2 * k + 1) = some (.r (.arr sz cells refs))) : refs.contains t = false := by
  have := (h _ _ hg).2
  simpa [Ent.names] using this

theorem opx_append (hT : TabOk P T) {u : Nat} {s E : TypeId} {i j : TI} {x y : Operand} {mv : Bool} {cells news : List D} {refs refs2 : List Nat} {r q : Option Nat} {n m : Nat}
    (ho : o.op = .call ⟨.builtin .append, #[x, y], #[s, s]⟩) (hd : o.dst = some t) (ht : t < N)
    (hs : T.get s = some i) (he : i.desc = .slice E) (hj : T.get E = some j) (hsz : 0 < j.size) (hz : j.zero.length = j.size) (hby : j.bytes ≤ 512)
    (hx : appTo st j.size (evD st x) = some (cells, refs, r, n)) (hy : appSrc st j.size mv (evD st y) = some (news, refs2, q, m))
    (hl1 : cells.length = n * j.size) (hl2 : news.length = m * j.size) (hf : q = none → noFrL news = true ∨ ∃ n off ds, evD st y = .sl n off ds)
    (hrq : ∀ k, r = some k → q ≠ some k) (hbig : n + m ≤ lim) (hr1 : refs.contains u = false) (hr2 : refs2.contains u = false) :
    OpX P o N (needOf st x ++ (needOf st y ++ (needRoots st (dRoot (evD st x)) ++ needRoots st (dRoot (evD st y)))))
      ([(2 * t, some (.d (.rs u 0 (n + m)))), (2 * u + 1, some (.r (.arr j.size (cells ++ news) (refs ++ refs2))))] ++ dropAll r q) [u] := by
  intro Γ hN g a w K Q hsat hneed hfr hK
  obtain ⟨S, β, Fs, hi⟩ := hsat
  simp only [Needs.append] at hneed
  obtain ⟨n1, n2, n3, n4⟩ := hneed
  obtain ⟨nv, Fn, hsrc, hnews, hmn, hnd, hown⟩ := src_rep hi (hi.eval n2) hy hl2 hf n4
  have hto := to_rep hi (hi.eval n1) hx hl1 n3
  obtain ⟨hu, _⟩ := hT.get hs
  rw [he] at hu
  obtain ⟨_, inf, z, e1, e2, e3, e4, e5⟩ := hT.get hj
  have hlimn : n + m ≤ 274877906944 := hbig
  have hbytes : (n + m) * inf.bytes ≤ 140737488355328 := by
    rw [e3]; calc (n + m) * j.bytes ≤ 274877906944 * 512 := Nat.mul_le_mul hlimn hby
      _ = 140737488355328 := by decide
  have hsrc' : Src w inf.size m nv (a.eval y) := by rw [e2]; exact hsrc
  have hnp := (hfr u (by simp)).1
  have hft := (hfr u (by simp)).2
  -- what remains when both roots are given up
  obtain ⟨F1, i1, s1, z1⟩ := hi.dropKeys q
  obtain ⟨F2, i2, s2, z2⟩ := i1.dropKeys r
  have hft2 : FreshName (upd (upd g (dropKeys q)) (dropKeys r)) u := hft.dropKeys.dropKeys
  have hFn : ∀ c ∈ Fn, ¬ S c ∧ c < w.heap.size ∧ (Γ.F0 c ∨ Γ.w0.heap.size ≤ c) ∧ ∀ k, c ∉ F2 k := by
    intro c hc
    cases q with
    | none => rw [srcOwn] at hown; rw [hown] at hc; cases hc
    | some k =>
      have h1 := hi.own k c (hown.2 c hc)
      refine ⟨h1.1, h1.2.1, h1.2.2, fun k' hk' => ?_⟩
      have h2 := s2 k' c hk'
      by_cases e : k' = k
      · subst e; rw [z1 _ rfl] at h2; cases h2
      · exact hi.disj k' k e c (s1 k' c h2) (hown.2 c hc)
  have fin : ∀ (w' : World) (b o' cap : Nat) (pre ys rest : List Value) (E' : TypeId) (F : List Nat), Inv Γ (upd (upd g (dropKeys q)) (dropKeys r)) a w' S β F2 →
      w'.heap[b]? = some (.cells (pre ++ ys ++ rest).toArray E' (0, 0)) → pre.length = o' → n + m ≤ cap → o' + cap * j.size ≤ (pre ++ ys ++ rest).length →
      RepL w' S (cells ++ news) (β.res (refs ++ refs2)) ys F → (b :: F).Nodup → (∀ c ∈ b :: F, ¬ S c ∧ c < w'.heap.size ∧ (Γ.F0 c ∨ Γ.w0.heap.size ≤ c) ∧ ∀ k, c ∉ F2 k) →
      (∀ m ∈ menL (cells ++ news), (refs ++ refs2).contains m = true) →
      K (a.put o.dst (.slice (some ⟨b, o', .none⟩) (n + m) cap)) w' := by
    intro w' b o' cap pre ys rest E' F hinv hb hpre hcap hfit hrep hnod hF hmen
    rw [hd]
    have hrefs : (refs ++ refs2).contains u = false := by
      simp only [List.contains_eq_mem, List.mem_append, decide_eq_false_iff_not] at hr1 hr2 ⊢
      rintro (h | h)
      · exact hr1 h
      · exact hr2 h
    have h2 := hinv.newRoot (x := .arr j.size (cells ++ news) (refs ++ refs2)) (rb := .blk b o' j.size (pre ++ ys ++ rest).length) hnp hft2
      ⟨rfl, pre, ys, rest, E', F, hb, rfl, hpre, rfl, by rw [res_setB hrefs]; exact hrep, hmen⟩ hnod hF
    have h3 := h2.put (t := t) (d := .rs u 0 (n + m)) (y := .slice (some ⟨b, o', .none⟩) (n + m) cap) (by omega) (by
      unfold Rep
      refine ⟨rfl, ?_⟩
      simp only [setB, if_true]
      exact ⟨cap, rfl, hcap, by simpa using hfit⟩)
    exact hK _ _ (by
      rw [upd_append, dropAll, upd_append, upd_cons]
      exact ⟨S, _, _, h3⟩)
  have hmen : (∀ m ∈ menL cells, refs.contains m = true) → ∀ m ∈ menL (cells ++ news), (refs ++ refs2).contains m = true := by
    intro h m hm
    rw [menL_append] at hm
    simp only [List.contains_iff_mem, List.mem_append] at *
    rcases hm with hm | hm
    · exact .inl (by simpa using h m hm)
    · exact .inr (by simpa using hmn m hm)
  have hrenews : RepL w S news (β.res (refs ++ refs2)) nv Fn := RepL.beta news nv Fn (fun mm hm => by
    have := hmn mm hm
    unfold Beta.res
    rw [if_pos this, if_pos (by simp at this ⊢; exact .inr this)]) hnews
  have hnew : ∀ c, c = w.heap.size → ¬ S c ∧ (Γ.F0 c ∨ Γ.w0.heap.size ≤ c) ∧ ∀ k, c ∉ F2 k := by
    rintro c rfl
    exact ⟨fun hs => Nat.lt_irrefl _ (hi.sOk _ hs).1, .inr hi.ext.size, fun k hk => Nat.lt_irrefl _ (i2.own k _ hk).2.1⟩
  -- the grown block
  have grow : ∀ (ov : List Value) (Fo : List Nat), RepL w S cells (β.res (refs ++ refs2)) ov Fo → (∀ m ∈ menL cells, refs.contains m = true) → Fo.Nodup → (∀ c ∈ Fo, ∀ c' ∈ Fn, c ≠ c') →
      (∀ c ∈ Fo, ¬ S c ∧ c < w.heap.size ∧ (Γ.F0 c ∨ Γ.w0.heap.size ≤ c) ∧ ∀ k, c ∉ F2 k) → ov.length = n * j.size → ∀ cap,
      K (a.put o.dst (.slice (some ⟨w.heap.size, 0, .none⟩) (n + m) (grownCap w (n + m) cap E))) (w.drew.alloc (.cells (ov ++ nv ++ (Builtin.zeroCells z.cells (grownCap w (n + m) cap E - (n + m))).toList).toArray E)) := by
    intro ov Fo hov hmc hndo hdis hFo hlo cap
    have hx2 := (ext_drew w).trans (ext_alloc w.drew (.cells (ov ++ nv ++ (Builtin.zeroCells z.cells (grownCap w (n + m) cap E - (n + m))).toList).toArray E))
    have hge := grownCap_ge w (n + m) cap E
    have hzs : z.cells.size = j.size := by have := congrArg List.length e5; simpa [hz] using this
    have mono : ∀ {ds : List D} {vs : List Value} {F : List Nat}, (∀ c ∈ F, c < w.heap.size) → RepL w S ds (β.res (refs ++ refs2)) vs F →
        RepL (w.drew.alloc (.cells (ov ++ nv ++ (Builtin.zeroCells z.cells (grownCap w (n + m) cap E - (n + m))).toList).toArray E)) S ds (β.res (refs ++ refs2)) vs F := fun hF h =>
      RepL.mono (fun c hc => hx2.kept c (hi.sOk c hc).1 id) (fun _ h => h) _ _ _ _ (fun c hc => hx2.kept c (hF c hc) id) h
    refine fin _ w.heap.size 0 _ [] (ov ++ nv) _ E (Fo ++ Fn) (i2.world hx2) (by simpa using alloc_new w.drew _) rfl hge ?_ (RepL_append_mk (mono (fun c hc => (hFo c hc).2.1) hov) (mono (fun c hc => (hFn c hc).2.1) hrenews)) ?_ ?_ (hmen hmc)
    · simp only [Nat.zero_add, List.nil_append, List.length_append, Array.length_toList, size_zeroCells, hzs, hlo, RepL_length hnews, hl2, ← Nat.add_mul]
      exact Nat.mul_le_mul_right _ (by omega)
    · refine List.nodup_cons.2 ⟨fun hm => ?_, List.nodup_append.2 ⟨hndo, hnd, hdis⟩⟩
      rcases List.mem_append.1 hm with h | h
      · exact Nat.lt_irrefl _ (hFo _ h).2.1
      · exact Nat.lt_irrefl _ (hFn _ h).2.1
    · intro c hc
      rcases List.mem_cons.1 hc with rfl | hc
      · exact ⟨(hnew _ rfl).1, by simp, (hnew _ rfl).2⟩
      · rcases List.mem_append.1 hc with h | h
        · exact ⟨(hFo c h).1, by have := (hFo c h).2.1; simp; omega, (hFo c h).2.2⟩
        · exact ⟨(hFn c h).1, by have := (hFn c h).2.1; simp; omega, (hFn c h).2.2⟩
  unfold Oper.wp
  have run : ∀ res, (Builtin.append_ #[s, s] o.type #[a.eval x, a.eval y]).run P w = res → (execOp a.eval o).run P w = res.andThen fun v w' => .ok (.value v) w' := by
    intro res hres
    simp only [execOp, ho, resolve, invoke, builtin, Sem.run_bind, Sem.run_pure, Result.andThen_ok, List.map_toArray, List.map_cons, List.map_nil, hres]
  rcases hto with ⟨rfl, rfl, hyv⟩ | ⟨k, b, o', cap, pre, ys, rest, E', F, rfl, hyv, hcap, hfit, hb, hpre, hFk, hcells, hmc, hly⟩
  · by_cases hm0 : m = 0
    · subst hm0
      have hnv : nv = [] := List.eq_nil_of_length_eq_zero (by rw [RepL_length hnews, hl2]; simp)
      have hnw : news = [] := List.eq_nil_of_length_eq_zero (by rw [hl2]; simp)
      subst hnv hnw
      have hrr := run_append_none' (ty := o.type) hu e1 hsrc'
      rw [← hyv] at hrr
      rw [run _ hrr, hyv]
      show K (a.put o.dst (.slice .none 0 0)) w
      rw [hd]
      have hrefs : (refs ++ refs2).contains u = false := by
        simp only [List.contains_eq_mem, List.mem_append, decide_eq_false_iff_not] at hr1 hr2 ⊢
        rintro (h | h)
        · exact hr1 h
        · exact hr2 h
      have h2 := i2.newRoot (x := .arr j.size ([] ++ []) (refs ++ refs2)) (rb := .nil) (F := []) hnp hft2 ⟨rfl, rfl⟩ List.nodup_nil (by simp)
      have h3 := h2.put (t := t) (d := .rs u 0 (0 + 0)) (y := .slice .none 0 0) (by omega) (by
        unfold Rep
        simp [setB])
      exact hK _ _ (by
        rw [upd_append, dropAll, upd_append, upd_cons]
        exact ⟨S, _, _, h3⟩)
    · have hrr := run_append_grow' (ty := o.type) (b := .none) (n := 0) (cap := 0) hu e1 e4 (ov := []) ⟨_, _, rfl, by simp, .inl rfl⟩ hsrc' (by omega) (by omega) (growslice_fits (by omega) hbytes)
      rw [← hyv] at hrr
      rw [run _ hrr]
      exact grow [] [] RepL_nil (by simp [menL]) List.nodup_nil (by simp) (by simp) (by simp) 0
  · have hold : RepL w S cells (β.res (refs ++ refs2)) ys F := RepL.beta cells ys F (res_more (β := β) (more := refs2) hmc) hcells
    have hbF : b ∈ Fs k := by rw [hFk]; simp
    have hFo : ∀ c ∈ b :: F, ¬ S c ∧ c < w.heap.size ∧ (Γ.F0 c ∨ Γ.w0.heap.size ≤ c) ∧ ∀ k, c ∉ F2 k := by
      intro c hc
      have hcF : c ∈ Fs k := by rw [hFk]; exact hc
      have h1 := hi.own k c hcF
      refine ⟨h1.1, h1.2.1, h1.2.2, fun k' hk' => ?_⟩
      by_cases e : k' = k
      · subst e; rw [z2 _ rfl] at hk'; cases hk'
      · exact hi.disj k' k e c (s1 k' c (s2 k' c hk')) hcF
    have hdis : ∀ c ∈ b :: F, ∀ c' ∈ Fn, c ≠ c' := by
      rintro c hc c' hc' rfl
      cases q with
      | none => rw [srcOwn] at hown; rw [hown] at hc'; cases hc'
      | some k' =>
        have hne : k ≠ k' := fun e => hrq k rfl (by rw [e])
        exact hi.disj k k' hne c (by rw [hFk]; exact hc) (hown.2 c hc')
    have hndF := hi.nodup k
    rw [hFk] at hndF
    by_cases hroom : n + m ≤ cap
    · have hlv : nv.length = m * j.size := by rw [RepL_length hnews, hl2]
      have hfit2 : o' + n * inf.size + nv.length ≤ (pre ++ ys ++ rest).toArray.size := by
        rw [e2, hlv]
        have : (n + m) * j.size ≤ cap * j.size := Nat.mul_le_mul_right _ hroom
        rw [Nat.add_mul] at this
        simp at hfit ⊢; omega
      have hr := run_append_room' (ty := o.type) hu e1 hb hsrc' (RepL.oneCell hnews) hroom hfit2
      rw [← hyv] at hr
      rw [run _ hr]
      have econt : ((pre ++ ys ++ rest).toArray.toList.take (o' + n * inf.size) ++ nv ++ (pre ++ ys ++ rest).toArray.toList.drop (o' + n * inf.size + nv.length)) = pre ++ (ys ++ nv) ++ rest.drop nv.length := by
        have h1 : o' + n * inf.size = (pre ++ ys).length := by rw [e2]; simp; omega
        simp only [h1, List.take_left]
        rw [show (pre ++ ys).length + nv.length = (pre ++ ys).length + nv.length from rfl, List.drop_length_add_append]
        simp
      show K (a.put o.dst (.slice (some ⟨b, o', .none⟩) (n + m) cap)) _
      rw [econt]
      have hw : ∀ c, c ≠ b → (w.setRow b (pre ++ (ys ++ nv) ++ rest.drop nv.length).toArray).heap[c]? = w.heap[c]? := fun c hc => setRow_other w b c _ hc
      have hi3 := i2.freeWrite (w' := w.setRow b (pre ++ (ys ++ nv) ++ rest.drop nv.length).toArray) hw (by simp) rfl rfl rfl (hFo b (by simp)).1 (hFo b (by simp)).2.2.2 (hFo b (by simp)).2.2.1
      have mono : ∀ {ds : List D} {vs : List Value} {F : List Nat}, (∀ c ∈ F, c ≠ b) → RepL w S ds (β.res (refs ++ refs2)) vs F →
          RepL (w.setRow b (pre ++ (ys ++ nv) ++ rest.drop nv.length).toArray) S ds (β.res (refs ++ refs2)) vs F := fun hF h =>
        RepL.mono (fun c hc => hw c (by rintro rfl; exact (hFo c (by simp)).1 hc)) (fun _ h => h) _ _ _ _ (fun c hc => hw c (hF c hc)) h
      refine fin _ b o' cap pre (ys ++ nv) (rest.drop nv.length) E' (F ++ Fn) hi3 (setRow_heap w b _ _ E' (0, 0) hb) hpre hroom ?_ (RepL_append_mk (mono (fun c hc e => by subst e; exact (List.nodup_cons.1 hndF).1 hc) hold) (mono (fun c hc e => hdis b (by simp) c hc e.symm) hrenews)) ?_ ?_ (hmen hmc)
      · rw [e2] at hfit2; simp at hfit hfit2 ⊢; omega
      · refine List.nodup_cons.2 ⟨fun hm => ?_, List.nodup_append.2 ⟨(List.nodup_cons.1 hndF).2, hnd, fun c hc c' hc' => hdis c (by simp [hc]) c' hc'⟩⟩
        rcases List.mem_append.1 hm with h | h
        · exact (List.nodup_cons.1 hndF).1 h
        · exact hdis b (by simp) b h rfl
      · intro c hc
        simp only [setRow_size]
        rcases List.mem_cons.1 hc with rfl | hc
        · exact hFo _ (by simp)
        · rcases List.mem_append.1 hc with h | h
          · exact hFo c (by simp [h])
          · exact hFn c h
    · have hsrcO : Src w inf.size n ys (.slice (some ⟨b, o', .none⟩) n cap) := by
        refine ⟨_, _, rfl, by rw [hly, e2], .inr ⟨_, rfl, ?_⟩⟩
        intro c u hc
        rw [add_lit]
        exact (show Seg w b o' ys from ⟨pre, rest, E', _, hb, hpre⟩).cell hc
      have hrr := run_append_grow' (ty := o.type) (b := some ⟨b, o', .none⟩) hu e1 e4 hsrcO hsrc' (by omega) (by omega) (growslice_fits (by omega) hbytes)
      rw [← hyv] at hrr
      rw [run _ hrr]
      exact grow ys F hold hmc (List.nodup_cons.1 hndF).2 (fun c hc c' hc' => hdis c (by simp [hc]) c' hc') (fun c hc => hFo c (by simp [hc])) hly cap
end
end Go.Gx
