/- The law of SumSets. -/
import Derived.Test.YtaijkiepcaobiaaGxQp
import Derived.Test.YtaijkiepcaobiaaGxPs
import Derived.Test.YtaijkiepcaobiaaGxv28M
namespace Go.Gx
open Classical
set_option maxHeartbeats 2000000

def upTo (n : Int) : List Int := tab n fun j => j
def shifts (l : List Int) (b : Int) : List Int := tab (l.length : Int) fun j => el l j + b
def sumSz (F G : XSetFunctor) : List Int := tab (F.Sizes.length : Int) fun x => el F.Sizes x + el G.Sizes x
def sumFst (F : XSetFunctor) : List (List Int) := tab (F.Sizes.length : Int) fun x => upTo (el F.Sizes x)
def sumSnd (F G : XSetFunctor) : List (List Int) := tab (F.Sizes.length : Int) fun x => shifts (upTo (el G.Sizes x)) (el F.Sizes x)
def sumRow (F G : XSetFunctor) (a : Int) : List Int := el F.Actions a ++ shifts (el G.Actions a) (el F.Sizes (el F.Shape.To a))
def sumAct (F G : XSetFunctor) : List (List Int) := tab (F.Actions.length : Int) fun a => sumRow F G a
def sumG (F G : XSetFunctor) : XSetFunctor := ⟨F.Shape, sumSz F G, sumAct F G⟩

/-- Two set functors on one shape. -/
structure TwoG (F G : XSetFunctor) : Prop where
  f : IsSet F
  g : IsSet G
  e : F.Shape = G.Shape

theorem l21Two_eq {F G : XSetFunctor} (sf : SmallG F) (sg : SmallG G) : M.spec_l21Two F G = some (if IsSet F ∧ IsSet G then (if F.Shape = G.Shape then 0 else 5) else 1) := by
  unfold M.spec_l21Two
  rw [l19Is_eq sf, l19Is_eq sg, l02Same_eq sf.s1 sg.s1]
  by_cases h1 : IsSet F <;> by_cases h2 : IsSet G <;> by_cases h3 : F.Shape = G.Shape <;> simp [h1, h2, h3]

theorem areSetFunctors_eq {l : List XSetFunctor} (hl : Small l) (h : ∀ c ∈ l, SmallG c) : M.impl_areSetFunctors l = some (decide (∀ c ∈ l, IsSet c)) := by
  apply Ret.ask
  unfold M.impl_areSetFunctors
  simp only [decide_eq_true_eq]
  have : Inhabited XSetFunctor := ⟨⟨⟨0, [], [], [], []⟩, [], []⟩⟩
  refine Ret.all (l.length : Int) (fun i => IsSet (el l i)) (by omega) (by omega) ?_ ?_
  · intro i next hi0 hi1 hp hn1
    rw [if_pos hi1]
    refine Ret.idx hi0 hi1 (Ret.call (isSetFunctor_eq (h _ (el_mem hi0 hi1))) (Ret.ite (fun x => hn1 (of_decide_eq_true x)) (fun x => Ret.some ?_)))
    exact ⟨(fun h => by cases h), fun e => absurd (decide_eq_true (e _ (el_mem hi0 hi1))) x⟩
  · intro next hp
    rw [if_neg (by omega)]
    refine Ret.some ⟨fun _ c hc => ?_, fun _ => rfl⟩
    obtain ⟨i, h0, h1, rfl⟩ := mem_el hc
    exact hp i h0 h1
theorem setsCode_eq {F G : XSetFunctor} (sf : SmallG F) (sg : SmallG G) : M.impl_setsCode F G = some (if IsSet F ∧ IsSet G then (if F.Shape = G.Shape then 0 else 5) else 1) := by
  unfold M.impl_setsCode
  rw [areSetFunctors_eq (by simp) (by simp [sf, sg]), sameCategory_eq sf.s1 sg.s1]
  simp only [List.mem_cons, List.not_mem_nil, or_false, forall_eq_or_imp, forall_eq]
  by_cases h1 : IsSet F <;> by_cases h2 : IsSet G <;> by_cases h3 : F.Shape = G.Shape <;> simp [h1, h2, h3]

theorem shifted_eq {l : List Int} {b : Int} (hl : Small l) (h0 : 0 ≤ b) (h1 : b ≤ 1048576) (hr : ∀ i, 0 ≤ i → i < (l.length : Int) → 0 ≤ el l i ∧ el l i ≤ 1048576) : M.impl_shifted l b = some (shifts l b) := by
  apply Ret.eq
  unfold M.impl_shifted
  refine push_loop (n := (l.length : Int)) (F := fun j => el l j + b) (by omega) (by omega) ?_ ?_
  · intro i next i0 i1 hl hn
    have x := hr i i0 i1
    dsimp only
    rw [if_pos (decide_eq_true i1)]
    refine Ret.idx i0 i1 ?_
    rw [wrap_in (x := el l i + b) (by omega) (by omega)]
    exact Ret.chk (by unfold lim; simp only [List.length_cons, List.length_nil]; omega) hn
  · intro next
    dsimp only
    rw [if_neg (by simp)]
    exact Ret.some rfl

/-- What the indices need. -/
theorem TwoG.sz {F G : XSetFunctor} (h : TwoG F G) {x : Int} (x0 : 0 ≤ x) (x1 : x < (F.Sizes.length : Int)) :
    x < (G.Sizes.length : Int) ∧ (0 ≤ el F.Sizes x ∧ el F.Sizes x ≤ 16) ∧ (0 ≤ el G.Sizes x ∧ el G.Sizes x ≤ 16) := by
  have l1 := h.f.1.ls
  have l2 := h.g.1.ls
  rw [← h.e] at l2
  exact ⟨by omega, h.f.1.siz x x0 x1, h.g.1.siz x x0 (by omega)⟩
theorem TwoG.ac {F G : XSetFunctor} (h : TwoG F G) {a : Int} (a0 : 0 ≤ a) (a1 : a < (F.Actions.length : Int)) :
    a < (G.Actions.length : Int) ∧ a < (F.Shape.To.length : Int) ∧ (0 ≤ el F.Shape.To a ∧ el F.Shape.To a < (F.Sizes.length : Int)) ∧ ((el F.Actions a).length : Int) ≤ 16 ∧ ((el G.Actions a).length : Int) ≤ 16 ∧
    ∀ i, 0 ≤ i → i < ((el G.Actions a).length : Int) → 0 ≤ el (el G.Actions a) i ∧ el (el G.Actions a) i ≤ 1048576 := by
  have l1 := h.f.1.la
  have l2 := h.g.1.la
  have l3 := h.f.1.ls
  have l4 := h.g.1.ls
  have e := h.e
  rw [← e] at l2 l4
  have hc := h.f.1.cat.1.shp
  have lt := hc.lto
  have t := hc.to_in a a0 (by omega)
  have s := hc.from_in a a0 (by omega)
  have f1 := (h.f.1.act a a0 a1).1
  have g1 := (h.g.1.act a a0 (by omega)).1
  have g2 := (h.g.1.act a a0 (by omega)).2
  rw [← e] at g1 g2
  have z1 := h.f.1.siz _ s.1 (by omega)
  have z2 := h.g.1.siz _ s.1 (by omega)
  have z3 := h.g.1.siz _ t.1 (by omega)
  refine ⟨by omega, by omega, ⟨t.1, by omega⟩, by omega, by omega, fun i i0 i1 => ?_⟩
  have := g2 i i0 i1
  omega

theorem upTo_len {n : Int} (h : 0 ≤ n) : ((upTo n).length : Int) = n := tab_len' _ _ h
theorem upTo_in {n : Int} (h : n ≤ 1048576) : ∀ i, 0 ≤ i → i < ((upTo n).length : Int) → 0 ≤ el (upTo n) i ∧ el (upTo n) i ≤ 1048576 := by
  intro i i0 i1
  unfold upTo at *
  rw [tab_length] at i1
  rw [el_tab i0 (by omega)]; omega

theorem sumG_small {F G : XSetFunctor} (sf : SmallG F) (h : TwoG F G) : SmallG (sumG F G) ∧ SmallX (sumFst F) ∧ SmallX (sumSnd F G) := by
  have s2 := sf.s2
  have s3 := sf.s3
  refine ⟨⟨sf.s1, ?_, ?_, ?_⟩, ⟨?_, ?_⟩, ⟨?_, ?_⟩⟩
  · unfold sumG sumSz Small; dsimp only; rw [tab_length]; omega
  · unfold sumG sumAct Small; dsimp only; rw [tab_length]; omega
  · intro r hr
    obtain ⟨i, i0, i1, rfl⟩ := mem_el hr
    have i1' : i < (F.Actions.length : Int) := by
      have i2 : i < ((sumAct F G).length : Int) := i1
      unfold sumAct at i2; rw [tab_length] at i2; omega
    have e : el (sumG F G).Actions i = sumRow F G i := el_tab (f := fun a => sumRow F G a) i0 i1'
    have x := h.ac i0 i1'
    rw [e]; unfold sumRow shifts Small; rw [List.length_append, tab_length]; omega
  · unfold sumFst Small; rw [tab_length]; omega
  · intro r hr
    obtain ⟨i, i0, i1, rfl⟩ := mem_el hr
    unfold sumFst at i1 ⊢
    rw [tab_length] at i1
    have x := h.sz i0 (by omega)
    rw [el_tab i0 (by omega)]
    have l := upTo_len x.2.1.1
    unfold Small; omega
  · unfold sumSnd Small; rw [tab_length]; omega
  · intro r hr
    obtain ⟨i, i0, i1, rfl⟩ := mem_el hr
    unfold sumSnd at i1 ⊢
    rw [tab_length] at i1
    have x := h.sz i0 (by omega)
    rw [el_tab i0 (by omega)]
    have l := upTo_len x.2.2.1
    unfold Small shifts; rw [tab_length]; omega

theorem tri_len {i : Int} (i0 : 0 ≤ i) {α : Type} (f : Int → α) : ((tab i f).length : Int) = i := tab_len' _ _ i0

theorem l21Sum_eq {F G : XSetFunctor} (sf : SmallG F) (h : TwoG F G) : M.spec_l21Sum F G = some (sumG F G, sumFst F, sumSnd F G) := by
  apply Ret.eq
  have s2 := sf.s2
  have s3 := sf.s3
  unfold M.spec_l21Sum
  refine Ret.call (l02Own_eq sf.s1) ?_
  refine Ret.loop (F.Sizes.length : Int) (fun i s => s = (tab i (fun x => upTo (el F.Sizes x)), tab i (fun x => shifts (upTo (el G.Sizes x)) (el F.Sizes x)), tab i (fun x => el F.Sizes x + el G.Sizes x), i)) (by omega) (by omega) rfl ?_ ?_
  · rintro i s next i0 i1 rfl hn
    dsimp only
    simp only [decide_eq_true_eq]
    rw [if_pos i1]
    obtain ⟨x1, x2, x3⟩ := h.sz i0 i1
    refine push_loop (n := el F.Sizes i) (F := fun j => j) x2.1 (by omega) ?_ ?_
    · intro j nx j0 j1 hl hn2
      dsimp only
      refine Ret.idx i0 i1 ?_
      rw [if_pos j1]
      exact Ret.chk (by unfold lim; simp only [List.length_cons, List.length_nil]; omega) hn2
    · intro nx
      dsimp only
      refine Ret.idx i0 i1 ?_
      rw [if_neg (by omega)]
      have lu := upTo_len x3.1
      refine push_loop (n := el G.Sizes i) (F := fun j => el F.Sizes i + j) x3.1 (by omega) ?_ ?_
      · intro j nx j0 j1 hl hn2
        dsimp only
        refine Ret.idx i0 x1 ?_
        rw [if_pos j1, wrap_in (x := el F.Sizes i + j) (by omega) (by omega)]
        exact Ret.chk (by unfold lim; simp only [List.length_cons, List.length_nil]; omega) hn2
      · intro nx
        dsimp only
        refine Ret.idx i0 x1 ?_
        rw [if_neg (by omega), wrap_in (x := el F.Sizes i + el G.Sizes i) (by omega) (by omega)]
        have l1 := tri_len i0 fun x => upTo (el F.Sizes x)
        have l2 := tri_len i0 fun x => shifts (upTo (el G.Sizes x)) (el F.Sizes x)
        have l3 := tri_len i0 fun x => el F.Sizes x + el G.Sizes x
        refine Ret.chk (by unfold lim; simp only [List.length_cons, List.length_nil]; omega) (Ret.chk (by unfold lim; omega) (Ret.chk (by unfold lim; omega) (hn _ ?_)))
        rw [wrap_in (x := i + 1) (by omega) (by omega), tab_succ _ i0, tab_succ _ i0, tab_succ _ i0]
        have e : (tab (el G.Sizes i) fun j => el F.Sizes i + j) = shifts (upTo (el G.Sizes i)) (el F.Sizes i) := by
          unfold shifts
          rw [lu]
          apply tab_congr; intro j j0 j1
          unfold upTo; rw [el_tab j0 j1]; omega
        rw [e]; rfl
  · rintro s next rfl
    dsimp only
    simp only [decide_eq_true_eq]
    rw [if_neg (by omega)]
    refine push_loop (n := (F.Actions.length : Int)) (F := fun a => sumRow F G a) (by omega) (by omega) ?_ ?_
    · intro a nx a0 a1 hl hn2
      obtain ⟨y1, y2, y3, y4, y5, y6⟩ := h.ac a0 a1
      have x2 := (h.sz y3.1 y3.2).2.1
      dsimp only
      rw [if_pos a1]
      refine Ret.idx a0 y2 (Ret.idx a0 a1 (Ret.call (own_eq (by unfold Small; omega)) ?_))
      refine Ret.acc ((el G.Actions a).length : Int) (fun j s => s = el F.Actions a ++ tab j fun j => el (el G.Actions a) j + el F.Sizes (el F.Shape.To a)) (by omega) (by omega) (by simp) ?_ ?_
      · rintro j s nx2 j0 j1 rfl hn3
        have y7 := y6 j j0 j1
        have lj := tri_len j0 fun j => el (el G.Actions a) j + el F.Sizes (el F.Shape.To a)
        dsimp only
        refine Ret.idx a0 y1 ?_
        rw [if_pos j1]
        refine Ret.idx y3.1 y3.2 (Ret.idx j0 j1 ?_)
        rw [wrap_in (x := el F.Sizes (el F.Shape.To a) + el (el G.Actions a) j) (by omega) (by omega)]
        refine Ret.chk (by unfold lim; simp only [List.length_append, List.length_cons, List.length_nil]; omega) (hn3 _ ?_)
        rw [tab_succ _ j0, List.append_assoc, Int.add_comm]
      · rintro s nx2 rfl
        dsimp only
        refine Ret.idx a0 y1 ?_
        rw [if_neg (by omega)]
        exact Ret.chk (by unfold lim; omega) hn2
    · intro nx
      dsimp only
      rw [if_neg (by omega)]
      exact Ret.some rfl

theorem sumSets_eq {F G : XSetFunctor} (sf : SmallG F) (h : TwoG F G) : M.impl_sumSets F G = some (sumG F G, sumFst F, sumSnd F G) := by
  apply Ret.eq
  have s2 := sf.s2
  have s3 := sf.s3
  unfold M.impl_sumSets
  refine Ret.call (copy_eq sf.s1) ?_
  refine Ret.loop (F.Sizes.length : Int) (fun i s => s = (tab i (fun x => upTo (el F.Sizes x)), tab i (fun x => shifts (upTo (el G.Sizes x)) (el F.Sizes x)), tab i (fun x => el F.Sizes x + el G.Sizes x), i)) (by omega) (by omega) rfl ?_ ?_
  · rintro i s next i0 i1 rfl hn
    dsimp only
    simp only [decide_eq_true_eq]
    rw [if_pos i1]
    obtain ⟨x1, x2, x3⟩ := h.sz i0 i1
    have l1 := tri_len i0 fun x => upTo (el F.Sizes x)
    have l2 := tri_len i0 fun x => shifts (upTo (el G.Sizes x)) (el F.Sizes x)
    have l3 := tri_len i0 fun x => el F.Sizes x + el G.Sizes x
    have lu := upTo_len x3.1
    refine Ret.idx i0 i1 (Ret.idx i0 x1 ?_)
    rw [wrap_in (x := el F.Sizes i + el G.Sizes i) (by omega) (by omega)]
    refine Ret.chk (by unfold lim; simp only [List.length_cons, List.length_nil]; omega) (Ret.call (numbers_eq x2.1 (by omega)) (Ret.chk (by unfold lim; omega) (Ret.call (numbers_eq x3.1 (by omega)) (Ret.call (shifted_eq (l := upTo (el G.Sizes i)) (by unfold Small; omega) x2.1 (by omega) (upTo_in (by omega))) (Ret.chk (by unfold lim; omega) (hn _ ?_))))))
    rw [wrap_in (x := i + 1) (by omega) (by omega), tab_succ _ i0, tab_succ _ i0, tab_succ _ i0]
    rfl
  · rintro s next rfl
    dsimp only
    simp only [decide_eq_true_eq]
    rw [if_neg (by omega)]
    refine push_loop (n := (F.Actions.length : Int)) (F := fun a => sumRow F G a) (by omega) (by omega) ?_ ?_
    · intro a nx a0 a1 hl hn2
      obtain ⟨y1, y2, y3, y4, y5, y6⟩ := h.ac a0 a1
      have x2 := (h.sz y3.1 y3.2).2.1
      dsimp only
      rw [if_pos a1]
      have ls : ((shifts (el G.Actions a) (el F.Sizes (el F.Shape.To a))).length : Int) ≤ 16 := by unfold shifts; rw [tab_length]; omega
      refine Ret.idx a0 a1 (Ret.call (clone_eq (by unfold Small; omega)) (Ret.idx a0 y1 (Ret.idx a0 y2 (Ret.idx y3.1 y3.2 (Ret.call (shifted_eq (by unfold Small; omega) x2.1 (by omega) y6) (Ret.chk (by unfold lim; omega) (Ret.chk (by unfold lim; omega) hn2)))))))
    · intro nx
      dsimp only
      rw [if_neg (by omega)]
      exact Ret.some rfl

theorem l21Made_eq {F : XSetFunctor} (sf : SmallG F) (h0 : ∀ i, 0 ≤ i → i < (F.Sizes.length : Int) → 0 ≤ el F.Sizes i) : M.spec_l21Made F = some (if In 17 F.Sizes then 0 else 3) := by
  apply Ret.eq
  have s2 := sf.s2
  unfold M.spec_l21Made
  simp only [decide_eq_true_eq]
  refine Ret.all (F.Sizes.length : Int) (fun i => el F.Sizes i ≤ 16) (by omega) (by omega) ?_ ?_
  · intro i next i0 i1 hp hn
    rw [if_pos i1]
    refine Ret.idx i0 i1 (Ret.ite (fun x => Ret.some ?_) (fun x => hn (by omega)))
    rw [if_neg (fun hI => by have := hI i i0 i1; omega)]
  · intro next hp
    rw [if_neg (by omega)]
    refine Ret.some ?_
    rw [if_pos (fun i i0 i1 => by have := hp i i0 i1; have := h0 i i0 i1; omega)]

theorem SumSets_both {F G : XSetFunctor} (sf : SmallG F) (sg : SmallG G) : ∃ r0 r1 r2 w, SmallG r0 ∧ SmallX r1 ∧ SmallX r2 ∧ M.spec_SumSets F G = some (r0, r1, r2, w) ∧ M.impl_SumSets F G = some (r0, r1, r2, w) := by
  unfold M.spec_SumSets M.impl_SumSets M.impl_fitting
  rw [l21Two_eq sf sg, setsCode_eq sf sg]
  have z : SmallG ⟨⟨0, [], [], [], []⟩, [], []⟩ := ⟨zeroC_small, by simp, by simp, by simp⟩
  by_cases h : IsSet F ∧ IsSet G
  case neg =>
    rw [if_neg h]
    exact ⟨_, _, _, _, z, SmallX.nil, SmallX.nil, rfl, rfl⟩
  by_cases e : F.Shape = G.Shape
  case neg =>
    rw [if_pos h, if_neg e]
    exact ⟨_, _, _, _, z, SmallX.nil, SmallX.nil, rfl, rfl⟩
  have t : TwoG F G := ⟨h.1, h.2, e⟩
  obtain ⟨k1, k2, k3⟩ := sumG_small sf t
  rw [if_pos h, if_pos e, l21Sum_eq sf t, sumSets_eq sf t]
  simp only [Option.bind_some, bne_self_eq_false, Bool.false_eq_true, if_false]
  have h0 : ∀ i, 0 ≤ i → i < ((sumG F G).Sizes.length : Int) → 0 ≤ el (sumG F G).Sizes i := by
    intro i i0 i1
    have i2 : i < ((sumSz F G).length : Int) := i1
    unfold sumSz at i2; rw [tab_length] at i2
    have x := t.sz i0 (by omega)
    have e : el (sumG F G).Sizes i = el F.Sizes i + el G.Sizes i := el_tab (f := fun x => el F.Sizes x + el G.Sizes x) i0 (by omega)
    rw [e]; omega
  rw [l21Made_eq k1 h0, within_eq k1.s2 (by omega) (by omega)]
  by_cases hI : In 17 (sumG F G).Sizes
  · rw [if_pos hI, dT hI]
    exact ⟨_, _, _, _, k1, k2, k3, rfl, rfl⟩
  · rw [if_neg hI, dF hI]
    exact ⟨_, _, _, _, z, SmallX.nil, SmallX.nil, rfl, rfl⟩

theorem law_SumSets {a0 : XSetFunctor} {a1 : XSetFunctor} (h0 : R.XSetFunctor a0) (h1 : R.XSetFunctor a1) : M.laws_FnExactSumSets a0 a1 = some true := by
  unfold M.laws_FnExactSumSets
  obtain ⟨v0, e0, hv0⟩ := szSetFunctor_r (n := 1048576) (by decide) (by decide) (fitsG h0)
  rw [e0, Option.bind_some]
  rcases hv0 with ⟨z0, _⟩ | ⟨l0, u0, s0⟩
  · rw [if_pos (decide_eq_true z0)]
  · rw [if_neg (fun h => absurd (of_decide_eq_true h) (by omega))]
    obtain ⟨v1, e1, hv1⟩ := szSetFunctor_r (n := v0) l0 (by omega) (fitsG h1)
    rw [e1, Option.bind_some]
    rcases hv1 with ⟨z1, _⟩ | ⟨l1, u1, s1⟩
    · rw [if_pos (decide_eq_true z1)]
    · rw [if_neg (fun h => absurd (of_decide_eq_true h) (by omega))]
      rw [toSetFunctor_eq s0, Option.bind_some, toSetFunctor_eq s1, Option.bind_some]
      obtain ⟨g0, g1, g2, w, hg0, hg1, hg2, es, ei⟩ := SumSets_both s0 s1
      rw [es, ei]
      simp only [Option.bind_some]
      rw [eqSetFunctor_refl hg0, eqInt64SS_reflX hg1, eqInt64SS_reflX hg2, eqSetFunctor_refl s0, eqSetFunctor_refl s1]
      obtain ⟨n0, x0, p0, q0, c0, d0, _⟩ := mh_G s0 1 (by omega) (by omega)
      obtain ⟨n1, x1, p1, q1, c1, d1, _⟩ := mh_G s1 (1 + n0) (by omega) (by omega)
      obtain ⟨n2, x2, p2, q2, c2, d2, _⟩ := mh_G hg0 1 (by omega) (by omega)
      obtain ⟨n3, x3, p3, q3, c3, d3, _⟩ := mh_X hg1 (1 + n2) (by omega) (by omega)
      obtain ⟨n4, x4, p4, q4, c4, d4, _⟩ := mh_X hg2 (1 + n2 + n3) (by omega) (by omega)
      simp only [Option.bind_some, bne_self_eq_false, Bool.false_eq_true, if_false, if_true, decide_eq_true_eq, c0, c1, c2, c3, c4, d2, d3, d4]
      rw [if_neg (by omega), if_neg (by omega), if_neg (by omega), if_neg (by omega)]

end Go.Gx
