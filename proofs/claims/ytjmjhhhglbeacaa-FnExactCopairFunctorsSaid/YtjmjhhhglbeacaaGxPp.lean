/- Plain laws: products of categories. -/
import Derived.Test.YtjmjhhhglbeacaaGxPu
import Derived.Test.YtjmjhhhglbeacaaGxL3M
namespace Go.Gx
open Classical
set_option maxHeartbeats 2000000

theorem divm {i j m : Int} (h0 : 0 ≤ j) (h1 : j < m) : (i * m + j) / m = i := by
  rw [Int.add_comm, Int.add_mul_ediv_right _ _ (by omega), Int.ediv_eq_zero_of_lt h0 h1]; omega
theorem modm {i j m : Int} (h0 : 0 ≤ j) (h1 : j < m) : (i * m + j) % m = j := by
  rw [Int.add_comm, Int.add_mul_emod_self_right, Int.emod_eq_of_lt h0 h1]
theorem mulb {i j n m : Int} (i0 : 0 ≤ i) (h : i < n) (h0 : 0 ≤ j) (h1 : j < m) : 0 ≤ i * m ∧ i * m + j < n * m ∧ i * m + m ≤ n * m := by
  have e1 : (i + 1) * m ≤ n * m := Int.mul_le_mul_of_nonneg_right (by omega) (by omega)
  rw [Int.add_mul, Int.one_mul] at e1
  have e2 := Int.mul_nonneg i0 (show 0 ≤ m by omega)
  omega
theorem mulB {n m N M : Int} (h0 : 0 ≤ n) (h1 : n ≤ N) (h2 : 0 ≤ m) (h3 : m ≤ M) : 0 ≤ n * m ∧ n * m ≤ N * M :=
  ⟨Int.mul_nonneg h0 h2, Int.mul_le_mul h1 h3 h2 (by omega)⟩
theorem wrap2 {x y : Int} (h0 : 0 ≤ x) (h1 : 0 ≤ y) (h2 : x + y ≤ 4611686018427387904) : IntKind.i64.wrap (IntKind.i64.wrap x + y) = x + y := by
  rw [wrap_in (x := x) (by omega) (by omega), wrap_in (by omega) (by omega)]
theorem parts {k n m : Int} (h0 : 0 ≤ k) (h1 : k < n * m) (hm : 0 ≤ m) : 0 < m ∧ 0 ≤ k / m ∧ k / m < n ∧ 0 ≤ k % m ∧ k % m < m := by
  have hm : 0 < m := by
    rcases Int.lt_or_eq_of_le hm with h | h
    · exact h
    · rw [← h, Int.mul_zero] at h1; omega
  exact ⟨hm, Int.ediv_nonneg h0 (by omega), Int.ediv_lt_of_lt_mul hm h1, Int.emod_nonneg _ (by omega), Int.emod_lt_of_pos _ hm⟩
theorem code_inj {x y x' y' m : Int} (h0 : 0 ≤ y) (h1 : y < m) (h2 : 0 ≤ y') (h3 : y' < m) : x * m + y = x' * m + y' ↔ x = x' ∧ y = y' := by
  constructor
  · intro h
    have a := divm (i := x) h0 h1
    have b := modm (i := x) h0 h1
    rw [h, divm h2 h3] at a
    rw [h, modm h2 h3] at b
    exact ⟨a.symm, b.symm⟩
  · rintro ⟨rfl, rfl⟩; rfl

/-- Two numbers as one, over all pairs. -/
abbrev tab2 {α : Type} (n m : Int) (f : Int → Int → α) : List α := tab (n * m) fun k => f (k / m) (k % m)
theorem tab2_push {α : Type} {i j m : Int} {f : Int → Int → α} (i0 : 0 ≤ i) (h0 : 0 ≤ j) (h1 : j < m) :
    (tab (i * m + j) fun k => f (k / m) (k % m)) ++ [f i j] = tab (i * m + (j + 1)) fun k => f (k / m) (k % m) := by
  have e : 0 ≤ i * m := Int.mul_nonneg i0 (by omega)
  rw [show i * m + (j + 1) = (i * m + j) + 1 by omega, tab_succ _ (by omega), divm h0 h1, modm h0 h1]
theorem tab2_row {α : Type} {i m : Int} {f : Int → Int → α} : (tab (i * m + m) fun k => f (k / m) (k % m)) = tab ((i + 1) * m) fun k => f (k / m) (k % m) := by
  rw [Int.add_mul, Int.one_mul]
theorem tab2_zero {α : Type} {m : Int} {f : Int → Int → α} : (tab (0 * m) fun k => f (k / m) (k % m)) = [] := by rw [Int.zero_mul]; rfl
theorem tab_len' (n : Int) {α : Type} (f : Int → α) (h : 0 ≤ n) : ((tab n f).length : Int) = n := by rw [tab_length]; omega

def pId (a b : XCategory) (x y : Int) : Int := el a.Identity x * (b.From.length : Int) + el b.Identity y
def pFrom (a b : XCategory) (f g : Int) : Int := el a.From f * b.Objects + el b.From g
def pTo (a b : XCategory) (f g : Int) : Int := el a.To f * b.Objects + el b.To g
def pCell (a b : XCategory) (f g h k : Int) : Int := if 0 ≤ cmp a f h then (if 0 ≤ cmp b g k then cmp a f h * (b.From.length : Int) + cmp b g k else -1) else -1
def pRow (a b : XCategory) (f g : Int) : List Int := tab2 (a.From.length : Int) (b.From.length : Int) (pCell a b f g)
/-- The product. -/
def prodC (a b : XCategory) : XCategory :=
  ⟨a.Objects * b.Objects, tab2 (a.From.length : Int) (b.From.length : Int) (pFrom a b), tab2 (a.From.length : Int) (b.From.length : Int) (pTo a b), tab2 a.Objects b.Objects (pId a b),
    tab2 (a.From.length : Int) (b.From.length : Int) (pRow a b)⟩

theorem pRow_loop {ρ : Type} {a b : XCategory} (ha : Shp a) (hb : Shp b) {f g : Int} (f0 : 0 ≤ f) (f1 : f < (a.From.length : Int)) (g0 : 0 ≤ g) (g1 : g < (b.From.length : Int)) {kk : List Int → Option ρ} {Q : ρ → Prop} (hk : Ret (kk (pRow a b f g)) Q) :
    Ret (iter (fun (s30 : (List Int) × Int) next31 =>
      if decide (s30.2 < (a.From.length : Int)) then
        iter (fun (s35 : (List Int) × Int) next36 =>
          if decide (s35.2 < (b.From.length : Int)) then
            (idx a.Composites f).bind fun y40 =>
            (idx y40 s30.2).bind fun y41 =>
            if decide (y41 ≥ 0) then
              (idx b.Composites g).bind fun y43 =>
              (idx y43 s35.2).bind fun y44 =>
              if decide (y44 ≥ 0) then
                chk (s35.1.length + (([IntKind.i64.wrap ((IntKind.i64.wrap (y41 * (b.From.length : Int))) + y44)] : List Int).length) ≤ lim) (
                  next36 (s35.1 ++ ([IntKind.i64.wrap ((IntKind.i64.wrap (y41 * (b.From.length : Int))) + y44)] : List Int), IntKind.i64.wrap (s35.2 + 1)))
              else
                chk (s35.1.length + (([(-1)] : List Int).length) ≤ lim) (
                  next36 (s35.1 ++ ([(-1)] : List Int), IntKind.i64.wrap (s35.2 + 1)))
            else
              chk (s35.1.length + (([(-1)] : List Int).length) ≤ lim) (
                next36 (s35.1 ++ ([(-1)] : List Int), IntKind.i64.wrap (s35.2 + 1)))
          else
            next31 (s35.1, IntKind.i64.wrap (s30.2 + 1))) fuel (s30.1, 0)
      else kk s30.1) fuel (([] : List Int), 0)) Q := by
  have am := ha.m40
  have bm := hb.m40
  have ac := ha.lco
  have bc := hb.lco
  have ar := ha.row f f0 f1
  have br := hb.row g g0 g1
  refine Ret.acc (a.From.length : Int) (fun h l => l = tab (h * (b.From.length : Int)) fun k => pCell a b f g (k / (b.From.length : Int)) (k % (b.From.length : Int))) (by omega) (by omega) tab2_zero.symm ?_ ?_
  · rintro h l next h0 h1 rfl hn1
    dsimp only
    simp only [decide_eq_true_eq]
    rw [if_pos h1]
    refine Ret.acc (b.From.length : Int) (fun k l => l = tab (h * (b.From.length : Int) + k) fun k => pCell a b f g (k / (b.From.length : Int)) (k % (b.From.length : Int))) (by omega) (by omega) (by rw [Int.add_zero]) ?_ ?_
    · rintro k l next k0 k1 rfl hn2
      dsimp only
      rw [if_pos k1]
      have hb1 := mulb h0 h1 k0 k1
      have hB := (mulB (n := (a.From.length : Int)) (m := (b.From.length : Int)) (by omega) am (by omega) bm).2
      have hl : ((tab (h * (b.From.length : Int) + k) fun k => pCell a b f g (k / (b.From.length : Int)) (k % (b.From.length : Int))).length : Int) ≤ 1600 := by
        rw [tab_len' _ _ (by omega)]; omega
      have hp := (tab2_push (f := pCell a b f g) h0 k0 k1).symm
      refine Ret.idx f0 (by omega) (Ret.idx h0 (by omega) (Ret.ite (fun hx => ?_) (fun hx => ?_)))
      · have hx : 0 ≤ cmp a f h := hx
        have hx1 : cmp a f h < (a.From.length : Int) := by
          by_cases he : el a.To f = el a.From h
          · exact (ha.yes f h f0 f1 h0 h1 he).2
          · have := ha.no f h f0 f1 h0 h1 he; omega
        refine Ret.idx g0 (by omega) (Ret.idx k0 (by omega) (Ret.ite (fun hy => ?_) (fun hy => ?_)))
        · have hy : 0 ≤ cmp b g k := hy
          have hy1 : cmp b g k < (b.From.length : Int) := by
            by_cases he : el b.To g = el b.From k
            · exact (hb.yes g k g0 g1 k0 k1 he).2
            · have := hb.no g k g0 g1 k0 k1 he; omega
          have hm := mulb hx hx1 hy hy1
          have e : IntKind.i64.wrap (IntKind.i64.wrap (cmp a f h * (b.From.length : Int)) + cmp b g k) = pCell a b f g h k := by
            rw [wrap2 (by omega) (by omega) (by omega)]
            unfold pCell; rw [if_pos hx, if_pos hy]
          refine Ret.chk (by unfold lim; simp only [List.length_cons, List.length_nil]; omega) (hn2 _ ?_)
          rw [hp]; exact congrArg (fun z => _ ++ [z]) e
        · have hy : ¬ 0 ≤ cmp b g k := hy
          refine Ret.chk (by unfold lim; simp only [List.length_cons, List.length_nil]; omega) (hn2 _ ?_)
          rw [hp]; unfold pCell; rw [if_pos hx, if_neg hy]
      · have hx : ¬ 0 ≤ cmp a f h := hx
        refine Ret.chk (by unfold lim; simp only [List.length_cons, List.length_nil]; omega) (hn2 _ ?_)
        rw [hp]; unfold pCell; rw [if_neg hx]
    · rintro l next rfl
      dsimp only
      rw [if_neg (by omega)]
      exact hn1 _ tab2_row
  · rintro l next rfl
    dsimp only
    simp only [decide_eq_true_eq]
    rw [if_neg (by omega)]
    exact hk

theorem l03Product_eq {a b : XCategory} (ha : Shp a) (hb : Shp b) : M.spec_l03Product a b = some (prodC a b) := by
  apply Ret.eq
  unfold M.spec_l03Product
  have am := ha.m40
  have bm := hb.m40
  have a0 := ha.n0
  have a8 := ha.n8
  have b0 := hb.n0
  have b8 := hb.n8
  have ai := ha.lid
  have bi := hb.lid
  have at' := ha.lto
  have bt := hb.lto
  have hO := mulB a0 a8 b0 b8
  have hB := mulB (n := (a.From.length : Int)) (m := (b.From.length : Int)) (by omega) am (by omega) bm
  refine Ret.acc a.Objects (fun i l => l = tab (i * b.Objects) fun k => pId a b (k / b.Objects) (k % b.Objects)) a0 (by omega) tab2_zero.symm ?_ ?_
  · rintro i l next i0 i1 rfl hn1
    dsimp only
    simp only [decide_eq_true_eq]
    rw [if_pos i1]
    refine Ret.acc b.Objects (fun j l => l = tab (i * b.Objects + j) fun k => pId a b (k / b.Objects) (k % b.Objects)) b0 (by omega) (by rw [Int.add_zero]) ?_ ?_
    · rintro j l next j0 j1 rfl hn2
      dsimp only
      rw [if_pos j1]
      have hb1 := mulb i0 i1 j0 j1
      have hl : ((tab (i * b.Objects + j) fun k => pId a b (k / b.Objects) (k % b.Objects)).length : Int) ≤ 64 := by
        rw [tab_len' _ _ (by omega)]; omega
      have x1 := ha.id_in i i0 i1
      have x2 := hb.id_in j j0 j1
      have hm := mulb x1.1 x1.2 x2.1 x2.2
      have e : IntKind.i64.wrap (IntKind.i64.wrap (el a.Identity i * (b.From.length : Int)) + el b.Identity j) = pId a b i j := by
        rw [wrap2 (by omega) (by omega) (by omega)]; rfl
      refine Ret.idx i0 (by omega) (Ret.idx j0 (by omega) (Ret.chk (by unfold lim; simp only [List.length_cons, List.length_nil]; omega) (hn2 _ ?_)))
      rw [← tab2_push i0 j0 j1]; exact congrArg (fun z => _ ++ [z]) e
    · rintro l next rfl
      dsimp only
      rw [if_neg (by omega)]
      exact hn1 _ tab2_row
  · rintro l next rfl
    dsimp only
    simp only [decide_eq_true_eq]
    rw [if_neg (by omega)]
    refine Ret.loop (a.From.length : Int) (fun i s => s = (tab (i * (b.From.length : Int)) (fun k => pFrom a b (k / (b.From.length : Int)) (k % (b.From.length : Int))), tab (i * (b.From.length : Int)) (fun k => pTo a b (k / (b.From.length : Int)) (k % (b.From.length : Int))), tab (i * (b.From.length : Int)) (fun k => pRow a b (k / (b.From.length : Int)) (k % (b.From.length : Int))), i)) (by omega) (by omega) (by rw [tab2_zero, tab2_zero, tab2_zero]) ?_ ?_
    · rintro f s next f0 f1 rfl hn1
      dsimp only
      rw [if_pos f1]
      refine Ret.loop (b.From.length : Int) (fun j s => s = (tab (f * (b.From.length : Int) + j) (fun k => pFrom a b (k / (b.From.length : Int)) (k % (b.From.length : Int))), tab (f * (b.From.length : Int) + j) (fun k => pTo a b (k / (b.From.length : Int)) (k % (b.From.length : Int))), tab (f * (b.From.length : Int) + j) (fun k => pRow a b (k / (b.From.length : Int)) (k % (b.From.length : Int))), j)) (by omega) (by omega) (by rw [Int.add_zero]) ?_ ?_
      · rintro g s next g0 g1 rfl hn2
        dsimp only
        rw [if_pos g1]
        have hb1 := mulb f0 f1 g0 g1
        have hl : ∀ {α : Type} (F : Int → α), ((tab (f * (b.From.length : Int) + g) F).length : Int) ≤ 1600 := fun F => by
          rw [tab_len' _ _ (by omega)]; omega
        have l1 := hl fun k => pFrom a b (k / (b.From.length : Int)) (k % (b.From.length : Int))
        have l2 := hl fun k => pTo a b (k / (b.From.length : Int)) (k % (b.From.length : Int))
        have l3 := hl fun k => pRow a b (k / (b.From.length : Int)) (k % (b.From.length : Int))
        have x1 := ha.from_in f f0 f1
        have x2 := hb.from_in g g0 g1
        have y1 := ha.to_in f f0 f1
        have y2 := hb.to_in g g0 g1
        have hm := mulb x1.1 x1.2 x2.1 x2.2
        have hm2 := mulb y1.1 y1.2 y2.1 y2.2
        have e : IntKind.i64.wrap (IntKind.i64.wrap (el a.From f * b.Objects) + el b.From g) = pFrom a b f g := by
          rw [wrap2 (by omega) (by omega) (by omega)]; rfl
        have e2 : IntKind.i64.wrap (IntKind.i64.wrap (el a.To f * b.Objects) + el b.To g) = pTo a b f g := by
          rw [wrap2 (by omega) (by omega) (by omega)]; rfl
        refine Ret.idx f0 f1 (Ret.idx g0 g1 (Ret.chk (by unfold lim; simp only [List.length_cons, List.length_nil]; omega) (Ret.idx f0 (by omega) (Ret.idx g0 (by omega) (Ret.chk (by unfold lim; simp only [List.length_cons, List.length_nil]; omega) ?_)))))
        have := pRow_loop (kk := fun row => chk ((tab (f * (b.From.length : Int) + g) fun k => pRow a b (k / (b.From.length : Int)) (k % (b.From.length : Int))).length + 1 ≤ lim)
          (next ((tab (f * (b.From.length : Int) + g) fun k => pFrom a b (k / (b.From.length : Int)) (k % (b.From.length : Int))) ++ ([IntKind.i64.wrap (IntKind.i64.wrap (el a.From f * b.Objects) + el b.From g)] : List Int), (tab (f * (b.From.length : Int) + g) fun k => pTo a b (k / (b.From.length : Int)) (k % (b.From.length : Int))) ++ ([IntKind.i64.wrap (IntKind.i64.wrap (el a.To f * b.Objects) + el b.To g)] : List Int),
            (tab (f * (b.From.length : Int) + g) fun k => pRow a b (k / (b.From.length : Int)) (k % (b.From.length : Int))) ++ [row], IntKind.i64.wrap (g + 1)))) (Q := fun r => r = prodC a b) ha hb f0 f1 g0 g1 (Ret.chk (by unfold lim; omega) (hn2 _ (by
            rw [e, e2, wrap_in (by omega) (by omega), tab2_push f0 g0 g1, tab2_push f0 g0 g1, tab2_push f0 g0 g1])))
        simp only [decide_eq_true_eq] at this
        exact this
      · rintro s next rfl
        dsimp only
        rw [if_neg (by omega)]
        exact hn1 _ (by rw [tab2_row, tab2_row, tab2_row, wrap_in (by omega) (by omega)])
    · rintro s next rfl
      dsimp only
      rw [if_neg (by omega)]
      refine Ret.some ?_
      rw [wrap_in (by omega) (by omega)]; rfl
end Go.Gx
