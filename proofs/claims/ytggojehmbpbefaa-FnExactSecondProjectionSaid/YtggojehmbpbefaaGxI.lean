/- append. -/
import Derived.Test.YtggojehmbpbefaaGxH
namespace Go.Gx

/-- The cells that an append copies. -/
def Src (w : World) (sz m : Nat) (nv : List Value) (x : Value) : Prop :=
  ∃ a c, x = .slice a m c ∧ nv.length = m * sz ∧ (m = 0 ∨ ∃ ad, a = some ad ∧ ∀ j u, nv[j]? = some u → w.cell? (ad.add j) = some u)

theorem Src.first {P : Program} {w : World} {sz m : Nat} {nv : List Value} {x : Value} (h : Src w sz m nv x) : (Builtin.firstCells sz m x).run P w = .ok nv.toArray w := by
  obtain ⟨a, c, rfl, hl, h⟩ := h
  rcases h with rfl | ⟨ad, rfl, h⟩
  · have : nv = [] := List.eq_nil_of_length_eq_zero (by simpa using hl)
    subst this
    cases a <;> simp [Builtin.firstCells, loadCells, loadCellsFrom]
  · have := run_loadCells_list (P := P) w ad nv h
    rw [hl] at this
    simp [Builtin.firstCells, this]

theorem Src.drew {w : World} {sz m : Nat} {nv : List Value} {x : Value} (h : Src w sz m nv x) : Src w.drew sz m nv x := by
  obtain ⟨a, c, e, hl, h⟩ := h
  exact ⟨a, c, e, hl, h.imp id fun ⟨ad, e, h⟩ => ⟨ad, e, fun j u hj => by simpa using h j u hj⟩⟩

theorem Src.len {P : Program} {w : World} {sz m : Nat} {nv : List Value} {x : Value} (h : Src w sz m nv x) : (Builtin.lenOf x).run P w = .ok m w := by
  obtain ⟨a, c, rfl, hl, h⟩ := h
  simp [Builtin.lenOf]

section
variable {P : Program} {w : World} {s ty E : TypeId} {inf : TypeInfo} {z x : Value} {n m cap : Nat} {nv ov : List Value}

theorem run_append_room' {E' : TypeId} (ht : P.underlying s = some (.slice E)) (hi : P.info? E = some inf) {g o : Nat} {cur : Array Value} (hg : w.heap[g]? = some (.cells cur E' (0, 0)))
    (hx : Src w inf.size m nv x) (h1 : ∀ u ∈ nv, u.oneCell' = true) (hroom : n + m ≤ cap) (hfit : o + n * inf.size + nv.length ≤ cur.size) :
    (Builtin.append_ #[s, s] ty #[.slice (some ⟨g, o, .none⟩) n cap, x]).run P w =
      .ok (.slice (some ⟨g, o, .none⟩) (n + m) cap) (w.setRow g (cur.toList.take (o + n * inf.size) ++ nv ++ cur.toList.drop (o + n * inf.size + nv.length)).toArray) := by
  have hst := run_storeCells_at P g (o + n * inf.size) E' nv 0 cur w hg (by simpa using hfit) h1
  simp only [Nat.add_zero] at hst
  have hf := hx.first (P := P)
  have hl := hx.len (P := P)
  have ha : (⟨g, o, .none⟩ : Addr).add (n * inf.size) = ⟨g, o + n * inf.size, .none⟩ := by unfold Addr.add; split <;> simp_all
  simp [Builtin.append_, run_underlying ht, sizeOf, typeInfo, hi, hroom, hl, hf, ha, hst]

theorem run_append_none' (ht : P.underlying s = some (.slice E)) (hi : P.info? E = some inf) (hx : Src w inf.size 0 nv x) :
    (Builtin.append_ #[s, s] ty #[.slice .none 0 0, x]).run P w = .ok (.slice .none 0 0) w := by
  have hf := hx.first (P := P)
  have hl := hx.len (P := P)
  simp [Builtin.append_, run_underlying ht, sizeOf, typeInfo, hi, hl, hf]

theorem run_append_grow' (ht : P.underlying s = some (.slice E)) (hi : P.info? E = some inf) (hz : inf.zero = some z) {b : Option Addr}
    (ho : Src w inf.size n ov (.slice b n cap)) (hx : Src w inf.size m nv x) (hg : cap < n + m) (h63 : ((n + m : Nat) : Int) ≤ 9223372036854775807)
    (hfit : Builtin.nextslicecap (n + m) cap * inf.bytes ≤ 281474976710656) :
    (Builtin.append_ #[s, s] ty #[.slice b n cap, x]).run P w =
      .ok (.slice (some ⟨w.heap.size, 0, .none⟩) (n + m) (grownCap w (n + m) cap E))
        (w.drew.alloc (.cells (ov ++ nv ++ (Builtin.zeroCells z.cells (grownCap w (n + m) cap E - (n + m))).toList).toArray E)) := by
  have hn : ¬ (n + m ≤ cap) := by omega
  have h63' : ¬ (9223372036854775807 < ((n : Int) + (m : Int))) := by omega
  have h48' : ¬ (281474976710656 < Builtin.nextslicecap (n + m) cap * inf.bytes) := by omega
  have hf := hx.drew.first (P := P)
  have hl := hx.len (P := P)
  have hfo := ho.drew.first (P := P)
  simp [Builtin.append_, run_underlying ht, sizeOf, typeInfo, zeroValue, hi, hz, hn, h63', h48', Question.forced, hf, hl, hfo, newRow, grownCap]
  congr 2
  apply Array.ext'
  simp
end

section
variable {Γ : Ctx} {g : X} {a : Act} {w w' : World} {S : Nat → Prop} {β : Beta} {Fs : Nat → List Nat}

/-- A block that belongs to nobody is written. -/
theorem Inv.freeWrite {b : Nat} (h : Inv Γ g a w S β Fs) (hw : ∀ q, q ≠ b → w'.heap[q]? = w.heap[q]?) (hsz : w'.heap.size = w.heap.size)
    (hos : w'.os = w.os) (htp : w'.tape = w.tape) (hout : w'.output = w.output) (hbS : ¬ S b) (hbF : ∀ r, b ∉ Fs r) (hb : Γ.F0 b ∨ Γ.w0.heap.size ≤ b) : Inv Γ g a w' S β Fs := by
  have hS : ∀ q, S q → w'.heap[q]? = w.heap[q]? := fun q hq => hw q (by rintro rfl; exact hbS hq)
  have hF : ∀ r, ∀ q ∈ Fs r, w'.heap[q]? = w.heap[q]? := fun r q hq => hw q (by rintro rfl; exact hbF r hq)
  exact {
    defers := h.defers
    size := h.size
    slots := fun t d ht => Rep.mono hS (fun _ h => h) d β _ [] (by simp) (h.slots t d ht)
    roots := fun q z hq => RootRep.mono hS (fun _ h => h) (hF q) (h.roots q z hq)
    noroot := h.noroot
    nodup := h.nodup
    disj := h.disj
    own := fun r c hc => by rw [hsz]; exact h.own r c hc
    s0 := h.s0
    sOk := fun c hc => by rw [hsz]; exact h.sOk c hc
    ext := ⟨hos.trans h.ext.os, htp.trans h.ext.tape, hout.trans h.ext.output, by rw [hsz]; exact h.ext.size,
      fun c hc hn => (hw c (by
        rintro rfl
        rcases hb with h1 | h1
        · exact hn h1
        · omega)).trans (h.ext.kept c hc hn)⟩
    fix := h.fix }

theorem ext_drew (w : World) : Ext w w.drew noF := ⟨rfl, rfl, rfl, Nat.le_refl _, fun _ _ _ => rfl⟩

theorem FreshName.drop {r q : Nat} (h : FreshName g r) : FreshName (upd g [(2 * q + 1, none)]) r := by
  intro k e he
  rw [upd_one] at he
  split at he
  · cases he
  · exact h k e he
end

/-- What the slice that is appended to holds: a root whole, or nil. -/
def appTo (st : St) (sz : Nat) : D → Option (List D × List Nat × Option Nat × Nat)
  | .rs r 0 n => match look st (2 * r + 1) with
    | some (.r (.arr sz' cells refs)) => if sz' = sz then some (cells, refs, some r, n) else none
    | _ => none
  | .v (.slice .none 0 0) => some ([], [], none, 0)
  | _ => none

/-- What is appended: a root whole, which is given up ('true'), or cells that are copied. -/
def appSrc (st : St) (sz : Nat) (mv : Bool) : D → Option (List D × List Nat × Option Nat × Nat)
  | .rs r off n => match look st (2 * r + 1) with
    | some (.r (.arr sz' cells refs)) => if sz' = sz then (if mv then (if off = 0 then some (cells, refs, some r, n) else none) else some ((cells.drop off).take (n * sz), refs, none, n)) else none
    | _ => none
  | .sl n off ds => some ((ds.drop off).take (n * sz), [], none, n)
  | .v (.slice .none 0 0) => some ([], [], none, 0)
  | _ => none

def dropKeys : Option Nat → Wr
  | some r => [(2 * r + 1, none)]
  | none => []


section
variable {P : Program} {o : Oper} {N t : Nat} {st : St} {T : Tab}

theorem menL_dt (ds : List D) (i n : Nat) : ∀ m ∈ menL ((ds.drop i).take n), m ∈ menL ds := fun m hm => menL_drop_sub ds i m (menL_take_sub _ n m hm)

theorem Seg.cellAt {w : World} {b o i : Nat} {ys : List Value} (h : Seg w b o ys) (n : Nat) : ∀ (j : Nat) u, ((ys.drop i).take n)[j]? = some u → w.cell? ((⟨b, o + i, .none⟩ : Addr).add j) = some u := by
  intro j u hj
  rw [add_lit, Nat.add_assoc]
  refine h.cell ?_
  rw [List.getElem?_take] at hj
  split at hj
  · rw [List.getElem?_drop] at hj; exact hj
  · cases hj

def srcOwn (g : X) (Fs : Nat → List Nat) (F : List Nat) : Option Nat → Prop
  | some r => (∃ rt, g (2 * r + 1) = some (.r rt)) ∧ ∀ b ∈ F, b ∈ Fs r
  | none => F = []

/-- The source of an append: its cells as values, what is known of them, the blocks that come along. -/
theorem src_rep {Γ : Ctx} {g : X} {a : Act} {w : World} {S : Nat → Prop} {β : Beta} {Fs : Nat → List Nat} (hi : Inv Γ g a w S β Fs) {sz m : Nat} {mv : Bool} {d : D} {y : Value} {news : List D} {refs : List Nat} {q : Option Nat}
    (h : Rep w S d β y []) (hs : appSrc st sz mv d = some (news, refs, q, m)) (hlen : news.length = m * sz) (hf : q = none → noFrL news = true ∨ ∃ n off ds, d = .sl n off ds)
    (hn : Needs g (needRoots st (dRoot d))) :
    ∃ nv F, Src w sz m nv y ∧ RepL w S news (β.res refs) nv F ∧ (∀ mm ∈ menL news, refs.contains mm = true) ∧ F.Nodup ∧ srcOwn g Fs F q := by
  unfold appSrc at hs
  split at hs
  · rename_i r off n
    split at hs
    · rename_i sz' cells refs' hl
      split at hs
      · rename_i hsz; subst hsz
        simp only [dRoot, needRoots, needRoot, hl, List.append_nil, Needs] at hn
        have hr := hi.roots r _ hn.1
        unfold Rep at h
        cases eb : β r with
        | none => rw [eb] at hr; exact hr.ne.elim
        | nil =>
          rw [eb] at h hr
          obtain ⟨_, rfl, rfl, rfl⟩ := h
          obtain ⟨rfl, hF⟩ := hr
          cases mv <;> simp at hs
          · obtain ⟨rfl, rfl, rfl, rfl⟩ := hs
            exact ⟨[], [], ⟨_, _, rfl, by simp, .inl rfl⟩, RepL_nil, by simp [menL], List.nodup_nil, rfl⟩
          · obtain ⟨rfl, rfl, rfl, rfl⟩ := hs
            exact ⟨[], [], ⟨_, _, rfl, by simp, .inl rfl⟩, RepL_nil, by simp [menL], List.nodup_nil, ⟨_, hn.1⟩, by simp⟩
        | blk b o' sz2 m2 =>
          rw [eb] at h hr
          obtain ⟨_, cap, rfl, _⟩ := h
          obtain ⟨_, pre, ys, rest, E, F', h1, h2, h3, hF, h5, h6⟩ := hr
          have hseg : Seg w b o' ys := ⟨pre, rest, E, _, h1, h3⟩
          cases mv <;> simp at hs
          · obtain ⟨rfl, rfl, rfl, rfl⟩ := hs
            obtain ⟨F2, h7⟩ := RepL_sub h5 off (n * sz')
            rcases hf rfl with hf | ⟨_, _, _, e⟩
            · obtain rfl := RepL.noF hf h7
              refine ⟨_, [], ⟨_, _, rfl, by rw [RepL_length h7, hlen], .inr ⟨_, rfl, hseg.cellAt (i := off) _⟩⟩, h7, fun mm hm => h6 mm (menL_dt _ _ _ mm hm), List.nodup_nil, rfl⟩
            · cases e
          · obtain ⟨rfl, rfl, rfl, rfl, rfl⟩ := hs
            refine ⟨ys, F', ⟨_, _, rfl, by rw [RepL_length h5, hlen], .inr ⟨_, rfl, ?_⟩⟩, h5, h6, ?_, ⟨_, hn.1⟩, fun c hc => by rw [hF]; simp [hc]⟩
            · intro j u hj
              rw [add_lit, Nat.add_zero]
              exact hseg.cell hj
            · have := hi.nodup r; rw [hF] at this; exact (List.nodup_cons.1 this).2
      · cases hs
    · cases hs
  · rename_i n off ds
    simp at hs
    obtain ⟨rfl, rfl, rfl, rfl⟩ := hs
    unfold Rep at h
    obtain ⟨_, hmn, aa, cap, rfl, h⟩ := h
    have hm0 : ∀ mm ∈ menL ((ds.drop off).take (n * sz)), ([] : List Nat).contains mm = true := fun mm hm => by
      have := menL_dt _ _ _ mm hm; rw [hmn] at this; cases this
    rcases h with rfl | ⟨b, o', ys, rfl, h1, h2, h3⟩
    · have e : (ds.drop off).take (0 * sz) = [] := by simp
      rw [e]
      exact ⟨[], [], ⟨_, _, rfl, by simp, .inl rfl⟩, RepL_nil, by simp [menL], List.nodup_nil, rfl⟩
    · have h7 : RepL w S ((ds.drop off).take (n * sz)) noB ((ys.drop off).take (n * sz)) [] := by
        have e : ds = ds.take off ++ ((ds.drop off).take (n * sz) ++ (ds.drop off).drop (n * sz)) := by rw [List.take_append_drop, List.take_append_drop]
        obtain ⟨F2, h7⟩ := RepL_sub h3 off (n * sz)
        have h8 := h3
        rw [e] at h8
        obtain ⟨ya, y2, Fa, Fb, e1, e2, k1, k2⟩ := RepL_append h8
        obtain ⟨yb, yc, Fc, Fd, rfl, rfl, k3, k4⟩ := RepL_append k2
        simp only [List.nil_eq, List.append_eq_nil_iff] at e2
        obtain ⟨rfl, rfl, rfl⟩ := e2
        have l1 := RepL_length k1
        have l3 := RepL_length k3
        have l4 := RepL_length k4
        have l7 := RepL_length h7
        subst e1
        simp at l1 l3 l4 l7
        have : (List.drop off (ya ++ (yb ++ yc))).take (n * sz) = yb := by
          by_cases hi : off ≤ ds.length
          · have : ya.length = off := by omega
            rw [← this, List.drop_left]
            by_cases hn : n * sz ≤ ds.length - off
            · have : yb.length = n * sz := by omega
              rw [← this, List.take_left]
            · have : yc = [] := by apply List.eq_nil_of_length_eq_zero; omega
              subst this; simp; rw [List.take_of_length_le]; omega
          · have hb : yb = [] := by apply List.eq_nil_of_length_eq_zero; omega
            have hcc : yc = [] := by apply List.eq_nil_of_length_eq_zero; omega
            subst hb hcc
            simp; right; omega
        rw [this]; exact k3
      rw [noB_res (β := β)] at h7
      refine ⟨_, [], ⟨_, _, rfl, by rw [RepL_length h7, hlen], .inr ⟨_, rfl, ?_⟩⟩, h7, hm0, List.nodup_nil, rfl⟩
      have hc := h2.cellAt (i := off) (n * sz)
      simpa using hc
  · simp at hs
    obtain ⟨rfl, rfl, rfl, rfl⟩ := hs
    rw [Rep_v] at h
    exact ⟨[], [], ⟨_, _, h.1, by simp, .inl rfl⟩, RepL_nil, by simp [menL], List.nodup_nil, rfl⟩
  · cases hs
end
end Go.Gx
