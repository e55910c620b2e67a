/- Operations that make memory: alloc, box, buildSlice, makeSlice; build. -/
import Derived.Test.YtggojehmbpbefaaGxE
import Derived.Laws.NewBlocks
import Derived.IntWalk
import Derived.Great.FillDense
import Derived.Great.BuildSlice
namespace Go.Gx

theorem upd_cons (g : X) (k : Nat) (e : Option Ent) (r : Wr) : upd g ((k, e) :: r) = upd (upd g r) [(k, e)] := by
  funext q; simp [upd]

theorem ext_alloc (w : World) (o : Obj) : Ext w (w.alloc o) noF :=
  ⟨rfl, rfl, rfl, by simp, fun b hb _ => RowKit.Below.heap_alloc w o b hb⟩

theorem Ext.trans {w0 w w' : World} {F : Nat → Prop} (h : Ext w0 w F) (h' : Ext w w' F) : Ext w0 w' F :=
  ⟨h'.os.trans h.os, h'.tape.trans h.tape, h'.output.trans h.output, Nat.le_trans h.size h'.size,
    fun b hb hn => (h'.kept b (Nat.lt_of_lt_of_le hb h.size) hn).trans (h.kept b hb hn)⟩

theorem alloc_new (w : World) (o : Obj) : (w.alloc o).heap[w.heap.size]? = some o := heap_alloc_new w o

/-- What is known of cells that are stored: values of slots, each one cell. -/
def D.cellish : D → Bool
  | .any => false
  | .agg _ => false
  | .tup _ => false
  | .fr _ _ _ => false
  | .v x => x.oneCell'
  | _ => true

theorem Rep.cellish {w : World} {S : Nat → Prop} {β : Beta} {d : D} {y : Value} {F : List Nat} (hc : d.cellish = true) (hb : ∀ r ∈ dRoot d, β r ≠ .none) (h : Rep w S d β y F) : y.oneCell' = true := by
  cases d <;> simp [D.cellish] at hc
  case v x => rw [Rep_v] at h; rw [h.1]; exact hc
  case sl n off ds => unfold Rep at h; obtain ⟨_, _, a, cap, rfl, _⟩ := h; rfl
  case pt ds off => unfold Rep at h; obtain ⟨_, _, b, o', ys, rfl, _⟩ := h; rfl
  case rs r off n =>
    unfold Rep at h
    cases e : β r with
    | none => exact absurd e (hb r (by simp [dRoot]))
    | nil => rw [e] at h; obtain ⟨_, _, _, rfl⟩ := h; rfl
    | blk b o' sz m => rw [e] at h; obtain ⟨_, cap, rfl, _⟩ := h; rfl
  case rp r off =>
    unfold Rep at h
    cases e : β r with
    | none => exact absurd e (hb r (by simp [dRoot]))
    | nil => rw [e] at h; exact h.2.elim
    | blk b o' sz m => rw [e] at h; rw [h.2]; rfl
  case fn f caps => unfold Rep at h; obtain ⟨ys, rfl, _⟩ := h; rfl
  case ifc t d => unfold Rep at h; obtain ⟨x, rfl, _⟩ := h; rfl
  case rm r =>
    unfold Rep at h
    cases e : β r with
    | none => exact absurd e (hb r (by simp [dRoot]))
    | nil => rw [e] at h; exact h.2.elim
    | blk b o' sz m => rw [e] at h; rw [h.2]; rfl
  case bm es => unfold Rep at h; obtain ⟨_, b, rfl, _⟩ := h; rfl
  case fb f caps => unfold Rep at h; obtain ⟨_, _, ys, rfl, _⟩ := h; rfl

theorem Rep.toRes {w : World} {S : Nat → Prop} {β : Beta} {refs : List Nat} {d : D} {y : Value} {F : List Nat} (hs : subRefs d.men refs = true) (h : Rep w S d β y F) : Rep w S d (β.res refs) y F :=
  Rep.beta d y F (fun r hr => by
    have := List.all_eq_true.1 hs r hr
    unfold Beta.res; rw [if_pos this]) h

theorem RepL.toRes {w : World} {S : Nat → Prop} {β : Beta} {refs : List Nat} {ds : List D} {ys : List Value} {F : List Nat} (hs : subRefs (menL ds) refs = true) (h : RepL w S ds β ys F) : RepL w S ds (β.res refs) ys F :=
  RepL.beta ds ys F (fun r hr => by
    have := List.all_eq_true.1 hs r hr
    unfold Beta.res; rw [if_pos this]) h

section
variable {P : Program} {o : Oper} {N t : Nat} {st : St} {T : Tab}

/-- A new block becomes root r; slot t takes a reference to it. -/
theorem Inv.newBlk {Γ : Ctx} {g : X} {a : Act} {w : World} {S : Nat → Prop} {β : Beta} {Fs : Nat → List Nat} {r sz : Nat} {cells : List D} {refs : List Nat} {ys rest : List Value} {E : TypeId} {d : D} {y : Value}
    (h : Inv Γ g a w S β Fs) (ht : t < Γ.N) (hnp : Γ.np ≤ r) (hf : FreshName g r) (hr : refs.contains r = false) (hx : RepL w S cells (β.res refs) ys []) (hms : ∀ m ∈ menL cells, refs.contains m = true)
    (hd : Rep (w.alloc (.cells (ys ++ rest).toArray E)) S d (setB β r (.blk w.heap.size 0 sz (ys ++ rest).length)) y []) :
    Inv Γ (upd g [(2 * t, some (.d d)), (2 * r + 1, some (.r (.arr sz cells refs)))]) (a.put (some t) y) (w.alloc (.cells (ys ++ rest).toArray E)) S
      (setB β r (.blk w.heap.size 0 sz (ys ++ rest).length)) (setF Fs r [w.heap.size]) := by
  have h1 := h.world (ext_alloc w (.cells (ys ++ rest).toArray E))
  have hnS : ¬ S w.heap.size := fun hs => Nat.lt_irrefl _ (h.sOk _ hs).1
  have hx' : RepL (w.alloc (.cells (ys ++ rest).toArray E)) S cells ((setB β r (.blk w.heap.size 0 sz (ys ++ rest).length)).res refs) ys [] := by
    rw [res_setB hr]
    exact RepL.mono (fun b hb => RowKit.Below.heap_alloc _ _ _ (h.sOk b hb).1) (fun _ h => h) cells _ ys [] (by simp) hx
  have h2 := h1.newRoot (x := .arr sz cells refs) (rb := .blk w.heap.size 0 sz (ys ++ rest).length) (F := [w.heap.size]) hnp hf
    ⟨rfl, [], ys, rest, E, [], by simpa using alloc_new w _, by simp, rfl, rfl, hx', hms⟩ (by simp)
    (fun b hb => by
      obtain rfl := List.mem_singleton.1 hb
      exact ⟨hnS, by simp, .inr h.ext.size, fun q hq => Nat.lt_irrefl _ (h.own q _ hq).2.1⟩)
  rw [upd_cons]
  exact h2.put ht hd

/-- An operation that makes one block. -/
theorem opx_new {need : List (Nat × Ent)} {r sz : Nat} {cells : List D} {refs : List Nat} {d : D} (hdst : o.dst = some t) (ht : t < N) (hr : refs.contains r = false) (hms : ∀ m ∈ menL cells, refs.contains m = true)
    (h : ∀ Γ g a w S β Fs, Inv Γ g a w S β Fs → Needs g need → ∃ y ys rest E, (execOp a.eval o).run P w = .ok (.value y) (w.alloc (.cells (ys ++ rest).toArray E)) ∧ RepL w S cells (β.res refs) ys [] ∧
      Rep (w.alloc (.cells (ys ++ rest).toArray E)) S d (setB β r (.blk w.heap.size 0 sz (ys ++ rest).length)) y []) :
    OpX P o N need [(2 * t, some (.d d)), (2 * r + 1, some (.r (.arr sz cells refs)))] [r] := by
  intro Γ hN g a w K Q hs hn hfr hK
  obtain ⟨S, β, Fs, hi⟩ := hs
  obtain ⟨y, ys, rest, E, hrun, hc, hd⟩ := h Γ g a w S β Fs hi hn
  unfold Oper.wp
  rw [hrun]
  show K (a.put o.dst y) _
  rw [hdst]
  exact hK _ _ ⟨S, _, _, hi.newBlk (by omega) (hfr r (by simp)).1 (hfr r (by simp)).2 hr hc hms hd⟩

theorem RepL_vals {w : World} {S : Nat → Prop} {β : Beta} : ∀ (l : List Value), (∀ y ∈ l, y.oneCell' = true) → RepL w S (l.map D.v) β l []
  | [], _ => RepL_nil
  | y :: l, h => RepL_cons (F1 := []) (F2 := []) (h y (by simp)) (by rw [Rep_v]; exact ⟨rfl, rfl⟩) (RepL_vals l fun z hz => h z (by simp [hz]))

theorem menL_vals : ∀ (l : List Value), menL (l.map D.v) = []
  | [] => rfl
  | y :: l => by simp [menL, D.men, menL_vals l]

def oneAll (l : List Value) : Bool := l.all (·.oneCell')

theorem opx_alloc (hT : TabOk P T) {r : Nat} {E : TypeId} {i : TI} (ho : o.op = .alloc E) (hd : o.dst = some t) (ht : t < N) (hi' : T.get E = some i) (h1 : oneAll i.zero = true) :
    OpX P o N [] [(2 * t, some (.d (.rp r 0))), (2 * r + 1, some (.r (.arr 1 (i.zero.map D.v) [])))] [r] :=
  opx_new hd ht rfl (by rw [menL_vals]; simp) fun Γ g a w S β Fs hi hn => by
    obtain ⟨z, hz, he⟩ := (hT.get hi').zeroV w
    refine ⟨.pointer (some ⟨w.heap.size, 0, .none⟩), i.zero, [], E, ?_, ?_, ?_⟩
    · have : z.cells = i.zero.toArray := by apply Array.ext'; simpa using he
      simp [execOp, ho, Instr.alloc, hz, newVar, newRow, this]
    · exact RepL_vals _ (fun y hy => List.all_eq_true.1 h1 y hy)
    · unfold Rep; simp [setB]

/-- The cells of a stored value, and the roots that they name. -/
def dCells : D → List D
  | .agg ds => ds
  | d => [d]

theorem cells_rep {w : World} {S : Nat → Prop} {β : Beta} {d : D} {y : Value} (h : Rep w S d β y []) (hc : (dCells d).all D.cellish = true) (hb : ∀ r ∈ menL (dCells d), β r ≠ .none) :
    ∃ ys, y.cells = ys.toArray ∧ RepL w S (dCells d) β ys [] := by
  by_cases ha : ∃ ds, d = .agg ds
  · obtain ⟨ds, rfl⟩ := ha
    unfold Rep at h
    obtain ⟨ys, rfl, h⟩ := h
    exact ⟨ys, rfl, h⟩
  · have e : dCells d = [d] := by cases d <;> simp [dCells] at *
    rw [e] at hc hb ⊢
    simp at hc
    have h1 : y.oneCell' = true := h.cellish hc (fun r hr => hb r (by
      cases d <;> simp [dRoot] at hr <;> subst hr <;> simp [menL, D.men]))
    refine ⟨[y], ?_, RepL_cons (F1 := []) (F2 := []) h1 h RepL_nil⟩
    cases y <;> simp [Value.oneCell'] at h1 <;> rfl

theorem opx_box {r : Nat} {E : TypeId} {x : Operand} (ho : o.op = .box E x) (hd : o.dst = some t) (ht : t < N)
    (hc : (dCells (evD st x)).all D.cellish = true) (hr : hasRoots st (menL (dCells (evD st x))) = true) (hf : (menL (dCells (evD st x))).contains r = false) :
    OpX P o N (needOf st x ++ needRoots st (menL (dCells (evD st x)))) [(2 * t, some (.d (.rp r 0))), (2 * r + 1, some (.r (.arr 1 (dCells (evD st x)) (menL (dCells (evD st x))))))] [r] :=
  opx_new hd ht hf (fun m hm => List.contains_iff_mem.2 hm) fun Γ g a w S β Fs hi hn => by
    rw [Needs.append] at hn
    obtain ⟨ys, e, h⟩ := cells_rep (hi.eval hn.1) hc (hi.root_known hr hn.2)
    refine ⟨.pointer (some ⟨w.heap.size, 0, .none⟩), ys, [], E, ?_, h.toRes ?_, ?_⟩
    · simp [execOp, ho, Instr.box, newVar, newRow, e]
    · exact List.all_eq_true.2 fun r hr => List.contains_iff_mem.2 hr
    · unfold Rep; simp [setB]

/-! ### make -/
def repl (n : Nat) (zs : List Value) : List D := (List.replicate n (zs.map D.v)).flatten
theorem repl_eq (n : Nat) (zs : List Value) : repl n zs = ((List.replicate n zs).flatten).map D.v := by simp [repl, List.map_flatten]
theorem menL_repl (n : Nat) (zs : List Value) : menL (repl n zs) = [] := by rw [repl_eq, menL_vals]

theorem range_mod (zs : List Value) (hz : 0 < zs.length) : ∀ n, ((Array.range (n * zs.length)).map (zs.toArray[· % zs.toArray.size]!)).toList = (List.replicate n zs).flatten := by
  intro n
  apply List.ext_getElem?
  intro i
  have hlen : (List.replicate n zs).flatten.length = n * zs.length := by simp [List.length_flatten]
  by_cases hi : i < n * zs.length
  · have h1 : i % zs.length < zs.length := Nat.mod_lt _ hz
    simp only [Array.toList_map, Array.toList_range, List.getElem?_map, List.getElem?_range, hi, Option.map_some, List.size_toArray]
    have : ∀ n i, i < n * zs.length → (List.replicate n zs).flatten[i]? = zs[i % zs.length]? := by
      intro n
      induction n with
      | zero => intro i hi; simp at hi
      | succ n ih =>
        intro i hi
        rw [List.replicate_succ, List.flatten_cons]
        by_cases hl : i < zs.length
        · rw [List.getElem?_append_left hl, Nat.mod_eq_of_lt hl]
        · rw [List.getElem?_append_right (by omega), ih (i - zs.length) (by rw [Nat.add_mul] at hi; omega)]
          congr 1
          rw [Nat.mod_eq_sub_mod (a := i) (by omega)]
    rw [this n i hi]
    simp [h1]
  · rw [List.getElem?_eq_none (by simp; omega), List.getElem?_eq_none (by omega)]

theorem opx_make (hT : TabOk P T) {r : Nat} {s E : TypeId} {i j : TI} {x y : Operand} {n c : Int} (ho : o.op = .makeSlice s x y) (hd : o.dst = some t) (ht : t < N)
    (hs : T.get s = some i) (he : i.desc = .slice E) (hj : T.get E = some j) (hz : j.zero.length = j.size) (h1 : oneAll j.zero = true) (hsz : 0 < j.size)
    (hx : evD st x = .v (.int .i64 n)) (hy : evD st y = .v (.int .i64 c)) (hn0 : 0 ≤ n) (hnc : n ≤ c) (hcb : c < 281474976710656) (hb : (j.bytes : Int) * c ≤ 281474976710656) :
    OpX P o N (needOf st x ++ needOf st y) [(2 * t, some (.d (.rs r 0 n.toNat))), (2 * r + 1, some (.r (.arr j.size (repl n.toNat j.zero) [])))] [r] :=
  opx_new hd ht rfl (by rw [menL_repl]; simp) fun Γ g a w S β Fs hi hn => by
    rw [Needs.append] at hn
    have e1 := hi.eval hn.1
    have e2 := hi.eval hn.2
    rw [hx, Rep_v] at e1
    rw [hy, Rep_v] at e2
    obtain ⟨z, hzr, hze⟩ := (hT.get hj).zeroV w
    obtain ⟨inf, hinf, hby, _⟩ := (hT.get hj).info w
    have hzc : z.cells = j.zero.toArray := by apply Array.ext'; simpa using hze
    have hw : ∀ m : Int, 0 ≤ m → m < 281474976710656 → IntKind.i64.wrap m = m := fun m h0 h1 => IntWalk.i64_in m (by omega)
    have hsplit : (List.replicate c.toNat j.zero).flatten = (List.replicate n.toNat j.zero).flatten ++ (List.replicate (c.toNat - n.toNat) j.zero).flatten := by
      rw [← List.flatten_append, List.replicate_append_replicate]; congr 2; omega
    refine ⟨.slice (some ⟨w.heap.size, 0, .none⟩) n.toNat c.toNat, (List.replicate n.toNat j.zero).flatten, (List.replicate (c.toNat - n.toNat) j.zero).flatten, E, ?_, ?_, ?_⟩
    · rw [← hsplit]
      have hcells : ∀ q : Nat, 0 < q → ((Array.range (q * j.zero.length)).map (j.zero.toArray[· % j.zero.toArray.size]!)) = (List.replicate q j.zero).flatten.toArray := by
        intro q _; apply Array.ext'; rw [range_mod _ (by omega)]
      have hwn := hw n hn0 (by omega)
      have hwc := hw c (by omega) hcb
      simp only [execOp, ho, e1.1, e2.1]
      simp only [Instr.makeSlice, (hT.get hs).und, he, Sem.run_bind, Result.andThen_ok, asInt, asIntOf, Sem.run_pure, hinf, hwn, hwc, hby]
      have t1 : (decide (c < 0) || decide ((j.bytes : Int) * c > 2 ^ 48)) = false := by simp; omega
      have t2 : (decide (n < 0)) = false := by simp; omega
      have t3 : (decide (n > c)) = false := by simp; omega
      simp only [t1, t2, t3, Bool.or_false, Bool.false_eq_true, if_false, Sem.run_bind, run_askRoom, Result.andThen_ok, (hT.get hj).size]
      by_cases hc0 : c.toNat * j.size = 0
      · have : c.toNat = 0 := by rcases Nat.mul_eq_zero.1 hc0 with h | h <;> omega
        simp [this, newRow]
        congr 2
        apply Array.ext'
        simp
      · simp only [hc0, if_false, Sem.run_bind, hzr, Result.andThen_ok, Sem.run_pure, hzc]
        have := hcells c.toNat (by rcases Nat.eq_zero_or_pos c.toNat with h | h; · simp [h] at hc0
                                   · exact h)
        rw [hz] at this
        simp only [newRow, this, Sem.run_bind, run_newObj, Result.andThen_ok, Sem.run_pure, World.alloc_eq]
    · have : repl n.toNat j.zero = ((List.replicate n.toNat j.zero).flatten).map D.v := by
        simp [repl, List.map_flatten]
      rw [this]
      refine RepL_vals _ fun y hy => ?_
      obtain ⟨l, hl, hy⟩ := List.mem_flatten.1 hy
      obtain rfl := (List.mem_replicate.1 hl).2
      exact List.all_eq_true.1 h1 y hy
    · unfold Rep
      refine ⟨rfl, ?_⟩
      simp only [setB, if_true]
      refine ⟨c.toNat, by simp, by omega, ?_⟩
      rw [← hsplit]
      simp [List.length_flatten, hz]
end
end Go.Gx
