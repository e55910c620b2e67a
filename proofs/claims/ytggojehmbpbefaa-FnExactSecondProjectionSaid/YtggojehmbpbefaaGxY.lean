/- How the values of the models stand as data: borrowed ('b') and owned ('o'). -/
import Derived.Test.YtggojehmbpbefaaGxX
namespace Go.Gx

structure Enc (α : Type) where
  sz : Nat
  b : α → List D
  o : α → List D

structure EncOk {α : Type} (e : Enc α) : Prop where
  lenB : ∀ x, (e.b x).length = e.sz
  lenO : ∀ x, (e.o x).length = e.sz
  menB : ∀ x, menL (e.b x) = []
  menO : ∀ x, menL (e.o x) = []
  noFr : ∀ x, noFrL (e.b x) = true
  bor : ∀ st B x, BorC st B (e.o x) (e.b x)

def eI : Enc Int := ⟨1, fun x => [iv x], fun x => [iv x]⟩
def eB : Enc Bool := ⟨1, fun x => [bv x], fun x => [bv x]⟩
def eStr : Enc ByteArray := ⟨1, fun x => [.v (.string x)], fun x => [.v (.string x)]⟩
def eS {α : Type} (e : Enc α) : Enc (List α) := ⟨1, fun xs => [.sl xs.length 0 (xs.flatMap e.b)], fun xs => [.fr e.sz xs.length (xs.flatMap e.o)]⟩
/-- A pointer: read only. -/
def eP {α : Type} (e : Enc α) : Enc α := ⟨1, fun x => [.pt (e.b x) 0], fun x => [.pt (e.b x) 0]⟩
/-- A field; two after each other. -/
def eC {α γ : Type} (e : Enc α) (f : γ → α) : Enc γ := ⟨e.sz, fun c => e.b (f c), fun c => e.o (f c)⟩
def eA {γ : Type} (e e' : Enc γ) : Enc γ := ⟨e.sz + e'.sz, fun c => e.b c ++ e'.b c, fun c => e.o c ++ e'.o c⟩

theorem menL_flatMap {α : Type} {f : α → List D} (h : ∀ x, menL (f x) = []) : ∀ xs : List α, menL (xs.flatMap f) = []
  | [] => rfl
  | x :: xs => by rw [List.flatMap_cons, menL_append, h x, menL_flatMap h xs]; rfl
theorem noFrL_append : ∀ {a b : List D}, noFrL (a ++ b) = (noFrL a && noFrL b)
  | [], _ => by simp [noFrL]
  | d :: a, b => by simp [noFrL, noFrL_append (a := a), Bool.and_assoc]
theorem noFrL_flatMap {α : Type} {f : α → List D} (h : ∀ x, noFrL (f x) = true) : ∀ xs : List α, noFrL (xs.flatMap f) = true
  | [] => rfl
  | x :: xs => by rw [List.flatMap_cons, noFrL_append, h x, noFrL_flatMap h xs]; rfl
theorem len_flatMap {α : Type} {f : α → List D} {n : Nat} (h : ∀ x, (f x).length = n) : ∀ xs : List α, (xs.flatMap f).length = xs.length * n
  | [] => by simp
  | x :: xs => by rw [List.flatMap_cons, List.length_append, h x, len_flatMap h xs, List.length_cons, Nat.succ_mul]; omega

theorem eI_ok : EncOk eI := ⟨fun _ => rfl, fun _ => rfl, fun _ => rfl, fun _ => rfl, fun _ => rfl, fun _ _ _ => .cons .v .nil⟩
theorem eB_ok : EncOk eB := ⟨fun _ => rfl, fun _ => rfl, fun _ => rfl, fun _ => rfl, fun _ => rfl, fun _ _ _ => .cons .v .nil⟩
theorem eStr_ok : EncOk eStr := ⟨fun _ => rfl, fun _ => rfl, fun _ => rfl, fun _ => rfl, fun _ => rfl, fun _ _ _ => .cons .v .nil⟩
theorem eS_ok {α : Type} {e : Enc α} (h : EncOk e) : EncOk (eS e) :=
  ⟨fun _ => rfl, fun _ => rfl, fun _ => rfl, fun _ => rfl, fun _ => rfl, fun st B xs => .cons (.fr (.flatMap (fun x => h.bor st B x) xs)) .nil⟩
theorem eP_ok {α : Type} {e : Enc α} : EncOk (eP e) :=
  ⟨fun _ => rfl, fun _ => rfl, fun _ => rfl, fun _ => rfl, fun _ => rfl, fun _ _ _ => .cons (.same rfl rfl) .nil⟩
theorem eC_ok {α γ : Type} {e : Enc α} (h : EncOk e) (f : γ → α) : EncOk (eC e f) :=
  ⟨fun _ => h.lenB _, fun _ => h.lenO _, fun _ => h.menB _, fun _ => h.menO _, fun _ => h.noFr _, fun st B _ => h.bor st B _⟩
theorem eA_ok {γ : Type} {e e' : Enc γ} (h : EncOk e) (h' : EncOk e') : EncOk (eA e e') :=
  ⟨fun x => by simp [eA, h.lenB x, h'.lenB x], fun x => by simp [eA, h.lenO x, h'.lenO x], fun x => by simp [eA, menL_append, h.menB x, h'.menB x], fun x => by simp [eA, menL_append, h.menO x, h'.menO x],
    fun x => by simp [eA, noFrL_append, h.noFr x, h'.noFr x], fun st B x => .append (h.bor st B x) (h'.bor st B x)⟩

/-- Nothing borrowed in it. -/
def EncNb {α : Type} (e : Enc α) : Prop := ∀ x, NoBorL (e.o x)
theorem eI_nb : EncNb eI := fun _ => .cons .v .nil
theorem eB_nb : EncNb eB := fun _ => .cons .v .nil
theorem eStr_nb : EncNb eStr := fun _ => .cons .v .nil
theorem eS_nb {α : Type} {e : Enc α} (h : EncNb e) : EncNb (eS e) := fun xs => .cons (.fr (.flatMap h xs)) .nil
theorem eC_nb {α γ : Type} {e : Enc α} (h : EncNb e) (f : γ → α) : EncNb (eC e f) := fun x => h (f x)
theorem eA_nb {γ : Type} {e e' : Enc γ} (h : EncNb e) (h' : EncNb e') : EncNb (eA e e') := fun x => .append (h x) (h' x)

section
variable {α : Type} {e : Enc α}

/-! ### elements -/
theorem flat_split {f : α → List D} {n : Nat} (hn : ∀ x, (f x).length = n) : ∀ {xs : List α} {k : Nat} {x : α}, xs[k]? = some x → ∃ pre post, xs.flatMap f = pre ++ f x ++ post ∧ pre.length = k * n
  | [], k, x, h => by simp at h
  | y :: xs, 0, x, h => by simp at h; subst h; exact ⟨[], xs.flatMap f, by simp, by simp⟩
  | y :: xs, k + 1, x, h => by
    obtain ⟨pre, post, e1, e2⟩ := flat_split hn (xs := xs) (k := k) (x := x) (by simpa using h)
    refine ⟨f y ++ pre, post, by rw [List.flatMap_cons, e1]; simp, ?_⟩
    rw [List.length_append, hn y, e2, Nat.succ_mul]; omega

theorem at_b0 (h : EncOk e) {xs : List α} {i : Int} {x : α} (hx : xs[i.toNat]? = some x) {d : D} (hd : (e.b x)[0]? = some d) : (xs.flatMap e.b)[0 + i.toNat * e.sz]? = some d := by
  obtain ⟨pre, post, e1, e2⟩ := flat_split h.lenB hx
  have h0 : 0 < (e.b x).length := (List.getElem?_eq_some_iff.1 hd).1
  rw [e1, Nat.zero_add, ← e2, List.append_assoc, List.getElem?_append_right (Nat.le_refl _), Nat.sub_self, List.getElem?_append_left h0]
  exact hd
theorem at_bj (h : EncOk e) {xs : List α} {i : Int} {x : α} {j : Nat} (hx : xs[i.toNat]? = some x) {d : D} (hd : (e.b x)[j]? = some d) : (xs.flatMap e.b)[0 + i.toNat * e.sz + j]? = some d := by
  obtain ⟨pre, post, e1, e2⟩ := flat_split h.lenB hx
  have h0 : j < (e.b x).length := (List.getElem?_eq_some_iff.1 hd).1
  rw [e1, Nat.zero_add, ← e2, List.append_assoc, List.getElem?_append_right (by omega), Nat.add_sub_cancel_left, List.getElem?_append_left h0]
  exact hd
theorem at_o0 (h : EncOk e) {xs : List α} {i : Int} {x : α} (hx : xs[i.toNat]? = some x) {d : D} (hd : (e.o x)[0]? = some d) : (xs.flatMap e.o)[0 + i.toNat * e.sz]? = some d := by
  obtain ⟨pre, post, e1, e2⟩ := flat_split h.lenO hx
  have h0 : 0 < (e.o x).length := (List.getElem?_eq_some_iff.1 hd).1
  rw [e1, Nat.zero_add, ← e2, List.append_assoc, List.getElem?_append_right (Nat.le_refl _), Nat.sub_self, List.getElem?_append_left h0]
  exact hd
theorem sub_b (h : EncOk e) {xs : List α} {i : Int} {x : α} (hx : xs[i.toNat]? = some x) : ((xs.flatMap e.b).drop (0 + i.toNat * e.sz)).take e.sz = e.b x := by
  obtain ⟨pre, post, e1, e2⟩ := flat_split h.lenB hx
  rw [e1, Nat.zero_add, ← e2, List.append_assoc, List.drop_left, ← h.lenB x, List.take_left]
theorem sub_bj (h : EncOk e) {xs : List α} {i : Int} {x : α} {j n : Nat} {ds : List D} (hx : xs[i.toNat]? = some x) (hj : Nat.ble (j + n) e.sz = true) (hd : ((e.b x).drop j).take n = ds) : ((xs.flatMap e.b).drop (0 + i.toNat * e.sz + j)).take n = ds := by
  obtain ⟨pre, post, e1, e2⟩ := flat_split h.lenB hx
  have hj := Nat.le_of_ble_eq_true hj
  have hl := h.lenB x
  rw [e1, Nat.zero_add, ← e2, List.append_assoc, ← List.drop_drop, List.drop_left, List.drop_append_of_le_length (by omega), List.take_append_of_le_length (by simp; omega)]
  exact hd

theorem Pass.ptk {ρ : Nat → Nat} {ds ds' : List D} {off n : Nat} (hoff : Nat.ble off ds.length = true) (h : (ds.drop off).take n = ds') (hn : Nat.beq ds'.length n = true) : Pass ρ (.pt ds off) (.pt ds' 0) :=
  Pass.pt (Nat.le_of_ble_eq_true hoff) h (Nat.eq_of_beq_eq_true hn)
theorem Pass.el {ρ : Nat → Nat} (h : EncOk e) {xs : List α} {i : Int} {x : α} (hx : xs[i.toNat]? = some x) : Pass ρ (.pt (xs.flatMap e.b) (0 + i.toNat * e.sz)) (.pt (e.b x) 0) := by
  refine Pass.pt ?_ (sub_b h hx) (h.lenB x)
  have := (List.getElem?_eq_some_iff.1 hx).1
  rw [len_flatMap h.lenB, Nat.zero_add]
  exact Nat.mul_le_mul_right _ (Nat.le_of_lt this)
theorem Pass.elf {ρ : Nat → Nat} (h : EncOk e) {xs : List α} {i : Int} {x : α} {j n : Nat} {ds : List D} (hx : xs[i.toNat]? = some x) (hj : Nat.ble (j + n) e.sz = true) (hd : ((e.b x).drop j).take n = ds) :
    Pass ρ (.pt (xs.flatMap e.b) (0 + i.toNat * e.sz + j)) (.pt ds 0) := by
  refine Pass.pt ?_ (sub_bj h hx hj hd) ?_
  · have h1 := (List.getElem?_eq_some_iff.1 hx).1
    have hj := Nat.le_of_ble_eq_true hj
    rw [len_flatMap h.lenB, Nat.zero_add]
    have : (i.toNat + 1) * e.sz ≤ xs.length * e.sz := Nat.mul_le_mul_right _ h1
    rw [Nat.succ_mul] at this
    omega
  · have hj := Nat.le_of_ble_eq_true hj
    rw [← hd, List.length_take, List.length_drop, h.lenB x]; omega

/-! ### owned rows -/
theorem flat_snoc (f : α → List D) (xs : List α) (x : α) : xs.flatMap f ++ f x = (xs ++ [x]).flatMap f := by simp
theorem flat_app (f : α → List D) (xs ys : List α) : xs.flatMap f ++ ys.flatMap f = (xs ++ ys).flatMap f := by simp
theorem take_all {ds : List D} {n : Nat} (h : ds.length = n) : (ds.drop 0).take n = ds := by simp [← h]
/-- What is copied of a slice of plain values. -/
theorem app_take {f g : α → List D} {n : Nat} (hn : ∀ x, (g x).length = n) (hfg : ∀ x, g x = f x) (xs ys : List α) : xs.flatMap f ++ ((ys.flatMap g).drop 0).take (ys.length * n) = (xs ++ ys).flatMap f := by
  have : g = f := funext hfg
  subst this
  rw [take_all (len_flatMap hn ys), flat_app]
theorem len_take {g : α → List D} {n : Nat} (hn : ∀ x, (g x).length = n) (ys : List α) : (((ys.flatMap g).drop 0).take (ys.length * n)).length = ys.length * n := by
  rw [take_all (len_flatMap hn ys), len_flatMap hn]
theorem noFr_take {g : α → List D} {n : Nat} (hn : ∀ x, (g x).length = n) (hf : ∀ x, noFrL (g x) = true) (ys : List α) : noFrL (((ys.flatMap g).drop 0).take (ys.length * n)) = true := by
  rw [take_all (len_flatMap hn ys), noFrL_flatMap hf]

theorem repl_flat {zs : List Value} {f : α → List D} {z : α} (h : zs.map D.v = f z) (n : Nat) : repl n zs = (List.replicate n z).flatMap f := by
  unfold repl
  rw [h]
  induction n with
  | zero => rfl
  | succ n ih => rw [List.replicate_succ, List.replicate_succ, List.flatten_cons, List.flatMap_cons, ih]
theorem SubL.append {a a' b b' : List D} (h : SubL a a') (h' : SubL b b') : SubL (a ++ b) (a' ++ b') := fun w S β ys F hr => by
  obtain ⟨y1, y2, F1, F2, rfl, rfl, h1, h2⟩ := RepL_append hr
  exact RepL_append_mk (h _ _ _ _ _ h1) (h' _ _ _ _ _ h2)
theorem subl_repl {zs : List Value} {f : α → List D} {z : α} (h : SubL (zs.map D.v) (f z)) : ∀ n, SubL (repl n zs) ((List.replicate n z).flatMap f)
  | 0 => .nil
  | n + 1 => by
    have : repl (n + 1) zs = zs.map D.v ++ repl n zs := by simp [repl, List.replicate_succ]
    rw [this, List.replicate_succ, List.flatMap_cons]
    exact .append h (subl_repl h n)

theorem set_flat {f : α → List D} {n : Nat} (hn : ∀ x, (f x).length = n) : ∀ {xs : List α} {k : Nat} {x y : α}, xs[k]? = some x → (xs.flatMap f).take (0 + k * n) ++ f y ++ (xs.flatMap f).drop (0 + k * n + n) = (xs.set k y).flatMap f
  | [], k, x, y, h => by simp at h
  | z :: xs, 0, x, y, h => by
    simp only [Nat.zero_mul, Nat.add_zero, List.take_zero, List.nil_append, List.flatMap_cons, List.set_cons_zero, Nat.zero_add]
    rw [← hn z, List.drop_left]
  | z :: xs, k + 1, x, y, h => by
    have ih := set_flat hn (xs := xs) (k := k) (x := x) (y := y) (by simpa using h)
    have e1 : 0 + (k + 1) * n = (f z).length + (0 + k * n) := by rw [hn z, Nat.succ_mul]; omega
    rw [List.flatMap_cons, List.set_cons_succ, List.flatMap_cons, ← ih, e1, List.take_length_add_append, Nat.add_assoc, List.drop_length_add_append]
    simp
end

/-! ### ghost steps, as they are printed -/
section
variable {P : Program} {T : Tab} {N np : Nat} {st : St} {Q : Post}

theorem imp_cvD {k : Nat} {d d' : D} (h : d = d') (hk : look st k = some (.d d)) : Imp np st ((k, .d d') :: st) := imp_conv hk (Sub.of_eq h)
theorem imp_cvS {k : Nat} {d d' : D} (h : Sub d d') (hk : look st k = some (.d d)) : Imp np st ((k, .d d') :: st) := imp_conv hk h
theorem imp_cvE {r sz : Nat} {cells cells' : List D} {refs : List Nat} (h : cells = cells') (hm : menL cells' = []) (hk : look st (2 * r + 1) = some (.r (.arr sz cells refs))) : Imp np st ((2 * r + 1, .r (.arr sz cells' [])) :: st) :=
  imp_convR hk (SubL.of_eq h) (fun e => by rw [← h, e]) (by rw [hm]; simp)
theorem imp_cvL {r sz : Nat} {cells cells' : List D} {refs : List Nat} (h : SubL cells cells') (hl : cells = [] → cells' = []) (hm : menL cells' = []) (hk : look st (2 * r + 1) = some (.r (.arr sz cells refs))) : Imp np st ((2 * r + 1, .r (.arr sz cells' [])) :: st) :=
  imp_convR hk h hl (by rw [hm]; simp)
/-- The cells of a struct, known otherwise. -/
theorem imp_cvB {r sz : Nat} {cells cells' : List D} {refs refs' : List Nat} (h : SubL cells cells') (hl : Nat.beq cells.length cells'.length = true) (hs : (subRefs (menL cells') refs && subRefs (menL cells') refs') = true)
    (hk : look st (2 * r + 1) = some (.r (.arr sz cells refs))) : Imp np st ((2 * r + 1, .r (.arr sz cells' refs')) :: st) :=
  imp_convR hk h (fun e => by
    have := Nat.eq_of_beq_eq_true hl
    rw [e] at this
    exact List.eq_nil_of_length_eq_zero this.symm) (fun m hm => by
    simp only [Bool.and_eq_true] at hs
    exact ⟨List.all_eq_true.1 hs.1 m hm, List.all_eq_true.1 hs.2 m hm⟩)

theorem imp_dem {r q sz sz' n j : Nat} {pre l post ds : List D} {refs refs' : List Nat} (hpre : menL pre = []) (hpost : menL post = []) (hl : ds.length = n * sz') (hne : Nat.beq r q = false) (hc : l[j]? = some (.rs q 0 n))
    (hs : (subRefs (menL (l.set j (.fr sz' n ds))) refs' && subRefs refs' refs) = true) (hr : look st (2 * r + 1) = some (.r (.arr sz (pre ++ l ++ post) refs))) (hq : look st (2 * q + 1) = some (.r (.arr sz' ds []))) :
    Imp np st (updSt st [(2 * r + 1, some (.r (.arr sz (pre ++ l.set j (.fr sz' n ds) ++ post) refs'))), (2 * q + 1, none)]) := by
  have hj : j < l.length := (List.getElem?_eq_some_iff.1 hc).1
  have e : (pre ++ l ++ post).set (pre.length + j) (.fr sz' n ds) = pre ++ l.set j (.fr sz' n ds) ++ post := by
    rw [List.append_assoc, List.append_assoc, List.set_append, if_neg (by omega), Nat.add_sub_cancel_left, List.set_append, if_pos hj]
  have h := imp_demote (np := np) (i := pre.length + j) (refs' := refs') hr hq (Nat.ne_of_beq_eq_false hne) (by rw [List.append_assoc, List.getElem?_append_right (by omega), Nat.add_sub_cancel_left, List.getElem?_append_left hj]; exact hc) hl (by
    rw [e]
    intro m hm
    rw [menL_append, menL_append, hpre, hpost] at hm
    simp only [List.nil_append, List.append_nil] at hm
    simp only [Bool.and_eq_true] at hs
    have h1 := List.all_eq_true.1 hs.1 m hm
    exact ⟨List.all_eq_true.1 hs.2 m (by simpa using h1), h1⟩)
  rw [e] at h
  exact h

theorem Tr.by {c : Code} {st' : St} (h : Imp np st st') (h' : Tr P N np c st' Q) : Tr P N np c st Q := Tr.imp h h'

theorem tr_condTe {t : Nat} {x y : Code} {e : Bool} (he : e = true) (hc : look st (2 * t) = some (.d (.v (.bool e)))) (h : Tr P N np x st Q) : Tr P N np (.cond (.tmp t) x y) st Q := tr_condT (he ▸ hc) h
theorem tr_condFe {t : Nat} {x y : Code} {e : Bool} (he : e = false) (hc : look st (2 * t) = some (.d (.v (.bool e)))) (h : Tr P N np y st Q) : Tr P N np (.cond (.tmp t) x y) st Q := tr_condF (he ▸ hc) h

/-- Ghost steps at the end of a body. -/
def RetG (T : Tab) (fn : Func) (np : Nat) (rout : List (Nat × Root)) (res : D) (st : St) : Prop := ∃ st', Imp np st st' ∧ RetQ T fn np rout res st'
def retG (T : Tab) (fn : Func) (np : Nat) (rout : List (Nat × Root)) (res : D) : Post
  | .normal, st => RetG T fn np rout res st
  | .ret, st => RetG T fn np rout res st
  | _, _ => False

theorem fnc_startG {f : FuncId} {fn : Func} {c : Code} {rin rout : List (Nat × Root)} {args : List D} {res : D} (hT : TabOk P T) (hf : P.funcs[f]? = some fn) (hb : fn.body = some c) (hN : fn.ntmps = N) (hk : Nat.ble args.length N = true) (h : Tr P N np c (argSt 0 args ++ rootSt rin) (retG T fn np rout res)) : FnC P f rin args rout res := by
  refine fnc_start (np := np) hT hf hb hN hk ?_
  intro Γ hN hn a w hs
  refine wp_mono (h Γ hN hn a w hs) fun e a' w' ⟨s, hq, hs'⟩ => ?_
  cases e with
  | normal => obtain ⟨s', hi, hr⟩ := hq; exact ⟨s', hr, hi Γ hn a' w' hs'⟩
  | ret => obtain ⟨s', hi, hr⟩ := hq; exact ⟨s', hr, hi Γ hn a' w' hs'⟩
  | exit id => exact hq.elim
  | goto l => exact hq.elim
  | panic ch => exact hq.elim
  | outgrown => exact hq.elim

theorem rg_r {fn : Func} {rout : List (Nat × Root)} {res : D} (h : RetG T fn np rout res st) : retG T fn np rout res .ret st := h
theorem rg_n {fn : Func} {rout : List (Nat × Root)} {res : D} (h : RetG T fn np rout res st) : retG T fn np rout res .normal st := h
theorem RetG.by {fn : Func} {rout : List (Nat × Root)} {res : D} {st' : St} (h : Imp np st st') (h' : RetG T fn np rout res st') : RetG T fn np rout res st := by
  obtain ⟨s, h1, h2⟩ := h'
  exact ⟨s, h.trans h1, h2⟩
theorem retg {fn : Func} {names : List Nat} {rout : List (Nat × Root)} {res : D} {cs : List Prop} (hc : AllP cs) (h : retRun T np st fn.results.toList names = some (res, rout, cs)) : RetG T fn np rout res st := ⟨st, Imp.refl st, retq hc h⟩
theorem TrL.by {n : Nat} {c : Code} {st' : St} (h : Imp np st st') (h' : TrL P N np n c st' Q) : TrL P N np n c st Q := TrL.imp h h'

def joinM {σ ρ : Type} (k : σ → Option ρ) (x : (σ → Option ρ) → Option ρ) : Option ρ := x k
theorem tr_joinM {σ ρ : Type} {k : σ → Option ρ} {X : (σ → Option ρ) → Option ρ} {r : ρ} {x y : Code} (enc : σ → St) (hM : joinM k X = some r) (hk : ∀ s, k s = some r → Tr P N np y (enc s) Q)
    (h : ∀ k' : σ → Option ρ, (∀ s, k' s = some r → Tr P N np y (enc s) Q) → X k' = some r → Tr P N np x st (thenQ P N np y Q)) : Tr P N np (.seq x y) st Q := tr_seq (h k hk hM)

theorem tr_start {c : Code} {st' : St} {ks : List Nat} (h : selSt st ks = some st') (h' : Tr P N np c st' Q) : Tr P N np c st Q := Tr.imp (imp_sel h) h'
theorem trl_start {n : Nat} {c : Code} {st' : St} {ks : List Nat} (h : selSt st ks = some st') (h' : TrL P N np n c st' Q) : TrL P N np n c st Q := TrL.imp (imp_sel h) h'
end

section
variable {α : Type} {e : Enc α}
theorem bor_flat (h : EncOk e) (st : St) (B : List Nat) (xs : List α) : BorC st B (xs.flatMap e.o) (xs.flatMap e.b) := .flatMap (fun x => h.bor st B x) xs
theorem menO_flat (h : EncOk e) (xs : List α) : menL (xs.flatMap e.o) = [] := menL_flatMap h.menO xs
theorem menB_flat (h : EncOk e) (xs : List α) : menL (xs.flatMap e.b) = [] := menL_flatMap h.menB xs
theorem lenO_flat (h : EncOk e) (xs : List α) : (xs.flatMap e.o).length = xs.length * e.sz := len_flatMap h.lenO xs
theorem nb_flat (h : EncNb e) (xs : List α) : NoBorL (xs.flatMap e.o) := .flatMap h xs
theorem sl_nil : Sub nilv (.sl 0 0 []) := Sub.nil_sl
theorem pass_sub {ρ : Nat → Nat} {d d' : D} (hm : d'.men = []) (h : Sub d d') : Pass ρ d d' := fun w S β y hr => Rep.beta d' y [] (by rw [hm]; simp) (h _ _ _ _ _ hr)
theorem len_snoc (xs : List α) (x : α) : xs.length + 1 = (xs ++ [x]).length := by simp
theorem len_app (xs ys : List α) : xs.length + ys.length = (xs ++ ys).length := by simp
end

section
variable {α : Type} {e : Enc α}
theorem store_le (h : EncOk e) {xs : List α} {i : Int} {x : α} (hx : xs[i.toNat]? = some x) : 0 + i.toNat * e.sz + e.sz ≤ (xs.flatMap e.o).length := by
  have h1 := (List.getElem?_eq_some_iff.1 hx).1
  rw [lenO_flat h, Nat.zero_add, ← Nat.succ_mul]
  exact Nat.mul_le_mul_right _ h1
theorem menO_take (h : EncOk e) (xs : List α) (k : Nat) : menL ((xs.flatMap e.o).take k) = [] := by
  cases hm : menL ((xs.flatMap e.o).take k) with
  | nil => rfl
  | cons m l =>
    have := menL_take_sub (xs.flatMap e.o) k m (by rw [hm]; simp)
    rw [menO_flat h] at this; cases this
theorem menO_drop (h : EncOk e) (xs : List α) (k : Nat) : menL ((xs.flatMap e.o).drop k) = [] := by
  cases hm : menL ((xs.flatMap e.o).drop k) with
  | nil => rfl
  | cons m l =>
    have := menL_drop_sub (xs.flatMap e.o) k m (by rw [hm]; simp)
    rw [menO_flat h] at this; cases this
theorem repl_hl {zs : List Value} {f : α → List D} {z : α} {n : Nat} (hz : Nat.ble 1 zs.length = true) : repl n zs = [] → (List.replicate n z).flatMap f = [] := by
  intro h
  have hz := Nat.le_of_ble_eq_true hz
  cases n with
  | zero => rfl
  | succ n =>
    have : (repl (n + 1) zs).length = 0 := by rw [h]; rfl
    simp [repl] at this
    have h2 : zs.length ≤ (n + 1) * zs.length := Nat.le_mul_of_pos_left _ (by omega)
    omega
theorem set_at {l : List D} {k : Nat} {d : D} (h : k < l.length) : (l.set k d)[k]? = some d := by simp [h]
theorem lt_flat (h : EncOk e) {xs : List α} {i : Int} {x : α} (hs : Nat.beq e.sz 1 = true) (hx : xs[i.toNat]? = some x) : 0 + i.toNat * e.sz < (xs.flatMap e.o).length := by
  have := store_le h hx
  have := Nat.eq_of_beq_eq_true hs
  omega
theorem set_one {f : α → List D} {xs : List α} {k : Nat} {x y : α} {d d' : D} (hn : ∀ x, (f x).length = 1) (hx : xs[k]? = some x) (hy : f y = [d]) : ((xs.flatMap f).set (0 + k * 1) d').set (0 + k * 1) d = (xs.set k y).flatMap f := by
  rw [List.set_set, ← set_flat hn hx, hy]
  have h1 := (List.getElem?_eq_some_iff.1 hx).1
  have hl := len_flatMap hn xs
  rw [List.set_eq_take_append_cons_drop, if_pos (by omega)]
  simp
end
section
variable {P : Program} {N np : Nat} {st : St} {Q : Post}
theorem tr_iterS {σ ρ : Type} {body : σ → (σ → Option ρ) → Option ρ} {r : ρ} {k : Nat} {c : Code} (enc : σ → St) (s0 : σ) (ks : List Nat) (hs : selSt st ks = some (enc s0)) (hM : iter body k s0 = some r)
    (step : ∀ (n : Nat) (next : σ → Option ρ), (∀ s, next s = some r → TrL P N np n c (enc s) Q) → ∀ s, body s next = some r → Tr P N np c (enc s) (roundQ P N np n c Q)) : Tr P N np (.loop c) st Q :=
  tr_start hs (tr_iter enc s0 rfl hM step)
end

section
variable {np : Nat} {st : St}
theorem imp_demE {r q sz sz' n j : Nat} {pre l ds : List D} {refs refs' : List Nat} (hpre : menL pre = []) (hl : ds.length = n * sz') (hne : Nat.beq r q = false) (hc : l[j]? = some (.rs q 0 n))
    (hs : (subRefs (menL (l.set j (.fr sz' n ds))) refs' && subRefs refs' refs) = true) (hr : look st (2 * r + 1) = some (.r (.arr sz (pre ++ l) refs))) (hq : look st (2 * q + 1) = some (.r (.arr sz' ds []))) :
    Imp np st (updSt st [(2 * r + 1, some (.r (.arr sz (pre ++ l.set j (.fr sz' n ds)) refs'))), (2 * q + 1, none)]) := by
  have h := imp_dem (np := np) (post := []) hpre rfl hl hne hc hs (by rw [List.append_nil]; exact hr) hq
  rw [List.append_nil] at h
  exact h
theorem menL_app {a b : List D} (h : menL a = []) (h' : menL b = []) : menL (a ++ b) = [] := by rw [menL_append, h, h']; rfl
def NoBorT : List D → Prop
  | [] => True
  | d :: ds => NoBor d ∧ NoBorT ds
theorem nobor_mem : ∀ {ds : List D}, NoBorT ds → ∀ d ∈ ds, NoBor d
  | _ :: _, h, d, hd => by
    rcases List.mem_cons.1 hd with rfl | hd
    · exact h.1
    · exact nobor_mem h.2 d hd
theorem NoBorT.nil : NoBorT [] := trivial
theorem NoBorT.cons {d : D} {ds : List D} (h : NoBor d) (h' : NoBorT ds) : NoBorT (d :: ds) := ⟨h, h'⟩
theorem nobor_tup {ds : List D} (h : NoBorT ds) : NoBor (.tup ds) := .tup (nobor_mem h)
end

section
variable {np : Nat} {st : St} {α : Type} {e : Enc α}
theorem imp_rowOut (h : EncOk (eS e)) {xs : List (List α)} {i : Int} {x : List α} {r q : Nat} (hx : xs[i.toNat]? = some x) (hr : look st (2 * r + 1) = some (.r (.arr 1 (xs.flatMap (eS e).o) []))) (hf : freshB np st q = true) :
    Imp np st ((2 * q + 1, .r (.arr e.sz (x.flatMap e.o) [])) :: (2 * r + 1, .r (.arr 1 ((xs.flatMap (eS e).o).set (0 + i.toNat * 1) (.rs q 0 x.length)) [q])) :: st) :=
  imp_promote hr (at_o0 h hx rfl) hf
theorem imp_rowBack (h : EncOk e) {xs : List (List α)} {i : Int} {x x' : List α} {r q n : Nat} (hx : xs[i.toNat]? = some x) (hn : n = x'.length) (hne : Nat.beq r q = false)
    (hr : look st (2 * r + 1) = some (.r (.arr 1 ((xs.flatMap (eS e).o).set (0 + i.toNat * 1) (.rs q 0 n)) [q]))) (hq : look st (2 * q + 1) = some (.r (.arr e.sz (x'.flatMap e.o) []))) :
    Imp np st (updSt st [(2 * r + 1, some (.r (.arr 1 ((xs.set i.toNat x').flatMap (eS e).o) []))), (2 * q + 1, none)]) := by
  subst hn
  have h1 : ((xs.flatMap (eS e).o).set (0 + i.toNat * 1) (D.rs q 0 x'.length)).set (0 + i.toNat * 1) (.fr e.sz x'.length (x'.flatMap e.o)) = (xs.set i.toNat x').flatMap (eS e).o :=
    set_one (f := (eS e).o) (fun _ => rfl) hx rfl
  have h2 := imp_demote (np := np) (i := 0 + i.toNat * 1) (refs' := []) hr hq (Nat.ne_of_beq_eq_false hne) (set_at (lt_flat (eS_ok h) (by rfl) hx)) (lenO_flat h x') (by rw [h1, menO_flat (eS_ok h)]; simp)
  rw [h1] at h2
  exact h2
theorem imp_rowSame (h : EncOk e) {xs : List (List α)} {i : Int} {x : List α} {r q n : Nat} (hx : xs[i.toNat]? = some x) (hn : n = x.length) (hne : Nat.beq r q = false)
    (hr : look st (2 * r + 1) = some (.r (.arr 1 ((xs.flatMap (eS e).o).set (0 + i.toNat * 1) (.rs q 0 n)) [q]))) (hq : look st (2 * q + 1) = some (.r (.arr e.sz (x.flatMap e.o) []))) :
    Imp np st (updSt st [(2 * r + 1, some (.r (.arr 1 (xs.flatMap (eS e).o) []))), (2 * q + 1, none)]) := by
  have h0 := imp_rowBack (np := np) h hx hn hne hr hq
  have : xs.set i.toNat x = xs := by
    obtain ⟨hl, he⟩ := List.getElem?_eq_some_iff.1 hx
    rw [← he, List.set_getElem_self]
  rw [this] at h0
  exact h0
end
theorem Bor1.ptk {st : St} {B : List Nat} {ds ds' : List D} {off n : Nat} (hoff : Nat.ble off ds.length = true) (h : (ds.drop off).take n = ds') (hn : Nat.beq ds'.length n = true) : Bor1 st B (.pt ds off) (.pt ds' 0) :=
  ⟨rfl, fun _ _ _ w S β _ _ _ y F hr _ => by
    have e : F = [] := by unfold Rep at hr; exact hr.1
    subst e
    have h1 := Pass.ptk (ρ := id) hoff h hn w S β y hr
    exact (Rep.beta _ y [] (by simp [D.men]) h1).inS⟩
theorem lenO_of {α : Type} {e : Enc α} (h : EncOk e) (xs : List α) {n : Nat} (hn : xs.length = n) : (xs.flatMap e.o).length = n * e.sz := hn ▸ lenO_flat h xs
theorem set_flatF {α : Type} {e : Enc α} (h : EncOk e) {xs : List (List α)} {k : Nat} {x y : List α} {n : Nat} (hx : xs[k]? = some x) (hn : y.length = n) :
    (xs.flatMap (eS e).o).take (0 + k * 1) ++ [D.fr e.sz n (y.flatMap e.o)] ++ (xs.flatMap (eS e).o).drop (0 + k * 1 + 1) = (xs.set k y).flatMap (eS e).o := by
  subst hn
  exact set_flat (eS_ok h).lenO hx
theorem tiok {P : Program} {t : Nat} {i : TI} (h1 : P.underlying t = some i.desc) (h2 : ((P.info? t).map fun inf => (inf.size, inf.bytes, inf.zero.map fun z => z.cells.toList)) = some (i.size, i.bytes, some i.zero)) : TIok P t i := by
  refine ⟨h1, ?_⟩
  cases h : P.info? t with
  | none => rw [h] at h2; cases h2
  | some inf =>
    rw [h] at h2
    simp only [Option.map_some, Option.some.injEq, Prod.mk.injEq] at h2
    obtain ⟨a, b, c⟩ := h2
    cases hz : inf.zero with
    | none => rw [hz] at c; cases c
    | some z =>
      rw [hz] at c
      simp only [Option.map_some, Option.some.injEq] at c
      exact ⟨inf, z, rfl, a, b, hz, c⟩
end Go.Gx
