/- Laid together: part 0. -/
import Derived.Test.YthafadgnjkmfkaaGxE2
import Derived.Scope
import Derived.ProofKit
/- Rows that are replaced; what is lent as soon as it is made. -/
namespace Go.Gx
section
variable {α : Type} {e : Enc α} {np : Nat} {st : St}

theorem borc_eq {B : List Nat} {cells cells' ds : List D} (h : cells = cells') (hb : BorC st B cells' ds) : BorC st B cells ds := h ▸ hb

theorem put_set {L : List D} {k : Nat} {a b : D} (h : k < L.length) : (L.set k a).take k ++ [b] ++ (L.set k a).drop (k + 1) = L.set k b := by
  have h1 : (L.set k a).set k b = L.set k b := List.set_set ..
  have h2 : k < (L.set k a).length := by rw [List.length_set]; exact h
  rw [← h1]
  generalize L.set k a = M at h2
  rw [List.set_eq_take_append_cons_drop, if_pos h2]
  simp

/-- A row that was out is gone; another is laid in its place. -/
theorem imp_rowPut (h : EncOk e) {xs : List (List α)} {i : Int} {x y : List α} {r q t n m : Nat} (hx : xs[i.toNat]? = some x) (hm : y.length = m) (hne : Nat.beq r t = false)
    (hr : look st (2 * r + 1) = some (.r (.arr 1 (((xs.flatMap (eS e).o).set (0 + i.toNat * 1) (.rs q 0 n)).take (0 + i.toNat * 1) ++ [.rs t 0 m] ++ ((xs.flatMap (eS e).o).set (0 + i.toNat * 1) (.rs q 0 n)).drop (0 + i.toNat * 1 + 1)) [q, t])))
    (hq : look st (2 * t + 1) = some (.r (.arr e.sz (y.flatMap e.o) []))) :
    Imp np st (updSt st [(2 * r + 1, some (.r (.arr 1 ((xs.set i.toNat y).flatMap (eS e).o) []))), (2 * t + 1, none)]) := by
  subst hm
  have hl := lt_flat (eS_ok h) (by rfl) hx
  have e0 := put_set (a := D.rs q 0 n) (b := D.rs t 0 y.length) hl
  rw [show i.toNat * (eS e).sz = i.toNat * 1 from rfl] at e0
  rw [e0] at hr
  have h1 : ((xs.flatMap (eS e).o).set (0 + i.toNat * 1) (D.rs t 0 y.length)).set (0 + i.toNat * 1) (.fr e.sz y.length (y.flatMap e.o)) = (xs.set i.toNat y).flatMap (eS e).o :=
    set_one (f := (eS e).o) (fun _ => rfl) hx rfl
  have h2 := imp_demote (np := np) (i := 0 + i.toNat * 1) (refs' := []) hr hq (Nat.ne_of_beq_eq_false hne) (set_at hl) (lenO_flat h y) (by rw [h1, menO_flat (eS_ok h)]; simp)
  rw [h1] at h2
  exact h2
end
end Go.Gx

/- Regions in which one operation waits for another through a third: the check of the orders, with waits at any remove. -/
namespace Go.Gx
section
variable {ops : Array Oper}

theorem anyG_firstN {st : Nat → Option Step} {K : X → Prop} {i : Nat} {si : Step} (hi : st i = some si) : ∀ (fuel : Nat) (listed : Array Bool) (g : X), Shut ops listed →
    (∀ j sj, st j = some sj → j ≠ i → listed.getD j true = false → waitsN ops 12 j i = false → apartS si sj = true) →
    i ∈ Region.ready .any ops listed → Needs g si.need → wpAnyG ops st K fuel (listed.setIfInBounds i true) (upd g si.wr) → wpAnyG ops st K (fuel + 1) listed g := by
  intro fuel
  induction fuel with
  | zero =>
    intro listed g _ hfree hr hn H
    refine ⟨fun h => (by rw [h] at hr; cases hr), fun j hj => ?_⟩
    by_cases hji : j = i
    · subst hji; exact ⟨si, hi, hn, H⟩
    · have := ready_mono hj hji
      rw [H.1] at this
      cases this
  | succ fuel ih =>
    intro listed g hsh hfree hr hn H
    refine ⟨fun h => (by rw [h] at hr; cases hr), fun j hj => ?_⟩
    by_cases hji : j = i
    · subst hji; exact ⟨si, hi, hn, H⟩
    · obtain ⟨sj, hsj, h1⟩ := H.2 j (ready_mono hj hji)
      obtain ⟨hjun, oj, hoj, hall⟩ := mem_ready.1 hj
      have hnot : waitsN ops 12 j i = false := by
        rw [Bool.eq_false_iff]
        intro hw
        have h1 := hsh.waits 12 j i (fun o ho e he hb => by rw [hoj] at ho; cases ho; exact hall e he hb) hw
        have h0 := (mem_ready.1 hr).1
        rcases Nat.lt_or_ge i listed.size with h' | h'
        · simp [h'] at h0 h1; rw [h0] at h1; cases h1
        · simp [Array.getElem?_eq_none h'] at h1
      have h2 := exec_put (hfree j sj hsj hji hjun hnot) hn h1
      refine ⟨sj, hsj, exec_mono (fun g' h3 => ih (listed.setIfInBounds j true) g' (hsh.set hj) ?_ (ready_mono hr (Ne.symm hji)) h3.1 ?_) h2⟩
      · intro k sk hk hki hun hno
        refine hfree k sk hk hki ?_ hno
        by_cases hjk : j = k
        · subst hjk; exact hjun
        · rw [getD_set_ne true hjk] at hun; exact hun
      · rw [Array.setIfInBounds_comm _ _ hji]
        exact h3.2

/-- The check, with waits at any remove. -/
def lexN (ops : Array Oper) : List Step → Nat → Array Bool → Bool
  | [], _, listed => (Region.ready .any ops listed).isEmpty
  | s :: l, k, listed => (Region.ready .any ops listed).contains k && ((List.range l.length).all fun q => waitsB ops (k + 1 + q) k || (match l[q]? with | some t => apartS s t | none => true) || waitsN ops 12 (k + 1 + q) k) &&
      lexN ops l (k + 1) (listed.setIfInBounds k true)

theorem waitsN_of_B {j i : Nat} (h : waitsB ops j i = true) : waitsN ops 12 j i = true := by
  unfold waitsB at h
  unfold waitsN
  split at h
  · rename_i o ho
    rw [Array.any_eq_true] at h ⊢
    obtain ⟨q, hq, hb⟩ := h
    refine ⟨q, hq, ?_⟩
    simp only [Bool.and_eq_true] at hb ⊢
    exact ⟨hb.1, by rw [hb.2]; rfl⟩
  · cases h

theorem anyG_lexN {st : Nat → Option Step} {K : X → Prop} (hlen : ∀ j, (∃ o, ops[j]? = some o) → ∃ s, st j = some s) : ∀ (l : List Step) (k : Nat) (listed : Array Bool) (g : X), Shut ops listed → (∀ q, l[q]? = st (k + q)) → (∀ q, q < k → listed.getD q true = true) →
    lexN ops l k listed = true → chainN g l → K (runSteps g l) → wpAnyG ops st K l.length listed g
  | [], _, _, _, _, _, _, hB, _, h => ⟨by simpa [lexN] using hB, h⟩
  | s :: l, k, listed, g, hsh, hl, hb, hB, hc, h => by
    have h0 : st k = some s := by simpa using (hl 0).symm
    simp only [lexN, Bool.and_eq_true] at hB
    obtain ⟨⟨hr, hf⟩, hB'⟩ := hB
    have hr' : k ∈ Region.ready .any ops listed := by simpa using hr
    refine anyG_firstN h0 l.length listed g hsh ?_ hr' hc.1 ?_
    · intro j sj hj hjk hun hnw
      have hkj : k < j := by
        rcases Nat.lt_or_ge j k with h' | h'
        · rw [hb j h'] at hun; cases hun
        · omega
      have hq := hl (j - k)
      rw [show k + (j - k) = j by omega, hj, show j - k = (j - (k + 1)) + 1 by omega, List.getElem?_cons_succ] at hq
      have hlt := (List.getElem?_eq_some_iff.1 hq).1
      have hnb : waitsB ops j k = false := by
        rw [Bool.eq_false_iff]
        intro hw
        rw [waitsN_of_B hw] at hnw; cases hnw
      have := List.all_eq_true.1 hf (j - (k + 1)) (List.mem_range.2 hlt)
      rw [show k + 1 + (j - (k + 1)) = j by omega, hnb, hnw, Bool.false_or, Bool.or_false, hq] at this
      exact this
    · refine anyG_lexN hlen l (k + 1) _ _ (hsh.set hr') (fun q => ?_) (fun q hq => ?_) hB' hc.2 h
      · have := hl (q + 1)
        rw [List.getElem?_cons_succ] at this
        rw [this]; congr 1; omega
      · by_cases hqk : q = k
        · subst hqk
          obtain ⟨hun, _⟩ := mem_ready.1 hr'
          rcases Nat.lt_or_ge q listed.size with h' | h'
          · simp [h']
          · simp [Array.getElem?_eq_none h'] at hun
        · rw [getD_set_ne true (Ne.symm hqk)]; exact hb q (by omega)
end

section
variable {P : Program} {T : Tab} {N np : Nat} {ops : Array Oper} {st : St}

theorem draw_runN {Γ : Ctx} (hN : Γ.N = N) (hm : P.follows .mixedOrders = true) {l : List Step} {id : Nat} {Q : Exit → Act → World → Prop} {g : X} {a : Act} {w : World} (hv : stepsOK P ops N 0 l) (hlen : l.length = ops.size)
    (hlex : lexN ops l 0 (Array.replicate ops.size false) = true) (hnm : namesG ops l = true) (hc : chainN g l) (hf : ∀ s ∈ l, Names Γ.np g s.fresh) (hs : Sat Γ g a w)
    (hQ : ∀ a' w', Sat Γ (runSteps g l) a' w' → Q .normal a' w') : (Code.region id ops true).wp P Q a w := by
  have hs' : Sat Γ g a { w with drawn := w.drawn + 1 } := by
    obtain ⟨S, β, Fs, hi⟩ := hs
    exact ⟨S, β, Fs, hi.world (ext_drew w)⟩
  have hsh : Shut ops (Array.replicate ops.size false) := fun k o ho hk => by
    have hlt := (Array.getElem?_eq_some_iff.1 ho).1
    simp [hlt] at hk
  refine wp_region_any hm ?_
  have h := anyG_lexN (ops := ops) (st := fun i => l[i]?) (K := fun g' => g' = runSteps g l) (fun j ⟨o, ho⟩ => by
    have := (Array.getElem?_eq_some_iff.1 ho).1
    exact ⟨l[j]'(by omega), by simp⟩) l 0 (Array.replicate ops.size false) g hsh (by simp) (by omega) hlex hc rfl
  rw [hlen] at h
  exact any_of_anyG hN hv hlen hnm (fun g' a' w' e hs' => by subst e; exact hQ a' w' hs') _ _ g a _ hsh hs' (fun j s hj _ => hf s (List.mem_of_getElem? hj)) h

theorem tr_drawN (hm : P.follows .mixedOrders = true) {id : Nat} {l : List Step} {st' : St} {Q : Post} (hv : stepsOK P ops N 0 l) (hlen : l.length = ops.size) (hlex : lexN ops l 0 (Array.replicate ops.size false) = true)
    (hnm : namesG ops l = true) (hc : chainN (look st) l) (hf : ∀ s ∈ l, Names np (look st) s.fresh) (he : ∀ k e, look st' k = some e → runSteps (look st) l k = some e) (h : Q .normal st') :
    Tr P N np (.region id ops true) st Q := by
  intro Γ hN hn a w hs
  exact draw_runN hN hm hv hlen hlex hnm hc (fun s hs => hn ▸ hf s hs) hs fun a' w' hs' => by
    obtain ⟨S, β, Fs, hi⟩ := hs'
    obtain ⟨Fs', hi'⟩ := hi.weaken (g' := look st') he
    exact ⟨st', h, S, β, Fs', hi'⟩

def drawOKN (np : Nat) (ops : Array Oper) (st : St) (l : List Step) : Bool :=
  lexN ops l 0 (Array.replicate ops.size false) && namesG ops l && l.all fun s => s.fresh.all (freshB np st)

def runRegN (P : Program) (T : Tab) (N np : Nat) (ops : Array Oper) (draw : Bool) (st : St) (orcs : List (Nat × Orc)) (ks : List Nat) : Option (St × List Prop) :=
  match runOps P T N np ops orcs 0 ops.toList st with
  | some (l, st', cs) => if !draw || drawOKN np ops st l then
      match selSt st' ks with
      | some s => some (s, cs)
      | none => none
    else none
  | none => none

theorem tr_runN (hT : TabOk P T) (hm : P.follows .mixedOrders = true) {id : Nat} {draw : Bool} {orcs : List (Nat × Orc)} {ks : List Nat} {st' : St} {cs : List Prop} {Q : Post} (hc : AllP cs)
    (hN0 : 0 < N) (hrun : runRegN P T N np ops draw st orcs ks = some (st', cs)) (h : Q .normal st') : Tr P N np (.region id ops draw) st Q := by
  unfold runRegN at hrun
  split at hrun
  · rename_i l st1 cs1 h1
    split at hrun
    · rename_i hb
      split at hrun
      · rename_i s hs
        cases hrun
        obtain ⟨v, e, c, d, g⟩ := runOps_ok hT hN0 ops.toList 0 st (fun k o hk => by simpa using hk) h1 hc.all
        have hsub : ∀ k e, look st' k = some e → runSteps (look st) l k = some e := fun k e he => by rw [← g]; exact selSt_sub hs k e he
        cases draw with
        | false => exact tr_region v (by simpa using e) c hsub h
        | true =>
          simp only [Bool.not_true, Bool.false_or, drawOKN, Bool.and_eq_true, List.all_eq_true] at hb
          exact tr_drawN hm v (by simpa using e) hb.1.1 hb.1.2 d (fun s hs r hr => freshB_spec (hb.2 s hs r hr)) hsub h
      · cases hrun
    · cases hrun
  · cases hrun

theorem tr_rN (hT : TabOk P T) (hm : P.follows .mixedOrders = true) {id : Nat} {draw : Bool} (orcs : List (Nat × Orc)) (ks : List Nat) (st' : St) {cs : List Prop} {Q : Post} (hc : AllP cs)
    (hN0 : Nat.ble 1 N = true) (hrun : runRegN P T N np ops draw st orcs ks = some (st', cs)) (h : Q .normal st') : Tr P N np (.region id ops draw) st Q :=
  tr_runN hT hm hc (Nat.le_of_ble_eq_true hN0) hrun h
theorem tr_srN (hT : TabOk P T) (hm : P.follows .mixedOrders = true) {id : Nat} {draw : Bool} {y : Code} (orcs : List (Nat × Orc)) (ks : List Nat) (st' : St) {cs : List Prop} {Q : Post} (hc : AllP cs)
    (hN0 : Nat.ble 1 N = true) (hrun : runRegN P T N np ops draw st orcs ks = some (st', cs)) (h : Tr P N np y st' Q) : Tr P N np ((Code.region id ops draw).seq y) st Q :=
  tr_seq (tr_rN hT hm orcs ks st' hc hN0 hrun h)
end

/-- A row is laid into a list from which one has been taken out. -/
theorem store_le_set {α : Type} {e : Enc α} (h : EncOk e) {xs : List α} {i : Int} {x : α} {j : Nat} {d : D} (hx : xs[i.toNat]? = some x) : 0 + i.toNat * e.sz + e.sz ≤ ((xs.flatMap e.o).set j d).length := by
  rw [List.length_set]; exact store_le h hx

/-- What is handed on unread. -/
theorem Bor1.any {st : St} {B : List Nat} {d : D} : Bor1 st B d .any := ⟨rfl, fun _ _ _ _ _ _ _ _ _ _ _ _ _ => by unfold Rep; rfl⟩
end Go.Gx

/- A scope through which the run goes without a jump back to its label. -/
namespace Go.Gx
section
variable {P : Program} {N np : Nat} {st : St} {Q : Post}

end
/-! ### fields of a list's structs -/
section
variable {α β : Type} {e : Enc α} {e' : Enc β}
theorem sub_o (h : EncOk e) {xs : List α} {i : Int} {x : α} (hx : xs[i.toNat]? = some x) : ((xs.flatMap e.o).drop (0 + i.toNat * e.sz)).take e.sz = e.o x := by
  obtain ⟨pre, post, e1, e2⟩ := flat_split h.lenO hx
  rw [e1, Nat.zero_add, ← e2, List.append_assoc, List.drop_left, ← h.lenO x, List.take_left]
end
/-- A slice that is handed on to be written, its length known by another name. -/
theorem pass_rsN {ρ : Nat → Nat} {q r off n m : Nat} (h : n = m) (hr : ρ q = r) : Pass ρ (.rs r off n) (.rs q off m) := by subst h; exact .rs hr
/-- A result that hangs on a flag. -/
theorem fnc_pick1 {P : Program} {f : FuncId} {rin rout : List (Nat × Root)} {args : List D} {a b : D} {c : Bool} (h : c = true) (hf : FnC P f rin args rout (pickD c a b)) : FnC P f rin args rout a := by subst h; exact hf
theorem fnc_pick0 {P : Program} {f : FuncId} {rin rout : List (Nat × Root)} {args : List D} {a b : D} {c : Bool} (h : c = false) (hf : FnC P f rin args rout (pickD c a b)) : FnC P f rin args rout b := by subst h; exact hf
end Go.Gx

/- JOIN: from a function's contract to what a row says of it. -/
namespace Go.Gx
open Go.ChangeShapes Go.WideShapes Go.RowKit

/-- What a value of a readable type, read as data, stands for. -/
def ArgAs (P : Program) (t : TypeId) {α : Type} (d : α → D) (R : α → Prop) : Prop :=
  ∀ {H : Type} {enc : TypeId × Value → H} {W : World} {base : Nat} {v : Value} {dd : DataW H} {p : List MemPlace},
    Value.okWide P W .any base t v → DataW.Trod enc P W 0 (fun _ => true) true t v dd p → ∃ x, R x ∧ Rep W (allS W) (d x) noB v []

section
variable {P : Program} {t : TypeId} {α β : Type}

theorem arg_agg {fs : Array Field} {e : Enc α} {R : α → Prop} (ht : P.underlying t = some (.struct fs)) (h : ReadsAs P t e R) : ArgAs P t (fun x => .agg (e.b x)) R := by
  intro H enc W base v dd p hv hd
  obtain ⟨cs, rfl, _⟩ := okWide_struct ht hv
  obtain ⟨fuel, hf⟩ := hd
  obtain ⟨x, h1, h2⟩ := h.reads hf
  refine ⟨x, h1, ?_⟩
  unfold Rep
  exact ⟨cs.toList, by simp, h2⟩

/-- All parameters. -/
def ArgsAs (P : Program) (ts : List TypeId) (d : α → List D) (R : α → Prop) : Prop :=
  ∀ {H : Type} {enc : TypeId × Value → H} {W : World} {base : Nat} {vs : List Value} {ds : List (DataW H)} {p : List MemPlace},
    (∀ (j : Nat) t v, ts[j]? = some t → vs[j]? = some v → Value.okWide P W .any base t v) → DataW.TrodAll enc P W 0 (fun _ => true) true ts vs ds p → ∃ x, R x ∧ RepT W (allS W) (d x) noB vs []

theorem args_nil : ArgsAs P [] (fun _ : Unit => []) (fun _ => True) := by
  intro H enc W base vs ds p hv hd
  obtain ⟨rfl, rfl, rfl⟩ := trodAll_nil hd
  exact ⟨(), trivial, by unfold RepT; exact ⟨rfl, rfl⟩⟩

theorem args_cons {ts : List TypeId} {d : α → D} {d' : β → List D} {R : α → Prop} {R' : β → Prop} (h : ArgAs P t d R) (h' : ArgsAs P ts d' R') :
    ArgsAs P (t :: ts) (fun x : α × β => d x.1 :: d' x.2) (fun x => R x.1 ∧ R' x.2) := by
  intro H enc W base vs ds p hv hd
  obtain ⟨v, vs1, dd, ds1, a, b, rfl, rfl, rfl, h1, h2⟩ := trodAll_cons hd
  obtain ⟨x, g1, g2⟩ := h (hv 0 t v rfl rfl) h1
  obtain ⟨y, g3, g4⟩ := h' (fun j t v e1 e2 => hv (j + 1) t v (by simpa using e1) (by simpa using e2)) h2
  exact ⟨(x, y), ⟨g1, g3⟩, by unfold RepT; exact ⟨v, vs1, [], [], rfl, rfl, g2, g4⟩⟩
end

section
variable {P : Program} {f : FuncId}

/-- A contract without roots, at borrowed arguments: what was there stays. -/
theorem calls_true {args : List D} (hF : FnC P f [] args [] (bv true)) {W : World} {vs : Array Value} (hr : RepT W (allS W) args noB vs.toList []) :
    Calls P f vs W fun e W' => e = .returned (.bool true) ∧ Below W.heap.size W W' := by
  have hroots : Roots (look (rootSt [])) W (allS W) noB (fun _ => []) :=
    ⟨fun r x h => by simp [rootSt, look] at h, fun _ _ => rfl, fun _ => List.nodup_nil, fun _ _ _ b hb => by simp at hb, fun _ b hb => by simp at hb, fun b hb => hb⟩
  have h1 := hF W (allS W) noB (fun _ => []) vs.toList hroots hr
  rw [show vs.toList.toArray = vs from by simp] at h1
  refine h1.mono fun e W' ⟨y, S', Fs', F, he, hx, _, _, _, _, hy, _, _⟩ => ?_
  have hy' : y = .bool true := by
    unfold bv Rep at hy; exact hy.1
  subst hy'
  refine ⟨he, hx.os, hx.tape, hx.output, hx.size, fun k hk => hx.kept k hk fun ⟨r, hb⟩ => by simp at hb⟩

theorem trodAll_stays {H : Type} {enc : TypeId × Value → H} (hl : laidOutB P = true) {W W' : World} {sp : Nat → Bool} : ∀ {ts : List TypeId} {vs : List Value} {ds : List (DataW H)} {p : List MemPlace},
    ts.all (fun t => P.readableRec t && decide (t < P.types.size)) = true → DataW.TrodAll enc P W 0 (fun _ => true) true ts vs ds p → (∀ x ∈ p, W.sameAt W' x) → (∀ x ∈ p, sp x.block = true) → DataW.TrodAll enc P W' 0 sp true ts vs ds p
  | [], _, _, _, _, h, _, _ => by
    obtain ⟨rfl, rfl, rfl⟩ := trodAll_nil h
    exact h
  | t :: ts, _, _, _, ht, h, h1, h2 => by
    obtain ⟨v, vs1, dd, ds1, a, b, rfl, rfl, rfl, g1, g2⟩ := trodAll_cons h
    simp only [List.all_cons, Bool.and_eq_true, decide_eq_true_eq] at ht
    exact ⟨a, b, WideElems.Trod_stays hl ht.1.1 ht.1.2 g1 (fun x hx => h1 x (List.mem_append_left _ hx)) (fun x hx => h2 x (List.mem_append_left _ hx)),
      trodAll_stays hl ht.2 g2 (fun x hx => h1 x (List.mem_append_right _ hx)) (fun x hx => h2 x (List.mem_append_right _ hx)), rfl⟩

theorem trodVars_nil {H : Type} {enc : TypeId × Value → H} {w : World} {sp : Nat → Bool} {gs : List (DataW H)} {q : List MemPlace} (h : DataW.TrodVars enc P w sp [] gs q) : gs = [] ∧ q = [] := by
  cases gs with
  | nil => exact ⟨rfl, h⟩
  | cons g gs => exact absurd h (by simp [DataW.TrodVars])

theorem trodAll_length {H : Type} {enc : TypeId × Value → H} {w : World} {base : Nat} {sp : Nat → Bool} {held : Bool} : ∀ {ts : List TypeId} {vs : List Value} {ds : List (DataW H)} {p : List MemPlace}, DataW.TrodAll enc P w base sp held ts vs ds p → ds.length = ts.length
  | [], _, _, _, h => by
    obtain ⟨rfl, rfl, rfl⟩ := trodAll_nil h
    rfl
  | t :: ts, _, _, _, h => by
    obtain ⟨v, vs1, dd, ds1, a, b, rfl, rfl, rfl, g1, g2⟩ := trodAll_cons h
    rw [List.length_cons, List.length_cons, trodAll_length g2]

/-- Below the heap's old size nothing has turned, and 'true' came back. -/
theorem post_true {H : Type} {enc : TypeId × Value → H} {fn : Func} {s : ChangeSpec} {apart fresh handsOn again : Bool} {W W' : World} {args : Array Value} {ds gs : List (DataW H)} {before : List MemPlace} {tb : TypeId}
    (hl : laidOutB P = true) (hts : fn.params.toList.all (fun t => P.readableRec t && decide (t < P.types.size)) = true) (hr : fn.resultTypes = #[tb]) (htb : P.underlying tb = some .bool) (hv : s.vars = [])
    {n : Nat} (hnp : fn.params.toList.length = n) (hfn0 : ∀ ds : List (DataW H), ds.length = n → s.fn H ds = ⟨[.lit (.bool true)], ds, []⟩)
    (hW : DataW.Whole enc P fn.params.toList s.vars apart W args.toList ds gs before) (hb : Below W.heap.size W W') : s.post enc P fn apart fresh handsOn again W args (.bool true) W' := by
  have hW' := hW
  obtain ⟨p, q, hA, hV, rfl, hz, hn⟩ := hW
  rw [hv] at hV
  obtain ⟨rfl, rfl⟩ := trodVars_nil hV
  rw [List.append_nil] at hW' hz hn
  have hfn := hfn0 ds ((trodAll_length hA).trans hnp)
  have hold : ∀ x ∈ p, x.block < W.heap.size := fun x hx => by simpa using hW'.lt x hx
  have hres : ∀ (b : Nat) (sp : Nat → Bool) (hd : Bool), DataW.TrodAll enc P W' b sp hd fn.resultTypes.toList ((Value.bool true).resultList fn.resultTypes.size) (s.fn H (ds ++ [])).results [] := by
    intro b sp hd
    rw [List.append_nil, hfn, hr]
    exact trodAll_mk1 (shut_bool htb _)
  have hargs : ∀ sp : Nat → Bool, (∀ x ∈ p, sp x.block = true) → DataW.TrodAll enc P W' 0 sp true fn.params.toList args.toList (s.fn H (ds ++ [])).args p := by
    intro sp hs
    rw [List.append_nil, hfn]
    exact trodAll_stays hl hts hA (fun x hx => hb.same (hold x hx)) hs
  have hvars : ∀ sp : Nat → Bool, DataW.TrodVars enc P W' sp s.vars (s.fn H (ds ++ [])).vars [] := by
    intro sp
    rw [List.append_nil, hfn, hv]
    rfl
  refine ⟨ds, [], p, [], p, [], hW', hres _ _ _, hargs _ (fun x hx => by simpa using hold x hx), hvars _, hb.frame _, fun _ => ⟨?_, ?_⟩⟩
  · exact ok_one hr rfl (okWide_bool_mk htb _)
  · refine ⟨_, _, ([] ++ p) ++ [], ⟨[] ++ p, [], trodAll_append (hargs _ (fun _ _ => rfl)) (hres _ _ _), hvars _, rfl, ?_, ?_⟩, ?_⟩
    · intro b off hp
      simp only [List.nil_append, List.append_nil] at hp
      rw [hb.frozen (p := ⟨b, off, none⟩) (hold _ hp)]
      exact hz b off hp
    · intro ha
      simpa using hn ha
    · intro x hx _
      simpa using hx
end
end Go.Gx
