/- Laid together: part 0. -/
import Derived.Test.YtknmijgiefkijaaDoorGxE1
import Derived.Scope
import Derived.Test.YtknmijgiefkijaaDoorGxE2
import Derived.ProofKit
/- Rows that are replaced; what is lent as soon as it is made. -/
namespace Go.Gx
section
variable {α : Type} {e : Enc α} {np : Nat} {st : St}

end
end Go.Gx

/- Regions in which one operation waits for another through a third: the check of the orders, with waits at any remove. -/
namespace Go.Gx
section
variable {ops : Array Oper}

end

section
variable {P : Program} {T : Tab} {N np : Nat} {ops : Array Oper} {st : St}

end

/-- What is handed on unread. -/
theorem Bor1.any {st : St} {B : List Nat} {d : D} : Bor1 st B d .any := ⟨rfl, fun _ _ _ _ _ _ _ _ _ _ _ _ _ => by unfold Rep; rfl⟩
end Go.Gx

/- A scope through which the run goes without a jump back to its label. -/
namespace Go.Gx
section
variable {P : Program} {N np : Nat} {st : St} {Q : Post}

end
/-! ### fields of a list's structs -/
section
variable {α β : Type} {e : Enc α} {e' : Enc β}
end
end Go.Gx

/- JOIN: from a function's contract to what a row says of it. -/
namespace Go.Gx
open Go.ChangeShapes Go.WideShapes Go.RowKit

/-- What a value of a readable type, read as data, stands for. -/
def ArgAs (P : Program) (t : TypeId) {α : Type} (d : α → D) (R : α → Prop) : Prop :=
  ∀ {H : Type} {enc : TypeId × Value → H} {W : World} {base : Nat} {v : Value} {dd : DataW H} {p : List MemPlace},
    Value.okWide P W .any base t v → DataW.Trod enc P W 0 (fun _ => true) true t v dd p → ∃ x, R x ∧ Rep W (allS W) (d x) noB v []

section
variable {P : Program} {t : TypeId} {α β : Type}

theorem arg_agg {fs : Array Field} {e : Enc α} {R : α → Prop} (ht : P.underlying t = some (.struct fs)) (h : ReadsAs P t e R) : ArgAs P t (fun x => .agg (e.b x)) R := by
  intro H enc W base v dd p hv hd
  obtain ⟨cs, rfl, _⟩ := okWide_struct ht hv
  obtain ⟨fuel, hf⟩ := hd
  obtain ⟨x, h1, h2⟩ := h.reads hf
  refine ⟨x, h1, ?_⟩
  unfold Rep
  exact ⟨cs.toList, by simp, h2⟩

/-- All parameters. -/
def ArgsAs (P : Program) (ts : List TypeId) (d : α → List D) (R : α → Prop) : Prop :=
  ∀ {H : Type} {enc : TypeId × Value → H} {W : World} {base : Nat} {vs : List Value} {ds : List (DataW H)} {p : List MemPlace},
    (∀ (j : Nat) t v, ts[j]? = some t → vs[j]? = some v → Value.okWide P W .any base t v) → DataW.TrodAll enc P W 0 (fun _ => true) true ts vs ds p → ∃ x, R x ∧ RepT W (allS W) (d x) noB vs []

theorem args_nil : ArgsAs P [] (fun _ : Unit => []) (fun _ => True) := by
  intro H enc W base vs ds p hv hd
  obtain ⟨rfl, rfl, rfl⟩ := trodAll_nil hd
  exact ⟨(), trivial, by unfold RepT; exact ⟨rfl, rfl⟩⟩

theorem args_cons {ts : List TypeId} {d : α → D} {d' : β → List D} {R : α → Prop} {R' : β → Prop} (h : ArgAs P t d R) (h' : ArgsAs P ts d' R') :
    ArgsAs P (t :: ts) (fun x : α × β => d x.1 :: d' x.2) (fun x => R x.1 ∧ R' x.2) := by
  intro H enc W base vs ds p hv hd
  obtain ⟨v, vs1, dd, ds1, a, b, rfl, rfl, rfl, h1, h2⟩ := trodAll_cons hd
  obtain ⟨x, g1, g2⟩ := h (hv 0 t v rfl rfl) h1
  obtain ⟨y, g3, g4⟩ := h' (fun j t v e1 e2 => hv (j + 1) t v (by simpa using e1) (by simpa using e2)) h2
  exact ⟨(x, y), ⟨g1, g3⟩, by unfold RepT; exact ⟨v, vs1, [], [], rfl, rfl, g2, g4⟩⟩
end

section
variable {P : Program} {f : FuncId}

/-- A contract without roots, at borrowed arguments: what was there stays. -/
theorem calls_true {args : List D} (hF : FnC P f [] args [] (bv true)) {W : World} {vs : Array Value} (hr : RepT W (allS W) args noB vs.toList []) :
    Calls P f vs W fun e W' => e = .returned (.bool true) ∧ Below W.heap.size W W' := by
  have hroots : Roots (look (rootSt [])) W (allS W) noB (fun _ => []) :=
    ⟨fun r x h => by simp [rootSt, look] at h, fun _ _ => rfl, fun _ => List.nodup_nil, fun _ _ _ b hb => by simp at hb, fun _ b hb => by simp at hb, fun b hb => hb⟩
  have h1 := hF W (allS W) noB (fun _ => []) vs.toList hroots hr
  rw [show vs.toList.toArray = vs from by simp] at h1
  refine h1.mono fun e W' ⟨y, S', Fs', F, he, hx, _, _, _, _, hy, _, _⟩ => ?_
  have hy' : y = .bool true := by
    unfold bv Rep at hy; exact hy.1
  subst hy'
  refine ⟨he, hx.os, hx.tape, hx.output, hx.size, fun k hk => hx.kept k hk fun ⟨r, hb⟩ => by simp at hb⟩

theorem trodAll_stays {H : Type} {enc : TypeId × Value → H} (hl : laidOutB P = true) {W W' : World} {sp : Nat → Bool} : ∀ {ts : List TypeId} {vs : List Value} {ds : List (DataW H)} {p : List MemPlace},
    ts.all (fun t => P.readableRec t && decide (t < P.types.size)) = true → DataW.TrodAll enc P W 0 (fun _ => true) true ts vs ds p → (∀ x ∈ p, W.sameAt W' x) → (∀ x ∈ p, sp x.block = true) → DataW.TrodAll enc P W' 0 sp true ts vs ds p
  | [], _, _, _, _, h, _, _ => by
    obtain ⟨rfl, rfl, rfl⟩ := trodAll_nil h
    exact h
  | t :: ts, _, _, _, ht, h, h1, h2 => by
    obtain ⟨v, vs1, dd, ds1, a, b, rfl, rfl, rfl, g1, g2⟩ := trodAll_cons h
    simp only [List.all_cons, Bool.and_eq_true, decide_eq_true_eq] at ht
    exact ⟨a, b, WideElems.Trod_stays hl ht.1.1 ht.1.2 g1 (fun x hx => h1 x (List.mem_append_left _ hx)) (fun x hx => h2 x (List.mem_append_left _ hx)),
      trodAll_stays hl ht.2 g2 (fun x hx => h1 x (List.mem_append_right _ hx)) (fun x hx => h2 x (List.mem_append_right _ hx)), rfl⟩

theorem trodVars_nil {H : Type} {enc : TypeId × Value → H} {w : World} {sp : Nat → Bool} {gs : List (DataW H)} {q : List MemPlace} (h : DataW.TrodVars enc P w sp [] gs q) : gs = [] ∧ q = [] := by
  cases gs with
  | nil => exact ⟨rfl, h⟩
  | cons g gs => exact absurd h (by simp [DataW.TrodVars])

theorem trodAll_length {H : Type} {enc : TypeId × Value → H} {w : World} {base : Nat} {sp : Nat → Bool} {held : Bool} : ∀ {ts : List TypeId} {vs : List Value} {ds : List (DataW H)} {p : List MemPlace}, DataW.TrodAll enc P w base sp held ts vs ds p → ds.length = ts.length
  | [], _, _, _, h => by
    obtain ⟨rfl, rfl, rfl⟩ := trodAll_nil h
    rfl
  | t :: ts, _, _, _, h => by
    obtain ⟨v, vs1, dd, ds1, a, b, rfl, rfl, rfl, g1, g2⟩ := trodAll_cons h
    rw [List.length_cons, List.length_cons, trodAll_length g2]

/-- Below the heap's old size nothing has turned, and 'true' came back. -/
theorem post_true {H : Type} {enc : TypeId × Value → H} {fn : Func} {s : ChangeSpec} {apart fresh handsOn again : Bool} {W W' : World} {args : Array Value} {ds gs : List (DataW H)} {before : List MemPlace} {tb : TypeId}
    (hl : laidOutB P = true) (hts : fn.params.toList.all (fun t => P.readableRec t && decide (t < P.types.size)) = true) (hr : fn.resultTypes = #[tb]) (htb : P.underlying tb = some .bool) (hv : s.vars = [])
    {n : Nat} (hnp : fn.params.toList.length = n) (hfn0 : ∀ ds : List (DataW H), ds.length = n → s.fn H ds = ⟨[.lit (.bool true)], ds, []⟩)
    (hW : DataW.Whole enc P fn.params.toList s.vars apart W args.toList ds gs before) (hb : Below W.heap.size W W') : s.post enc P fn apart fresh handsOn again W args (.bool true) W' := by
  have hW' := hW
  obtain ⟨p, q, hA, hV, rfl, hz, hn⟩ := hW
  rw [hv] at hV
  obtain ⟨rfl, rfl⟩ := trodVars_nil hV
  rw [List.append_nil] at hW' hz hn
  have hfn := hfn0 ds ((trodAll_length hA).trans hnp)
  have hold : ∀ x ∈ p, x.block < W.heap.size := fun x hx => by simpa using hW'.lt x hx
  have hres : ∀ (b : Nat) (sp : Nat → Bool) (hd : Bool), DataW.TrodAll enc P W' b sp hd fn.resultTypes.toList ((Value.bool true).resultList fn.resultTypes.size) (s.fn H (ds ++ [])).results [] := by
    intro b sp hd
    rw [List.append_nil, hfn, hr]
    exact trodAll_mk1 (shut_bool htb _)
  have hargs : ∀ sp : Nat → Bool, (∀ x ∈ p, sp x.block = true) → DataW.TrodAll enc P W' 0 sp true fn.params.toList args.toList (s.fn H (ds ++ [])).args p := by
    intro sp hs
    rw [List.append_nil, hfn]
    exact trodAll_stays hl hts hA (fun x hx => hb.same (hold x hx)) hs
  have hvars : ∀ sp : Nat → Bool, DataW.TrodVars enc P W' sp s.vars (s.fn H (ds ++ [])).vars [] := by
    intro sp
    rw [List.append_nil, hfn, hv]
    rfl
  refine ⟨ds, [], p, [], p, [], hW', hres _ _ _, hargs _ (fun x hx => by simpa using hold x hx), hvars _, hb.frame _, fun _ => ⟨?_, ?_⟩⟩
  · exact ok_one hr rfl (okWide_bool_mk htb _)
  · refine ⟨_, _, ([] ++ p) ++ [], ⟨[] ++ p, [], trodAll_append (hargs _ (fun _ _ => rfl)) (hres _ _ _), hvars _, rfl, ?_, ?_⟩, ?_⟩
    · intro b off hp
      simp only [List.nil_append, List.append_nil] at hp
      rw [hb.frozen (p := ⟨b, off, none⟩) (hold _ hp)]
      exact hz b off hp
    · intro ha
      simpa using hn ha
    · intro x hx _
      simpa using hx
end
end Go.Gx
