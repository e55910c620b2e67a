/- The logic of statements. -/
import Derived.Test.YtggojehmbpbefaaGxK
import Derived.LoopN
namespace Go.Gx

abbrev Post := Exit → St → Prop

def PostA (Γ : Ctx) (Q : Post) : Exit → Act → World → Prop := fun e a w => ∃ st, Q e st ∧ Sat Γ (look st) a w

def Tr (P : Program) (N np : Nat) (c : Code) (st : St) (Q : Post) : Prop :=
  ∀ Γ, Γ.N = N → Γ.np = np → ∀ a w, Sat Γ (look st) a w → c.wp P (PostA Γ Q) a w

/-- n rounds at most. -/
def TrL (P : Program) (N np : Nat) (n : Nat) (c : Code) (st : St) (Q : Post) : Prop :=
  ∀ Γ, Γ.N = N → Γ.np = np → ∀ a w, Sat Γ (look st) a w → Code.rounds P c (PostA Γ Q) n a w

/-- What is known as 'st' may be known as 'st''. -/
def Imp (np : Nat) (st st' : St) : Prop := ∀ Γ, Γ.np = np → ∀ a w, Sat Γ (look st) a w → Sat Γ (look st') a w

section
variable {P : Program} {N np : Nat} {st : St} {Q : Post}

theorem Imp.refl (st : St) : Imp np st st := fun _ _ _ _ h => h
theorem Imp.trans {st st' st'' : St} (h : Imp np st st') (h' : Imp np st' st'') : Imp np st st'' := fun Γ hn a w hs => h' Γ hn a w (h Γ hn a w hs)

theorem Tr.imp {c : Code} {st' : St} (h : Imp np st st') (h' : Tr P N np c st' Q) : Tr P N np c st Q :=
  fun Γ hN hn a w hs => h' Γ hN hn a w (h Γ hn a w hs)

theorem Tr.mono {c : Code} {Q' : Post} (h : Tr P N np c st Q) (hq : ∀ e s, Q e s → Q' e s) : Tr P N np c st Q' :=
  fun Γ hN hn a w hs => wp_mono (h Γ hN hn a w hs) fun e _ _ ⟨s, hs, h⟩ => ⟨s, hq e s hs, h⟩

theorem tr_skip (h : Q .normal st) : Tr P N np .skip st Q := fun _ _ _ _ _ hs => wp_skip ⟨st, h, hs⟩
theorem tr_exit {id : Nat} (h : Q (.exit id) st) : Tr P N np (.exit id) st Q := fun _ _ _ _ _ hs => wp_exit ⟨st, h, hs⟩
theorem tr_ret (h : Q .ret st) : Tr P N np .ret st Q := fun _ _ _ _ _ hs => wp_ret ⟨st, h, hs⟩

def thenQ (P : Program) (N np : Nat) (y : Code) (Q : Post) : Post
  | .normal, s => Tr P N np y s Q
  | e, s => Q e s

theorem tr_seq {x y : Code} (h : Tr P N np x st (thenQ P N np y Q)) : Tr P N np (.seq x y) st Q :=
  fun Γ hN hn a w hs => wp_seq (wp_mono (h Γ hN hn a w hs) fun e a' w' ⟨s, h1, h2⟩ => by
    cases e with
    | normal => exact h1 Γ hN hn a' w' h2
    | exit id => exact ⟨s, h1, h2⟩
    | goto l => exact ⟨s, h1, h2⟩
    | ret => exact ⟨s, h1, h2⟩
    | panic c => exact ⟨s, h1, h2⟩
    | outgrown => exact ⟨s, h1, h2⟩)

theorem tr_cond {t : Nat} {x y : Code} {b : Bool} (hc : look st (2 * t) = some (.d (.v (.bool b)))) (h : Tr P N np (match b with | true => x | false => y) st Q) : Tr P N np (.cond (.tmp t) x y) st Q := by
  intro Γ hN hn a w hs
  have he : a.eval (.tmp t) = .bool b := by
    obtain ⟨S, β, Fs, hi⟩ := hs
    have := hi.slots t _ hc
    rw [Rep_v] at this
    exact this.1
  cases b
  · exact wp_cond_false he (h Γ hN hn a w hs)
  · exact wp_cond_true he (h Γ hN hn a w hs)

def blockQ (id : Nat) (Q : Post) : Post
  | .exit id', s => if id' = id then Q .normal s else Q (.exit id') s
  | e, s => Q e s

theorem tr_block {id : Nat} {c : Code} (h : Tr P N np c st (blockQ id Q)) : Tr P N np (.block id c) st Q :=
  fun Γ hN hn a w hs => wp_block (wp_mono (h Γ hN hn a w hs) fun e a' w' ⟨s, h1, h2⟩ => by
    cases e with
    | exit id' =>
      by_cases he : id' = id
      · simp only [Exit.inBlock, if_pos he]
        simp only [blockQ, if_pos he] at h1
        exact ⟨s, h1, h2⟩
      · simp only [Exit.inBlock, if_neg he]
        simp only [blockQ, if_neg he] at h1
        exact ⟨s, h1, h2⟩
    | normal => exact ⟨s, h1, h2⟩
    | goto l => exact ⟨s, h1, h2⟩
    | ret => exact ⟨s, h1, h2⟩
    | panic c => exact ⟨s, h1, h2⟩
    | outgrown => exact ⟨s, h1, h2⟩)

def roundQ (P : Program) (N np n : Nat) (c : Code) (Q : Post) : Post
  | .normal, s => TrL P N np n c s Q
  | e, s => Q e s

theorem trl_succ {n : Nat} {c : Code} (h : Tr P N np c st (roundQ P N np n c Q)) : TrL P N np (n + 1) c st Q :=
  fun Γ hN hn a w hs => by
    rw [rounds_succ]
    refine wp_mono (h Γ hN hn a w hs) fun e a' w' ⟨s, h1, h2⟩ => ?_
    cases e with
    | normal => exact h1 Γ hN hn a' w' h2
    | exit id => exact ⟨s, h1, h2⟩
    | goto l => exact ⟨s, h1, h2⟩
    | ret => exact ⟨s, h1, h2⟩
    | panic c => exact ⟨s, h1, h2⟩
    | outgrown => exact ⟨s, h1, h2⟩

theorem TrL.imp {n : Nat} {c : Code} {st' : St} (h : Imp np st st') (h' : TrL P N np n c st' Q) : TrL P N np n c st Q :=
  fun Γ hN hn a w hs => h' Γ hN hn a w (h Γ hn a w hs)

theorem tr_loop {n : Nat} {c : Code} (h : TrL P N np n c st Q) : Tr P N np (.loop c) st Q :=
  fun Γ hN hn a w hs => wp_loop_rounds n (h Γ hN hn a w hs)

/-- A region in the order of the text. -/
theorem tr_region {id : Nat} {ops : Array Oper} {l : List Step} {st' : St} (hv : stepsOK P ops N 0 l) (hlen : l.length = ops.size) (hc : chain np (look st) l) (he : ∀ k e, look st' k = some e → runSteps (look st) l k = some e) (h : Q .normal st') :
    Tr P N np (.region id ops false) st Q := by
  intro Γ hN hn a w hs
  refine wp_region ?_
  have := seq_run (P := P) (ops := ops) hN (Q := PostA Γ Q) l 0 (look st) a w hv (hn ▸ hc) hs (fun a' w' hs' => by
    obtain ⟨S, β, Fs, hi⟩ := hs'
    obtain ⟨Fs', hi'⟩ := hi.weaken (g' := look st') he
    exact ⟨st', h, S, β, Fs', hi'⟩)
  rw [hlen] at this
  rwa [List.range_eq_range']

/-- A region in every order. -/
theorem tr_draw (hm : P.follows .mixedOrders = true) {id : Nat} {ops : Array Oper} {l : List Step} {st' : St} (hv : stepsOK P ops N 0 l) (hlen : l.length = ops.size) (hlex : lexG ops l 0 (Array.replicate ops.size false) = true)
    (hnm : namesG ops l = true) (hc : chainN (look st) l) (hf : ∀ s ∈ l, Names np (look st) s.fresh) (he : ∀ k e, look st' k = some e → runSteps (look st) l k = some e) (h : Q .normal st') :
    Tr P N np (.region id ops true) st Q := by
  intro Γ hN hn a w hs
  exact draw_run hN hm hv hlen hlex hnm hc (fun s hs => hn ▸ hf s hs) hs fun a' w' hs' => by
    obtain ⟨S, β, Fs, hi⟩ := hs'
    obtain ⟨Fs', hi'⟩ := hi.weaken (g' := look st') he
    exact ⟨st', h, S, β, Fs', hi'⟩
end
end Go.Gx
