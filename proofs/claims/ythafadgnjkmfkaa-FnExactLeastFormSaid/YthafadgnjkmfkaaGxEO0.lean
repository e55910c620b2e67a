import Derived.Test.YthafadgnjkmfkaaGxE2
import Derived.Scope
import Derived.ProofKit
namespace Go.Gx
section
variable {α : Type} {e : Enc α} {np : Nat} {st : St}
end
end Go.Gx
namespace Go.Gx
section
variable {ops : Array Oper}
theorem anyG_firstN {st : Nat → Option Step} {K : X → Prop} {i : Nat} {si : Step} (hi : st i = some si) : ∀ (fuel : Nat) (listed : Array Bool) (g : X), Shut ops listed →
    (∀ j sj, st j = some sj → j ≠ i → listed.getD j true = false → waitsN ops 12 j i = false → apartS si sj = true) →
    i ∈ Region.ready .any ops listed → Needs g si.need → wpAnyG ops st K fuel (listed.setIfInBounds i true) (upd g si.wr) → wpAnyG ops st K (fuel + 1) listed g := by
  intro fuel
  induction fuel with
  | zero =>
    intro listed g _ hfree hr hn H
    refine ⟨fun h => (by rw [h] at hr; cases hr), fun j hj => ?_⟩
    by_cases hji : j = i
    · subst hji; exact ⟨si, hi, hn, H⟩
    · have := ready_mono hj hji
      rw [H.1] at this
      cases this
  | succ fuel ih =>
    intro listed g hsh hfree hr hn H
    refine ⟨fun h => (by rw [h] at hr; cases hr), fun j hj => ?_⟩
    by_cases hji : j = i
    · subst hji; exact ⟨si, hi, hn, H⟩
    · obtain ⟨sj, hsj, h1⟩ := H.2 j (ready_mono hj hji)
      obtain ⟨hjun, oj, hoj, hall⟩ := mem_ready.1 hj
      have hnot : waitsN ops 12 j i = false := by
        rw [Bool.eq_false_iff]
        intro hw
        have h1 := hsh.waits 12 j i (fun o ho e he hb => by rw [hoj] at ho; cases ho; exact hall e he hb) hw
        have h0 := (mem_ready.1 hr).1
        rcases Nat.lt_or_ge i listed.size with h' | h'
        · simp [h'] at h0 h1; rw [h0] at h1; cases h1
        · simp [Array.getElem?_eq_none h'] at h1
      have h2 := exec_put (hfree j sj hsj hji hjun hnot) hn h1
      refine ⟨sj, hsj, exec_mono (fun g' h3 => ih (listed.setIfInBounds j true) g' (hsh.set hj) ?_ (ready_mono hr (Ne.symm hji)) h3.1 ?_) h2⟩
      · intro k sk hk hki hun hno
        refine hfree k sk hk hki ?_ hno
        by_cases hjk : j = k
        · subst hjk; exact hjun
        · rw [getD_set_ne true hjk] at hun; exact hun
      · rw [Array.setIfInBounds_comm _ _ hji]
        exact h3.2
def lexN (ops : Array Oper) : List Step → Nat → Array Bool → Bool
  | [], _, listed => (Region.ready .any ops listed).isEmpty
  | s :: l, k, listed => (Region.ready .any ops listed).contains k && ((List.range l.length).all fun q => waitsB ops (k + 1 + q) k || (match l[q]? with | some t => apartS s t | none => true) || waitsN ops 12 (k + 1 + q) k) &&
      lexN ops l (k + 1) (listed.setIfInBounds k true)
theorem waitsN_of_B {j i : Nat} (h : waitsB ops j i = true) : waitsN ops 12 j i = true := by
  unfold waitsB at h
  unfold waitsN
  split at h
  · rename_i o ho
    rw [Array.any_eq_true] at h ⊢
    obtain ⟨q, hq, hb⟩ := h
    refine ⟨q, hq, ?_⟩
    simp only [Bool.and_eq_true] at hb ⊢
    exact ⟨hb.1, by rw [hb.2]; rfl⟩
  · cases h
theorem anyG_lexN {st : Nat → Option Step} {K : X → Prop} (hlen : ∀ j, (∃ o, ops[j]? = some o) → ∃ s, st j = some s) : ∀ (l : List Step) (k : Nat) (listed : Array Bool) (g : X), Shut ops listed → (∀ q, l[q]? = st (k + q)) → (∀ q, q < k → listed.getD q true = true) →
    lexN ops l k listed = true → chainN g l → K (runSteps g l) → wpAnyG ops st K l.length listed g
  | [], _, _, _, _, _, _, hB, _, h => ⟨by simpa [lexN] using hB, h⟩
  | s :: l, k, listed, g, hsh, hl, hb, hB, hc, h => by
    have h0 : st k = some s := by simpa using (hl 0).symm
    simp only [lexN, Bool.and_eq_true] at hB
    obtain ⟨⟨hr, hf⟩, hB'⟩ := hB
    have hr' : k ∈ Region.ready .any ops listed := by simpa using hr
    refine anyG_firstN h0 l.length listed g hsh ?_ hr' hc.1 ?_
    · intro j sj hj hjk hun hnw
      have hkj : k < j := by
        rcases Nat.lt_or_ge j k with h' | h'
        · rw [hb j h'] at hun; cases hun
        · omega
      have hq := hl (j - k)
      rw [show k + (j - k) = j by omega, hj, show j - k = (j - (k + 1)) + 1 by omega, List.getElem?_cons_succ] at hq
      have hlt := (List.getElem?_eq_some_iff.1 hq).1
      have hnb : waitsB ops j k = false := by
        rw [Bool.eq_false_iff]
        intro hw
        rw [waitsN_of_B hw] at hnw; cases hnw
      have := List.all_eq_true.1 hf (j - (k + 1)) (List.mem_range.2 hlt)
      rw [show k + 1 + (j - (k + 1)) = j by omega, hnb, hnw, Bool.false_or, Bool.or_false, hq] at this
      exact this
    · refine anyG_lexN hlen l (k + 1) _ _ (hsh.set hr') (fun q => ?_) (fun q hq => ?_) hB' hc.2 h
      · have := hl (q + 1)
        rw [List.getElem?_cons_succ] at this
        rw [this]; congr 1; omega
      · by_cases hqk : q = k
        · subst hqk
          obtain ⟨hun, _⟩ := mem_ready.1 hr'
          rcases Nat.lt_or_ge q listed.size with h' | h'
          · simp [h']
          · simp [Array.getElem?_eq_none h'] at hun
        · rw [getD_set_ne true (Ne.symm hqk)]; exact hb q (by omega)
end
section
variable {P : Program} {T : Tab} {N np : Nat} {ops : Array Oper} {st : St}
theorem draw_runN {Γ : Ctx} (hN : Γ.N = N) (hm : P.follows .mixedOrders = true) {l : List Step} {id : Nat} {Q : Exit → Act → World → Prop} {g : X} {a : Act} {w : World} (hv : stepsOK P ops N 0 l) (hlen : l.length = ops.size)
    (hlex : lexN ops l 0 (Array.replicate ops.size false) = true) (hnm : namesG ops l = true) (hc : chainN g l) (hf : ∀ s ∈ l, Names Γ.np g s.fresh) (hs : Sat Γ g a w)
    (hQ : ∀ a' w', Sat Γ (runSteps g l) a' w' → Q .normal a' w') : (Code.region id ops true).wp P Q a w := by
  have hs' : Sat Γ g a { w with drawn := w.drawn + 1 } := by
    obtain ⟨S, β, Fs, hi⟩ := hs
    exact ⟨S, β, Fs, hi.world (ext_drew w)⟩
  have hsh : Shut ops (Array.replicate ops.size false) := fun k o ho hk => by
    have hlt := (Array.getElem?_eq_some_iff.1 ho).1
    simp [hlt] at hk
  refine wp_region_any hm ?_
  have h := anyG_lexN (ops := ops) (st := fun i => l[i]?) (K := fun g' => g' = runSteps g l) (fun j ⟨o, ho⟩ => by
    have := (Array.getElem?_eq_some_iff.1 ho).1
    exact ⟨l[j]'(by omega), by simp⟩) l 0 (Array.replicate ops.size false) g hsh (by simp) (by omega) hlex hc rfl
  rw [hlen] at h
  exact any_of_anyG hN hv hlen hnm (fun g' a' w' e hs' => by subst e; exact hQ a' w' hs') _ _ g a _ hsh hs' (fun j s hj _ => hf s (List.mem_of_getElem? hj)) h
theorem tr_drawN (hm : P.follows .mixedOrders = true) {id : Nat} {l : List Step} {st' : St} {Q : Post} (hv : stepsOK P ops N 0 l) (hlen : l.length = ops.size) (hlex : lexN ops l 0 (Array.replicate ops.size false) = true)
    (hnm : namesG ops l = true) (hc : chainN (look st) l) (hf : ∀ s ∈ l, Names np (look st) s.fresh) (he : ∀ k e, look st' k = some e → runSteps (look st) l k = some e) (h : Q .normal st') :
    Tr P N np (.region id ops true) st Q := by
  intro Γ hN hn a w hs
  exact draw_runN hN hm hv hlen hlex hnm hc (fun s hs => hn ▸ hf s hs) hs fun a' w' hs' => by
    obtain ⟨S, β, Fs, hi⟩ := hs'
    obtain ⟨Fs', hi'⟩ := hi.weaken (g' := look st') he
    exact ⟨st', h, S, β, Fs', hi'⟩
def drawOKN (np : Nat) (ops : Array Oper) (st : St) (l : List Step) : Bool :=
  lexN ops l 0 (Array.replicate ops.size false) && namesG ops l && l.all fun s => s.fresh.all (freshB np st)
def runRegN (P : Program) (T : Tab) (N np : Nat) (ops : Array Oper) (draw : Bool) (st : St) (orcs : List (Nat × Orc)) (ks : List Nat) : Option (St × List Prop) :=
  match runOps P T N np ops orcs 0 ops.toList st with
  | some (l, st', cs) => if !draw || drawOKN np ops st l then
      match selSt st' ks with
      | some s => some (s, cs)
      | none => none
    else none
  | none => none
theorem tr_runN (hT : TabOk P T) (hm : P.follows .mixedOrders = true) {id : Nat} {draw : Bool} {orcs : List (Nat × Orc)} {ks : List Nat} {st' : St} {cs : List Prop} {Q : Post} (hc : AllP cs)
    (hN0 : 0 < N) (hrun : runRegN P T N np ops draw st orcs ks = some (st', cs)) (h : Q .normal st') : Tr P N np (.region id ops draw) st Q := by
  unfold runRegN at hrun
  split at hrun
  · rename_i l st1 cs1 h1
    split at hrun
    · rename_i hb
      split at hrun
      · rename_i s hs
        cases hrun
        obtain ⟨v, e, c, d, g⟩ := runOps_ok hT hN0 ops.toList 0 st (fun k o hk => by simpa using hk) h1 hc.all
        have hsub : ∀ k e, look st' k = some e → runSteps (look st) l k = some e := fun k e he => by rw [← g]; exact selSt_sub hs k e he
        cases draw with
        | false => exact tr_region v (by simpa using e) c hsub h
        | true =>
          simp only [Bool.not_true, Bool.false_or, drawOKN, Bool.and_eq_true, List.all_eq_true] at hb
          exact tr_drawN hm v (by simpa using e) hb.1.1 hb.1.2 d (fun s hs r hr => freshB_spec (hb.2 s hs r hr)) hsub h
      · cases hrun
    · cases hrun
  · cases hrun
theorem tr_rN (hT : TabOk P T) (hm : P.follows .mixedOrders = true) {id : Nat} {draw : Bool} (orcs : List (Nat × Orc)) (ks : List Nat) (st' : St) {cs : List Prop} {Q : Post} (hc : AllP cs)
    (hN0 : Nat.ble 1 N = true) (hrun : runRegN P T N np ops draw st orcs ks = some (st', cs)) (h : Q .normal st') : Tr P N np (.region id ops draw) st Q :=
  tr_runN hT hm hc (Nat.le_of_ble_eq_true hN0) hrun h
theorem tr_srN (hT : TabOk P T) (hm : P.follows .mixedOrders = true) {id : Nat} {draw : Bool} {y : Code} (orcs : List (Nat × Orc)) (ks : List Nat) (st' : St) {cs : List Prop} {Q : Post} (hc : AllP cs)
    (hN0 : Nat.ble 1 N = true) (hrun : runRegN P T N np ops draw st orcs ks = some (st', cs)) (h : Tr P N np y st' Q) : Tr P N np ((Code.region id ops draw).seq y) st Q :=
  tr_seq (tr_rN hT hm orcs ks st' hc hN0 hrun h)
end
theorem Bor1.any {st : St} {B : List Nat} {d : D} : Bor1 st B d .any := ⟨rfl, fun _ _ _ _ _ _ _ _ _ _ _ _ _ => by unfold Rep; rfl⟩
end Go.Gx
namespace Go.Gx
section
variable {P : Program} {N np : Nat} {st : St} {Q : Post}
end
section
variable {α β : Type} {e : Enc α} {e' : Enc β}
end
theorem pass_rsN {ρ : Nat → Nat} {q r off n m : Nat} (h : n = m) (hr : ρ q = r) : Pass ρ (.rs r off n) (.rs q off m) := by subst h; exact .rs hr
end Go.Gx
namespace Go.Gx
theorem Sub.slPart {n off k : Nat} {ds : List D} (h : off ≤ ds.length) : Sub (.sl n off ds) (.sl n 0 ((ds.drop off).take k)) := fun w S β y F hr => by
  unfold Rep at hr ⊢
  obtain ⟨rfl, hmn, a, cap, e, hc, q⟩ := hr
  refine ⟨rfl, ?_, a, cap, e, hc, ?_⟩
  · have h1 : menL (ds.take off) ++ (menL ((ds.drop off).take k) ++ menL ((ds.drop off).drop k)) = [] := by
      rw [← menL_append, ← menL_append, List.take_append_drop, List.take_append_drop]; exact hmn
    exact (List.append_eq_nil_iff.1 (List.append_eq_nil_iff.1 h1).2).1
  · rcases q with q | ⟨b, o, ys, rfl, h3, ⟨pre, rest, E, fz, h4, h6⟩, h5⟩
    · exact .inl q
    · have hl := RepL_length h5
      refine .inr ⟨b, o + off, (ys.drop off).take k, by simp, h3, ⟨pre ++ ys.take off, (ys.drop off).drop k ++ rest, E, fz, ?_, ?_⟩, RepL_subNil h5 off k⟩
      · rw [h4]
        congr 3
        have : ys = ys.take off ++ ((ys.drop off).take k ++ (ys.drop off).drop k) := by rw [List.take_append_drop, List.take_append_drop]
        conv => lhs; rw [this]
        simp only [List.append_assoc]
      · rw [List.length_append, List.length_take]; omega
theorem drop_flat {α : Type} {f : α → List D} {n : Nat} (hn : ∀ x, (f x).length = n) : ∀ (xs : List α) (k : Nat), k ≤ xs.length → (xs.flatMap f).drop (k * n) = (xs.drop k).flatMap f
  | xs, 0, _ => by simp
  | [], k + 1, h => by simp at h
  | x :: xs, k + 1, h => by
    rw [List.flatMap_cons, show (k + 1) * n = (f x).length + k * n by rw [hn, Nat.succ_mul]; omega, ← List.drop_drop, List.drop_left, drop_flat hn xs k (by simpa using h), List.drop_succ_cons]
theorem take_flat {α : Type} {f : α → List D} {n : Nat} (hn : ∀ x, (f x).length = n) : ∀ (xs : List α) (k : Nat), k ≤ xs.length → (xs.flatMap f).take (k * n) = (xs.take k).flatMap f
  | xs, 0, _ => by simp
  | [], k + 1, h => by simp at h
  | x :: xs, k + 1, h => by
    rw [List.flatMap_cons, show (k + 1) * n = (f x).length + k * n by rw [hn, Nat.succ_mul]; omega, List.take_length_add_append, take_flat hn xs k (by simpa using h), List.take_succ_cons, List.flatMap_cons]
section
variable {α : Type} {e : Enc α}
theorem sub_lh (h : EncOk e) {xs : List α} {lo hi : Int} (_ : 0 ≤ lo) (h1 : lo ≤ hi) (h2 : hi ≤ (xs.length : Int)) :
    Sub (.sl (hi.toNat - lo.toNat) (0 + lo.toNat * e.sz) (xs.flatMap e.b)) (.sl ((xs.drop lo.toNat).take (hi.toNat - lo.toNat)).length 0 (((xs.drop lo.toNat).take (hi.toNat - lo.toNat)).flatMap e.b)) := by
  have l1 : (xs.flatMap e.b).length = xs.length * e.sz := len_flatMap h.lenB xs
  have l2 : ((xs.drop lo.toNat).take (hi.toNat - lo.toNat)).length = hi.toNat - lo.toNat := by rw [List.length_take, List.length_drop]; omega
  have hle : 0 + lo.toNat * e.sz ≤ (xs.flatMap e.b).length := by rw [l1, Nat.zero_add]; exact Nat.mul_le_mul_right _ (by omega)
  have := Sub.slPart (n := hi.toNat - lo.toNat) (k := (hi.toNat - lo.toNat) * e.sz) hle
  rw [Nat.zero_add, drop_flat h.lenB xs _ (by omega), take_flat h.lenB _ _ (by rw [List.length_drop]; omega)] at this
  rw [l2, Nat.zero_add]
  exact this
theorem sub_l (h : EncOk e) {xs : List α} {lo : Int} (_ : 0 ≤ lo) (h1 : lo ≤ (xs.length : Int)) :
    Sub (.sl (xs.length - lo.toNat) (0 + lo.toNat * e.sz) (xs.flatMap e.b)) (.sl (xs.drop lo.toNat).length 0 ((xs.drop lo.toNat).flatMap e.b)) := by
  have l1 : (xs.flatMap e.b).length = xs.length * e.sz := len_flatMap h.lenB xs
  have l2 : (xs.drop lo.toNat).length = xs.length - lo.toNat := List.length_drop ..
  have l3 : ((xs.drop lo.toNat).flatMap e.b).length = (xs.length - lo.toNat) * e.sz := by rw [len_flatMap h.lenB, l2]
  have hle : 0 + lo.toNat * e.sz ≤ (xs.flatMap e.b).length := by rw [l1, Nat.zero_add]; exact Nat.mul_le_mul_right _ (by omega)
  have := Sub.slPart (n := xs.length - lo.toNat) (k := (xs.length - lo.toNat) * e.sz) hle
  rw [Nat.zero_add, drop_flat h.lenB xs _ (by omega), List.take_of_length_le (by rw [l3]; exact Nat.le_refl _)] at this
  rw [l2, Nat.zero_add]
  exact this
theorem sub_h (h : EncOk e) {xs : List α} {hi : Int} (_ : 0 ≤ hi) (h1 : hi ≤ (xs.length : Int)) :
    Sub (.sl hi.toNat 0 (xs.flatMap e.b)) (.sl (xs.take hi.toNat).length 0 ((xs.take hi.toNat).flatMap e.b)) := by
  have := Sub.slPart (n := hi.toNat) (off := 0) (k := hi.toNat * e.sz) (ds := xs.flatMap e.b) (by omega)
  rw [List.drop_zero, take_flat h.lenB xs _ (by omega)] at this
  rw [List.length_take, Nat.min_eq_left (by omega)]
  exact this
end
def arL : Nat → Nat → (Nat → Int) → List Int
  | _, 0, _ => []
  | k, n + 1, f => f k :: arL (k + 1) n f
theorem arL_len : ∀ (n k : Nat) (f : Nat → Int), (arL k n f).length = n
  | 0, _, _ => rfl
  | n + 1, k, f => by simp [arL, arL_len n]
theorem arL_at : ∀ (n k i : Nat) (f : Nat → Int), i < n → (arL k n f)[i]? = some (f (k + i))
  | 0, _, _, _, h => by omega
  | n + 1, k, 0, f, _ => rfl
  | n + 1, k, i + 1, f, h => by
    simp only [arL, List.getElem?_cons_succ]
    rw [arL_at n (k + 1) i f (by omega)]
    congr 2; omega
def eAr (n : Nat) : Enc (Nat → Int) := ⟨n, fun f => (arL 0 n f).map iv, fun f => (arL 0 n f).map iv⟩
theorem eAr_ok (n : Nat) : EncOk (eAr n) :=
  ⟨fun f => by simp [eAr, arL_len], fun f => by simp [eAr, arL_len], fun _ => menL_map (fun _ => rfl) _, fun _ => menL_map (fun _ => rfl) _, fun _ => noFrL_map (fun _ => rfl) _, fun _ _ _ => .same (menL_map (fun _ => rfl) _) (noFrL_map (fun _ => rfl) _)⟩
def upN (f : Nat → Int) (k : Nat) (v : Int) : Nat → Int := fun q => if q = k then v else f q
theorem ar_at {n : Nat} {f : Nat → Int} {k : Nat} (h : k < n) : ((eAr n).b f)[k]? = some (iv (f k)) := by
  show ((arL 0 n f).map iv)[k]? = _
  rw [List.getElem?_map, arL_at n 0 k f h]; simp
theorem ar_le {n : Nat} {f : Nat → Int} {k : Nat} (h : k < n) : k + 1 ≤ ((eAr n).b f).length := by
  rw [(eAr_ok n).lenB]; exact h
theorem arL_set (v : Int) : ∀ (n k i : Nat) (f : Nat → Int), (arL k n f).set i v = arL k n (upN f (k + i) v)
  | 0, _, _, _ => rfl
  | n + 1, k, 0, f => by
    have : ∀ (m j : Nat), k < j → arL j m f = arL j m (upN f (k + 0) v) := by
      intro m
      induction m with
      | zero => intro j _; rfl
      | succ m ih =>
        intro j hj
        unfold arL
        rw [ih (j + 1) (by omega)]
        congr 1
        unfold upN
        rw [if_neg (by omega)]
    unfold arL
    rw [List.set_cons_zero, this n (k + 1) (by omega)]
    congr 1
    unfold upN
    rw [if_pos (Nat.add_zero k).symm]
  | n + 1, k, i + 1, f => by
    unfold arL
    rw [List.set_cons_succ, arL_set v n (k + 1) i f, show k + 1 + i = k + (i + 1) by omega]
    congr 1
    unfold upN
    rw [if_neg (by omega)]
theorem ar_set {n : Nat} {f : Nat → Int} {k : Nat} {v : Int} (h : k < n) : ((eAr n).o f).take k ++ [iv v] ++ ((eAr n).o f).drop (k + 1) = (eAr n).o (upN f k v) := by
  have hl : k < ((eAr n).o f).length := by rw [(eAr_ok n).lenO]; exact h
  have e1 : ((eAr n).o f).set k (iv v) = (eAr n).o (upN f k v) := by
    show ((arL 0 n f).map iv).set k (iv v) = (arL 0 n (upN f k v)).map iv
    rw [← List.map_set, arL_set, Nat.zero_add]
  rw [← e1, List.set_eq_take_append_cons_drop, if_pos hl]
  simp
theorem arL_drop : ∀ (n k i m : Nat) (f : Nat → Int), i + m ≤ n → ((arL k n f).drop i).take m = arL 0 m fun q => f (k + i + q)
  | n, k, 0, m, f, h => by
    have : ∀ (m n j p : Nat), m ≤ n → (arL (p + j) n f).take m = arL j m fun q => f (p + q) := by
      intro m
      induction m with
      | zero => intro n j p _; rfl
      | succ m ih =>
        intro n j p hn
        obtain ⟨n', rfl⟩ : ∃ n', n = n' + 1 := ⟨n - 1, by omega⟩
        unfold arL
        rw [List.take_succ_cons, show p + j + 1 = p + (j + 1) by omega, ih n' (j + 1) p (by omega)]
    rw [List.drop_zero]
    have := this m n 0 k (by omega)
    simpa using this
  | 0, k, i + 1, m, f, h => by omega
  | n + 1, k, i + 1, m, f, h => by
    have e : (fun q => f (k + 1 + i + q)) = fun q => f (k + (i + 1) + q) := funext fun q => by rw [show k + 1 + i + q = k + (i + 1) + q by omega]
    rw [← e]
    show ((f k :: arL (k + 1) n f).drop (i + 1)).take m = _
    rw [List.drop_succ_cons, arL_drop n (k + 1) i m f (by omega)]
theorem ar_part {n m off : Nat} {f : Nat → Int} (h : off + m ≤ n) : (((eAr n).b f).drop off).take m = (eAr m).b fun q => f (off + q) := by
  show (((arL 0 n f).map iv).drop off).take m = (arL 0 m _).map iv
  rw [← List.map_drop, ← List.map_take, arL_drop n 0 off m f h]
  simp only [Nat.zero_add]
theorem part_ar {T : Tab} {E n m off : Nat} {f : Nat → Int} (hb : (match T.get E with | some j => isAggD j.desc && Nat.beq j.size m | none => false) = true) (h : off + m ≤ n) :
    partOf T E off ((eAr n).b f) = some (.agg ((eAr m).b fun q => f (off + q))) := by
  unfold partOf
  split at hb
  · rename_i j hj
    simp only [Bool.and_eq_true] at hb
    have hz := Nat.eq_of_beq_eq_true hb.2
    rw [hj]
    simp only [hb.1, if_true, hz, ar_part h, (eAr_ok m).lenB]
    simp [eAr]
  · cases hb
theorem part_ar1 {T : Tab} {E n off : Nat} {f : Nat → Int} (hb : (match T.get E with | some j => !isAggD j.desc | none => false) = true) (h : off < n) :
    partOf T E off ((eAr n).b f) = some (iv (f off)) := by
  unfold partOf
  split at hb
  · rename_i j hj
    rw [hj]
    simp only [Bool.not_eq_true'] at hb
    simp only [hb, Bool.false_eq_true, if_false]
    exact ar_at h
  · cases hb
theorem arL_flat (l : List Int) : l.map iv = l.flatMap eI.b := by
  induction l with
  | nil => rfl
  | cons a l ih => rw [List.map_cons, List.flatMap_cons, ih]; rfl
theorem sub_ar {n m off : Nat} {f : Nat → Int} (h : off + m ≤ n) : Sub (.sl m off ((eAr n).b f)) (.sl (arL 0 m fun q => f (off + q)).length 0 ((arL 0 m fun q => f (off + q)).flatMap eI.b)) := by
  have hle : off ≤ ((eAr n).b f).length := by rw [(eAr_ok n).lenB]; show off ≤ n; omega
  have := Sub.slPart (n := m) (k := m) hle
  rw [ar_part h] at this
  rw [arL_len, ← arL_flat]
  exact this
def arEq (f g : Nat → Int) : Nat → Nat → Bool
  | _, 0 => true
  | k, 1 => f k == g k
  | k, n + 2 => f k == g k && arEq f g (k + 1) (n + 1)
theorem arEq_iff {f g : Nat → Int} : ∀ (n k : Nat), arEq f g k n = true ↔ ∀ i, k ≤ i → i < k + n → f i = g i
  | 0, k => by simp [arEq]; intro i h1 h2; omega
  | 1, k => by
    simp only [arEq, beq_iff_eq]
    exact ⟨fun h i h1 h2 => by rw [show i = k by omega]; exact h, fun h => h k (Nat.le_refl _) (by omega)⟩
  | n + 2, k => by
    simp only [arEq, Bool.and_eq_true, beq_iff_eq, arEq_iff (n + 1) (k + 1)]
    constructor
    · rintro ⟨h1, h2⟩ i h3 h4
      by_cases e : i = k
      · subst e; exact h1
      · exact h2 i (by omega) (by omega)
    · intro h
      exact ⟨h k (Nat.le_refl _) (by omega), fun i h1 h2 => h i (by omega) (by omega)⟩
def optP {α : Type} (e : Enc α) : Option α → D
  | none => .v (.pointer .none)
  | some x => .pt (e.b x) 0
theorem optP_none {α : Type} {e : Enc α} {o : Option α} (h : o.isNone = true) : optP e o = .v (.pointer .none) := by
  cases o with
  | none => rfl
  | some x => cases h
theorem optP_some {α : Type} {e : Enc α} {o : Option α} (h : o.isNone = false) (z : α) : optP e o = .pt (e.b (o.getD z)) 0 := by
  cases o with
  | none => cases h
  | some x => rfl
theorem passN {ρ : Nat → Nat} : PassL ρ [] [] := trivial
theorem passC {ρ : Nat → Nat} {d d' : D} {ds ds' : List D} (h : Pass ρ d d') (h' : PassL ρ ds ds') : PassL ρ (d :: ds) (d' :: ds') := ⟨h, h'⟩
theorem fnc_cv {P : Program} {f : FuncId} {r sz : Nat} {cells cells' : List D} {rin rout : List (Nat × Root)} {args : List D} {res : D} (h : cells' = cells) (hf : FnC P f ((r, .arr sz cells []) :: rin) args rout res) :
    FnC P f ((r, .arr sz cells' []) :: rin) args rout res := by subst h; exact hf
theorem store_le2 {α : Type} {e : Enc α} (h : EncOk e) {xs : List α} {i k : Int} {v x : α} {T : List D} (hk : xs[k.toNat]? = some x) (hT : T = (xs.set i.toNat v).flatMap e.o) : 0 + k.toNat * e.sz + e.sz ≤ T.length := by
  have h1 := (List.getElem?_eq_some_iff.1 hk).1
  rw [hT, lenO_flat h, List.length_set, Nat.zero_add, ← Nat.succ_mul]
  exact Nat.mul_le_mul_right _ h1
theorem set2_flat {α : Type} {e : Enc α} (h : EncOk e) {xs : List α} {i k : Int} {v w x : α} {T : List D} (hk : xs[k.toNat]? = some x) (hT : T = (xs.set i.toNat v).flatMap e.o) :
    T.take (0 + k.toNat * e.sz) ++ e.o w ++ T.drop (0 + k.toNat * e.sz + e.sz) = ((xs.set i.toNat v).set k.toNat w).flatMap e.o := by
  have h1 := (List.getElem?_eq_some_iff.1 hk).1
  rw [hT]
  exact set_flat h.lenO (x := (xs.set i.toNat v)[k.toNat]'(by rw [List.length_set]; exact h1)) (List.getElem?_eq_getElem _)
end Go.Gx
namespace Go.Gx
open Go.ChangeShapes Go.WideShapes Go.RowKit
def ArgAs (P : Program) (t : TypeId) {α : Type} (d : α → D) (R : α → Prop) : Prop :=
  ∀ {H : Type} {enc : TypeId × Value → H} {W : World} {base : Nat} {v : Value} {dd : DataW H} {p : List MemPlace},
    Value.okWide P W .any base t v → DataW.Trod enc P W 0 (fun _ => true) true t v dd p → ∃ x, R x ∧ Rep W (allS W) (d x) noB v []
section
variable {P : Program} {t : TypeId} {α β : Type}
theorem arg_agg {fs : Array Field} {e : Enc α} {R : α → Prop} (ht : P.underlying t = some (.struct fs)) (h : ReadsAs P t e R) : ArgAs P t (fun x => .agg (e.b x)) R := by
  intro H enc W base v dd p hv hd
  obtain ⟨cs, rfl, _⟩ := okWide_struct ht hv
  obtain ⟨fuel, hf⟩ := hd
  obtain ⟨x, h1, h2⟩ := h.reads hf
  refine ⟨x, h1, ?_⟩
  unfold Rep
  exact ⟨cs.toList, by simp, h2⟩
def ArgsAs (P : Program) (ts : List TypeId) (d : α → List D) (R : α → Prop) : Prop :=
  ∀ {H : Type} {enc : TypeId × Value → H} {W : World} {base : Nat} {vs : List Value} {ds : List (DataW H)} {p : List MemPlace},
    (∀ (j : Nat) t v, ts[j]? = some t → vs[j]? = some v → Value.okWide P W .any base t v) → DataW.TrodAll enc P W 0 (fun _ => true) true ts vs ds p → ∃ x, R x ∧ RepT W (allS W) (d x) noB vs []
theorem args_nil : ArgsAs P [] (fun _ : Unit => []) (fun _ => True) := by
  intro H enc W base vs ds p hv hd
  obtain ⟨rfl, rfl, rfl⟩ := trodAll_nil hd
  exact ⟨(), trivial, by unfold RepT; exact ⟨rfl, rfl⟩⟩
theorem args_cons {ts : List TypeId} {d : α → D} {d' : β → List D} {R : α → Prop} {R' : β → Prop} (h : ArgAs P t d R) (h' : ArgsAs P ts d' R') :
    ArgsAs P (t :: ts) (fun x : α × β => d x.1 :: d' x.2) (fun x => R x.1 ∧ R' x.2) := by
  intro H enc W base vs ds p hv hd
  obtain ⟨v, vs1, dd, ds1, a, b, rfl, rfl, rfl, h1, h2⟩ := trodAll_cons hd
  obtain ⟨x, g1, g2⟩ := h (hv 0 t v rfl rfl) h1
  obtain ⟨y, g3, g4⟩ := h' (fun j t v e1 e2 => hv (j + 1) t v (by simpa using e1) (by simpa using e2)) h2
  exact ⟨(x, y), ⟨g1, g3⟩, by unfold RepT; exact ⟨v, vs1, [], [], rfl, rfl, g2, g4⟩⟩
end
section
variable {P : Program} {f : FuncId}
theorem calls_true {args : List D} (hF : FnC P f [] args [] (bv true)) {W : World} {vs : Array Value} (hr : RepT W (allS W) args noB vs.toList []) :
    Calls P f vs W fun e W' => e = .returned (.bool true) ∧ Below W.heap.size W W' := by
  have hroots : Roots (look (rootSt [])) W (allS W) noB (fun _ => []) :=
    ⟨fun r x h => by simp [rootSt, look] at h, fun _ _ => rfl, fun _ => List.nodup_nil, fun _ _ _ b hb => by simp at hb, fun _ b hb => by simp at hb, fun b hb => hb⟩
  have h1 := hF W (allS W) noB (fun _ => []) vs.toList hroots hr
  rw [show vs.toList.toArray = vs from by simp] at h1
  refine h1.mono fun e W' ⟨y, S', Fs', F, he, hx, _, _, _, _, hy, _, _⟩ => ?_
  have hy' : y = .bool true := by
    unfold bv Rep at hy; exact hy.1
  subst hy'
  refine ⟨he, hx.os, hx.tape, hx.output, hx.size, fun k hk => hx.kept k hk fun ⟨r, hb⟩ => by simp at hb⟩
theorem trodAll_stays {H : Type} {enc : TypeId × Value → H} (hl : laidOutB P = true) {W W' : World} {sp : Nat → Bool} : ∀ {ts : List TypeId} {vs : List Value} {ds : List (DataW H)} {p : List MemPlace},
    ts.all (fun t => P.readableRec t && decide (t < P.types.size)) = true → DataW.TrodAll enc P W 0 (fun _ => true) true ts vs ds p → (∀ x ∈ p, W.sameAt W' x) → (∀ x ∈ p, sp x.block = true) → DataW.TrodAll enc P W' 0 sp true ts vs ds p
  | [], _, _, _, _, h, _, _ => by
    obtain ⟨rfl, rfl, rfl⟩ := trodAll_nil h
    exact h
  | t :: ts, _, _, _, ht, h, h1, h2 => by
    obtain ⟨v, vs1, dd, ds1, a, b, rfl, rfl, rfl, g1, g2⟩ := trodAll_cons h
    simp only [List.all_cons, Bool.and_eq_true, decide_eq_true_eq] at ht
    exact ⟨a, b, WideElems.Trod_stays hl ht.1.1 ht.1.2 g1 (fun x hx => h1 x (List.mem_append_left _ hx)) (fun x hx => h2 x (List.mem_append_left _ hx)),
      trodAll_stays hl ht.2 g2 (fun x hx => h1 x (List.mem_append_right _ hx)) (fun x hx => h2 x (List.mem_append_right _ hx)), rfl⟩
theorem trodVars_nil {H : Type} {enc : TypeId × Value → H} {w : World} {sp : Nat → Bool} {gs : List (DataW H)} {q : List MemPlace} (h : DataW.TrodVars enc P w sp [] gs q) : gs = [] ∧ q = [] := by
  cases gs with
  | nil => exact ⟨rfl, h⟩
  | cons g gs => exact absurd h (by simp [DataW.TrodVars])
theorem trodAll_length {H : Type} {enc : TypeId × Value → H} {w : World} {base : Nat} {sp : Nat → Bool} {held : Bool} : ∀ {ts : List TypeId} {vs : List Value} {ds : List (DataW H)} {p : List MemPlace}, DataW.TrodAll enc P w base sp held ts vs ds p → ds.length = ts.length
  | [], _, _, _, h => by
    obtain ⟨rfl, rfl, rfl⟩ := trodAll_nil h
    rfl
  | t :: ts, _, _, _, h => by
    obtain ⟨v, vs1, dd, ds1, a, b, rfl, rfl, rfl, g1, g2⟩ := trodAll_cons h
    rw [List.length_cons, List.length_cons, trodAll_length g2]
theorem post_true {H : Type} {enc : TypeId × Value → H} {fn : Func} {s : ChangeSpec} {apart fresh handsOn again : Bool} {W W' : World} {args : Array Value} {ds gs : List (DataW H)} {before : List MemPlace} {tb : TypeId}
    (hl : laidOutB P = true) (hts : fn.params.toList.all (fun t => P.readableRec t && decide (t < P.types.size)) = true) (hr : fn.resultTypes = #[tb]) (htb : P.underlying tb = some .bool) (hv : s.vars = [])
    {n : Nat} (hnp : fn.params.toList.length = n) (hfn0 : ∀ ds : List (DataW H), ds.length = n → s.fn H ds = ⟨[.lit (.bool true)], ds, []⟩)
    (hW : DataW.Whole enc P fn.params.toList s.vars apart W args.toList ds gs before) (hb : Below W.heap.size W W') : s.post enc P fn apart fresh handsOn again W args (.bool true) W' := by
  have hW' := hW
  obtain ⟨p, q, hA, hV, rfl, hz, hn⟩ := hW
  rw [hv] at hV
  obtain ⟨rfl, rfl⟩ := trodVars_nil hV
  rw [List.append_nil] at hW' hz hn
  have hfn := hfn0 ds ((trodAll_length hA).trans hnp)
  have hold : ∀ x ∈ p, x.block < W.heap.size := fun x hx => by simpa using hW'.lt x hx
  have hres : ∀ (b : Nat) (sp : Nat → Bool) (hd : Bool), DataW.TrodAll enc P W' b sp hd fn.resultTypes.toList ((Value.bool true).resultList fn.resultTypes.size) (s.fn H (ds ++ [])).results [] := by
    intro b sp hd
    rw [List.append_nil, hfn, hr]
    exact trodAll_mk1 (shut_bool htb _)
  have hargs : ∀ sp : Nat → Bool, (∀ x ∈ p, sp x.block = true) → DataW.TrodAll enc P W' 0 sp true fn.params.toList args.toList (s.fn H (ds ++ [])).args p := by
    intro sp hs
    rw [List.append_nil, hfn]
    exact trodAll_stays hl hts hA (fun x hx => hb.same (hold x hx)) hs
  have hvars : ∀ sp : Nat → Bool, DataW.TrodVars enc P W' sp s.vars (s.fn H (ds ++ [])).vars [] := by
    intro sp
    rw [List.append_nil, hfn, hv]
    rfl
  refine ⟨ds, [], p, [], p, [], hW', hres _ _ _, hargs _ (fun x hx => by simpa using hold x hx), hvars _, hb.frame _, fun _ => ⟨?_, ?_⟩⟩
  · exact ok_one hr rfl (okWide_bool_mk htb _)
  · refine ⟨_, _, ([] ++ p) ++ [], ⟨[] ++ p, [], trodAll_append (hargs _ (fun _ _ => rfl)) (hres _ _ _), hvars _, rfl, ?_, ?_⟩, ?_⟩
    · intro b off hp
      simp only [List.nil_append, List.append_nil] at hp
      rw [hb.frozen (p := ⟨b, off, none⟩) (hold _ hp)]
      exact hz b off hp
    · intro ha
      simpa using hn ha
    · intro x hx _
      simpa using hx
end
end Go.Gx
