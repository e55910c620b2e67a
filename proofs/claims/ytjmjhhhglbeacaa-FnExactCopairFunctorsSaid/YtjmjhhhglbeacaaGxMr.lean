/- Rows that are replaced; what is lent as soon as it is made. -/
import Derived.Test.YtjmjhhhglbeacaaGxE1
namespace Go.Gx
section
variable {α : Type} {e : Enc α} {np : Nat} {st : St}

theorem borc_eq {B : List Nat} {cells cells' ds : List D} (h : cells = cells') (hb : BorC st B cells' ds) : BorC st B cells ds := h ▸ hb

theorem put_set {L : List D} {k : Nat} {a b : D} (h : k < L.length) : (L.set k a).take k ++ [b] ++ (L.set k a).drop (k + 1) = L.set k b := by
  have h1 : (L.set k a).set k b = L.set k b := List.set_set ..
  have h2 : k < (L.set k a).length := by rw [List.length_set]; exact h
  rw [← h1]
  generalize L.set k a = M at h2
  rw [List.set_eq_take_append_cons_drop, if_pos h2]
  simp

/-- A row that was out is gone; another is laid in its place. -/
theorem imp_rowPut (h : EncOk e) {xs : List (List α)} {i : Int} {x y : List α} {r q t n m : Nat} (hx : xs[i.toNat]? = some x) (hm : y.length = m) (hne : Nat.beq r t = false)
    (hr : look st (2 * r + 1) = some (.r (.arr 1 (((xs.flatMap (eS e).o).set (0 + i.toNat * 1) (.rs q 0 n)).take (0 + i.toNat * 1) ++ [.rs t 0 m] ++ ((xs.flatMap (eS e).o).set (0 + i.toNat * 1) (.rs q 0 n)).drop (0 + i.toNat * 1 + 1)) [q, t])))
    (hq : look st (2 * t + 1) = some (.r (.arr e.sz (y.flatMap e.o) []))) :
    Imp np st (updSt st [(2 * r + 1, some (.r (.arr 1 ((xs.set i.toNat y).flatMap (eS e).o) []))), (2 * t + 1, none)]) := by
  subst hm
  have hl := lt_flat (eS_ok h) (by rfl) hx
  have e0 := put_set (a := D.rs q 0 n) (b := D.rs t 0 y.length) hl
  rw [show i.toNat * (eS e).sz = i.toNat * 1 from rfl] at e0
  rw [e0] at hr
  have h1 : ((xs.flatMap (eS e).o).set (0 + i.toNat * 1) (D.rs t 0 y.length)).set (0 + i.toNat * 1) (.fr e.sz y.length (y.flatMap e.o)) = (xs.set i.toNat y).flatMap (eS e).o :=
    set_one (f := (eS e).o) (fun _ => rfl) hx rfl
  have h2 := imp_demote (np := np) (i := 0 + i.toNat * 1) (refs' := []) hr hq (Nat.ne_of_beq_eq_false hne) (set_at hl) (lenO_flat h y) (by rw [h1, menO_flat (eS_ok h)]; simp)
  rw [h1] at h2
  exact h2
end
end Go.Gx
