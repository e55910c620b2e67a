/- Models of the functions. Printed by wip/gen. -/
import Derived.Test.YtpfdieaiogfihaaGxNuM
import Derived.Test.YtpfdieaiogfihaaGxE1
namespace Go.Gx

structure XProfunctor where
  Source : XCategory
  Target : XCategory
  Sizes : List (List Int)
  Before : List (List (List Int))
  Behind : List (List (List Int))
def eXProfunctor : Enc XProfunctor := (eA (eC eXCategory XProfunctor.Source) (eA (eC eXCategory XProfunctor.Target) (eA (eC (eS (eS eI)) XProfunctor.Sizes) (eA (eC (eS (eS (eS eI))) XProfunctor.Before) (eC (eS (eS (eS eI))) XProfunctor.Behind)))))
theorem eXProfunctor_ok : EncOk eXProfunctor := (eA_ok (eC_ok eXCategory_ok _) (eA_ok (eC_ok eXCategory_ok _) (eA_ok (eC_ok (eS_ok (eS_ok eI_ok)) _) (eA_ok (eC_ok (eS_ok (eS_ok (eS_ok eI_ok))) _) (eC_ok (eS_ok (eS_ok (eS_ok eI_ok))) _)))))
def R.XProfunctor (x : XProfunctor) : Prop := (R.XCategory x.Source) ∧ (R.XCategory x.Target) ∧ (AllL (AllL I64) x.Sizes) ∧ (AllL (AllL (AllL I64)) x.Before) ∧ (AllL (AllL (AllL I64)) x.Behind)
theorem eXProfunctor_nb : EncNb eXProfunctor := (eA_nb (eC_nb eXCategory_nb _) (eA_nb (eC_nb eXCategory_nb _) (eA_nb (eC_nb (eS_nb (eS_nb eI_nb)) _) (eA_nb (eC_nb (eS_nb (eS_nb (eS_nb eI_nb))) _) (eC_nb (eS_nb (eS_nb (eS_nb eI_nb))) _)))))

def M.spec_l22Natural (a0 : XFunctor) (a1 : XFunctor) : Option XProfunctor :=
  (M.spec_l02Own a0.Source).bind fun v1 =>
  (M.spec_l02Own a1.Source).bind fun v2 =>
  iter (fun (s3 : (List (List Int)) × Int) next4 =>
    if decide (s3.2 < a0.Source.Objects) then
      iter (fun (s8 : (List Int) × Int) next9 =>
        if decide (s8.2 < a1.Source.Objects) then
          (idx a0.Objects s3.2).bind fun y13 =>
          (idx a1.Objects s8.2).bind fun y14 =>
          (M.spec_l02Hom a0.Target y13 y14).bind fun v15 =>
          chk (s8.1.length + (([(v15.length : Int)] : List Int).length) ≤ lim) (
            next9 (s8.1 ++ ([(v15.length : Int)] : List Int), IntKind.i64.wrap (s8.2 + 1)))
        else
          chk (s3.1.length + 1 ≤ lim) (
            next4 (s3.1 ++ [s8.1], IntKind.i64.wrap (s3.2 + 1)))) fuel (([] : List Int), 0)
    else
      iter (fun (s18 : (List (List (List Int))) × Int) next19 =>
        if decide (s18.2 < (a0.Source.From.length : Int)) then
          iter (fun (s23 : (List (List Int)) × Int) next24 =>
            if decide (s23.2 < a1.Source.Objects) then
              (idx a0.Source.To s18.2).bind fun y28 =>
              (idx a0.Objects y28).bind fun y29 =>
              (idx a1.Objects s23.2).bind fun y30 =>
              (M.spec_l02Hom a0.Target y29 y30).bind fun v31 =>
              (idx a0.Source.From s18.2).bind fun y32 =>
              (idx a0.Objects y32).bind fun y33 =>
              (M.spec_l02Hom a0.Target y33 y30).bind fun v34 =>
              iter (fun (s35 : (List Int) × Int) next36 =>
                if decide (s35.2 < (v31.length : Int)) then
                  (idx a0.Arrows s18.2).bind fun y40 =>
                  (idx v31 s35.2).bind fun y41 =>
                  (M.spec_l02Then a0.Target y40 y41).bind fun v42 =>
                  (M.spec_l01Index v34 v42).bind fun v43 =>
                  chk (s35.1.length + (([v43] : List Int).length) ≤ lim) (
                    next36 (s35.1 ++ ([v43] : List Int), IntKind.i64.wrap (s35.2 + 1)))
                else
                  chk (s23.1.length + 1 ≤ lim) (
                    next24 (s23.1 ++ [s35.1], IntKind.i64.wrap (s23.2 + 1)))) fuel (([] : List Int), 0)
            else
              chk (s18.1.length + 1 ≤ lim) (
                next19 (s18.1 ++ [s23.1], IntKind.i64.wrap (s18.2 + 1)))) fuel (([] : List (List Int)), 0)
        else
          iter (fun (s47 : (List (List (List Int))) × Int) next48 =>
            if decide (s47.2 < (a1.Source.From.length : Int)) then
              iter (fun (s52 : (List (List Int)) × Int) next53 =>
                if decide (s52.2 < a0.Source.Objects) then
                  (idx a0.Objects s52.2).bind fun y57 =>
                  (idx a1.Source.From s47.2).bind fun y58 =>
                  (idx a1.Objects y58).bind fun y59 =>
                  (M.spec_l02Hom a0.Target y57 y59).bind fun v60 =>
                  (idx a1.Source.To s47.2).bind fun y61 =>
                  (idx a1.Objects y61).bind fun y62 =>
                  (M.spec_l02Hom a0.Target y57 y62).bind fun v63 =>
                  iter (fun (s64 : (List Int) × Int) next65 =>
                    if decide (s64.2 < (v60.length : Int)) then
                      (idx v60 s64.2).bind fun y69 =>
                      (idx a1.Arrows s47.2).bind fun y70 =>
                      (M.spec_l02Then a0.Target y69 y70).bind fun v71 =>
                      (M.spec_l01Index v63 v71).bind fun v72 =>
                      chk (s64.1.length + (([v72] : List Int).length) ≤ lim) (
                        next65 (s64.1 ++ ([v72] : List Int), IntKind.i64.wrap (s64.2 + 1)))
                    else
                      chk (s52.1.length + 1 ≤ lim) (
                        next53 (s52.1 ++ [s64.1], IntKind.i64.wrap (s52.2 + 1)))) fuel (([] : List Int), 0)
                else
                  chk (s47.1.length + 1 ≤ lim) (
                    next48 (s47.1 ++ [s52.1], IntKind.i64.wrap (s47.2 + 1)))) fuel (([] : List (List Int)), 0)
            else
              some (⟨v1, v2, s3.1, s18.1, s47.1⟩ : XProfunctor)) fuel (([] : List (List (List Int))), 0)) fuel (([] : List (List (List Int))), 0)) fuel (([] : List (List Int)), 0)

def M.spec_HomProfunctor (a0 : XCategory) : Option (XProfunctor × Int) :=
  (M.spec_l02Is a0).bind fun v1 =>
  if v1 then
    (M.spec_l06Self a0).bind fun v3 =>
    (M.spec_l22Natural v3 v3).bind fun v4 =>
    some (v4, 0)
  else
    some ((⟨(⟨0, [], [], [], []⟩ : XCategory), (⟨0, [], [], [], []⟩ : XCategory), [], [], []⟩ : XProfunctor), 1)

def M.impl_profunctor (a0 : XCategory) (a1 : XCategory) (a2 : Int → Int → Option Int) (a3 : Int → Int → Option (List Int)) (a4 : Int → Int → Option (List Int)) : Option (XProfunctor × Bool) :=
  (M.impl_Category_copy a0).bind fun v1 =>
  (M.impl_Category_copy a1).bind fun v2 =>
  iter (fun (s3 : (List (List Int)) × Int) next4 =>
    if decide (s3.2 < a0.Objects) then
      chk ((0 : Int) ≤ a1.Objects ∧ a1.Objects ≤ (lim : Int)) (
        iter (fun (s9 : (List Int) × Int) next10 =>
          if decide (s9.2 < a1.Objects) then
            chk (s9.2 = (s9.1.length : Int)) (
              (a2 s3.2 s9.2).bind fun v15 =>
              chk (s9.1.length + (([v15] : List Int).length) ≤ lim) (
                (idx (s9.1 ++ ([v15] : List Int)) s9.2).bind fun y17 =>
                if decide (y17 > 64) then
                  some ((⟨(⟨0, [], [], [], []⟩ : XCategory), (⟨0, [], [], [], []⟩ : XCategory), [], [], []⟩ : XProfunctor), false)
                else
                  next10 (s9.1 ++ ([v15] : List Int), IntKind.i64.wrap (s9.2 + 1))))
          else
            chk (s3.1.length + 1 ≤ lim) (
              next4 (s3.1 ++ [s9.1], IntKind.i64.wrap (s3.2 + 1)))) fuel (([] : List Int), 0))
    else
      iter (fun (s20 : (List (List (List Int))) × Int) next21 =>
        if decide (s20.2 < (a0.From.length : Int)) then
          iter (fun (s25 : (List (List Int)) × Int) next26 =>
            if decide (s25.2 < a1.Objects) then
              (a3 s20.2 s25.2).bind fun v30 =>
              chk (s25.1.length + 1 ≤ lim) (
                next26 (s25.1 ++ [v30], IntKind.i64.wrap (s25.2 + 1)))
            else
              chk (s20.1.length + 1 ≤ lim) (
                next21 (s20.1 ++ [s25.1], IntKind.i64.wrap (s20.2 + 1)))) fuel (([] : List (List Int)), 0)
        else
          iter (fun (s33 : (List (List (List Int))) × Int) next34 =>
            if decide (s33.2 < (a1.From.length : Int)) then
              iter (fun (s38 : (List (List Int)) × Int) next39 =>
                if decide (s38.2 < a0.Objects) then
                  (a4 s33.2 s38.2).bind fun v43 =>
                  chk (s38.1.length + 1 ≤ lim) (
                    next39 (s38.1 ++ [v43], IntKind.i64.wrap (s38.2 + 1)))
                else
                  chk (s33.1.length + 1 ≤ lim) (
                    next34 (s33.1 ++ [s38.1], IntKind.i64.wrap (s33.2 + 1)))) fuel (([] : List (List Int)), 0)
            else
              some ((⟨v1, v2, s3.1, s20.1, s33.1⟩ : XProfunctor), true)) fuel (([] : List (List (List Int))), 0)) fuel (([] : List (List (List Int))), 0)) fuel (([] : List (List Int)), 0)

def M.impl_natural_2 (a0 : Int) (a1 : Int) (a2 : Int → Int → Option (List Int)) : Option Int :=
  (a2 a0 a1).bind fun v1 =>
  some (v1.length : Int)

def M.impl_natural_1 (a0 : Int) (a1 : Int) (a2 : XCategory) (a3 : XFunctor) (a4 : XFunctor) : Option (List Int) :=
  (idx a3.Objects a0).bind fun y1 =>
  (idx a4.Objects a1).bind fun y2 =>
  (M.impl_Category_hom a2 y1 y2).bind fun v3 =>
  some v3

def M.impl_natural_3 (a0 : Int) (a1 : Int) (a2 : Int → Int → Option (List Int)) (a3 : XFunctor) (a4 : XCategory) : Option (List Int) :=
  (idx a3.Source.From a0).bind fun y1 =>
  (a2 y1 a1).bind fun v2 =>
  (idx a3.Source.To a0).bind fun y3 =>
  (a2 y3 a1).bind fun v4 =>
  iter (fun (s5 : (List Int) × Int) next6 =>
    if decide (s5.2 < (v4.length : Int)) then
      (idx v4 s5.2).bind fun y10 =>
      (idx a3.Arrows a0).bind fun y11 =>
      (M.impl_Category_then a4 y11 y10).bind fun v12 =>
      (M.impl_index_int64 v2 v12).bind fun v13 =>
      chk (s5.1.length + (([v13] : List Int).length) ≤ lim) (
        next6 (s5.1 ++ ([v13] : List Int), IntKind.i64.wrap (s5.2 + 1)))
    else
      some s5.1) fuel (([] : List Int), 0)

def M.impl_natural_4 (a0 : Int) (a1 : Int) (a2 : Int → Int → Option (List Int)) (a3 : XFunctor) (a4 : XCategory) : Option (List Int) :=
  (idx a3.Source.To a0).bind fun y1 =>
  (a2 a1 y1).bind fun v2 =>
  (idx a3.Source.From a0).bind fun y3 =>
  (a2 a1 y3).bind fun v4 =>
  iter (fun (s5 : (List Int) × Int) next6 =>
    if decide (s5.2 < (v4.length : Int)) then
      (idx v4 s5.2).bind fun y10 =>
      (idx a3.Arrows a0).bind fun y11 =>
      (M.impl_Category_then a4 y10 y11).bind fun v12 =>
      (M.impl_index_int64 v2 v12).bind fun v13 =>
      chk (s5.1.length + (([v13] : List Int).length) ≤ lim) (
        next6 (s5.1 ++ ([v13] : List Int), IntKind.i64.wrap (s5.2 + 1)))
    else
      some s5.1) fuel (([] : List Int), 0)

def M.impl_natural (a0 : XFunctor) (a1 : XFunctor) : Option XProfunctor :=
  (M.impl_profunctor a0.Source a1.Source (fun (x0 : Int) (x1 : Int) => M.impl_natural_2 x0 x1 (fun (x0 : Int) (x1 : Int) => M.impl_natural_1 x0 x1 a0.Target a0 a1)) (fun (x0 : Int) (x1 : Int) => M.impl_natural_3 x0 x1 (fun (x0 : Int) (x1 : Int) => M.impl_natural_1 x0 x1 a0.Target a0 a1) a0 a0.Target) (fun (x0 : Int) (x1 : Int) => M.impl_natural_4 x0 x1 (fun (x0 : Int) (x1 : Int) => M.impl_natural_1 x0 x1 a0.Target a0 a1) a1 a0.Target)).bind fun v1 =>
  some v1.1

def M.impl_HomProfunctor (a0 : XCategory) : Option (XProfunctor × Int) :=
  (M.impl_Category_isCategory a0).bind fun v1 =>
  if v1 then
    (M.impl_identity a0).bind fun v3 =>
    (M.impl_natural v3 v3).bind fun v4 =>
    some (v4, 0)
  else
    some ((⟨(⟨0, [], [], [], []⟩ : XCategory), (⟨0, [], [], [], []⟩ : XCategory), [], [], []⟩ : XProfunctor), 1)

def M.laws_eqInt64SSS (a0 : List (List (List Int))) (a1 : List (List (List Int))) : Option Bool :=
  if (a0.length : Int) != (a1.length : Int) then
    some false
  else
    iter (fun (s2 : Int) next3 =>
      if decide (s2 < (a0.length : Int)) then
        (idx a0 s2).bind fun y7 =>
        (idx a1 s2).bind fun y8 =>
        (M.laws_eqInt64SS y7 y8).bind fun v9 =>
        if v9 then
          next3 (IntKind.i64.wrap (s2 + 1))
        else
          some false
      else
        some true) fuel 0

def M.laws_eqProfunctor (a0 : XProfunctor) (a1 : XProfunctor) : Option Bool :=
  (M.laws_eqCategory a0.Source a1.Source).bind fun v1 =>
  if v1 then
    (M.laws_eqCategory a0.Target a1.Target).bind fun v3 =>
    if v3 then
      (M.laws_eqInt64SS a0.Sizes a1.Sizes).bind fun v5 =>
      if v5 then
        (M.laws_eqInt64SSS a0.Before a1.Before).bind fun v7 =>
        if v7 then
          (M.laws_eqInt64SSS a0.Behind a1.Behind).bind fun v9 =>
          if v9 then
            some true
          else
            some false
        else
          some false
      else
        some false
    else
      some false
  else
    some false

def M.laws_markInt64SSS (a0 : List (List (List Int))) (a1 : Int) : Option (Int × (List (List (List Int)))) :=
  iter (fun (s1 : (List (List (List Int))) × Int × Int) next2 =>
    if decide (s1.2.2 < (s1.1.length : Int)) then
      (idx s1.1 s1.2.2).bind fun y6 =>
      (M.laws_markInt64SS y6 s1.2.1).bind fun v7 =>
      next2 (s1.1.set s1.2.2.toNat v7.2, v7.1, IntKind.i64.wrap (s1.2.2 + 1))
    else
      some (s1.2.1, s1.1)) fuel (a0, a1, 0)

theorem M.len_markInt64SSS {a0 : List (List (List Int))} {a1 : Int} {r : Int × (List (List (List Int)))} (h : M.laws_markInt64SSS a0 a1 = some r) : a0.length = r.2.length := by
  unfold M.laws_markInt64SSS at h
  refine iter_pres (fun s => s.1.length = a0.length) (fun r => a0.length = r.2.length) ?_ _ _ _ rfl h
  intro s next r hs hn h
  try dsimp only at h
  split at h
  · obtain ⟨_, _, h⟩ := bind_some' h
    obtain ⟨_, _, h⟩ := bind_some' h
    exact hn _ (by simpa using hs) h
  · obtain rfl := Option.some.inj h; exact hs.symm

def M.laws_markProfunctor (a0 : XProfunctor) (a1 : Int) : Option (Int × XProfunctor) :=
  (M.laws_markCategory a0.Source a1).bind fun v1 =>
  (M.laws_markCategory a0.Target v1.1).bind fun v2 =>
  (M.laws_markInt64SS a0.Sizes v2.1).bind fun v3 =>
  (M.laws_markInt64SSS a0.Before v3.1).bind fun v4 =>
  (M.laws_markInt64SSS a0.Behind v4.1).bind fun v5 =>
  some (v5.1, (⟨(⟨a0.Source.Objects, v1.2.From, v1.2.To, v1.2.Identity, v1.2.Composites⟩ : XCategory), (⟨a0.Target.Objects, v2.2.From, v2.2.To, v2.2.Identity, v2.2.Composites⟩ : XCategory), v3.2, v4.2, v5.2⟩ : XProfunctor))

theorem M.len_markProfunctor {a0 : XProfunctor} {a1 : Int} {r : Int × XProfunctor} (h : M.laws_markProfunctor a0 a1 = some r) : a0.Source.Objects = r.2.Source.Objects ∧ a0.Source.From.length = r.2.Source.From.length ∧ a0.Source.To.length = r.2.Source.To.length ∧ a0.Source.Identity.length = r.2.Source.Identity.length ∧ a0.Source.Composites.length = r.2.Source.Composites.length ∧ a0.Target.Objects = r.2.Target.Objects ∧ a0.Target.From.length = r.2.Target.From.length ∧ a0.Target.To.length = r.2.Target.To.length ∧ a0.Target.Identity.length = r.2.Target.Identity.length ∧ a0.Target.Composites.length = r.2.Target.Composites.length ∧ a0.Sizes.length = r.2.Sizes.length ∧ a0.Before.length = r.2.Before.length ∧ a0.Behind.length = r.2.Behind.length := by
  unfold M.laws_markProfunctor at h
  obtain ⟨v0, h0, h⟩ := bind_some' h
  have l0 := M.len_markCategory h0
  obtain ⟨v1, h1, h⟩ := bind_some' h
  have l1 := M.len_markCategory h1
  obtain ⟨v2, h2, h⟩ := bind_some' h
  have l2 := M.len_markInt64SS h2
  obtain ⟨v3, h3, h⟩ := bind_some' h
  have l3 := M.len_markInt64SSS h3
  obtain ⟨v4, h4, h⟩ := bind_some' h
  have l4 := M.len_markInt64SSS h4
  obtain rfl := Option.some.inj h
  refine ⟨?_, ?_, ?_, ?_, ?_, ?_, ?_, ?_, ?_, ?_, ?_, ?_, ?_⟩ <;> dsimp only <;> omega
theorem rsC_eXProfunctor (q : Nat) {x y : XProfunctor} (h : x.Source.Objects = y.Source.Objects ∧ x.Source.From.length = y.Source.From.length ∧ x.Source.To.length = y.Source.To.length ∧ x.Source.Identity.length = y.Source.Identity.length ∧ x.Source.Composites.length = y.Source.Composites.length ∧ x.Target.Objects = y.Target.Objects ∧ x.Target.From.length = y.Target.From.length ∧ x.Target.To.length = y.Target.To.length ∧ x.Target.Identity.length = y.Target.Identity.length ∧ x.Target.Composites.length = y.Target.Composites.length ∧ x.Sizes.length = y.Sizes.length ∧ x.Before.length = y.Before.length ∧ x.Behind.length = y.Behind.length) : rsC q (eXProfunctor.o x) = rsC q (eXProfunctor.o y) := by
  obtain ⟨h0, h1, h2, h3, h4, h5, h6, h7, h8, h9, h10, h11, h12⟩ := h
  have e : ∀ z : XProfunctor, rsC q (eXProfunctor.o z) = [iv z.Source.Objects, .rs (q + 1) 0 z.Source.From.length, .rs (q + 1 + 1) 0 z.Source.To.length, .rs (q + 1 + 1 + 1) 0 z.Source.Identity.length, .rs (q + 1 + 1 + 1 + 1) 0 z.Source.Composites.length, iv z.Target.Objects, .rs (q + 1 + 1 + 1 + 1 + 1 + 1) 0 z.Target.From.length, .rs (q + 1 + 1 + 1 + 1 + 1 + 1 + 1) 0 z.Target.To.length, .rs (q + 1 + 1 + 1 + 1 + 1 + 1 + 1 + 1) 0 z.Target.Identity.length, .rs (q + 1 + 1 + 1 + 1 + 1 + 1 + 1 + 1 + 1) 0 z.Target.Composites.length, .rs (q + 1 + 1 + 1 + 1 + 1 + 1 + 1 + 1 + 1 + 1) 0 z.Sizes.length, .rs (q + 1 + 1 + 1 + 1 + 1 + 1 + 1 + 1 + 1 + 1 + 1) 0 z.Before.length, .rs (q + 1 + 1 + 1 + 1 + 1 + 1 + 1 + 1 + 1 + 1 + 1 + 1) 0 z.Behind.length] := fun _ => rfl
  rw [e, e, h0, h1, h2, h3, h4, h5, h6, h7, h8, h9, h10, h11, h12]

def M.laws_heldInt64SSS (a0 : List (List (List Int))) (a1 : Int) : Option Int :=
  iter (fun (s1 : Int × Int) next2 =>
    if decide (s1.2 < (a0.length : Int)) then
      (idx a0 s1.2).bind fun y6 =>
      (M.laws_heldInt64SS y6 s1.1).bind fun v7 =>
      if decide (v7 < 0) then
        some (-1)
      else
        next2 (v7, IntKind.i64.wrap (s1.2 + 1))
    else
      some s1.1) fuel (a1, 0)

def M.laws_heldProfunctor (a0 : XProfunctor) (a1 : Int) : Option Int :=
  (M.laws_heldCategory a0.Source a1).bind fun v1 =>
  if decide (v1 < 0) then
    some (-1)
  else
    (M.laws_heldCategory a0.Target v1).bind fun v3 =>
    if decide (v3 < 0) then
      some (-1)
    else
      (M.laws_heldInt64SS a0.Sizes v3).bind fun v5 =>
      if decide (v5 < 0) then
        some (-1)
      else
        (M.laws_heldInt64SSS a0.Before v5).bind fun v7 =>
        if decide (v7 < 0) then
          some (-1)
        else
          (M.laws_heldInt64SSS a0.Behind v7).bind fun v9 =>
          if decide (v9 < 0) then
            some (-1)
          else
            some v9

def M.laws_FnExactHomProfunctor (a0 : XCategory) : Option Bool :=
  (M.laws_szCategory a0 1048576).bind fun v1 =>
  if decide (v1 < 0) then
    some true
  else
    (M.laws_toCategory a0).bind fun v3 =>
    (M.spec_HomProfunctor v3).bind fun v4 =>
    (M.impl_HomProfunctor v3).bind fun v5 =>
    (M.laws_eqProfunctor v5.1 v4.1).bind fun v6 =>
    if v6 then
      if v5.2 != v4.2 then
        some false
      else
        (M.laws_eqCategory v3 v3).bind fun v9 =>
        if v9 then
          (M.laws_markCategory v3 1).bind fun v11 =>
          if decide (v11.1 < 0) then
            some false
          else
            (M.laws_markProfunctor v5.1 1).bind fun v13 =>
            (M.laws_heldProfunctor v13.2 1).bind fun v14 =>
            if decide (v14 < 0) then
              some false
            else
              if v14 != v13.1 then
                some false
              else
                some true
        else
          some false
    else
      some false

end Go.Gx
