/- Walks. Printed by wip/gen. -/
import Derived.Test.YthafadgnjkmfkaaGxEM0
import Derived.Test.YthafadgnjkmfkaaGxEO0
import Derived.Test.YthafadgnjkmfkaaGxvBW2
import Derived.KernelRfl
namespace Go.Proofs.Ythafadgnjkmfkaa.WyN
open Go.Gx Go.Proofs.Ythafadgnjkmfkaa.WvB

theorem eXCategory_r : EncR eXCategory := (eA_r (eC_r eI_r _) (eA_r (eC_r (eS_r eI_ok) _) (eA_r (eC_r (eS_r eI_ok) _) (eA_r (eC_r (eS_r eI_ok) _) (eC_r (eS_r (eS_ok eI_ok)) _)))))
def T : Tab := [(2, ⟨.int .i64, 1, 8, [.int .i64 0]⟩),
  (3, ⟨.int .i64, 1, 8, [.int .i64 0]⟩),
  (22, ⟨.slice 2, 1, 24, [.slice .none 0 0]⟩),
  (23, ⟨.slice 22, 1, 24, [.slice .none 0 0]⟩),
  (29, ⟨.struct #[⟨"Objects", 2, 0, false, "", "", 0⟩, ⟨"From", 22, 1, false, "", "", 8⟩, ⟨"To", 22, 2, false, "", "", 32⟩, ⟨"Identity", 22, 3, false, "", "", 56⟩, ⟨"Composites", 23, 4, false, "", "", 80⟩], 5, 104, [.int .i64 0, .slice .none 0 0, .slice .none 0 0, .slice .none 0 0, .slice .none 0 0]⟩)]
theorem hT : TabOk Try.prog T := ⟨tiok (by kernel_rfl) (by kernel_rfl), tiok (by kernel_rfl) (by kernel_rfl), tiok (by kernel_rfl) (by kernel_rfl), tiok (by kernel_rfl) (by kernel_rfl), tiok (by kernel_rfl) (by kernel_rfl), trivial⟩
theorem hm : Try.prog.follows .mixedOrders = true := by kernel_rfl

theorem ok64 : CallOk Try.prog 64 := callOk_of Try.func64 (by kernel_rfl) (by kernel_rfl)
theorem spec_l02Then_c (a0 : XCategory) (a1 : Int) (a2 : Int) (r : Int) (hM : M.spec_l02Then a0 a1 a2 = some r) :
    FnC Try.prog 64 [] [.agg (eXCategory.b a0), iv a1, iv a2] [] (iv r) := by
  refine fnc_startG (N := 15) (np := 500) hT Try.func64 rfl rfl (by kernel_rfl) ?_
  unfold M.spec_l02Then at hM
  refine tr_start (ks := [0, 2, 4]) (st' := [(0, .d (.agg (eXCategory.b a0))), (2, .d (iv a1)), (4, .d (iv a2))]) (by kernel_rfl) ?_
  refine tr_sr hT hm [] [2, 4, 6, 2007] [(2, .d (iv a1)), (4, .d (iv a2)), (6, .d (.rp 1003 0)), bxB 2007 (eXCategory.b a0)] .nil (by kernel_rfl) (by kernel_rfl) ?_
  obtain ⟨y1, hy1, hM⟩ := bind_some' hM
  have hy1' := idx_some hy1
  obtain ⟨y2, hy2, hM⟩ := bind_some' hM
  have hy2' := idx_some hy2
  refine tr_sr hT hm [(4, .val (.sl y1.length 0 (y1.flatMap eI.b))), (7, .val (iv y2))] [12] [(12, .d (iv y2))] (.cons hy1'.1 (.cons hy1'.2.1 (.cons (at_b0 (eS_ok eI_ok) hy1'.2.2 (d := .sl y1.length 0 (y1.flatMap eI.b)) (by kernel_rfl)) (.cons hy2'.1 (.cons hy2'.2.1 (.cons (at_b0 eI_ok hy2'.2.2 (d := iv y2) (by kernel_rfl)) .nil)))))) (by kernel_rfl) (by kernel_rfl) ?_
  refine tr_ret (rg_r ?_)
  obtain rfl := Option.some.inj hM
  exact retg (names := []) .nil (by kernel_rfl)

theorem ok62 : CallOk Try.prog 62 := callOk_of Try.func62 (by kernel_rfl) (by kernel_rfl)
theorem spec_l02Hom_c (a0 : XCategory) (a1 : Int) (a2 : Int) (r : (List Int)) (hM : M.spec_l02Hom a0 a1 a2 = some r) :
    FnC Try.prog 62 [] [.agg (eXCategory.b a0), iv a1, iv a2] [] (.fr 1 r.length (r.flatMap eI.o)) := by
  refine fnc_startG (N := 38) (np := 500) hT Try.func62 rfl rfl (by kernel_rfl) ?_
  unfold M.spec_l02Hom at hM
  refine tr_start (ks := [0, 2, 4]) (st' := [(0, .d (.agg (eXCategory.b a0))), (2, .d (iv a1)), (4, .d (iv a2))]) (by kernel_rfl) ?_
  refine tr_sr hT hm [] [2, 4, 6, 2007] [(2, .d (iv a1)), (4, .d (iv a2)), (6, .d (.rp 1003 0)), bxB 2007 (eXCategory.b a0)] .nil (by kernel_rfl) (by kernel_rfl) ?_
  refine tr_sr hT hm [] [2, 4, 6, 14, 2007, 2019] [(2, .d (iv a1)), (4, .d (iv a2)), (6, .d (.rp 1003 0)), (14, .d (.rs 1009 0 (([] : List Int).length))), bxB 2007 (eXCategory.b a0), (2019, .r (.arr 1 (([] : List Int).flatMap eI.o) []))] .nil (by kernel_rfl) (by kernel_rfl) ?_
  refine tr_seq ?_
  refine tr_sr hT hm [] [2, 4, 6, 14, 16, 2007, 2019] [(2, .d (iv a1)), (4, .d (iv a2)), (6, .d (.rp 1003 0)), (14, .d (.rs 1009 0 (([] : List Int).length))), (16, .d (iv 0)), bxB 2007 (eXCategory.b a0), (2019, .r (.arr 1 (([] : List Int).flatMap eI.o) []))] .nil (by kernel_rfl) (by kernel_rfl) ?_
  refine tr_block ?_
  refine tr_iterS (fun (s1 : (List Int) × Int) => [(2, .d (iv a1)), (4, .d (iv a2)), (6, .d (.rp 1003 0)), (14, .d (.rs 1009 0 s1.1.length)), (16, .d (iv s1.2)), bxB 2007 (eXCategory.b a0), (2019, .r (.arr 1 (s1.1.flatMap eI.o) []))]) (([] : List Int), 0) [2, 4, 6, 14, 16, 2007, 2019] (by kernel_rfl) hM ?_
  intro n4 next2 ih3 s1 hM
  refine tr_seq ?_
  refine tr_sr hT hm [] [2, 4, 6, 14, 16, 28, 2007, 2019] [(2, .d (iv a1)), (4, .d (iv a2)), (6, .d (.rp 1003 0)), (14, .d (.rs 1009 0 s1.1.length)), (16, .d (iv s1.2)), (28, .d (bv (decide (s1.2 < (a0.From.length : Int))))), bxB 2007 (eXCategory.b a0), (2019, .r (.arr 1 (s1.1.flatMap eI.o) []))] .nil (by kernel_rfl) (by kernel_rfl) ?_
  rcases Bool.eq_false_or_eq_true (decide (s1.2 < (a0.From.length : Int))) with h5 | h5
  · have hM := ite_true' hM h5
    refine tr_condTe (e := decide (s1.2 < (a0.From.length : Int))) h5 (by kernel_rfl) ?_
    refine tr_skip (q_n ?_)
    refine tr_seq ?_
    refine tr_block ?_
    obtain ⟨y6, hy6, hM⟩ := bind_some' hM
    have hy6' := idx_some hy6
    rcases Bool.eq_false_or_eq_true (y6 == a1) with h7 | h7
    · have hM := ite_true' hM h7
      obtain ⟨y8, hy8, hM⟩ := bind_some' hM
      have hy8' := idx_some hy8
      refine tr_sr hT hm [(4, .val (iv y6)), (7, .val (bv true)), (12, .val (iv y8))] [2, 4, 6, 14, 16, 64, 2007, 2019] [(2, .d (iv a1)), (4, .d (iv a2)), (6, .d (.rp 1003 0)), (14, .d (.rs 1009 0 s1.1.length)), (16, .d (iv s1.2)), (64, .d (bv (y8 == a2))), bxB 2007 (eXCategory.b a0), (2019, .r (.arr 1 (s1.1.flatMap eI.o) []))] (.cons hy6'.1 (.cons hy6'.2.1 (.cons (at_b0 eI_ok hy6'.2.2 (d := iv y6) (by kernel_rfl)) (.cons (congrArg (fun b => bv b) h7) (.cons hy8'.1 (.cons hy8'.2.1 (.cons (at_b0 eI_ok hy8'.2.2 (d := iv y8) (by kernel_rfl)) .nil))))))) (by kernel_rfl) (by kernel_rfl) ?_
      rcases Bool.eq_false_or_eq_true (y8 == a2) with h9 | h9
      · have hM := ite_true' hM h9
        refine tr_condTe (e := y8 == a2) h9 (by kernel_rfl) ?_
        obtain ⟨h10, hM⟩ := chk_some hM
        refine tr_r hT hm [(3, .app true)] [2, 4, 6, 14, 16, 2007, 2073] [(2, .d (iv a1)), (4, .d (iv a2)), (6, .d (.rp 1003 0)), (14, .d (.rs 1036 0 (s1.1.length + (([s1.2] : List Int).length)))), (16, .d (iv s1.2)), bxB 2007 (eXCategory.b a0), (2073, .r (.arr 1 (s1.1.flatMap eI.o ++ ([s1.2] : List Int).flatMap eI.o) []))] (.cons (lenO_flat eI_ok s1.1) (.cons (lenO_flat eI_ok ([s1.2] : List Int)) (.cons h10 .nil))) (by kernel_rfl) (by kernel_rfl) (b_n (q_n ?_))
        refine Tr.by (imp_cvE (r := 1036) (sz := 1) (refs := []) (flat_app eI.o s1.1 ([s1.2] : List Int)) (menO_flat eI_ok _) (by kernel_rfl)) ?_
        refine Tr.by (imp_cvD (k := 14) (congrArg (D.rs 1036 0) ((len_app s1.1 ([s1.2] : List Int)) : s1.1.length + (([s1.2] : List Int).length) = (s1.1 ++ ([s1.2] : List Int)).length)) (by kernel_rfl)) ?_
        refine tr_r hT hm [] [2, 4, 6, 14, 16, 2007, 2073] [(2, .d (iv a1)), (4, .d (iv a2)), (6, .d (.rp 1003 0)), (14, .d (.rs 1036 0 ((s1.1 ++ ([s1.2] : List Int)).length))), (16, .d (iv (IntKind.i64.wrap (s1.2 + 1)))), bxB 2007 (eXCategory.b a0), (2073, .r (.arr 1 ((s1.1 ++ ([s1.2] : List Int)).flatMap eI.o) []))] .nil (by kernel_rfl) (by kernel_rfl) (l_n ?_)
        refine TrL.by (imp_sel (ks := [2, 4, 6, 14, 16, 2007, 2073]) (st' := [(2, .d (iv a1)), (4, .d (iv a2)), (6, .d (.rp 1003 0)), (14, .d (.rs 1036 0 ((s1.1 ++ ([s1.2] : List Int)).length))), (16, .d (iv (IntKind.i64.wrap (s1.2 + 1)))), bxB 2007 (eXCategory.b a0), (2073, .r (.arr 1 ((s1.1 ++ ([s1.2] : List Int)).flatMap eI.o) []))]) (by kernel_rfl)) ?_
        refine TrL.by (imp_rename (r := 1036) (q := 1009) (by kernel_rfl) (Nat.le_of_ble_eq_true rfl)) ?_
        exact trl_start (ks := [2, 4, 6, 14, 16, 2007, 2019]) (by kernel_rfl) (ih3 (s1.1 ++ ([s1.2] : List Int), IntKind.i64.wrap (s1.2 + 1)) hM)
      · have hM := ite_false' hM h9
        refine tr_condFe (e := y8 == a2) h9 (by kernel_rfl) ?_
        refine tr_skip (b_n (q_n ?_))
        refine tr_r hT hm [] [2, 4, 6, 14, 16, 2007, 2019] [(2, .d (iv a1)), (4, .d (iv a2)), (6, .d (.rp 1003 0)), (14, .d (.rs 1009 0 s1.1.length)), (16, .d (iv (IntKind.i64.wrap (s1.2 + 1)))), bxB 2007 (eXCategory.b a0), (2019, .r (.arr 1 (s1.1.flatMap eI.o) []))] .nil (by kernel_rfl) (by kernel_rfl) (l_n ?_)
        exact trl_start (ks := [2, 4, 6, 14, 16, 2007, 2019]) (by kernel_rfl) (ih3 (s1.1, IntKind.i64.wrap (s1.2 + 1)) hM)
    · have hM := ite_false' hM h7
      refine tr_sr hT hm [(4, .val (iv y6)), (7, .val (bv false))] [2, 4, 6, 14, 16, 64, 2007, 2019] [(2, .d (iv a1)), (4, .d (iv a2)), (6, .d (.rp 1003 0)), (14, .d (.rs 1009 0 s1.1.length)), (16, .d (iv s1.2)), (64, .d (bv false)), bxB 2007 (eXCategory.b a0), (2019, .r (.arr 1 (s1.1.flatMap eI.o) []))] (.cons hy6'.1 (.cons hy6'.2.1 (.cons (at_b0 eI_ok hy6'.2.2 (d := iv y6) (by kernel_rfl)) (.cons (congrArg (fun b => bv b) h7) .nil)))) (by kernel_rfl) (by kernel_rfl) ?_
      refine tr_condF (by kernel_rfl) ?_
      refine tr_skip (b_n (q_n ?_))
      refine tr_r hT hm [] [2, 4, 6, 14, 16, 2007, 2019] [(2, .d (iv a1)), (4, .d (iv a2)), (6, .d (.rp 1003 0)), (14, .d (.rs 1009 0 s1.1.length)), (16, .d (iv (IntKind.i64.wrap (s1.2 + 1)))), bxB 2007 (eXCategory.b a0), (2019, .r (.arr 1 (s1.1.flatMap eI.o) []))] .nil (by kernel_rfl) (by kernel_rfl) (l_n ?_)
      exact trl_start (ks := [2, 4, 6, 14, 16, 2007, 2019]) (by kernel_rfl) (ih3 (s1.1, IntKind.i64.wrap (s1.2 + 1)) hM)
  · have hM := ite_false' hM h5
    refine tr_condFe (e := decide (s1.2 < (a0.From.length : Int))) h5 (by kernel_rfl) ?_
    refine tr_exit (q_x (l_x (b_h (q_n ?_))))
    refine tr_sr hT hm [] [12, 2019] [(12, .d (.rs 1009 0 s1.1.length)), (2019, .r (.arr 1 (s1.1.flatMap eI.o) []))] .nil (by kernel_rfl) (by kernel_rfl) ?_
    refine tr_ret (rg_r ?_)
    obtain rfl := Option.some.inj hM
    exact retg (names := []) (.cons (lenO_flat eI_ok s1.1) .nil) (by kernel_rfl)

theorem ok122 : CallOk Try.prog 122 := callOk_of Try.func122 (by kernel_rfl) (by kernel_rfl)
theorem spec_l01Index_c (a0 : List Int) (a1 : Int) (r : Int) (hM : M.spec_l01Index a0 a1 = some r) :
    FnC Try.prog 122 [] [.sl a0.length 0 (a0.flatMap eI.b), iv a1] [] (iv r) := by
  refine fnc_startG (N := 19) (np := 500) hT Try.func122 rfl rfl (by kernel_rfl) ?_
  unfold M.spec_l01Index at hM
  refine tr_start (ks := [0, 2]) (st' := [(0, .d (.sl a0.length 0 (a0.flatMap eI.b))), (2, .d (iv a1))]) (by kernel_rfl) ?_
  refine tr_sr hT hm [] [0, 2] [(0, .d (.sl a0.length 0 (a0.flatMap eI.b))), (2, .d (iv a1))] .nil (by kernel_rfl) (by kernel_rfl) ?_
  refine tr_seq ?_
  refine tr_sr hT hm [] [0, 2, 10] [(0, .d (.sl a0.length 0 (a0.flatMap eI.b))), (2, .d (iv a1)), (10, .d (iv 0))] .nil (by kernel_rfl) (by kernel_rfl) ?_
  refine tr_block ?_
  refine tr_iterS (fun (s1 : Int) => [(0, .d (.sl a0.length 0 (a0.flatMap eI.b))), (2, .d (iv a1)), (10, .d (iv s1))]) 0 [0, 2, 10] (by kernel_rfl) hM ?_
  intro n4 next2 ih3 s1 hM
  refine tr_seq ?_
  refine tr_sr hT hm [] [0, 2, 10, 18] [(0, .d (.sl a0.length 0 (a0.flatMap eI.b))), (2, .d (iv a1)), (10, .d (iv s1)), (18, .d (bv (decide (s1 < (a0.length : Int)))))] .nil (by kernel_rfl) (by kernel_rfl) ?_
  rcases Bool.eq_false_or_eq_true (decide (s1 < (a0.length : Int))) with h5 | h5
  · have hM := ite_true' hM h5
    refine tr_condTe (e := decide (s1 < (a0.length : Int))) h5 (by kernel_rfl) ?_
    refine tr_skip (q_n ?_)
    refine tr_seq ?_
    refine tr_block ?_
    obtain ⟨y6, hy6, hM⟩ := bind_some' hM
    have hy6' := idx_some hy6
    refine tr_sr hT hm [(3, .val (iv y6))] [0, 2, 10, 34] [(0, .d (.sl a0.length 0 (a0.flatMap eI.b))), (2, .d (iv a1)), (10, .d (iv s1)), (34, .d (bv (y6 == a1)))] (.cons hy6'.1 (.cons hy6'.2.1 (.cons (at_b0 eI_ok hy6'.2.2 (d := iv y6) (by kernel_rfl)) .nil))) (by kernel_rfl) (by kernel_rfl) ?_
    rcases Bool.eq_false_or_eq_true (y6 == a1) with h7 | h7
    · have hM := ite_true' hM h7
      refine tr_condTe (e := y6 == a1) h7 (by kernel_rfl) ?_
      refine tr_sr hT hm [] [8] [(8, .d (iv s1))] .nil (by kernel_rfl) (by kernel_rfl) ?_
      refine tr_ret (b_r (q_r (l_r (b_r (q_r (rg_r ?_))))))
      obtain rfl := Option.some.inj hM
      exact retg (names := []) .nil (by kernel_rfl)
    · have hM := ite_false' hM h7
      refine tr_condFe (e := y6 == a1) h7 (by kernel_rfl) ?_
      refine tr_skip (b_n (q_n ?_))
      refine tr_r hT hm [] [0, 2, 10] [(0, .d (.sl a0.length 0 (a0.flatMap eI.b))), (2, .d (iv a1)), (10, .d (iv (IntKind.i64.wrap (s1 + 1))))] .nil (by kernel_rfl) (by kernel_rfl) (l_n ?_)
      exact trl_start (ks := [0, 2, 10]) (by kernel_rfl) (ih3 (IntKind.i64.wrap (s1 + 1)) hM)
  · have hM := ite_false' hM h5
    refine tr_condFe (e := decide (s1 < (a0.length : Int))) h5 (by kernel_rfl) ?_
    refine tr_exit (q_x (l_x (b_h (q_n ?_))))
    refine tr_sr hT hm [] [8] [(8, .d (iv (-1)))] .nil (by kernel_rfl) (by kernel_rfl) ?_
    refine tr_ret (rg_r ?_)
    obtain rfl := Option.some.inj hM
    exact retg (names := []) .nil (by kernel_rfl)

theorem ok86 : CallOk Try.prog 86 := callOk_of Try.func86 (by kernel_rfl) (by kernel_rfl)
theorem impl_Category_outOf_c (a0 : XCategory) (a1 : Int) (r : (List Int)) (hM : M.impl_Category_outOf a0 a1 = some r) :
    FnC Try.prog 86 [] [.pt (eXCategory.b a0) 0, iv a1] [] (.fr 1 r.length (r.flatMap eI.o)) := by
  refine fnc_startG (N := 28) (np := 500) hT Try.func86 rfl rfl (by kernel_rfl) ?_
  unfold M.impl_Category_outOf at hM
  refine tr_start (ks := [0, 2]) (st' := [(0, .d (.pt (eXCategory.b a0) 0)), (2, .d (iv a1))]) (by kernel_rfl) ?_
  refine tr_sr hT hm [] [0, 2] [(0, .d (.pt (eXCategory.b a0) 0)), (2, .d (iv a1))] .nil (by kernel_rfl) (by kernel_rfl) ?_
  refine tr_sr hT hm [] [0, 2, 10, 2017] [(0, .d (.pt (eXCategory.b a0) 0)), (2, .d (iv a1)), (10, .d (.rs 1008 0 (([] : List Int).length))), (2017, .r (.arr 1 (([] : List Int).flatMap eI.o) []))] .nil (by kernel_rfl) (by kernel_rfl) ?_
  refine tr_seq ?_
  refine tr_sr hT hm [] [2, 10, 24, 26, 28, 2017] [(2, .d (iv a1)), (10, .d (.rs 1008 0 (([] : List Int).length))), (24, .d (.sl a0.From.length 0 (a0.From.flatMap eI.b))), (26, .d (iv (a0.From.length : Int))), (28, .d (iv 0)), (2017, .r (.arr 1 (([] : List Int).flatMap eI.o) []))] .nil (by kernel_rfl) (by kernel_rfl) ?_
  refine tr_block ?_
  refine tr_iterS (fun (s1 : (List Int) × Int) => [(2, .d (iv a1)), (10, .d (.rs 1008 0 s1.1.length)), (24, .d (.sl a0.From.length 0 (a0.From.flatMap eI.b))), (26, .d (iv (a0.From.length : Int))), (28, .d (iv s1.2)), (2017, .r (.arr 1 (s1.1.flatMap eI.o) []))]) (([] : List Int), 0) [2, 10, 24, 26, 28, 2017] (by kernel_rfl) hM ?_
  intro n4 next2 ih3 s1 hM
  refine tr_sr hT hm [] [2, 10, 24, 26, 28, 30, 2017] [(2, .d (iv a1)), (10, .d (.rs 1008 0 s1.1.length)), (24, .d (.sl a0.From.length 0 (a0.From.flatMap eI.b))), (26, .d (iv (a0.From.length : Int))), (28, .d (iv s1.2)), (30, .d (bv (decide (s1.2 < (a0.From.length : Int))))), (2017, .r (.arr 1 (s1.1.flatMap eI.o) []))] .nil (by kernel_rfl) (by kernel_rfl) ?_
  refine tr_seq ?_
  rcases Bool.eq_false_or_eq_true (decide (s1.2 < (a0.From.length : Int))) with h5 | h5
  · have hM := ite_true' hM h5
    refine tr_condTe (e := decide (s1.2 < (a0.From.length : Int))) h5 (by kernel_rfl) ?_
    refine tr_skip (q_n ?_)
    refine tr_seq ?_
    refine tr_block ?_
    obtain ⟨y6, hy6, hM⟩ := bind_some' hM
    have hy6' := idx_some hy6
    refine tr_sr hT hm [(2, .val (iv y6))] [2, 10, 12, 14, 24, 26, 28, 2017] [(2, .d (iv a1)), (10, .d (.rs 1008 0 s1.1.length)), (12, .d (iv s1.2)), (14, .d (iv y6)), (24, .d (.sl a0.From.length 0 (a0.From.flatMap eI.b))), (26, .d (iv (a0.From.length : Int))), (28, .d (iv s1.2)), (2017, .r (.arr 1 (s1.1.flatMap eI.o) []))] (.cons hy6'.1 (.cons hy6'.2.1 (.cons (at_b0 eI_ok hy6'.2.2 (d := iv y6) (by kernel_rfl)) .nil))) (by kernel_rfl) (by kernel_rfl) ?_
    refine tr_sr hT hm [] [2, 10, 12, 24, 26, 28, 42, 2017] [(2, .d (iv a1)), (10, .d (.rs 1008 0 s1.1.length)), (12, .d (iv s1.2)), (24, .d (.sl a0.From.length 0 (a0.From.flatMap eI.b))), (26, .d (iv (a0.From.length : Int))), (28, .d (iv s1.2)), (42, .d (bv (y6 == a1))), (2017, .r (.arr 1 (s1.1.flatMap eI.o) []))] .nil (by kernel_rfl) (by kernel_rfl) ?_
    rcases Bool.eq_false_or_eq_true (y6 == a1) with h7 | h7
    · have hM := ite_true' hM h7
      refine tr_condTe (e := y6 == a1) h7 (by kernel_rfl) ?_
      obtain ⟨h8, hM⟩ := chk_some hM
      refine tr_r hT hm [(3, .app true)] [2, 10, 24, 26, 28, 2051] [(2, .d (iv a1)), (10, .d (.rs 1025 0 (s1.1.length + (([s1.2] : List Int).length)))), (24, .d (.sl a0.From.length 0 (a0.From.flatMap eI.b))), (26, .d (iv (a0.From.length : Int))), (28, .d (iv s1.2)), (2051, .r (.arr 1 (s1.1.flatMap eI.o ++ ([s1.2] : List Int).flatMap eI.o) []))] (.cons (lenO_flat eI_ok s1.1) (.cons (lenO_flat eI_ok ([s1.2] : List Int)) (.cons h8 .nil))) (by kernel_rfl) (by kernel_rfl) (b_n (q_n ?_))
      refine Tr.by (imp_cvE (r := 1025) (sz := 1) (refs := []) (flat_app eI.o s1.1 ([s1.2] : List Int)) (menO_flat eI_ok _) (by kernel_rfl)) ?_
      refine Tr.by (imp_cvD (k := 10) (congrArg (D.rs 1025 0) ((len_app s1.1 ([s1.2] : List Int)) : s1.1.length + (([s1.2] : List Int).length) = (s1.1 ++ ([s1.2] : List Int)).length)) (by kernel_rfl)) ?_
      refine tr_r hT hm [] [2, 10, 24, 26, 28, 2051] [(2, .d (iv a1)), (10, .d (.rs 1025 0 ((s1.1 ++ ([s1.2] : List Int)).length))), (24, .d (.sl a0.From.length 0 (a0.From.flatMap eI.b))), (26, .d (iv (a0.From.length : Int))), (28, .d (iv (IntKind.i64.wrap (s1.2 + 1)))), (2051, .r (.arr 1 ((s1.1 ++ ([s1.2] : List Int)).flatMap eI.o) []))] .nil (by kernel_rfl) (by kernel_rfl) (l_n ?_)
      refine TrL.by (imp_sel (ks := [2, 10, 24, 26, 28, 2051]) (st' := [(2, .d (iv a1)), (10, .d (.rs 1025 0 ((s1.1 ++ ([s1.2] : List Int)).length))), (24, .d (.sl a0.From.length 0 (a0.From.flatMap eI.b))), (26, .d (iv (a0.From.length : Int))), (28, .d (iv (IntKind.i64.wrap (s1.2 + 1)))), (2051, .r (.arr 1 ((s1.1 ++ ([s1.2] : List Int)).flatMap eI.o) []))]) (by kernel_rfl)) ?_
      refine TrL.by (imp_rename (r := 1025) (q := 1008) (by kernel_rfl) (Nat.le_of_ble_eq_true rfl)) ?_
      exact trl_start (ks := [2, 10, 24, 26, 28, 2017]) (by kernel_rfl) (ih3 (s1.1 ++ ([s1.2] : List Int), IntKind.i64.wrap (s1.2 + 1)) hM)
    · have hM := ite_false' hM h7
      refine tr_condFe (e := y6 == a1) h7 (by kernel_rfl) ?_
      refine tr_skip (b_n (q_n ?_))
      refine tr_r hT hm [] [2, 10, 24, 26, 28, 2017] [(2, .d (iv a1)), (10, .d (.rs 1008 0 s1.1.length)), (24, .d (.sl a0.From.length 0 (a0.From.flatMap eI.b))), (26, .d (iv (a0.From.length : Int))), (28, .d (iv (IntKind.i64.wrap (s1.2 + 1)))), (2017, .r (.arr 1 (s1.1.flatMap eI.o) []))] .nil (by kernel_rfl) (by kernel_rfl) (l_n ?_)
      exact trl_start (ks := [2, 10, 24, 26, 28, 2017]) (by kernel_rfl) (ih3 (s1.1, IntKind.i64.wrap (s1.2 + 1)) hM)
  · have hM := ite_false' hM h5
    refine tr_condFe (e := decide (s1.2 < (a0.From.length : Int))) h5 (by kernel_rfl) ?_
    refine tr_exit (q_x (l_x (b_h (q_n ?_))))
    refine tr_sr hT hm [] [8, 2017] [(8, .d (.rs 1008 0 s1.1.length)), (2017, .r (.arr 1 (s1.1.flatMap eI.o) []))] .nil (by kernel_rfl) (by kernel_rfl) ?_
    refine tr_ret (rg_r ?_)
    obtain rfl := Option.some.inj hM
    exact retg (names := []) (.cons (lenO_flat eI_ok s1.1) .nil) (by kernel_rfl)

end Go.Proofs.Ythafadgnjkmfkaa.WyN
