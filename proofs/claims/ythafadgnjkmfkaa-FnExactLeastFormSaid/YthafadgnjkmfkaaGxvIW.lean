import Derived.Test.YthafadgnjkmfkaaGxEM0
import Derived.Test.YthafadgnjkmfkaaGxEO0
import Derived.Test.YthafadgnjkmfkaaGxvBW2
import Derived.KernelRfl
namespace Go.Proofs.Ythafadgnjkmfkaa.WvI
open Go.Gx Go.Proofs.Ythafadgnjkmfkaa.WvB
theorem eXCategory_r : EncR eXCategory := (eA_r (eC_r eI_r _) (eA_r (eC_r (eS_r eI_ok) _) (eA_r (eC_r (eS_r eI_ok) _) (eA_r (eC_r (eS_r eI_ok) _) (eC_r (eS_r (eS_ok eI_ok)) _)))))
def T : Tab := [(2, ⟨.int .i64, 1, 8, [.int .i64 0]⟩),
  (3, ⟨.int .i64, 1, 8, [.int .i64 0]⟩),
  (22, ⟨.slice 2, 1, 24, [.slice .none 0 0]⟩),
  (23, ⟨.slice 22, 1, 24, [.slice .none 0 0]⟩),
  (29, ⟨.struct #[⟨"Objects", 2, 0, false, "", "", 0⟩, ⟨"From", 22, 1, false, "", "", 8⟩, ⟨"To", 22, 2, false, "", "", 32⟩, ⟨"Identity", 22, 3, false, "", "", 56⟩, ⟨"Composites", 23, 4, false, "", "", 80⟩], 5, 104, [.int .i64 0, .slice .none 0 0, .slice .none 0 0, .slice .none 0 0, .slice .none 0 0]⟩)]
theorem hT : TabOk Try.prog T := ⟨tiok (by kernel_rfl) (by kernel_rfl), tiok (by kernel_rfl) (by kernel_rfl), tiok (by kernel_rfl) (by kernel_rfl), tiok (by kernel_rfl) (by kernel_rfl), tiok (by kernel_rfl) (by kernel_rfl), trivial⟩
theorem hm : Try.prog.follows .mixedOrders = true := by kernel_rfl
theorem ok127 : CallOk Try.prog 127 := callOk_of Try.func127 (by kernel_rfl) (by kernel_rfl)
theorem impl_numbers_c (a0 : Int) (r : (List Int)) (hM : M.impl_numbers a0 = some r) :
    FnC Try.prog 127 [] [iv a0] [] (.fr 1 r.length (r.flatMap eI.o)) := by
  refine fnc_startG (N := 18) (np := 500) hT Try.func127 rfl rfl (by kernel_rfl) ?_
  unfold M.impl_numbers at hM
  refine tr_start (ks := [0]) (st' := [(0, .d (iv a0))]) (by kernel_rfl) ?_
  refine tr_sr hT hm [] [0] [(0, .d (iv a0))] .nil (by kernel_rfl) (by kernel_rfl) ?_
  obtain ⟨h1, hM⟩ := chk_some hM
  refine tr_sr hT hm [] [6, 2013] [(6, .d (.rs 1006 0 a0.toNat)), (2013, .r (.arr 1 (repl a0.toNat [.int .i64 0]) []))] (.cons h1.1 (.cons (Int.le_refl a0) (.cons h1.2 .nil))) (by kernel_rfl) (by kernel_rfl) ?_
  refine Tr.by (imp_cvE (r := 1006) (sz := 1) (refs := []) (repl_flat (f := eI.o) (zs := [.int .i64 0]) (z := (0 : Int)) rfl a0.toNat) (menO_flat eI_ok _) (by kernel_rfl)) ?_
  refine Tr.by (imp_cvD (k := 6) (congrArg (D.rs 1006 0) (List.length_replicate.symm : a0.toNat = (List.replicate a0.toNat (0 : Int)).length)) (by kernel_rfl)) ?_
  refine tr_seq ?_
  refine tr_sr hT hm [] [6, 16, 18, 2013] [(6, .d (.rs 1006 0 ((List.replicate a0.toNat (0 : Int)).length))), (16, .d (iv ((List.replicate a0.toNat (0 : Int)).length : Int))), (18, .d (iv 0)), (2013, .r (.arr 1 ((List.replicate a0.toNat (0 : Int)).flatMap eI.o) []))] .nil (by kernel_rfl) (by kernel_rfl) ?_
  refine tr_block ?_
  refine tr_iterS (fun (s2 : (List Int) × Int) => [(6, .d (.rs 1006 0 s2.1.length)), (16, .d (iv ((List.replicate a0.toNat (0 : Int)).length : Int))), (18, .d (iv s2.2)), (2013, .r (.arr 1 (s2.1.flatMap eI.o) []))]) ((List.replicate a0.toNat (0 : Int)), 0) [6, 16, 18, 2013] (by kernel_rfl) hM ?_
  intro n5 next3 ih4 s2 hM
  refine tr_sr hT hm [] [6, 16, 18, 20, 2013] [(6, .d (.rs 1006 0 s2.1.length)), (16, .d (iv ((List.replicate a0.toNat (0 : Int)).length : Int))), (18, .d (iv s2.2)), (20, .d (bv (decide (s2.2 < ((List.replicate a0.toNat (0 : Int)).length : Int))))), (2013, .r (.arr 1 (s2.1.flatMap eI.o) []))] .nil (by kernel_rfl) (by kernel_rfl) ?_
  refine tr_seq ?_
  rcases Bool.eq_false_or_eq_true (decide (s2.2 < ((List.replicate a0.toNat (0 : Int)).length : Int))) with h6 | h6
  · have hM := ite_true' hM h6
    refine tr_condTe (e := decide (s2.2 < ((List.replicate a0.toNat (0 : Int)).length : Int))) h6 (by kernel_rfl) ?_
    refine tr_skip (q_n ?_)
    refine tr_seq ?_
    refine tr_block ?_
    refine tr_sr hT hm [] [6, 8, 16, 18, 2013] [(6, .d (.rs 1006 0 s2.1.length)), (8, .d (iv s2.2)), (16, .d (iv ((List.replicate a0.toNat (0 : Int)).length : Int))), (18, .d (iv s2.2)), (2013, .r (.arr 1 (s2.1.flatMap eI.o) []))] .nil (by kernel_rfl) (by kernel_rfl) ?_
    obtain ⟨y7, hy7, hM⟩ := bind_some' hM
    have hy7' := idx_some hy7
    refine tr_r hT hm [] [6, 16, 18, 2013] [(6, .d (.rs 1006 0 s2.1.length)), (16, .d (iv ((List.replicate a0.toNat (0 : Int)).length : Int))), (18, .d (iv s2.2)), (2013, .r (.arr 1 ((s2.1.flatMap eI.o).take (0 + s2.2.toNat * 1) ++ [iv s2.2] ++ (s2.1.flatMap eI.o).drop (0 + s2.2.toNat * 1 + 1)) []))] (.cons hy7'.1 (.cons hy7'.2.1 (.cons (store_le eI_ok hy7'.2.2) .nil))) (by kernel_rfl) (by kernel_rfl) (b_n (q_n ?_))
    refine Tr.by (imp_cvE (r := 1006) (sz := 1) (refs := []) (set_flat eI_ok.lenO (y := s2.2) hy7'.2.2) (menO_flat eI_ok _) (by kernel_rfl)) ?_
    refine Tr.by (imp_cvD (k := 6) (congrArg (D.rs 1006 0) (List.length_set.symm : s2.1.length = (s2.1.set s2.2.toNat s2.2).length)) (by kernel_rfl)) ?_
    refine tr_r hT hm [] [6, 16, 18, 2013] [(6, .d (.rs 1006 0 ((s2.1.set s2.2.toNat s2.2).length))), (16, .d (iv ((List.replicate a0.toNat (0 : Int)).length : Int))), (18, .d (iv (IntKind.i64.wrap (s2.2 + 1)))), (2013, .r (.arr 1 ((s2.1.set s2.2.toNat s2.2).flatMap eI.o) []))] .nil (by kernel_rfl) (by kernel_rfl) (l_n ?_)
    exact trl_start (ks := [6, 16, 18, 2013]) (by kernel_rfl) (ih4 (s2.1.set s2.2.toNat s2.2, IntKind.i64.wrap (s2.2 + 1)) hM)
  · have hM := ite_false' hM h6
    refine tr_condFe (e := decide (s2.2 < ((List.replicate a0.toNat (0 : Int)).length : Int))) h6 (by kernel_rfl) ?_
    refine tr_exit (q_x (l_x (b_h (q_n ?_))))
    refine tr_sr hT hm [] [4, 2013] [(4, .d (.rs 1006 0 s2.1.length)), (2013, .r (.arr 1 (s2.1.flatMap eI.o) []))] .nil (by kernel_rfl) (by kernel_rfl) ?_
    refine tr_ret (rg_r ?_)
    obtain rfl := Option.some.inj hM
    exact retg (names := []) (.cons (lenO_flat eI_ok s2.1) .nil) (by kernel_rfl)
theorem ok62 : CallOk Try.prog 62 := callOk_of Try.func62 (by kernel_rfl) (by kernel_rfl)
theorem spec_l02Hom_c (a0 : XCategory) (a1 : Int) (a2 : Int) (r : (List Int)) (hM : M.spec_l02Hom a0 a1 a2 = some r) :
    FnC Try.prog 62 [] [.agg (eXCategory.b a0), iv a1, iv a2] [] (.fr 1 r.length (r.flatMap eI.o)) := by
  refine fnc_startG (N := 38) (np := 500) hT Try.func62 rfl rfl (by kernel_rfl) ?_
  unfold M.spec_l02Hom at hM
  refine tr_start (ks := [0, 2, 4]) (st' := [(0, .d (.agg (eXCategory.b a0))), (2, .d (iv a1)), (4, .d (iv a2))]) (by kernel_rfl) ?_
  refine tr_sr hT hm [] [2, 4, 6, 2007] [(2, .d (iv a1)), (4, .d (iv a2)), (6, .d (.rp 1003 0)), bxB 2007 (eXCategory.b a0)] .nil (by kernel_rfl) (by kernel_rfl) ?_
  refine tr_sr hT hm [] [2, 4, 6, 14, 2007, 2019] [(2, .d (iv a1)), (4, .d (iv a2)), (6, .d (.rp 1003 0)), (14, .d (.rs 1009 0 (([] : List Int).length))), bxB 2007 (eXCategory.b a0), (2019, .r (.arr 1 (([] : List Int).flatMap eI.o) []))] .nil (by kernel_rfl) (by kernel_rfl) ?_
  refine tr_seq ?_
  refine tr_sr hT hm [] [2, 4, 6, 14, 16, 2007, 2019] [(2, .d (iv a1)), (4, .d (iv a2)), (6, .d (.rp 1003 0)), (14, .d (.rs 1009 0 (([] : List Int).length))), (16, .d (iv 0)), bxB 2007 (eXCategory.b a0), (2019, .r (.arr 1 (([] : List Int).flatMap eI.o) []))] .nil (by kernel_rfl) (by kernel_rfl) ?_
  refine tr_block ?_
  refine tr_iterS (fun (s1 : (List Int) × Int) => [(2, .d (iv a1)), (4, .d (iv a2)), (6, .d (.rp 1003 0)), (14, .d (.rs 1009 0 s1.1.length)), (16, .d (iv s1.2)), bxB 2007 (eXCategory.b a0), (2019, .r (.arr 1 (s1.1.flatMap eI.o) []))]) (([] : List Int), 0) [2, 4, 6, 14, 16, 2007, 2019] (by kernel_rfl) hM ?_
  intro n4 next2 ih3 s1 hM
  refine tr_seq ?_
  refine tr_sr hT hm [] [2, 4, 6, 14, 16, 28, 2007, 2019] [(2, .d (iv a1)), (4, .d (iv a2)), (6, .d (.rp 1003 0)), (14, .d (.rs 1009 0 s1.1.length)), (16, .d (iv s1.2)), (28, .d (bv (decide (s1.2 < (a0.From.length : Int))))), bxB 2007 (eXCategory.b a0), (2019, .r (.arr 1 (s1.1.flatMap eI.o) []))] .nil (by kernel_rfl) (by kernel_rfl) ?_
  rcases Bool.eq_false_or_eq_true (decide (s1.2 < (a0.From.length : Int))) with h5 | h5
  · have hM := ite_true' hM h5
    refine tr_condTe (e := decide (s1.2 < (a0.From.length : Int))) h5 (by kernel_rfl) ?_
    refine tr_skip (q_n ?_)
    refine tr_seq ?_
    refine tr_block ?_
    obtain ⟨y6, hy6, hM⟩ := bind_some' hM
    have hy6' := idx_some hy6
    rcases Bool.eq_false_or_eq_true (y6 == a1) with h7 | h7
    · have hM := ite_true' hM h7
      obtain ⟨y8, hy8, hM⟩ := bind_some' hM
      have hy8' := idx_some hy8
      refine tr_sr hT hm [(4, .val (iv y6)), (7, .val (bv true)), (12, .val (iv y8))] [2, 4, 6, 14, 16, 64, 2007, 2019] [(2, .d (iv a1)), (4, .d (iv a2)), (6, .d (.rp 1003 0)), (14, .d (.rs 1009 0 s1.1.length)), (16, .d (iv s1.2)), (64, .d (bv (y8 == a2))), bxB 2007 (eXCategory.b a0), (2019, .r (.arr 1 (s1.1.flatMap eI.o) []))] (.cons hy6'.1 (.cons hy6'.2.1 (.cons (at_b0 eI_ok hy6'.2.2 (d := iv y6) (by kernel_rfl)) (.cons (congrArg (fun b => bv b) h7) (.cons hy8'.1 (.cons hy8'.2.1 (.cons (at_b0 eI_ok hy8'.2.2 (d := iv y8) (by kernel_rfl)) .nil))))))) (by kernel_rfl) (by kernel_rfl) ?_
      rcases Bool.eq_false_or_eq_true (y8 == a2) with h9 | h9
      · have hM := ite_true' hM h9
        refine tr_condTe (e := y8 == a2) h9 (by kernel_rfl) ?_
        obtain ⟨h10, hM⟩ := chk_some hM
        refine tr_r hT hm [(3, .app true)] [2, 4, 6, 14, 16, 2007, 2073] [(2, .d (iv a1)), (4, .d (iv a2)), (6, .d (.rp 1003 0)), (14, .d (.rs 1036 0 (s1.1.length + (([s1.2] : List Int).length)))), (16, .d (iv s1.2)), bxB 2007 (eXCategory.b a0), (2073, .r (.arr 1 (s1.1.flatMap eI.o ++ ([s1.2] : List Int).flatMap eI.o) []))] (.cons (lenO_flat eI_ok s1.1) (.cons (lenO_flat eI_ok ([s1.2] : List Int)) (.cons h10 .nil))) (by kernel_rfl) (by kernel_rfl) (b_n (q_n ?_))
        refine Tr.by (imp_cvE (r := 1036) (sz := 1) (refs := []) (flat_app eI.o s1.1 ([s1.2] : List Int)) (menO_flat eI_ok _) (by kernel_rfl)) ?_
        refine Tr.by (imp_cvD (k := 14) (congrArg (D.rs 1036 0) ((len_app s1.1 ([s1.2] : List Int)) : s1.1.length + (([s1.2] : List Int).length) = (s1.1 ++ ([s1.2] : List Int)).length)) (by kernel_rfl)) ?_
        refine tr_r hT hm [] [2, 4, 6, 14, 16, 2007, 2073] [(2, .d (iv a1)), (4, .d (iv a2)), (6, .d (.rp 1003 0)), (14, .d (.rs 1036 0 ((s1.1 ++ ([s1.2] : List Int)).length))), (16, .d (iv (IntKind.i64.wrap (s1.2 + 1)))), bxB 2007 (eXCategory.b a0), (2073, .r (.arr 1 ((s1.1 ++ ([s1.2] : List Int)).flatMap eI.o) []))] .nil (by kernel_rfl) (by kernel_rfl) (l_n ?_)
        refine TrL.by (imp_sel (ks := [2, 4, 6, 14, 16, 2007, 2073]) (st' := [(2, .d (iv a1)), (4, .d (iv a2)), (6, .d (.rp 1003 0)), (14, .d (.rs 1036 0 ((s1.1 ++ ([s1.2] : List Int)).length))), (16, .d (iv (IntKind.i64.wrap (s1.2 + 1)))), bxB 2007 (eXCategory.b a0), (2073, .r (.arr 1 ((s1.1 ++ ([s1.2] : List Int)).flatMap eI.o) []))]) (by kernel_rfl)) ?_
        refine TrL.by (imp_rename (r := 1036) (q := 1009) (by kernel_rfl) (Nat.le_of_ble_eq_true rfl)) ?_
        exact trl_start (ks := [2, 4, 6, 14, 16, 2007, 2019]) (by kernel_rfl) (ih3 (s1.1 ++ ([s1.2] : List Int), IntKind.i64.wrap (s1.2 + 1)) hM)
      · have hM := ite_false' hM h9
        refine tr_condFe (e := y8 == a2) h9 (by kernel_rfl) ?_
        refine tr_skip (b_n (q_n ?_))
        refine tr_r hT hm [] [2, 4, 6, 14, 16, 2007, 2019] [(2, .d (iv a1)), (4, .d (iv a2)), (6, .d (.rp 1003 0)), (14, .d (.rs 1009 0 s1.1.length)), (16, .d (iv (IntKind.i64.wrap (s1.2 + 1)))), bxB 2007 (eXCategory.b a0), (2019, .r (.arr 1 (s1.1.flatMap eI.o) []))] .nil (by kernel_rfl) (by kernel_rfl) (l_n ?_)
        exact trl_start (ks := [2, 4, 6, 14, 16, 2007, 2019]) (by kernel_rfl) (ih3 (s1.1, IntKind.i64.wrap (s1.2 + 1)) hM)
    · have hM := ite_false' hM h7
      refine tr_sr hT hm [(4, .val (iv y6)), (7, .val (bv false))] [2, 4, 6, 14, 16, 64, 2007, 2019] [(2, .d (iv a1)), (4, .d (iv a2)), (6, .d (.rp 1003 0)), (14, .d (.rs 1009 0 s1.1.length)), (16, .d (iv s1.2)), (64, .d (bv false)), bxB 2007 (eXCategory.b a0), (2019, .r (.arr 1 (s1.1.flatMap eI.o) []))] (.cons hy6'.1 (.cons hy6'.2.1 (.cons (at_b0 eI_ok hy6'.2.2 (d := iv y6) (by kernel_rfl)) (.cons (congrArg (fun b => bv b) h7) .nil)))) (by kernel_rfl) (by kernel_rfl) ?_
      refine tr_condF (by kernel_rfl) ?_
      refine tr_skip (b_n (q_n ?_))
      refine tr_r hT hm [] [2, 4, 6, 14, 16, 2007, 2019] [(2, .d (iv a1)), (4, .d (iv a2)), (6, .d (.rp 1003 0)), (14, .d (.rs 1009 0 s1.1.length)), (16, .d (iv (IntKind.i64.wrap (s1.2 + 1)))), bxB 2007 (eXCategory.b a0), (2019, .r (.arr 1 (s1.1.flatMap eI.o) []))] .nil (by kernel_rfl) (by kernel_rfl) (l_n ?_)
      exact trl_start (ks := [2, 4, 6, 14, 16, 2007, 2019]) (by kernel_rfl) (ih3 (s1.1, IntKind.i64.wrap (s1.2 + 1)) hM)
  · have hM := ite_false' hM h5
    refine tr_condFe (e := decide (s1.2 < (a0.From.length : Int))) h5 (by kernel_rfl) ?_
    refine tr_exit (q_x (l_x (b_h (q_n ?_))))
    refine tr_sr hT hm [] [12, 2019] [(12, .d (.rs 1009 0 s1.1.length)), (2019, .r (.arr 1 (s1.1.flatMap eI.o) []))] .nil (by kernel_rfl) (by kernel_rfl) ?_
    refine tr_ret (rg_r ?_)
    obtain rfl := Option.some.inj hM
    exact retg (names := []) (.cons (lenO_flat eI_ok s1.1) .nil) (by kernel_rfl)
theorem ok71 : CallOk Try.prog 71 := callOk_of Try.func71 (by kernel_rfl) (by kernel_rfl)
theorem iC_hom_c (a0 : XCategory) (a1 : Int) (a2 : Int) (r : (List Int)) (hM : M.iC_hom a0 a1 a2 = some r) :
    FnC Try.prog 71 [] [.pt (eXCategory.b a0) 0, iv a1, iv a2] [] (.fr 1 r.length (r.flatMap eI.o)) := by
  refine fnc_startG (N := 44) (np := 500) hT Try.func71 rfl rfl (by kernel_rfl) ?_
  unfold M.iC_hom at hM
  refine tr_start (ks := [0, 2, 4]) (st' := [(0, .d (.pt (eXCategory.b a0) 0)), (2, .d (iv a1)), (4, .d (iv a2))]) (by kernel_rfl) ?_
  refine tr_sr hT hm [] [0, 2, 4] [(0, .d (.pt (eXCategory.b a0) 0)), (2, .d (iv a1)), (4, .d (iv a2))] .nil (by kernel_rfl) (by kernel_rfl) ?_
  refine tr_sr hT hm [] [0, 2, 4, 14, 2019] [(0, .d (.pt (eXCategory.b a0) 0)), (2, .d (iv a1)), (4, .d (iv a2)), (14, .d (.rs 1009 0 (([] : List Int).length))), (2019, .r (.arr 1 (([] : List Int).flatMap eI.o) []))] .nil (by kernel_rfl) (by kernel_rfl) ?_
  refine tr_seq ?_
  refine tr_sr hT hm [] [0, 2, 4, 14, 28, 30, 2019] [(0, .d (.pt (eXCategory.b a0) 0)), (2, .d (iv a1)), (4, .d (iv a2)), (14, .d (.rs 1009 0 (([] : List Int).length))), (28, .d (iv (a0.From.length : Int))), (30, .d (iv 0)), (2019, .r (.arr 1 (([] : List Int).flatMap eI.o) []))] .nil (by kernel_rfl) (by kernel_rfl) ?_
  refine tr_block ?_
  refine tr_iterS (fun (s1 : (List Int) × Int) => [(0, .d (.pt (eXCategory.b a0) 0)), (2, .d (iv a1)), (4, .d (iv a2)), (14, .d (.rs 1009 0 s1.1.length)), (28, .d (iv (a0.From.length : Int))), (30, .d (iv s1.2)), (2019, .r (.arr 1 (s1.1.flatMap eI.o) []))]) (([] : List Int), 0) [0, 2, 4, 14, 28, 30, 2019] (by kernel_rfl) hM ?_
  intro n4 next2 ih3 s1 hM
  refine tr_sr hT hm [] [0, 2, 4, 14, 28, 30, 32, 2019] [(0, .d (.pt (eXCategory.b a0) 0)), (2, .d (iv a1)), (4, .d (iv a2)), (14, .d (.rs 1009 0 s1.1.length)), (28, .d (iv (a0.From.length : Int))), (30, .d (iv s1.2)), (32, .d (bv (decide (s1.2 < (a0.From.length : Int))))), (2019, .r (.arr 1 (s1.1.flatMap eI.o) []))] .nil (by kernel_rfl) (by kernel_rfl) ?_
  refine tr_seq ?_
  rcases Bool.eq_false_or_eq_true (decide (s1.2 < (a0.From.length : Int))) with h5 | h5
  · have hM := ite_true' hM h5
    refine tr_condTe (e := decide (s1.2 < (a0.From.length : Int))) h5 (by kernel_rfl) ?_
    refine tr_skip (q_n ?_)
    refine tr_seq ?_
    refine tr_block ?_
    refine tr_sr hT hm [] [0, 2, 4, 14, 16, 28, 30, 2019] [(0, .d (.pt (eXCategory.b a0) 0)), (2, .d (iv a1)), (4, .d (iv a2)), (14, .d (.rs 1009 0 s1.1.length)), (16, .d (iv s1.2)), (28, .d (iv (a0.From.length : Int))), (30, .d (iv s1.2)), (2019, .r (.arr 1 (s1.1.flatMap eI.o) []))] .nil (by kernel_rfl) (by kernel_rfl) ?_
    obtain ⟨y6, hy6, hM⟩ := bind_some' hM
    have hy6' := idx_some hy6
    rcases Bool.eq_false_or_eq_true (y6 == a1) with h7 | h7
    · have hM := ite_true' hM h7
      obtain ⟨y8, hy8, hM⟩ := bind_some' hM
      have hy8' := idx_some hy8
      refine tr_sr hT hm [(6, .val (iv y6)), (9, .val (bv true)), (16, .val (iv y8))] [0, 2, 4, 14, 16, 28, 30, 74, 2019] [(0, .d (.pt (eXCategory.b a0) 0)), (2, .d (iv a1)), (4, .d (iv a2)), (14, .d (.rs 1009 0 s1.1.length)), (16, .d (iv s1.2)), (28, .d (iv (a0.From.length : Int))), (30, .d (iv s1.2)), (74, .d (bv (y8 == a2))), (2019, .r (.arr 1 (s1.1.flatMap eI.o) []))] (.cons hy6'.1 (.cons hy6'.2.1 (.cons (at_b0 eI_ok hy6'.2.2 (d := iv y6) (by kernel_rfl)) (.cons (congrArg (fun b => bv b) h7) (.cons hy8'.1 (.cons hy8'.2.1 (.cons (at_b0 eI_ok hy8'.2.2 (d := iv y8) (by kernel_rfl)) .nil))))))) (by kernel_rfl) (by kernel_rfl) ?_
      rcases Bool.eq_false_or_eq_true (y8 == a2) with h9 | h9
      · have hM := ite_true' hM h9
        refine tr_condTe (e := y8 == a2) h9 (by kernel_rfl) ?_
        obtain ⟨h10, hM⟩ := chk_some hM
        refine tr_r hT hm [(3, .app true)] [0, 2, 4, 14, 28, 30, 2083] [(0, .d (.pt (eXCategory.b a0) 0)), (2, .d (iv a1)), (4, .d (iv a2)), (14, .d (.rs 1041 0 (s1.1.length + (([s1.2] : List Int).length)))), (28, .d (iv (a0.From.length : Int))), (30, .d (iv s1.2)), (2083, .r (.arr 1 (s1.1.flatMap eI.o ++ ([s1.2] : List Int).flatMap eI.o) []))] (.cons (lenO_flat eI_ok s1.1) (.cons (lenO_flat eI_ok ([s1.2] : List Int)) (.cons h10 .nil))) (by kernel_rfl) (by kernel_rfl) (b_n (q_n ?_))
        refine Tr.by (imp_cvE (r := 1041) (sz := 1) (refs := []) (flat_app eI.o s1.1 ([s1.2] : List Int)) (menO_flat eI_ok _) (by kernel_rfl)) ?_
        refine Tr.by (imp_cvD (k := 14) (congrArg (D.rs 1041 0) ((len_app s1.1 ([s1.2] : List Int)) : s1.1.length + (([s1.2] : List Int).length) = (s1.1 ++ ([s1.2] : List Int)).length)) (by kernel_rfl)) ?_
        refine tr_r hT hm [] [0, 2, 4, 14, 28, 30, 2083] [(0, .d (.pt (eXCategory.b a0) 0)), (2, .d (iv a1)), (4, .d (iv a2)), (14, .d (.rs 1041 0 ((s1.1 ++ ([s1.2] : List Int)).length))), (28, .d (iv (a0.From.length : Int))), (30, .d (iv (IntKind.i64.wrap (s1.2 + 1)))), (2083, .r (.arr 1 ((s1.1 ++ ([s1.2] : List Int)).flatMap eI.o) []))] .nil (by kernel_rfl) (by kernel_rfl) (l_n ?_)
        refine TrL.by (imp_sel (ks := [0, 2, 4, 14, 28, 30, 2083]) (st' := [(0, .d (.pt (eXCategory.b a0) 0)), (2, .d (iv a1)), (4, .d (iv a2)), (14, .d (.rs 1041 0 ((s1.1 ++ ([s1.2] : List Int)).length))), (28, .d (iv (a0.From.length : Int))), (30, .d (iv (IntKind.i64.wrap (s1.2 + 1)))), (2083, .r (.arr 1 ((s1.1 ++ ([s1.2] : List Int)).flatMap eI.o) []))]) (by kernel_rfl)) ?_
        refine TrL.by (imp_rename (r := 1041) (q := 1009) (by kernel_rfl) (Nat.le_of_ble_eq_true rfl)) ?_
        exact trl_start (ks := [0, 2, 4, 14, 28, 30, 2019]) (by kernel_rfl) (ih3 (s1.1 ++ ([s1.2] : List Int), IntKind.i64.wrap (s1.2 + 1)) hM)
      · have hM := ite_false' hM h9
        refine tr_condFe (e := y8 == a2) h9 (by kernel_rfl) ?_
        refine tr_skip (b_n (q_n ?_))
        refine tr_r hT hm [] [0, 2, 4, 14, 28, 30, 2019] [(0, .d (.pt (eXCategory.b a0) 0)), (2, .d (iv a1)), (4, .d (iv a2)), (14, .d (.rs 1009 0 s1.1.length)), (28, .d (iv (a0.From.length : Int))), (30, .d (iv (IntKind.i64.wrap (s1.2 + 1)))), (2019, .r (.arr 1 (s1.1.flatMap eI.o) []))] .nil (by kernel_rfl) (by kernel_rfl) (l_n ?_)
        exact trl_start (ks := [0, 2, 4, 14, 28, 30, 2019]) (by kernel_rfl) (ih3 (s1.1, IntKind.i64.wrap (s1.2 + 1)) hM)
    · have hM := ite_false' hM h7
      refine tr_sr hT hm [(6, .val (iv y6)), (9, .val (bv false))] [0, 2, 4, 14, 16, 28, 30, 74, 2019] [(0, .d (.pt (eXCategory.b a0) 0)), (2, .d (iv a1)), (4, .d (iv a2)), (14, .d (.rs 1009 0 s1.1.length)), (16, .d (iv s1.2)), (28, .d (iv (a0.From.length : Int))), (30, .d (iv s1.2)), (74, .d (bv false)), (2019, .r (.arr 1 (s1.1.flatMap eI.o) []))] (.cons hy6'.1 (.cons hy6'.2.1 (.cons (at_b0 eI_ok hy6'.2.2 (d := iv y6) (by kernel_rfl)) (.cons (congrArg (fun b => bv b) h7) .nil)))) (by kernel_rfl) (by kernel_rfl) ?_
      refine tr_condF (by kernel_rfl) ?_
      refine tr_skip (b_n (q_n ?_))
      refine tr_r hT hm [] [0, 2, 4, 14, 28, 30, 2019] [(0, .d (.pt (eXCategory.b a0) 0)), (2, .d (iv a1)), (4, .d (iv a2)), (14, .d (.rs 1009 0 s1.1.length)), (28, .d (iv (a0.From.length : Int))), (30, .d (iv (IntKind.i64.wrap (s1.2 + 1)))), (2019, .r (.arr 1 (s1.1.flatMap eI.o) []))] .nil (by kernel_rfl) (by kernel_rfl) (l_n ?_)
      exact trl_start (ks := [0, 2, 4, 14, 28, 30, 2019]) (by kernel_rfl) (ih3 (s1.1, IntKind.i64.wrap (s1.2 + 1)) hM)
  · have hM := ite_false' hM h5
    refine tr_condFe (e := decide (s1.2 < (a0.From.length : Int))) h5 (by kernel_rfl) ?_
    refine tr_exit (q_x (l_x (b_h (q_n ?_))))
    refine tr_sr hT hm [] [12, 2019] [(12, .d (.rs 1009 0 s1.1.length)), (2019, .r (.arr 1 (s1.1.flatMap eI.o) []))] .nil (by kernel_rfl) (by kernel_rfl) ?_
    refine tr_ret (rg_r ?_)
    obtain rfl := Option.some.inj hM
    exact retg (names := []) (.cons (lenO_flat eI_ok s1.1) .nil) (by kernel_rfl)
end Go.Proofs.Ythafadgnjkmfkaa.WvI
