import Derived.Test.YthafadgnjkmfkaaGxEO0
import Derived.Test.YthafadgnjkmfkaaGxzTW
namespace Go.Proofs.Ythafadgnjkmfkaa.WzT
open Go.Gx Go.Proofs.Ythafadgnjkmfkaa.WvB Go.Proofs.Ythafadgnjkmfkaa.WvI Go.Proofs.Ythafadgnjkmfkaa.WyT Go.Proofs.Ythafadgnjkmfkaa.WzF Go.Proofs.Ythafadgnjkmfkaa.WzH
theorem ok134 : CallOk Try.prog 134 := callOk_of Try.func134 (by kernel_rfl) (by kernel_rfl)
theorem iC_isIdentity_c (a0 : XCategory) (a1 : Int) (r : Bool) (hM : M.iC_isIdentity a0 a1 = some r) :
    FnC Try.prog 134 [] [.pt (eXCategory.b a0) 0, iv a1] [] (bv r) := by
  refine fnc_startG (N := 20) (np := 500) hT Try.func134 rfl rfl (by kernel_rfl) ?_
  unfold M.iC_isIdentity at hM
  refine tr_start (ks := [0, 2]) (st' := [(0, .d (.pt (eXCategory.b a0) 0)), (2, .d (iv a1))]) (by kernel_rfl) ?_
  refine tr_sr hT hm [] [0, 2] [(0, .d (.pt (eXCategory.b a0) 0)), (2, .d (iv a1))] .nil (by kernel_rfl) (by kernel_rfl) ?_
  obtain ⟨y1, hy1, hM⟩ := bind_some' hM
  have hy1' := idx_some hy1
  obtain ⟨y2, hy2, hM⟩ := bind_some' hM
  have hy2' := idx_some hy2
  refine tr_sr hT hm [(10, .val (iv y1)), (12, .val (iv y2))] [8] [(8, .d (bv (y2 == a1)))] (.cons hy1'.1 (.cons hy1'.2.1 (.cons (at_b0 eI_ok hy1'.2.2 (d := iv y1) (by kernel_rfl)) (.cons hy2'.1 (.cons hy2'.2.1 (.cons (at_b0 eI_ok hy2'.2.2 (d := iv y2) (by kernel_rfl)) .nil)))))) (by kernel_rfl) (by kernel_rfl) ?_
  refine tr_ret (rg_r ?_)
  obtain rfl := Option.some.inj hM
  exact retg (names := []) .nil (by kernel_rfl)
theorem ok135 : CallOk Try.prog 135 := callOk_of Try.func135 (by kernel_rfl) (by kernel_rfl)
theorem impl_backwards_c (a0 : List Int) (r : (List Int)) (hM : M.impl_backwards a0 = some r) :
    FnC Try.prog 135 [] [.sl a0.length 0 (a0.flatMap eI.b)] [] (.fr 1 r.length (r.flatMap eI.o)) := by
  refine fnc_startG (N := 22) (np := 500) hT Try.func135 rfl rfl (by kernel_rfl) ?_
  unfold M.impl_backwards at hM
  refine tr_start (ks := [0]) (st' := [(0, .d (.sl a0.length 0 (a0.flatMap eI.b)))]) (by kernel_rfl) ?_
  refine tr_sr hT hm [] [0] [(0, .d (.sl a0.length 0 (a0.flatMap eI.b)))] .nil (by kernel_rfl) (by kernel_rfl) ?_
  obtain ⟨h1, hM⟩ := chk_some hM
  refine tr_sr hT hm [] [0, 6, 2017] [(0, .d (.sl a0.length 0 (a0.flatMap eI.b))), (6, .d (.rs 1008 0 ((a0.length : Int).toNat))), (2017, .r (.arr 1 (repl (a0.length : Int).toNat [.int .i64 0]) []))] (.cons h1.1 (.cons (Int.le_refl (a0.length : Int)) (.cons h1.2 .nil))) (by kernel_rfl) (by kernel_rfl) ?_
  refine Tr.by (imp_cvE (r := 1008) (sz := 1) (refs := []) (repl_flat (f := eI.o) (zs := [.int .i64 0]) (z := (0 : Int)) rfl (a0.length : Int).toNat) (menO_flat eI_ok _) (by kernel_rfl)) ?_
  refine Tr.by (imp_cvD (k := 6) (congrArg (D.rs 1008 0) (List.length_replicate.symm : (a0.length : Int).toNat = (List.replicate (a0.length : Int).toNat (0 : Int)).length)) (by kernel_rfl)) ?_
  refine tr_seq ?_
  refine tr_sr hT hm [] [6, 18, 20, 22, 2017] [(6, .d (.rs 1008 0 ((List.replicate (a0.length : Int).toNat (0 : Int)).length))), (18, .d (.sl a0.length 0 (a0.flatMap eI.b))), (20, .d (iv (a0.length : Int))), (22, .d (iv 0)), (2017, .r (.arr 1 ((List.replicate (a0.length : Int).toNat (0 : Int)).flatMap eI.o) []))] .nil (by kernel_rfl) (by kernel_rfl) ?_
  refine tr_block ?_
  refine tr_iterS (fun (s2 : (List Int) × Int) => [(6, .d (.rs 1008 0 s2.1.length)), (18, .d (.sl a0.length 0 (a0.flatMap eI.b))), (20, .d (iv (a0.length : Int))), (22, .d (iv s2.2)), (2017, .r (.arr 1 (s2.1.flatMap eI.o) []))]) ((List.replicate (a0.length : Int).toNat (0 : Int)), 0) [6, 18, 20, 22, 2017] (by kernel_rfl) hM ?_
  intro n5 next3 ih4 s2 hM
  refine tr_sr hT hm [] [6, 18, 20, 22, 24, 2017] [(6, .d (.rs 1008 0 s2.1.length)), (18, .d (.sl a0.length 0 (a0.flatMap eI.b))), (20, .d (iv (a0.length : Int))), (22, .d (iv s2.2)), (24, .d (bv (decide (s2.2 < (a0.length : Int))))), (2017, .r (.arr 1 (s2.1.flatMap eI.o) []))] .nil (by kernel_rfl) (by kernel_rfl) ?_
  refine tr_seq ?_
  rcases Bool.eq_false_or_eq_true (decide (s2.2 < (a0.length : Int))) with h6 | h6
  · have hM := ite_true' hM h6
    refine tr_condTe (e := decide (s2.2 < (a0.length : Int))) h6 (by kernel_rfl) ?_
    refine tr_skip (q_n ?_)
    refine tr_seq ?_
    refine tr_block ?_
    obtain ⟨y7, hy7, hM⟩ := bind_some' hM
    have hy7' := idx_some hy7
    refine tr_sr hT hm [(2, .val (iv y7))] [6, 8, 10, 18, 20, 22, 2017] [(6, .d (.rs 1008 0 s2.1.length)), (8, .d (iv s2.2)), (10, .d (iv y7)), (18, .d (.sl a0.length 0 (a0.flatMap eI.b))), (20, .d (iv (a0.length : Int))), (22, .d (iv s2.2)), (2017, .r (.arr 1 (s2.1.flatMap eI.o) []))] (.cons hy7'.1 (.cons hy7'.2.1 (.cons (at_b0 eI_ok hy7'.2.2 (d := iv y7) (by kernel_rfl)) .nil))) (by kernel_rfl) (by kernel_rfl) ?_
    obtain ⟨y8, hy8, hM⟩ := bind_some' hM
    have hy8' := idx_some hy8
    refine tr_r hT hm [] [6, 18, 20, 22, 2017] [(6, .d (.rs 1008 0 s2.1.length)), (18, .d (.sl a0.length 0 (a0.flatMap eI.b))), (20, .d (iv (a0.length : Int))), (22, .d (iv s2.2)), (2017, .r (.arr 1 ((s2.1.flatMap eI.o).take (0 + y7.toNat * 1) ++ [iv s2.2] ++ (s2.1.flatMap eI.o).drop (0 + y7.toNat * 1 + 1)) []))] (.cons hy8'.1 (.cons hy8'.2.1 (.cons (store_le eI_ok hy8'.2.2) .nil))) (by kernel_rfl) (by kernel_rfl) (b_n (q_n ?_))
    refine Tr.by (imp_cvE (r := 1008) (sz := 1) (refs := []) (set_flat eI_ok.lenO (y := s2.2) hy8'.2.2) (menO_flat eI_ok _) (by kernel_rfl)) ?_
    refine Tr.by (imp_cvD (k := 6) (congrArg (D.rs 1008 0) (List.length_set.symm : s2.1.length = (s2.1.set y7.toNat s2.2).length)) (by kernel_rfl)) ?_
    refine tr_r hT hm [] [6, 18, 20, 22, 2017] [(6, .d (.rs 1008 0 ((s2.1.set y7.toNat s2.2).length))), (18, .d (.sl a0.length 0 (a0.flatMap eI.b))), (20, .d (iv (a0.length : Int))), (22, .d (iv (IntKind.i64.wrap (s2.2 + 1)))), (2017, .r (.arr 1 ((s2.1.set y7.toNat s2.2).flatMap eI.o) []))] .nil (by kernel_rfl) (by kernel_rfl) (l_n ?_)
    exact trl_start (ks := [6, 18, 20, 22, 2017]) (by kernel_rfl) (ih4 (s2.1.set y7.toNat s2.2, IntKind.i64.wrap (s2.2 + 1)) hM)
  · have hM := ite_false' hM h6
    refine tr_condFe (e := decide (s2.2 < (a0.length : Int))) h6 (by kernel_rfl) ?_
    refine tr_exit (q_x (l_x (b_h (q_n ?_))))
    refine tr_sr hT hm [] [4, 2017] [(4, .d (.rs 1008 0 s2.1.length)), (2017, .r (.arr 1 (s2.1.flatMap eI.o) []))] .nil (by kernel_rfl) (by kernel_rfl) ?_
    refine tr_ret (rg_r ?_)
    obtain rfl := Option.some.inj hM
    exact retg (names := []) (.cons (lenO_flat eI_ok s2.1) .nil) (by kernel_rfl)
theorem ok143 : CallOk Try.prog 143 := callOk_of Try.func143 (by kernel_rfl) (by kernel_rfl)
theorem iC_renumber_1_c (a0 : Int) (a1 : Int) (a2 : List Int) (a3 : XCategory) (a4 : List Int) (r : Int) (hM : M.iC_renumber_1 a0 a1 a2 a3 a4 = some r) :
    FnC Try.prog 143 [] [iv a0, iv a1, .pt ((eS eI).b a2) 0, .pt ((eP eXCategory).b a3) 0, .pt ((eS eI).b a4) 0] [] (iv r) := by
  refine fnc_startG (N := 21) (np := 500) hT Try.func143 rfl rfl (by kernel_rfl) ?_
  unfold M.iC_renumber_1 at hM
  refine tr_start (ks := [0, 2, 4, 6, 8]) (st' := [(0, .d (iv a0)), (2, .d (iv a1)), (4, .d (.pt ((eS eI).b a2) 0)), (6, .d (.pt ((eP eXCategory).b a3) 0)), (8, .d (.pt ((eS eI).b a4) 0))]) (by kernel_rfl) ?_
  refine tr_sr hT hm [] [0, 2, 4, 6, 8] [(0, .d (iv a0)), (2, .d (iv a1)), (4, .d (.pt ((eS eI).b a2) 0)), (6, .d (.pt ((eP eXCategory).b a3) 0)), (8, .d (.pt ((eS eI).b a4) 0))] .nil (by kernel_rfl) (by kernel_rfl) ?_
  obtain ⟨y1, hy1, hM⟩ := bind_some' hM
  have hy1' := idx_some hy1
  obtain ⟨y2, hy2, hM⟩ := bind_some' hM
  have hy2' := idx_some hy2
  obtain ⟨v3, hv3, hM⟩ := bind_some' hM
  obtain ⟨y4, hy4, hM⟩ := bind_some' hM
  have hy4' := idx_some hy4
  refine tr_sr hT hm [(5, .val (iv y1)), (9, .val (iv y2)), (10, .call [] [] [.pt (eXCategory.b a3) 0, iv y1, iv y2] [] (iv v3)), (12, .val (iv y4))] [14] [(14, .d (iv y4))] (.cons hy1'.1 (.cons hy1'.2.1 (.cons (at_b0 eI_ok hy1'.2.2 (d := iv y1) (by kernel_rfl)) (.cons hy2'.1 (.cons hy2'.2.1 (.cons (at_b0 eI_ok hy2'.2.2 (d := iv y2) (by kernel_rfl)) (cc0 ok76 (iC_then_c a3 y1 y2 _ hv3) (by kernel_rfl) (.cons hy4'.1 (.cons hy4'.2.1 (.cons (at_b0 eI_ok hy4'.2.2 (d := iv y4) (by kernel_rfl)) .nil)))))))))) (by kernel_rfl) (by kernel_rfl) ?_
  refine tr_ret (rg_r ?_)
  obtain rfl := Option.some.inj hM
  exact retg (names := []) .nil (by kernel_rfl)
theorem ok137 : CallOk Try.prog 137 := callOk_of Try.func137 (by kernel_rfl) (by kernel_rfl)
theorem iC_renumber_c (a0 : XCategory) (a1 : List Int) (a2 : List Int) (r : XCategory) (hM : M.iC_renumber a0 a1 a2 = some r) :
    FnC Try.prog 137 [] [.pt (eXCategory.b a0) 0, .sl a1.length 0 (a1.flatMap eI.b), .sl a2.length 0 (a2.flatMap eI.b)] [] (.agg (eXCategory.o r)) := by
  refine fnc_startG (N := 93) (np := 500) hT Try.func137 rfl rfl (by kernel_rfl) ?_
  unfold M.iC_renumber at hM
  refine tr_start (ks := [0, 2, 4]) (st' := [(0, .d (.pt (eXCategory.b a0) 0)), (2, .d (.sl a1.length 0 (a1.flatMap eI.b))), (4, .d (.sl a2.length 0 (a2.flatMap eI.b)))]) (by kernel_rfl) ?_
  refine tr_sr hT hm [] [2, 6, 10, 12, 2007, 2011, 2013] [(2, .d (.sl a1.length 0 (a1.flatMap eI.b))), (6, .d (.rp 1003 0)), (10, .d (.rp 1005 0)), (12, .d (.rp 1006 0)), (2007, .r (.arr 1 [.pt (eXCategory.b a0) 0] [])), (2011, .r (.arr 1 [.sl a2.length 0 (a2.flatMap eI.b)] [])), (2013, .r (.arr 1 [iv 0, nilv, nilv, nilv, nilv] []))] .nil (by kernel_rfl) (by kernel_rfl) ?_
  obtain ⟨v1, hv1, hM⟩ := bind_some' hM
  refine tr_sr hT hm [(1, .call [] [] [.pt (eXCategory.b a0) 0] [] (iv v1))] [2, 6, 10, 12, 14, 2007, 2011, 2013] [(2, .d (.sl a1.length 0 (a1.flatMap eI.b))), (6, .d (.rp 1003 0)), (10, .d (.rp 1005 0)), (12, .d (.rp 1006 0)), (14, .d (iv v1)), (2007, .r (.arr 1 [.pt (eXCategory.b a0) 0] [])), (2011, .r (.arr 1 [.sl a2.length 0 (a2.flatMap eI.b)] [])), (2013, .r (.arr 1 [iv 0, nilv, nilv, nilv, nilv] []))] (cc0 ok114 (iC_arrows_c a0 _ hv1) (by kernel_rfl) .nil) (by kernel_rfl) (by kernel_rfl) ?_
  obtain ⟨h2, hM⟩ := chk_some hM
  obtain ⟨h3, hM⟩ := chk_some hM
  refine tr_sr hT hm [] [2, 6, 10, 12, 16, 2007, 2011, 2013, 2017, 2043, 2047, 2057] [(2, .d (.sl a1.length 0 (a1.flatMap eI.b))), (6, .d (.rp 1003 0)), (10, .d (.rp 1005 0)), (12, .d (.rp 1006 0)), (16, .d (.rp 1008 0)), (2007, .r (.arr 1 [.pt (eXCategory.b a0) 0] [])), (2011, .r (.arr 1 [.sl a2.length 0 (a2.flatMap eI.b)] [])), (2013, .r (.arr 1 [iv 0, nilv, nilv, nilv, nilv] [])), (2017, .r (.arr 1 [iv a0.Objects, .rs 1021 0 v1.toNat, .rs 1023 0 v1.toNat, .rs 1028 0 a0.Objects.toNat, nilv] [1021, 1023, 1028])), (2043, .r (.arr 1 (repl v1.toNat [.int .i64 0]) [])), (2047, .r (.arr 1 (repl v1.toNat [.int .i64 0]) [])), (2057, .r (.arr 1 (repl a0.Objects.toNat [.int .i64 0]) []))] (.cons h2.1 (.cons (Int.le_refl v1) (.cons h2.2 (.cons h2.1 (.cons (Int.le_refl v1) (.cons h2.2 (.cons h3.1 (.cons (Int.le_refl a0.Objects) (.cons h3.2 (.cons (Nat.le_of_ble_eq_true (n := 5) (m := 5) rfl) .nil)))))))))) (by kernel_rfl) (by kernel_rfl) ?_
  refine Tr.by (imp_cvE (r := 1021) (sz := 1) (refs := []) (repl_flat (f := eI.o) (zs := [.int .i64 0]) (z := (0 : Int)) rfl v1.toNat) (menO_flat eI_ok _) (by kernel_rfl)) ?_
  refine Tr.by (imp_cvB (r := 1008) (sz := 1) (cells := [iv a0.Objects, .rs 1021 0 v1.toNat, .rs 1023 0 v1.toNat, .rs 1028 0 a0.Objects.toNat, nilv]) (cells' := [iv a0.Objects, .rs 1021 0 ((List.replicate v1.toNat (0 : Int)).length), .rs 1023 0 v1.toNat, .rs 1028 0 a0.Objects.toNat, nilv]) (refs := [1021, 1023, 1028]) (refs' := [1021, 1023, 1028]) (.cons (.refl _) (.cons (Sub.of_eq (congrArg (D.rs 1021 0) (List.length_replicate.symm : v1.toNat = (List.replicate v1.toNat (0 : Int)).length))) (.cons (.refl _) (.cons (.refl _) (.cons (.refl _) .nil))))) (by kernel_rfl) (by kernel_rfl) (by kernel_rfl)) ?_
  refine Tr.by (imp_cvE (r := 1023) (sz := 1) (refs := []) (repl_flat (f := eI.o) (zs := [.int .i64 0]) (z := (0 : Int)) rfl v1.toNat) (menO_flat eI_ok _) (by kernel_rfl)) ?_
  refine Tr.by (imp_cvB (r := 1008) (sz := 1) (cells := [iv a0.Objects, .rs 1021 0 ((List.replicate v1.toNat (0 : Int)).length), .rs 1023 0 v1.toNat, .rs 1028 0 a0.Objects.toNat, nilv]) (cells' := [iv a0.Objects, .rs 1021 0 ((List.replicate v1.toNat (0 : Int)).length), .rs 1023 0 ((List.replicate v1.toNat (0 : Int)).length), .rs 1028 0 a0.Objects.toNat, nilv]) (refs := [1021, 1023, 1028]) (refs' := [1021, 1023, 1028]) (.cons (.refl _) (.cons (.refl _) (.cons (Sub.of_eq (congrArg (D.rs 1023 0) (List.length_replicate.symm : v1.toNat = (List.replicate v1.toNat (0 : Int)).length))) (.cons (.refl _) (.cons (.refl _) .nil))))) (by kernel_rfl) (by kernel_rfl) (by kernel_rfl)) ?_
  refine Tr.by (imp_cvE (r := 1028) (sz := 1) (refs := []) (repl_flat (f := eI.o) (zs := [.int .i64 0]) (z := (0 : Int)) rfl a0.Objects.toNat) (menO_flat eI_ok _) (by kernel_rfl)) ?_
  refine Tr.by (imp_cvB (r := 1008) (sz := 1) (cells := [iv a0.Objects, .rs 1021 0 ((List.replicate v1.toNat (0 : Int)).length), .rs 1023 0 ((List.replicate v1.toNat (0 : Int)).length), .rs 1028 0 a0.Objects.toNat, nilv]) (cells' := [iv a0.Objects, .rs 1021 0 ((List.replicate v1.toNat (0 : Int)).length), .rs 1023 0 ((List.replicate v1.toNat (0 : Int)).length), .rs 1028 0 ((List.replicate a0.Objects.toNat (0 : Int)).length), nilv]) (refs := [1021, 1023, 1028]) (refs' := [1021, 1023, 1028]) (.cons (.refl _) (.cons (.refl _) (.cons (.refl _) (.cons (Sub.of_eq (congrArg (D.rs 1028 0) (List.length_replicate.symm : a0.Objects.toNat = (List.replicate a0.Objects.toNat (0 : Int)).length))) (.cons (.refl _) .nil))))) (by kernel_rfl) (by kernel_rfl) (by kernel_rfl)) ?_
  refine tr_seq ?_
  refine tr_sr hT hm [] [2, 6, 10, 12, 16, 60, 62, 64, 2007, 2011, 2013, 2017, 2043, 2047, 2057] [(2, .d (.sl a1.length 0 (a1.flatMap eI.b))), (6, .d (.rp 1003 0)), (10, .d (.rp 1005 0)), (12, .d (.rp 1006 0)), (16, .d (.rp 1008 0)), (60, .d (.sl a2.length 0 (a2.flatMap eI.b))), (62, .d (iv (a2.length : Int))), (64, .d (iv 0)), (2007, .r (.arr 1 [.pt (eXCategory.b a0) 0] [])), (2011, .r (.arr 1 [.sl a2.length 0 (a2.flatMap eI.b)] [])), (2013, .r (.arr 1 [iv 0, nilv, nilv, nilv, nilv] [])), (2017, .r (.arr 1 [iv a0.Objects, .rs 1021 0 ((List.replicate v1.toNat (0 : Int)).length), .rs 1023 0 ((List.replicate v1.toNat (0 : Int)).length), .rs 1028 0 ((List.replicate a0.Objects.toNat (0 : Int)).length), nilv] [1021, 1023, 1028])), (2043, .r (.arr 1 ((List.replicate v1.toNat (0 : Int)).flatMap eI.o) [])), (2047, .r (.arr 1 ((List.replicate v1.toNat (0 : Int)).flatMap eI.o) [])), (2057, .r (.arr 1 ((List.replicate a0.Objects.toNat (0 : Int)).flatMap eI.o) []))] .nil (by kernel_rfl) (by kernel_rfl) ?_
  refine tr_block ?_
  refine tr_iterS (fun (s4 : (List Int) × (List Int) × Int) => [(2, .d (.sl a1.length 0 (a1.flatMap eI.b))), (6, .d (.rp 1003 0)), (10, .d (.rp 1005 0)), (12, .d (.rp 1006 0)), (16, .d (.rp 1008 0)), (60, .d (.sl a2.length 0 (a2.flatMap eI.b))), (62, .d (iv (a2.length : Int))), (64, .d (iv s4.2.2)), (2007, .r (.arr 1 [.pt (eXCategory.b a0) 0] [])), (2011, .r (.arr 1 [.sl a2.length 0 (a2.flatMap eI.b)] [])), (2013, .r (.arr 1 [iv 0, nilv, nilv, nilv, nilv] [])), (2017, .r (.arr 1 [iv a0.Objects, .rs 1021 0 s4.1.length, .rs 1023 0 s4.2.1.length, .rs 1028 0 ((List.replicate a0.Objects.toNat (0 : Int)).length), nilv] [1021, 1023, 1028])), (2043, .r (.arr 1 (s4.1.flatMap eI.o) [])), (2047, .r (.arr 1 (s4.2.1.flatMap eI.o) [])), (2057, .r (.arr 1 ((List.replicate a0.Objects.toNat (0 : Int)).flatMap eI.o) []))]) ((List.replicate v1.toNat (0 : Int)), (List.replicate v1.toNat (0 : Int)), 0) [2, 6, 10, 12, 16, 60, 62, 64, 2007, 2011, 2013, 2017, 2043, 2047, 2057] (by kernel_rfl) hM ?_
  intro n7 next5 ih6 s4 hM
  refine tr_sr hT hm [] [2, 6, 10, 12, 16, 60, 62, 64, 66, 2007, 2011, 2013, 2017, 2043, 2047, 2057] [(2, .d (.sl a1.length 0 (a1.flatMap eI.b))), (6, .d (.rp 1003 0)), (10, .d (.rp 1005 0)), (12, .d (.rp 1006 0)), (16, .d (.rp 1008 0)), (60, .d (.sl a2.length 0 (a2.flatMap eI.b))), (62, .d (iv (a2.length : Int))), (64, .d (iv s4.2.2)), (66, .d (bv (decide (s4.2.2 < (a2.length : Int))))), (2007, .r (.arr 1 [.pt (eXCategory.b a0) 0] [])), (2011, .r (.arr 1 [.sl a2.length 0 (a2.flatMap eI.b)] [])), (2013, .r (.arr 1 [iv 0, nilv, nilv, nilv, nilv] [])), (2017, .r (.arr 1 [iv a0.Objects, .rs 1021 0 s4.1.length, .rs 1023 0 s4.2.1.length, .rs 1028 0 ((List.replicate a0.Objects.toNat (0 : Int)).length), nilv] [1021, 1023, 1028])), (2043, .r (.arr 1 (s4.1.flatMap eI.o) [])), (2047, .r (.arr 1 (s4.2.1.flatMap eI.o) [])), (2057, .r (.arr 1 ((List.replicate a0.Objects.toNat (0 : Int)).flatMap eI.o) []))] .nil (by kernel_rfl) (by kernel_rfl) ?_
  refine tr_seq ?_
  rcases Bool.eq_false_or_eq_true (decide (s4.2.2 < (a2.length : Int))) with h8 | h8
  · have hM := ite_true' hM h8
    refine tr_condTe (e := decide (s4.2.2 < (a2.length : Int))) h8 (by kernel_rfl) ?_
    refine tr_skip (q_n ?_)
    refine tr_seq ?_
    refine tr_block ?_
    obtain ⟨y9, hy9, hM⟩ := bind_some' hM
    have hy9' := idx_some hy9
    refine tr_sr hT hm [(2, .val (iv y9))] [2, 6, 10, 12, 16, 18, 20, 60, 62, 64, 2007, 2011, 2013, 2017, 2043, 2047, 2057] [(2, .d (.sl a1.length 0 (a1.flatMap eI.b))), (6, .d (.rp 1003 0)), (10, .d (.rp 1005 0)), (12, .d (.rp 1006 0)), (16, .d (.rp 1008 0)), (18, .d (iv s4.2.2)), (20, .d (iv y9)), (60, .d (.sl a2.length 0 (a2.flatMap eI.b))), (62, .d (iv (a2.length : Int))), (64, .d (iv s4.2.2)), (2007, .r (.arr 1 [.pt (eXCategory.b a0) 0] [])), (2011, .r (.arr 1 [.sl a2.length 0 (a2.flatMap eI.b)] [])), (2013, .r (.arr 1 [iv 0, nilv, nilv, nilv, nilv] [])), (2017, .r (.arr 1 [iv a0.Objects, .rs 1021 0 s4.1.length, .rs 1023 0 s4.2.1.length, .rs 1028 0 ((List.replicate a0.Objects.toNat (0 : Int)).length), nilv] [1021, 1023, 1028])), (2043, .r (.arr 1 (s4.1.flatMap eI.o) [])), (2047, .r (.arr 1 (s4.2.1.flatMap eI.o) [])), (2057, .r (.arr 1 ((List.replicate a0.Objects.toNat (0 : Int)).flatMap eI.o) []))] (.cons hy9'.1 (.cons hy9'.2.1 (.cons (at_b0 eI_ok hy9'.2.2 (d := iv y9) (by kernel_rfl)) .nil))) (by kernel_rfl) (by kernel_rfl) ?_
    obtain ⟨y10, hy10, hM⟩ := bind_some' hM
    have hy10' := idx_some hy10
    obtain ⟨y11, hy11, hM⟩ := bind_some' hM
    have hy11' := idx_some hy11
    obtain ⟨y12, hy12, hM⟩ := bind_some' hM
    have hy12' := idx_some hy12
    refine tr_sr hT hm [(10, .val (iv y10)), (12, .val (iv y11))] [2, 6, 10, 12, 16, 18, 20, 60, 62, 64, 2007, 2011, 2013, 2017, 2043, 2047, 2057] [(2, .d (.sl a1.length 0 (a1.flatMap eI.b))), (6, .d (.rp 1003 0)), (10, .d (.rp 1005 0)), (12, .d (.rp 1006 0)), (16, .d (.rp 1008 0)), (18, .d (iv s4.2.2)), (20, .d (iv y9)), (60, .d (.sl a2.length 0 (a2.flatMap eI.b))), (62, .d (iv (a2.length : Int))), (64, .d (iv s4.2.2)), (2007, .r (.arr 1 [.pt (eXCategory.b a0) 0] [])), (2011, .r (.arr 1 [.sl a2.length 0 (a2.flatMap eI.b)] [])), (2013, .r (.arr 1 [iv 0, nilv, nilv, nilv, nilv] [])), (2017, .r (.arr 1 [iv a0.Objects, .rs 1021 0 s4.1.length, .rs 1023 0 s4.2.1.length, .rs 1028 0 ((List.replicate a0.Objects.toNat (0 : Int)).length), nilv] [1021, 1023, 1028])), (2043, .r (.arr 1 ((s4.1.flatMap eI.o).take (0 + y9.toNat * 1) ++ [iv y11] ++ (s4.1.flatMap eI.o).drop (0 + y9.toNat * 1 + 1)) [])), (2047, .r (.arr 1 (s4.2.1.flatMap eI.o) [])), (2057, .r (.arr 1 ((List.replicate a0.Objects.toNat (0 : Int)).flatMap eI.o) []))] (.cons hy10'.1 (.cons hy10'.2.1 (.cons (at_b0 eI_ok hy10'.2.2 (d := iv y10) (by kernel_rfl)) (.cons hy11'.1 (.cons hy11'.2.1 (.cons (at_b0 eI_ok hy11'.2.2 (d := iv y11) (by kernel_rfl)) (.cons hy12'.1 (.cons hy12'.2.1 (.cons (store_le eI_ok hy12'.2.2) .nil))))))))) (by kernel_rfl) (by kernel_rfl) ?_
    refine Tr.by (imp_cvE (r := 1021) (sz := 1) (refs := []) (set_flat eI_ok.lenO (y := y11) hy12'.2.2) (menO_flat eI_ok _) (by kernel_rfl)) ?_
    refine Tr.by (imp_cvB (r := 1008) (sz := 1) (cells := [iv a0.Objects, .rs 1021 0 s4.1.length, .rs 1023 0 s4.2.1.length, .rs 1028 0 ((List.replicate a0.Objects.toNat (0 : Int)).length), nilv]) (cells' := [iv a0.Objects, .rs 1021 0 ((s4.1.set y9.toNat y11).length), .rs 1023 0 s4.2.1.length, .rs 1028 0 ((List.replicate a0.Objects.toNat (0 : Int)).length), nilv]) (refs := [1021, 1023, 1028]) (refs' := [1021, 1023, 1028]) (.cons (.refl _) (.cons (Sub.of_eq (congrArg (D.rs 1021 0) (List.length_set.symm : s4.1.length = (s4.1.set y9.toNat y11).length))) (.cons (.refl _) (.cons (.refl _) (.cons (.refl _) .nil))))) (by kernel_rfl) (by kernel_rfl) (by kernel_rfl)) ?_
    obtain ⟨y13, hy13, hM⟩ := bind_some' hM
    have hy13' := idx_some hy13
    obtain ⟨y14, hy14, hM⟩ := bind_some' hM
    have hy14' := idx_some hy14
    obtain ⟨y15, hy15, hM⟩ := bind_some' hM
    have hy15' := idx_some hy15
    refine tr_r hT hm [(10, .val (iv y13)), (12, .val (iv y14))] [2, 6, 10, 12, 16, 60, 62, 64, 2007, 2011, 2013, 2017, 2043, 2047, 2057] [(2, .d (.sl a1.length 0 (a1.flatMap eI.b))), (6, .d (.rp 1003 0)), (10, .d (.rp 1005 0)), (12, .d (.rp 1006 0)), (16, .d (.rp 1008 0)), (60, .d (.sl a2.length 0 (a2.flatMap eI.b))), (62, .d (iv (a2.length : Int))), (64, .d (iv s4.2.2)), (2007, .r (.arr 1 [.pt (eXCategory.b a0) 0] [])), (2011, .r (.arr 1 [.sl a2.length 0 (a2.flatMap eI.b)] [])), (2013, .r (.arr 1 [iv 0, nilv, nilv, nilv, nilv] [])), (2017, .r (.arr 1 [iv a0.Objects, .rs 1021 0 ((s4.1.set y9.toNat y11).length), .rs 1023 0 s4.2.1.length, .rs 1028 0 ((List.replicate a0.Objects.toNat (0 : Int)).length), nilv] [1021, 1023, 1028])), (2043, .r (.arr 1 ((s4.1.set y9.toNat y11).flatMap eI.o) [])), (2047, .r (.arr 1 ((s4.2.1.flatMap eI.o).take (0 + y9.toNat * 1) ++ [iv y14] ++ (s4.2.1.flatMap eI.o).drop (0 + y9.toNat * 1 + 1)) [])), (2057, .r (.arr 1 ((List.replicate a0.Objects.toNat (0 : Int)).flatMap eI.o) []))] (.cons hy13'.1 (.cons hy13'.2.1 (.cons (at_b0 eI_ok hy13'.2.2 (d := iv y13) (by kernel_rfl)) (.cons hy14'.1 (.cons hy14'.2.1 (.cons (at_b0 eI_ok hy14'.2.2 (d := iv y14) (by kernel_rfl)) (.cons hy15'.1 (.cons hy15'.2.1 (.cons (store_le eI_ok hy15'.2.2) .nil))))))))) (by kernel_rfl) (by kernel_rfl) (b_n (q_n ?_))
    refine Tr.by (imp_cvE (r := 1023) (sz := 1) (refs := []) (set_flat eI_ok.lenO (y := y14) hy15'.2.2) (menO_flat eI_ok _) (by kernel_rfl)) ?_
    refine Tr.by (imp_cvB (r := 1008) (sz := 1) (cells := [iv a0.Objects, .rs 1021 0 ((s4.1.set y9.toNat y11).length), .rs 1023 0 s4.2.1.length, .rs 1028 0 ((List.replicate a0.Objects.toNat (0 : Int)).length), nilv]) (cells' := [iv a0.Objects, .rs 1021 0 ((s4.1.set y9.toNat y11).length), .rs 1023 0 ((s4.2.1.set y9.toNat y14).length), .rs 1028 0 ((List.replicate a0.Objects.toNat (0 : Int)).length), nilv]) (refs := [1021, 1023, 1028]) (refs' := [1021, 1023, 1028]) (.cons (.refl _) (.cons (.refl _) (.cons (Sub.of_eq (congrArg (D.rs 1023 0) (List.length_set.symm : s4.2.1.length = (s4.2.1.set y9.toNat y14).length))) (.cons (.refl _) (.cons (.refl _) .nil))))) (by kernel_rfl) (by kernel_rfl) (by kernel_rfl)) ?_
    refine tr_r hT hm [] [2, 6, 10, 12, 16, 60, 62, 64, 2007, 2011, 2013, 2017, 2043, 2047, 2057] [(2, .d (.sl a1.length 0 (a1.flatMap eI.b))), (6, .d (.rp 1003 0)), (10, .d (.rp 1005 0)), (12, .d (.rp 1006 0)), (16, .d (.rp 1008 0)), (60, .d (.sl a2.length 0 (a2.flatMap eI.b))), (62, .d (iv (a2.length : Int))), (64, .d (iv (IntKind.i64.wrap (s4.2.2 + 1)))), (2007, .r (.arr 1 [.pt (eXCategory.b a0) 0] [])), (2011, .r (.arr 1 [.sl a2.length 0 (a2.flatMap eI.b)] [])), (2013, .r (.arr 1 [iv 0, nilv, nilv, nilv, nilv] [])), (2017, .r (.arr 1 [iv a0.Objects, .rs 1021 0 ((s4.1.set y9.toNat y11).length), .rs 1023 0 ((s4.2.1.set y9.toNat y14).length), .rs 1028 0 ((List.replicate a0.Objects.toNat (0 : Int)).length), nilv] [1021, 1023, 1028])), (2043, .r (.arr 1 ((s4.1.set y9.toNat y11).flatMap eI.o) [])), (2047, .r (.arr 1 ((s4.2.1.set y9.toNat y14).flatMap eI.o) [])), (2057, .r (.arr 1 ((List.replicate a0.Objects.toNat (0 : Int)).flatMap eI.o) []))] .nil (by kernel_rfl) (by kernel_rfl) (l_n ?_)
    exact trl_start (ks := [2, 6, 10, 12, 16, 60, 62, 64, 2007, 2011, 2013, 2017, 2043, 2047, 2057]) (by kernel_rfl) (ih6 (s4.1.set y9.toNat y11, s4.2.1.set y9.toNat y14, IntKind.i64.wrap (s4.2.2 + 1)) hM)
  · have hM := ite_false' hM h8
    refine tr_condFe (e := decide (s4.2.2 < (a2.length : Int))) h8 (by kernel_rfl) ?_
    refine tr_exit (q_x (l_x (b_h (q_n ?_))))
    refine tr_seq ?_
    refine tr_sr hT hm [] [2, 6, 10, 12, 16, 138, 140, 142, 2007, 2011, 2013, 2017, 2043, 2047, 2057] [(2, .d (.sl a1.length 0 (a1.flatMap eI.b))), (6, .d (.rp 1003 0)), (10, .d (.rp 1005 0)), (12, .d (.rp 1006 0)), (16, .d (.rp 1008 0)), (138, .d (.sl a0.Identity.length 0 (a0.Identity.flatMap eI.b))), (140, .d (iv (a0.Identity.length : Int))), (142, .d (iv 0)), (2007, .r (.arr 1 [.pt (eXCategory.b a0) 0] [])), (2011, .r (.arr 1 [.sl a2.length 0 (a2.flatMap eI.b)] [])), (2013, .r (.arr 1 [iv 0, nilv, nilv, nilv, nilv] [])), (2017, .r (.arr 1 [iv a0.Objects, .rs 1021 0 s4.1.length, .rs 1023 0 s4.2.1.length, .rs 1028 0 ((List.replicate a0.Objects.toNat (0 : Int)).length), nilv] [1021, 1023, 1028])), (2043, .r (.arr 1 (s4.1.flatMap eI.o) [])), (2047, .r (.arr 1 (s4.2.1.flatMap eI.o) [])), (2057, .r (.arr 1 ((List.replicate a0.Objects.toNat (0 : Int)).flatMap eI.o) []))] .nil (by kernel_rfl) (by kernel_rfl) ?_
    refine tr_block ?_
    refine tr_iterS (fun (s16 : (List Int) × Int) => [(2, .d (.sl a1.length 0 (a1.flatMap eI.b))), (6, .d (.rp 1003 0)), (10, .d (.rp 1005 0)), (12, .d (.rp 1006 0)), (16, .d (.rp 1008 0)), (138, .d (.sl a0.Identity.length 0 (a0.Identity.flatMap eI.b))), (140, .d (iv (a0.Identity.length : Int))), (142, .d (iv s16.2)), (2007, .r (.arr 1 [.pt (eXCategory.b a0) 0] [])), (2011, .r (.arr 1 [.sl a2.length 0 (a2.flatMap eI.b)] [])), (2013, .r (.arr 1 [iv 0, nilv, nilv, nilv, nilv] [])), (2017, .r (.arr 1 [iv a0.Objects, .rs 1021 0 s4.1.length, .rs 1023 0 s4.2.1.length, .rs 1028 0 s16.1.length, nilv] [1021, 1023, 1028])), (2043, .r (.arr 1 (s4.1.flatMap eI.o) [])), (2047, .r (.arr 1 (s4.2.1.flatMap eI.o) [])), (2057, .r (.arr 1 (s16.1.flatMap eI.o) []))]) ((List.replicate a0.Objects.toNat (0 : Int)), 0) [2, 6, 10, 12, 16, 138, 140, 142, 2007, 2011, 2013, 2017, 2043, 2047, 2057] (by kernel_rfl) hM ?_
    intro n19 next17 ih18 s16 hM
    refine tr_sr hT hm [] [2, 6, 10, 12, 16, 138, 140, 142, 144, 2007, 2011, 2013, 2017, 2043, 2047, 2057] [(2, .d (.sl a1.length 0 (a1.flatMap eI.b))), (6, .d (.rp 1003 0)), (10, .d (.rp 1005 0)), (12, .d (.rp 1006 0)), (16, .d (.rp 1008 0)), (138, .d (.sl a0.Identity.length 0 (a0.Identity.flatMap eI.b))), (140, .d (iv (a0.Identity.length : Int))), (142, .d (iv s16.2)), (144, .d (bv (decide (s16.2 < (a0.Identity.length : Int))))), (2007, .r (.arr 1 [.pt (eXCategory.b a0) 0] [])), (2011, .r (.arr 1 [.sl a2.length 0 (a2.flatMap eI.b)] [])), (2013, .r (.arr 1 [iv 0, nilv, nilv, nilv, nilv] [])), (2017, .r (.arr 1 [iv a0.Objects, .rs 1021 0 s4.1.length, .rs 1023 0 s4.2.1.length, .rs 1028 0 s16.1.length, nilv] [1021, 1023, 1028])), (2043, .r (.arr 1 (s4.1.flatMap eI.o) [])), (2047, .r (.arr 1 (s4.2.1.flatMap eI.o) [])), (2057, .r (.arr 1 (s16.1.flatMap eI.o) []))] .nil (by kernel_rfl) (by kernel_rfl) ?_
    refine tr_seq ?_
    rcases Bool.eq_false_or_eq_true (decide (s16.2 < (a0.Identity.length : Int))) with h20 | h20
    · have hM := ite_true' hM h20
      refine tr_condTe (e := decide (s16.2 < (a0.Identity.length : Int))) h20 (by kernel_rfl) ?_
      refine tr_skip (q_n ?_)
      refine tr_seq ?_
      refine tr_block ?_
      obtain ⟨y21, hy21, hM⟩ := bind_some' hM
      have hy21' := idx_some hy21
      refine tr_sr hT hm [(2, .val (iv y21))] [2, 6, 10, 12, 16, 22, 24, 138, 140, 142, 2007, 2011, 2013, 2017, 2043, 2047, 2057] [(2, .d (.sl a1.length 0 (a1.flatMap eI.b))), (6, .d (.rp 1003 0)), (10, .d (.rp 1005 0)), (12, .d (.rp 1006 0)), (16, .d (.rp 1008 0)), (22, .d (iv s16.2)), (24, .d (iv y21)), (138, .d (.sl a0.Identity.length 0 (a0.Identity.flatMap eI.b))), (140, .d (iv (a0.Identity.length : Int))), (142, .d (iv s16.2)), (2007, .r (.arr 1 [.pt (eXCategory.b a0) 0] [])), (2011, .r (.arr 1 [.sl a2.length 0 (a2.flatMap eI.b)] [])), (2013, .r (.arr 1 [iv 0, nilv, nilv, nilv, nilv] [])), (2017, .r (.arr 1 [iv a0.Objects, .rs 1021 0 s4.1.length, .rs 1023 0 s4.2.1.length, .rs 1028 0 s16.1.length, nilv] [1021, 1023, 1028])), (2043, .r (.arr 1 (s4.1.flatMap eI.o) [])), (2047, .r (.arr 1 (s4.2.1.flatMap eI.o) [])), (2057, .r (.arr 1 (s16.1.flatMap eI.o) []))] (.cons hy21'.1 (.cons hy21'.2.1 (.cons (at_b0 eI_ok hy21'.2.2 (d := iv y21) (by kernel_rfl)) .nil))) (by kernel_rfl) (by kernel_rfl) ?_
      obtain ⟨y22, hy22, hM⟩ := bind_some' hM
      have hy22' := idx_some hy22
      obtain ⟨y23, hy23, hM⟩ := bind_some' hM
      have hy23' := idx_some hy23
      obtain ⟨y24, hy24, hM⟩ := bind_some' hM
      have hy24' := idx_some hy24
      refine tr_r hT hm [(5, .val (iv y22)), (9, .val (iv y23))] [2, 6, 10, 12, 16, 138, 140, 142, 2007, 2011, 2013, 2017, 2043, 2047, 2057] [(2, .d (.sl a1.length 0 (a1.flatMap eI.b))), (6, .d (.rp 1003 0)), (10, .d (.rp 1005 0)), (12, .d (.rp 1006 0)), (16, .d (.rp 1008 0)), (138, .d (.sl a0.Identity.length 0 (a0.Identity.flatMap eI.b))), (140, .d (iv (a0.Identity.length : Int))), (142, .d (iv s16.2)), (2007, .r (.arr 1 [.pt (eXCategory.b a0) 0] [])), (2011, .r (.arr 1 [.sl a2.length 0 (a2.flatMap eI.b)] [])), (2013, .r (.arr 1 [iv 0, nilv, nilv, nilv, nilv] [])), (2017, .r (.arr 1 [iv a0.Objects, .rs 1021 0 s4.1.length, .rs 1023 0 s4.2.1.length, .rs 1028 0 s16.1.length, nilv] [1021, 1023, 1028])), (2043, .r (.arr 1 (s4.1.flatMap eI.o) [])), (2047, .r (.arr 1 (s4.2.1.flatMap eI.o) [])), (2057, .r (.arr 1 ((s16.1.flatMap eI.o).take (0 + y22.toNat * 1) ++ [iv y23] ++ (s16.1.flatMap eI.o).drop (0 + y22.toNat * 1 + 1)) []))] (.cons hy22'.1 (.cons hy22'.2.1 (.cons (at_b0 eI_ok hy22'.2.2 (d := iv y22) (by kernel_rfl)) (.cons hy23'.1 (.cons hy23'.2.1 (.cons (at_b0 eI_ok hy23'.2.2 (d := iv y23) (by kernel_rfl)) (.cons hy24'.1 (.cons hy24'.2.1 (.cons (store_le eI_ok hy24'.2.2) .nil))))))))) (by kernel_rfl) (by kernel_rfl) (b_n (q_n ?_))
      refine Tr.by (imp_cvE (r := 1028) (sz := 1) (refs := []) (set_flat eI_ok.lenO (y := y23) hy24'.2.2) (menO_flat eI_ok _) (by kernel_rfl)) ?_
      refine Tr.by (imp_cvB (r := 1008) (sz := 1) (cells := [iv a0.Objects, .rs 1021 0 s4.1.length, .rs 1023 0 s4.2.1.length, .rs 1028 0 s16.1.length, nilv]) (cells' := [iv a0.Objects, .rs 1021 0 s4.1.length, .rs 1023 0 s4.2.1.length, .rs 1028 0 ((s16.1.set y22.toNat y23).length), nilv]) (refs := [1021, 1023, 1028]) (refs' := [1021, 1023, 1028]) (.cons (.refl _) (.cons (.refl _) (.cons (.refl _) (.cons (Sub.of_eq (congrArg (D.rs 1028 0) (List.length_set.symm : s16.1.length = (s16.1.set y22.toNat y23).length))) (.cons (.refl _) .nil))))) (by kernel_rfl) (by kernel_rfl) (by kernel_rfl)) ?_
      refine tr_r hT hm [] [2, 6, 10, 12, 16, 138, 140, 142, 2007, 2011, 2013, 2017, 2043, 2047, 2057] [(2, .d (.sl a1.length 0 (a1.flatMap eI.b))), (6, .d (.rp 1003 0)), (10, .d (.rp 1005 0)), (12, .d (.rp 1006 0)), (16, .d (.rp 1008 0)), (138, .d (.sl a0.Identity.length 0 (a0.Identity.flatMap eI.b))), (140, .d (iv (a0.Identity.length : Int))), (142, .d (iv (IntKind.i64.wrap (s16.2 + 1)))), (2007, .r (.arr 1 [.pt (eXCategory.b a0) 0] [])), (2011, .r (.arr 1 [.sl a2.length 0 (a2.flatMap eI.b)] [])), (2013, .r (.arr 1 [iv 0, nilv, nilv, nilv, nilv] [])), (2017, .r (.arr 1 [iv a0.Objects, .rs 1021 0 s4.1.length, .rs 1023 0 s4.2.1.length, .rs 1028 0 ((s16.1.set y22.toNat y23).length), nilv] [1021, 1023, 1028])), (2043, .r (.arr 1 (s4.1.flatMap eI.o) [])), (2047, .r (.arr 1 (s4.2.1.flatMap eI.o) [])), (2057, .r (.arr 1 ((s16.1.set y22.toNat y23).flatMap eI.o) []))] .nil (by kernel_rfl) (by kernel_rfl) (l_n ?_)
      exact trl_start (ks := [2, 6, 10, 12, 16, 138, 140, 142, 2007, 2011, 2013, 2017, 2043, 2047, 2057]) (by kernel_rfl) (ih18 (s16.1.set y22.toNat y23, IntKind.i64.wrap (s16.2 + 1)) hM)
    · have hM := ite_false' hM h20
      refine tr_condFe (e := decide (s16.2 < (a0.Identity.length : Int))) h20 (by kernel_rfl) ?_
      refine tr_exit (q_x (l_x (b_h (q_n ?_))))
      obtain ⟨v25, hv25, hM⟩ := bind_some' hM
      refine tr_sr hT hm [(1, .call [] [] [.sl a2.length 0 (a2.flatMap eI.b)] [] (.fr 1 v25.length (v25.flatMap eI.o)))] [6, 10, 12, 16, 26, 2007, 2011, 2013, 2017, 2027, 2043, 2047, 2057, 182001] [(6, .d (.rp 1003 0)), (10, .d (.rp 1005 0)), (12, .d (.rp 1006 0)), (16, .d (.rp 1008 0)), (26, .d (.rp 1013 0)), (2007, .r (.arr 1 [.pt (eXCategory.b a0) 0] [])), (2011, .r (.arr 1 [.sl a2.length 0 (a2.flatMap eI.b)] [])), (2013, .r (.arr 1 [iv 0, nilv, nilv, nilv, nilv] [])), (2017, .r (.arr 1 [iv a0.Objects, .rs 1021 0 s4.1.length, .rs 1023 0 s4.2.1.length, .rs 1028 0 s16.1.length, nilv] [1021, 1023, 1028])), (2027, .r (.arr 1 [.rs 91000 0 v25.length] [91000])), (2043, .r (.arr 1 (s4.1.flatMap eI.o) [])), (2047, .r (.arr 1 (s4.2.1.flatMap eI.o) [])), (2057, .r (.arr 1 (s16.1.flatMap eI.o) [])), (182001, .r (.arr 1 (v25.flatMap eI.o) []))] (cc0 ok135 (impl_backwards_c a2 _ hv25) (by kernel_rfl) (.cons (Nat.le_of_ble_eq_true (n := 1) (m := 1) rfl) .nil)) (by kernel_rfl) (by kernel_rfl) ?_
      refine Tr.by (imp_dem (r := 1008) (q := 1021) (sz := 1) (n := s4.1.length) (j := 1) (pre := []) (l := [iv a0.Objects, .rs 1021 0 s4.1.length, .rs 1023 0 s4.2.1.length, .rs 1028 0 s16.1.length, nilv]) (post := []) (refs := [1021, 1023, 1028]) (refs' := [1023, 1028]) rfl rfl (lenO_flat eI_ok s4.1) (by kernel_rfl) (by kernel_rfl) (by kernel_rfl) (by kernel_rfl) (by kernel_rfl)) ?_
      refine Tr.by (imp_dem (r := 1008) (q := 1023) (sz := 1) (n := s4.2.1.length) (j := 2) (pre := []) (l := [iv a0.Objects, .fr 1 s4.1.length (s4.1.flatMap eI.o), .rs 1023 0 s4.2.1.length, .rs 1028 0 s16.1.length, nilv]) (post := []) (refs := [1023, 1028]) (refs' := [1028]) rfl rfl (lenO_flat eI_ok s4.2.1) (by kernel_rfl) (by kernel_rfl) (by kernel_rfl) (by kernel_rfl) (by kernel_rfl)) ?_
      refine Tr.by (imp_dem (r := 1008) (q := 1028) (sz := 1) (n := s16.1.length) (j := 3) (pre := []) (l := [iv a0.Objects, .fr 1 s4.1.length (s4.1.flatMap eI.o), .fr 1 s4.2.1.length (s4.2.1.flatMap eI.o), .rs 1028 0 s16.1.length, nilv]) (post := []) (refs := [1028]) (refs' := []) rfl rfl (lenO_flat eI_ok s16.1) (by kernel_rfl) (by kernel_rfl) (by kernel_rfl) (by kernel_rfl) (by kernel_rfl)) ?_
      refine Tr.by (imp_cvB (r := 1008) (sz := 1) (cells := [iv a0.Objects, .fr 1 s4.1.length (s4.1.flatMap eI.o), .fr 1 s4.2.1.length (s4.2.1.flatMap eI.o), .fr 1 s16.1.length (s16.1.flatMap eI.o), nilv]) (cells' := [iv a0.Objects, .fr 1 s4.1.length (s4.1.flatMap eI.o), .fr 1 s4.2.1.length (s4.2.1.flatMap eI.o), .fr 1 s16.1.length (s16.1.flatMap eI.o), .fr 1 ([] : List (List Int)).length (([] : List (List Int)).flatMap (eS eI).o)]) (refs := []) (refs' := []) (.cons (.refl _) (.cons (.refl _) (.cons (.refl _) (.cons (.refl _) (.cons Sub.nil_fr .nil))))) (by kernel_rfl) (by kernel_rfl) (by kernel_rfl)) ?_
      obtain ⟨v26, hv26, hM⟩ := bind_some' hM
      refine tr_sr hT hm [(1, .call [1005, 1003, 1013, 91000] [(0, 1008)] [.rp 0 0, .fb 143 [.pt ((eS eI).b a2) 0, .pt ((eP eXCategory).b a0) 0, .pt ((eS eI).b v25) 0]] [(0, .arr 1 [iv v26.Objects, .fr 1 v26.From.length (v26.From.flatMap eI.o), .fr 1 v26.To.length (v26.To.flatMap eI.o), .fr 1 v26.Identity.length (v26.Identity.flatMap eI.o), .fr 1 v26.Composites.length (v26.Composites.flatMap (eS eI).o)] [])] (.tup []))] [12, 16, 2013, 2017] [(12, .d (.rp 1006 0)), (16, .d (.rp 1008 0)), (2013, .r (.arr 1 [iv 0, nilv, nilv, nilv, nilv] [])), (2017, .r (.arr 1 [iv v26.Objects, .fr 1 v26.From.length (v26.From.flatMap eI.o), .fr 1 v26.To.length (v26.To.flatMap eI.o), .fr 1 v26.Identity.length (v26.Identity.flatMap eI.o), .fr 1 v26.Composites.length (v26.Composites.flatMap (eS eI).o)] []))] (cc (B := [1005, 1003, 1013, 91000]) (ρ := [(0, 1008)]) (rB := [(1005, .arr 1 [.sl a2.length 0 (a2.flatMap eI.b)] []), (1003, .arr 1 [.pt (eXCategory.b a0) 0] []), (1013, .arr 1 [.rs 91000 0 v25.length] [91000]), (91000, .arr 1 (v25.flatMap eI.o) [])]) ok74 (iC_table_c (⟨a0.Objects, s4.1, s4.2.1, s16.1, []⟩ : XCategory) 143 ([.pt ((eS eI).b a2) 0, .pt ((eP eXCategory).b a0) 0, .pt ((eS eI).b v25) 0] : List D) (fun (x0 : Int) (x1 : Int) => M.iC_renumber_1 x0 x1 a2 a0 v25) ok143 (by kernel_rfl) (fun x0 x1 r h => iC_renumber_1_c x0 x1 a2 a0 v25 r h) _ hv26) (.cons (.pass (.rp rfl)) (.cons (.fn (.cons (.rp (r := 1005) (sz := 1) (cells := [.sl a2.length 0 (a2.flatMap eI.b)]) (refs := []) (memB (by kernel_rfl)) (by kernel_rfl) (.cons (.same rfl rfl) .nil)) (.cons (.rp (r := 1003) (sz := 1) (cells := [.pt (eXCategory.b a0) 0]) (refs := []) (memB (by kernel_rfl)) (by kernel_rfl) (.cons (.same rfl rfl) .nil)) (.cons (.rp (r := 1013) (sz := 1) (cells := [.rs 91000 0 v25.length]) (refs := [91000]) (memB (by kernel_rfl)) (by kernel_rfl) (.cons (.rs (r := 91000) (sz := 1) (refs := []) (memB (by kernel_rfl)) (by kernel_rfl) (bor_flat eI_ok _ _ _)) .nil)) .nil)))) .nil)) (.inr ⟨(nobor_tup .nil), ⟨(eXCategory_nb _), trivial⟩⟩) .nil) (by kernel_rfl) (by kernel_rfl) ?_
      refine Tr.by (imp_promote (r := 1008) (i := 1) (q := 700005) (sz := 1) (sz' := 1) (n := v26.From.length) (cells := [iv v26.Objects, .fr 1 v26.From.length (v26.From.flatMap eI.o), .fr 1 v26.To.length (v26.To.flatMap eI.o), .fr 1 v26.Identity.length (v26.Identity.flatMap eI.o), .fr 1 v26.Composites.length (v26.Composites.flatMap (eS eI).o)]) (ds := v26.From.flatMap eI.o) (refs := []) (by kernel_rfl) (by kernel_rfl) (by kernel_rfl)) ?_
      refine Tr.by (imp_promote (r := 1008) (i := 2) (q := 700006) (sz := 1) (sz' := 1) (n := v26.To.length) (cells := [iv v26.Objects, .rs 700005 0 v26.From.length, .fr 1 v26.To.length (v26.To.flatMap eI.o), .fr 1 v26.Identity.length (v26.Identity.flatMap eI.o), .fr 1 v26.Composites.length (v26.Composites.flatMap (eS eI).o)]) (ds := v26.To.flatMap eI.o) (refs := [700005]) (by kernel_rfl) (by kernel_rfl) (by kernel_rfl)) ?_
      refine Tr.by (imp_promote (r := 1008) (i := 3) (q := 700007) (sz := 1) (sz' := 1) (n := v26.Identity.length) (cells := [iv v26.Objects, .rs 700005 0 v26.From.length, .rs 700006 0 v26.To.length, .fr 1 v26.Identity.length (v26.Identity.flatMap eI.o), .fr 1 v26.Composites.length (v26.Composites.flatMap (eS eI).o)]) (ds := v26.Identity.flatMap eI.o) (refs := [700006, 700005]) (by kernel_rfl) (by kernel_rfl) (by kernel_rfl)) ?_
      refine Tr.by (imp_promote (r := 1008) (i := 4) (q := 700008) (sz := 1) (sz' := 1) (n := v26.Composites.length) (cells := [iv v26.Objects, .rs 700005 0 v26.From.length, .rs 700006 0 v26.To.length, .rs 700007 0 v26.Identity.length, .fr 1 v26.Composites.length (v26.Composites.flatMap (eS eI).o)]) (ds := v26.Composites.flatMap (eS eI).o) (refs := [700007, 700006, 700005]) (by kernel_rfl) (by kernel_rfl) (by kernel_rfl)) ?_
      refine tr_sr hT hm [] [12, 2013, 1400011, 1400013, 1400015, 1400017] [(12, .d (.rp 1006 0)), (2013, .r (.arr 1 [iv v26.Objects, .rs 700005 0 v26.From.length, .rs 700006 0 v26.To.length, .rs 700007 0 v26.Identity.length, .rs 700008 0 v26.Composites.length] [700005, 700006, 700007, 700008])), (1400011, .r (.arr 1 (v26.From.flatMap eI.o) [])), (1400013, .r (.arr 1 (v26.To.flatMap eI.o) [])), (1400015, .r (.arr 1 (v26.Identity.flatMap eI.o) [])), (1400017, .r (.arr 1 (v26.Composites.flatMap (eS eI).o) []))] (.cons (Nat.le_of_ble_eq_true (n := 5) (m := 5) rfl) .nil) (by kernel_rfl) (by kernel_rfl) ?_
      refine tr_ret (rg_r ?_)
      obtain rfl := Option.some.inj hM
      exact retg (names := []) (.cons (lenO_flat eI_ok v26.From) (.cons (lenO_flat eI_ok v26.To) (.cons (lenO_flat eI_ok v26.Identity) (.cons (lenO_flat (eS_ok eI_ok) v26.Composites) .nil)))) (by kernel_rfl)
theorem ok109 : CallOk Try.prog 109 := callOk_of Try.func109 (by kernel_rfl) (by kernel_rfl)
theorem slices_CompareFunc_int64_int64_int64_int64_c (a0 : List (List Int)) (a1 : List (List Int)) (f2 : Nat) (c2 : List D) (a2 : (List Int) → (List Int) → Option Int) (ok2_ : CallOk Try.prog f2) (hm2 : menL c2 = []) (hf2 : ∀ x0 x1 r, a2 x0 x1 = some r → FnC Try.prog f2 [] ([.sl x0.length 0 (x0.flatMap eI.b), .sl x1.length 0 (x1.flatMap eI.b)] ++ c2) [] (iv r)) (r : Int) (hM : M.slices_CompareFunc_int64_int64_int64_int64 a0 a1 a2 = some r) :
    FnC Try.prog 109 [] [.sl a0.length 0 (a0.flatMap (eS eI).b), .sl a1.length 0 (a1.flatMap (eS eI).b), .fb f2 c2] [] (iv r) := by
  refine fnc_startG (N := 39) (np := 500) hT Try.func109 rfl rfl (by kernel_rfl) ?_
  unfold M.slices_CompareFunc_int64_int64_int64_int64 at hM
  refine tr_start (ks := [0, 2, 4]) (st' := [(0, .d (.sl a0.length 0 (a0.flatMap (eS eI).b))), (2, .d (.sl a1.length 0 (a1.flatMap (eS eI).b))), (4, .d (.fb f2 c2))]) (by kernel_rfl) ?_
  refine tr_sr hT hm [] [0, 2, 4] [(0, .d (.sl a0.length 0 (a0.flatMap (eS eI).b))), (2, .d (.sl a1.length 0 (a1.flatMap (eS eI).b))), (4, .d (.fb f2 c2))] .nil (by kernel_rfl) (by kernel_rfl) ?_
  refine tr_seq ?_
  refine tr_sr hT hm [] [0, 2, 4, 22, 24, 26] [(0, .d (.sl a0.length 0 (a0.flatMap (eS eI).b))), (2, .d (.sl a1.length 0 (a1.flatMap (eS eI).b))), (4, .d (.fb f2 c2)), (22, .d (.sl a0.length 0 (a0.flatMap (eS eI).b))), (24, .d (iv (a0.length : Int))), (26, .d (iv 0))] .nil (by kernel_rfl) (by kernel_rfl) ?_
  refine tr_block ?_
  refine tr_iterS (fun (s1 : Int) => [(0, .d (.sl a0.length 0 (a0.flatMap (eS eI).b))), (2, .d (.sl a1.length 0 (a1.flatMap (eS eI).b))), (4, .d (.fb f2 c2)), (22, .d (.sl a0.length 0 (a0.flatMap (eS eI).b))), (24, .d (iv (a0.length : Int))), (26, .d (iv s1))]) 0 [0, 2, 4, 22, 24, 26] (by kernel_rfl) hM ?_
  intro n4 next2 ih3 s1 hM
  refine tr_sr hT hm [] [0, 2, 4, 22, 24, 26, 28] [(0, .d (.sl a0.length 0 (a0.flatMap (eS eI).b))), (2, .d (.sl a1.length 0 (a1.flatMap (eS eI).b))), (4, .d (.fb f2 c2)), (22, .d (.sl a0.length 0 (a0.flatMap (eS eI).b))), (24, .d (iv (a0.length : Int))), (26, .d (iv s1)), (28, .d (bv (decide (s1 < (a0.length : Int)))))] .nil (by kernel_rfl) (by kernel_rfl) ?_
  refine tr_seq ?_
  rcases Bool.eq_false_or_eq_true (decide (s1 < (a0.length : Int))) with h5 | h5
  · have hM := ite_true' hM h5
    refine tr_condTe (e := decide (s1 < (a0.length : Int))) h5 (by kernel_rfl) ?_
    refine tr_skip (q_n ?_)
    refine tr_seq ?_
    refine tr_block ?_
    obtain ⟨y6, hy6, hM⟩ := bind_some' hM
    have hy6' := idx_some hy6
    refine tr_sr hT hm [(2, .val (.sl y6.length 0 (y6.flatMap eI.b)))] [0, 2, 4, 14, 16, 22, 24, 26] [(0, .d (.sl a0.length 0 (a0.flatMap (eS eI).b))), (2, .d (.sl a1.length 0 (a1.flatMap (eS eI).b))), (4, .d (.fb f2 c2)), (14, .d (iv s1)), (16, .d (.sl y6.length 0 (y6.flatMap eI.b))), (22, .d (.sl a0.length 0 (a0.flatMap (eS eI).b))), (24, .d (iv (a0.length : Int))), (26, .d (iv s1))] (.cons hy6'.1 (.cons hy6'.2.1 (.cons (at_b0 (eS_ok eI_ok) hy6'.2.2 (d := .sl y6.length 0 (y6.flatMap eI.b)) (by kernel_rfl)) .nil))) (by kernel_rfl) (by kernel_rfl) ?_
    refine tr_seq ?_
    refine tr_sr hT hm [] [0, 2, 4, 14, 16, 22, 24, 26, 42] [(0, .d (.sl a0.length 0 (a0.flatMap (eS eI).b))), (2, .d (.sl a1.length 0 (a1.flatMap (eS eI).b))), (4, .d (.fb f2 c2)), (14, .d (iv s1)), (16, .d (.sl y6.length 0 (y6.flatMap eI.b))), (22, .d (.sl a0.length 0 (a0.flatMap (eS eI).b))), (24, .d (iv (a0.length : Int))), (26, .d (iv s1)), (42, .d (bv (decide (s1 ≥ (a1.length : Int)))))] .nil (by kernel_rfl) (by kernel_rfl) ?_
    rcases Bool.eq_false_or_eq_true (decide (s1 ≥ (a1.length : Int))) with h7 | h7
    · have hM := ite_true' hM h7
      refine tr_condTe (e := decide (s1 ≥ (a1.length : Int))) h7 (by kernel_rfl) ?_
      refine tr_sr hT hm [] [12] [(12, .d (iv 1))] .nil (by kernel_rfl) (by kernel_rfl) ?_
      refine tr_ret (q_r (b_r (q_r (l_r (b_r (q_r (rg_r ?_)))))))
      obtain rfl := Option.some.inj hM
      exact retg (names := []) .nil (by kernel_rfl)
    · have hM := ite_false' hM h7
      refine tr_condFe (e := decide (s1 ≥ (a1.length : Int))) h7 (by kernel_rfl) ?_
      refine tr_skip (q_n ?_)
      obtain ⟨y8, hy8, hM⟩ := bind_some' hM
      have hy8' := idx_some hy8
      refine tr_sr hT hm [(3, .val (.sl y8.length 0 (y8.flatMap eI.b)))] [0, 2, 4, 16, 18, 22, 24, 26] [(0, .d (.sl a0.length 0 (a0.flatMap (eS eI).b))), (2, .d (.sl a1.length 0 (a1.flatMap (eS eI).b))), (4, .d (.fb f2 c2)), (16, .d (.sl y6.length 0 (y6.flatMap eI.b))), (18, .d (.sl y8.length 0 (y8.flatMap eI.b))), (22, .d (.sl a0.length 0 (a0.flatMap (eS eI).b))), (24, .d (iv (a0.length : Int))), (26, .d (iv s1))] (.cons hy8'.1 (.cons hy8'.2.1 (.cons (at_b0 (eS_ok eI_ok) hy8'.2.2 (d := .sl y8.length 0 (y8.flatMap eI.b)) (by kernel_rfl)) .nil))) (by kernel_rfl) (by kernel_rfl) ?_
      obtain ⟨v9, hv9, hM⟩ := bind_some' hM
      refine tr_sr hT hm [(3, .call [] [] ([.sl y6.length 0 (y6.flatMap eI.b), .sl y8.length 0 (y8.flatMap eI.b)] ++ c2) [] (iv v9))] [0, 2, 4, 20, 22, 24, 26] [(0, .d (.sl a0.length 0 (a0.flatMap (eS eI).b))), (2, .d (.sl a1.length 0 (a1.flatMap (eS eI).b))), (4, .d (.fb f2 c2)), (20, .d (iv v9)), (22, .d (.sl a0.length 0 (a0.flatMap (eS eI).b))), (24, .d (iv (a0.length : Int))), (26, .d (iv s1))] (cc0 ok2_ (hf2 y6 y8 _ hv9) (menL_app rfl hm2) .nil) (by kernel_rfl) (by kernel_rfl) ?_
      refine tr_sr hT hm [] [0, 2, 4, 20, 22, 24, 26, 62] [(0, .d (.sl a0.length 0 (a0.flatMap (eS eI).b))), (2, .d (.sl a1.length 0 (a1.flatMap (eS eI).b))), (4, .d (.fb f2 c2)), (20, .d (iv v9)), (22, .d (.sl a0.length 0 (a0.flatMap (eS eI).b))), (24, .d (iv (a0.length : Int))), (26, .d (iv s1)), (62, .d (bv (v9 != 0)))] .nil (by kernel_rfl) (by kernel_rfl) ?_
      rcases Bool.eq_false_or_eq_true (v9 != 0) with h10 | h10
      · have hM := ite_true' hM h10
        refine tr_condTe (e := v9 != 0) h10 (by kernel_rfl) ?_
        refine tr_sr hT hm [] [12] [(12, .d (iv v9))] .nil (by kernel_rfl) (by kernel_rfl) ?_
        refine tr_ret (b_r (q_r (l_r (b_r (q_r (rg_r ?_))))))
        obtain rfl := Option.some.inj hM
        exact retg (names := []) .nil (by kernel_rfl)
      · have hM := ite_false' hM h10
        refine tr_condFe (e := v9 != 0) h10 (by kernel_rfl) ?_
        refine tr_skip (b_n (q_n ?_))
        refine tr_r hT hm [] [0, 2, 4, 22, 24, 26] [(0, .d (.sl a0.length 0 (a0.flatMap (eS eI).b))), (2, .d (.sl a1.length 0 (a1.flatMap (eS eI).b))), (4, .d (.fb f2 c2)), (22, .d (.sl a0.length 0 (a0.flatMap (eS eI).b))), (24, .d (iv (a0.length : Int))), (26, .d (iv (IntKind.i64.wrap (s1 + 1))))] .nil (by kernel_rfl) (by kernel_rfl) (l_n ?_)
        exact trl_start (ks := [0, 2, 4, 22, 24, 26]) (by kernel_rfl) (ih3 (IntKind.i64.wrap (s1 + 1)) hM)
  · have hM := ite_false' hM h5
    refine tr_condFe (e := decide (s1 < (a0.length : Int))) h5 (by kernel_rfl) ?_
    refine tr_exit (q_x (l_x (b_h (q_n ?_))))
    refine tr_seq ?_
    refine tr_sr hT hm [] [76] [(76, .d (bv (decide ((a0.length : Int) < (a1.length : Int)))))] .nil (by kernel_rfl) (by kernel_rfl) ?_
    rcases Bool.eq_false_or_eq_true (decide ((a0.length : Int) < (a1.length : Int))) with h11 | h11
    · have hM := ite_true' hM h11
      refine tr_condTe (e := decide ((a0.length : Int) < (a1.length : Int))) h11 (by kernel_rfl) ?_
      refine tr_sr hT hm [] [12] [(12, .d (iv (-1)))] .nil (by kernel_rfl) (by kernel_rfl) ?_
      refine tr_ret (q_r (rg_r ?_))
      obtain rfl := Option.some.inj hM
      exact retg (names := []) .nil (by kernel_rfl)
    · have hM := ite_false' hM h11
      refine tr_condFe (e := decide ((a0.length : Int) < (a1.length : Int))) h11 (by kernel_rfl) ?_
      refine tr_skip (q_n ?_)
      refine tr_sr hT hm [] [12] [(12, .d (iv 0))] .nil (by kernel_rfl) (by kernel_rfl) ?_
      refine tr_ret (rg_r ?_)
      obtain rfl := Option.some.inj hM
      exact retg (names := []) .nil (by kernel_rfl)
theorem ok110 : CallOk Try.prog 110 := callOk_of Try.func110 (by kernel_rfl) (by kernel_rfl)
theorem impl_compare_c (a0 : List Int) (a1 : List Int) (r : Int) (hM : M.impl_compare a0 a1 = some r) :
    FnC Try.prog 110 [] [.sl a0.length 0 (a0.flatMap eI.b), .sl a1.length 0 (a1.flatMap eI.b)] [] (iv r) := by
  refine fnc_startG (N := 39) (np := 500) hT Try.func110 rfl rfl (by kernel_rfl) ?_
  unfold M.impl_compare at hM
  refine tr_start (ks := [0, 2]) (st' := [(0, .d (.sl a0.length 0 (a0.flatMap eI.b))), (2, .d (.sl a1.length 0 (a1.flatMap eI.b)))]) (by kernel_rfl) ?_
  refine tr_sr hT hm [] [0, 2] [(0, .d (.sl a0.length 0 (a0.flatMap eI.b))), (2, .d (.sl a1.length 0 (a1.flatMap eI.b)))] .nil (by kernel_rfl) (by kernel_rfl) ?_
  refine tr_seq ?_
  refine tr_sr hT hm [] [0, 2, 14, 16] [(0, .d (.sl a0.length 0 (a0.flatMap eI.b))), (2, .d (.sl a1.length 0 (a1.flatMap eI.b))), (14, .d (iv (a0.length : Int))), (16, .d (iv 0))] .nil (by kernel_rfl) (by kernel_rfl) ?_
  refine tr_block ?_
  refine tr_iterS (fun (s1 : Int) => [(0, .d (.sl a0.length 0 (a0.flatMap eI.b))), (2, .d (.sl a1.length 0 (a1.flatMap eI.b))), (14, .d (iv (a0.length : Int))), (16, .d (iv s1))]) 0 [0, 2, 14, 16] (by kernel_rfl) hM ?_
  intro n4 next2 ih3 s1 hM
  refine tr_sr hT hm [] [0, 2, 14, 16, 18] [(0, .d (.sl a0.length 0 (a0.flatMap eI.b))), (2, .d (.sl a1.length 0 (a1.flatMap eI.b))), (14, .d (iv (a0.length : Int))), (16, .d (iv s1)), (18, .d (bv (decide (s1 < (a0.length : Int)))))] .nil (by kernel_rfl) (by kernel_rfl) ?_
  refine tr_seq ?_
  rcases Bool.eq_false_or_eq_true (decide (s1 < (a0.length : Int))) with h5 | h5
  · have hM := ite_true' hM h5
    refine tr_condTe (e := decide (s1 < (a0.length : Int))) h5 (by kernel_rfl) ?_
    refine tr_skip (q_n ?_)
    refine tr_seq ?_
    refine tr_block ?_
    refine tr_sr hT hm [] [0, 2, 10, 14, 16] [(0, .d (.sl a0.length 0 (a0.flatMap eI.b))), (2, .d (.sl a1.length 0 (a1.flatMap eI.b))), (10, .d (iv s1)), (14, .d (iv (a0.length : Int))), (16, .d (iv s1))] .nil (by kernel_rfl) (by kernel_rfl) ?_
    refine tr_seq ?_
    refine tr_sr hT hm [] [0, 2, 10, 14, 16, 28] [(0, .d (.sl a0.length 0 (a0.flatMap eI.b))), (2, .d (.sl a1.length 0 (a1.flatMap eI.b))), (10, .d (iv s1)), (14, .d (iv (a0.length : Int))), (16, .d (iv s1)), (28, .d (bv (s1 == (a1.length : Int))))] .nil (by kernel_rfl) (by kernel_rfl) ?_
    rcases Bool.eq_false_or_eq_true (s1 == (a1.length : Int)) with h6 | h6
    · have hM := ite_true' hM h6
      refine tr_condTe (e := s1 == (a1.length : Int)) h6 (by kernel_rfl) ?_
      refine tr_sr hT hm [] [8] [(8, .d (iv 1))] .nil (by kernel_rfl) (by kernel_rfl) ?_
      refine tr_ret (q_r (b_r (q_r (l_r (b_r (q_r (rg_r ?_)))))))
      obtain rfl := Option.some.inj hM
      exact retg (names := []) .nil (by kernel_rfl)
    · have hM := ite_false' hM h6
      refine tr_condFe (e := s1 == (a1.length : Int)) h6 (by kernel_rfl) ?_
      refine tr_skip (q_n ?_)
      obtain ⟨y7, hy7, hM⟩ := bind_some' hM
      have hy7' := idx_some hy7
      obtain ⟨y8, hy8, hM⟩ := bind_some' hM
      have hy8' := idx_some hy8
      refine tr_sr hT hm [(3, .val (iv y7)), (7, .val (iv y8))] [0, 2, 10, 14, 16, 46] [(0, .d (.sl a0.length 0 (a0.flatMap eI.b))), (2, .d (.sl a1.length 0 (a1.flatMap eI.b))), (10, .d (iv s1)), (14, .d (iv (a0.length : Int))), (16, .d (iv s1)), (46, .d (bv (y7 != y8)))] (.cons hy7'.1 (.cons hy7'.2.1 (.cons (at_b0 eI_ok hy7'.2.2 (d := iv y7) (by kernel_rfl)) (.cons hy8'.1 (.cons hy8'.2.1 (.cons (at_b0 eI_ok hy8'.2.2 (d := iv y8) (by kernel_rfl)) .nil)))))) (by kernel_rfl) (by kernel_rfl) ?_
      rcases Bool.eq_false_or_eq_true (y7 != y8) with h9 | h9
      · have hM := ite_true' hM h9
        refine tr_condTe (e := y7 != y8) h9 (by kernel_rfl) ?_
        refine tr_seq ?_
        refine tr_sr hT hm [(3, .val (iv y7)), (7, .val (iv y8))] [64] [(64, .d (bv (decide (y7 < y8))))] (.cons hy7'.1 (.cons hy7'.2.1 (.cons (at_b0 eI_ok hy7'.2.2 (d := iv y7) (by kernel_rfl)) (.cons hy8'.1 (.cons hy8'.2.1 (.cons (at_b0 eI_ok hy8'.2.2 (d := iv y8) (by kernel_rfl)) .nil)))))) (by kernel_rfl) (by kernel_rfl) ?_
        rcases Bool.eq_false_or_eq_true (decide (y7 < y8)) with h10 | h10
        · have hM := ite_true' hM h10
          refine tr_condTe (e := decide (y7 < y8)) h10 (by kernel_rfl) ?_
          refine tr_sr hT hm [] [8] [(8, .d (iv (-1)))] .nil (by kernel_rfl) (by kernel_rfl) ?_
          refine tr_ret (q_r (b_r (q_r (l_r (b_r (q_r (rg_r ?_)))))))
          obtain rfl := Option.some.inj hM
          exact retg (names := []) .nil (by kernel_rfl)
        · have hM := ite_false' hM h10
          refine tr_condFe (e := decide (y7 < y8)) h10 (by kernel_rfl) ?_
          refine tr_skip (q_n ?_)
          refine tr_sr hT hm [] [8] [(8, .d (iv 1))] .nil (by kernel_rfl) (by kernel_rfl) ?_
          refine tr_ret (b_r (q_r (l_r (b_r (q_r (rg_r ?_))))))
          obtain rfl := Option.some.inj hM
          exact retg (names := []) .nil (by kernel_rfl)
      · have hM := ite_false' hM h9
        refine tr_condFe (e := y7 != y8) h9 (by kernel_rfl) ?_
        refine tr_skip (b_n (q_n ?_))
        refine tr_r hT hm [] [0, 2, 14, 16] [(0, .d (.sl a0.length 0 (a0.flatMap eI.b))), (2, .d (.sl a1.length 0 (a1.flatMap eI.b))), (14, .d (iv (a0.length : Int))), (16, .d (iv (IntKind.i64.wrap (s1 + 1))))] .nil (by kernel_rfl) (by kernel_rfl) (l_n ?_)
        exact trl_start (ks := [0, 2, 14, 16]) (by kernel_rfl) (ih3 (IntKind.i64.wrap (s1 + 1)) hM)
  · have hM := ite_false' hM h5
    refine tr_condFe (e := decide (s1 < (a0.length : Int))) h5 (by kernel_rfl) ?_
    refine tr_exit (q_x (l_x (b_h (q_n ?_))))
    refine tr_seq ?_
    refine tr_sr hT hm [] [76] [(76, .d (bv (decide ((a0.length : Int) < (a1.length : Int)))))] .nil (by kernel_rfl) (by kernel_rfl) ?_
    rcases Bool.eq_false_or_eq_true (decide ((a0.length : Int) < (a1.length : Int))) with h11 | h11
    · have hM := ite_true' hM h11
      refine tr_condTe (e := decide ((a0.length : Int) < (a1.length : Int))) h11 (by kernel_rfl) ?_
      refine tr_sr hT hm [] [8] [(8, .d (iv (-1)))] .nil (by kernel_rfl) (by kernel_rfl) ?_
      refine tr_ret (q_r (rg_r ?_))
      obtain rfl := Option.some.inj hM
      exact retg (names := []) .nil (by kernel_rfl)
    · have hM := ite_false' hM h11
      refine tr_condFe (e := decide ((a0.length : Int) < (a1.length : Int))) h11 (by kernel_rfl) ?_
      refine tr_skip (q_n ?_)
      refine tr_sr hT hm [] [8] [(8, .d (iv 0))] .nil (by kernel_rfl) (by kernel_rfl) ?_
      refine tr_ret (rg_r ?_)
      obtain rfl := Option.some.inj hM
      exact retg (names := []) .nil (by kernel_rfl)
theorem ok108 : CallOk Try.prog 108 := callOk_of Try.func108 (by kernel_rfl) (by kernel_rfl)
theorem iC_leastForm_1_c (xd : XCategory) (xb : Option XCategory) (r : Option XCategory) (hM : M.iC_leastForm_1 xd xb = some r) :
    FnC Try.prog 108 [(151, .arr 1 [optP eXCategory xb] [])] [.pt (eXCategory.b xd) 0, .rp 151 0] [(151, .arr 1 [optP eXCategory r] [])] (.tup []) := by
  refine fnc_startG (N := 18) (np := 500) hT Try.func108 rfl rfl (by kernel_rfl) ?_
  unfold M.iC_leastForm_1 at hM
  refine tr_start (ks := [0, 2, 303]) (st' := [(0, .d (.pt (eXCategory.b xd) 0)), (2, .d (.rp 151 0)), (303, .r (.arr 1 [optP eXCategory xb] []))]) (by kernel_rfl) ?_
  rcases Bool.eq_false_or_eq_true xb.isNone with h1 | h1
  · have hM := ite_true' hM h1
    refine Tr.by (imp_cvB (r := 151) (sz := 1) (cells := [optP eXCategory xb]) (cells' := [.v (.pointer .none)]) (refs := []) (refs' := []) (.cons (Sub.of_eq (optP_none h1)) .nil) (by kernel_rfl) (by kernel_rfl) (by kernel_rfl)) ?_
    refine tr_sr hT hm [] [0, 2, 32, 303] [(0, .d (.pt (eXCategory.b xd) 0)), (2, .d (.rp 151 0)), (32, .d (bv true)), (303, .r (.arr 1 [.v (.pointer .none)] []))] .nil (by kernel_rfl) (by kernel_rfl) ?_
    refine tr_condT (by kernel_rfl) ?_
    refine tr_r hT hm [] [303] [(303, .r (.arr 1 [.pt (eXCategory.b xd) 0] []))] (.cons (Nat.le_of_ble_eq_true (n := 1) (m := 1) rfl) .nil) (by kernel_rfl) (by kernel_rfl) (rg_n ?_)
    obtain rfl := Option.some.inj hM
    exact retg (names := [151]) .nil (by kernel_rfl)
  · have hM := ite_false' hM h1
    refine Tr.by (imp_cvB (r := 151) (sz := 1) (cells := [optP eXCategory xb]) (cells' := [.pt (eXCategory.b (xb.getD (⟨0, [], [], [], []⟩ : XCategory))) 0]) (refs := []) (refs' := []) (.cons (Sub.of_eq (optP_some h1 (⟨0, [], [], [], []⟩ : XCategory))) .nil) (by kernel_rfl) (by kernel_rfl) (by kernel_rfl)) ?_
    obtain ⟨v2, hv2, hM⟩ := bind_some' hM
    refine tr_sr hT hm [(11, .call [] [] [.sl xd.Composites.length 0 (xd.Composites.flatMap (eS eI).b), .sl ((xb.getD (⟨0, [], [], [], []⟩ : XCategory)).Composites).length 0 (((xb.getD (⟨0, [], [], [], []⟩ : XCategory)).Composites).flatMap (eS eI).b), .fb 110 []] [] (iv v2))] [0, 2, 32, 303] [(0, .d (.pt (eXCategory.b xd) 0)), (2, .d (.rp 151 0)), (32, .d (bv (decide (v2 < 0)))), (303, .r (.arr 1 [.pt (eXCategory.b (xb.getD (⟨0, [], [], [], []⟩ : XCategory))) 0] []))] (cc (B := []) (ρ := []) (rB := []) ok109 (slices_CompareFunc_int64_int64_int64_int64_c xd.Composites ((xb.getD (⟨0, [], [], [], []⟩ : XCategory)).Composites) 110 ([] : List D) (fun (x0 : List Int) (x1 : List Int) => M.impl_compare x0 x1) ok110 (by kernel_rfl) (fun x0 x1 r h => impl_compare_c x0 x1  r h) _ hv2) (.cons (.same rfl) (.cons (.same rfl) (.cons (.fn .nil) .nil))) (.inl rfl) .nil) (by kernel_rfl) (by kernel_rfl) ?_
    rcases Bool.eq_false_or_eq_true (decide (v2 < 0)) with h3 | h3
    · have hM := ite_true' hM h3
      refine tr_condTe (e := decide (v2 < 0)) h3 (by kernel_rfl) ?_
      refine tr_r hT hm [] [303] [(303, .r (.arr 1 [.pt (eXCategory.b xd) 0] []))] (.cons (Nat.le_of_ble_eq_true (n := 1) (m := 1) rfl) .nil) (by kernel_rfl) (by kernel_rfl) (rg_n ?_)
      obtain rfl := Option.some.inj hM
      exact retg (names := [151]) .nil (by kernel_rfl)
    · have hM := ite_false' hM h3
      refine tr_condFe (e := decide (v2 < 0)) h3 (by kernel_rfl) ?_
      refine tr_skip (rg_n ?_)
      obtain rfl := Option.some.inj hM
      exact retg (names := [151]) .nil (by kernel_rfl)
theorem ok138 : CallOk Try.prog 138 := callOk_of Try.func138 (by kernel_rfl) (by kernel_rfl)
theorem ok136 : CallOk Try.prog 136 := callOk_of Try.func136 (by kernel_rfl) (by kernel_rfl)
theorem iC_forms_1_1_c (xg : List (List Int)) (xc : XCategory) (xp : List Int) (xr : Int → List Int → Option XCategory → Option (Option XCategory)) (hr : ∀ (xi' : Int) (xa' : List Int) (xb' : Option XCategory) (r' : Option XCategory), xr xi' xa' xb' = some r' → FnC Try.prog 136 [(154, .arr 1 (xa'.flatMap eI.o) []), (151, .arr 1 [optP eXCategory xb'] []), (152, .arr 1 [.fn 136 [.pt ((eS (eS eI)).b xg) 0, .pt ((eP eXCategory).b xc) 0, .pt ((eS eI).b xp) 0, .rp 153 0, .rp 152 0]] [153, 152]), (153, .arr 1 [.fn 108 [.rp 151 0]] [151])] [iv xi', .rs 154 0 xa'.length, .pt ((eS (eS eI)).b xg) 0, .pt ((eP eXCategory).b xc) 0, .pt ((eS eI).b xp) 0, .rp 153 0, .rp 152 0] [(151, .arr 1 [optP eXCategory r'] []), (152, .arr 1 [.fn 136 [.pt ((eS (eS eI)).b xg) 0, .pt ((eP eXCategory).b xc) 0, .pt ((eS eI).b xp) 0, .rp 153 0, .rp 152 0]] [153, 152]), (153, .arr 1 [.fn 108 [.rp 151 0]] [151])] (.tup [])) (xi : Int) (xa : List Int) (xl : List Int) (xb : Option XCategory) (r : Option XCategory) (hM : M.iC_forms_1_1 xr xi xa xl xb = some r) :
    FnC Try.prog 138 [(160, .arr 1 (xl.flatMap eI.o) []), (151, .arr 1 [optP eXCategory xb] []), (152, .arr 1 [.fn 136 [.pt ((eS (eS eI)).b xg) 0, .pt ((eP eXCategory).b xc) 0, .pt ((eS eI).b xp) 0, .rp 153 0, .rp 152 0]] [153, 152]), (153, .arr 1 [.fn 108 [.rp 151 0]] [151])] [.rs 160 0 xl.length, .rp 152 0, .pt (eI.b xi) 0, .pt ((eS eI).b xa) 0] [(160, .arr 1 (xl.flatMap eI.o) []), (151, .arr 1 [optP eXCategory r] []), (152, .arr 1 [.fn 136 [.pt ((eS (eS eI)).b xg) 0, .pt ((eP eXCategory).b xc) 0, .pt ((eS eI).b xp) 0, .rp 153 0, .rp 152 0]] [153, 152]), (153, .arr 1 [.fn 108 [.rp 151 0]] [151])] (.tup []) := by
  refine fnc_startG (N := 13) (np := 500) hT Try.func138 rfl rfl (by kernel_rfl) ?_
  unfold M.iC_forms_1_1 at hM
  refine tr_start (ks := [0, 2, 4, 6, 303, 305, 307, 321]) (st' := [(0, .d (.rs 160 0 xl.length)), (2, .d (.rp 152 0)), (4, .d (.pt (eI.b xi) 0)), (6, .d (.pt ((eS eI).b xa) 0)), (303, .r (.arr 1 [optP eXCategory xb] [])), (305, .r (.arr 1 [.fn 136 [.pt ((eS (eS eI)).b xg) 0, .pt ((eP eXCategory).b xc) 0, .pt ((eS eI).b xp) 0, .rp 153 0, .rp 152 0]] [153, 152])), (307, .r (.arr 1 [.fn 108 [.rp 151 0]] [151])), (321, .r (.arr 1 (xl.flatMap eI.o) []))]) (by kernel_rfl) ?_
  obtain ⟨v1, hv1, hM⟩ := bind_some' hM
  obtain ⟨h2, hM⟩ := chk_some hM
  obtain ⟨v3, hv3, hM⟩ := bind_some' hM
  refine tr_r hT hm [(4, .call [] [] [.sl xa.length 0 (xa.flatMap eI.b)] [] (.fr 1 v1.length (v1.flatMap eI.o))), (6, .app false), (7, .call [] [(154, 1011), (151, 151), (152, 152), (153, 153)] [iv (IntKind.i64.wrap (xi + 1)), .rs 154 0 ((v1 ++ xl).length), .pt ((eS (eS eI)).b xg) 0, .pt ((eP eXCategory).b xc) 0, .pt ((eS eI).b xp) 0, .rp 153 0, .rp 152 0] [(151, .arr 1 [optP eXCategory v3] []), (152, .arr 1 [.fn 136 [.pt ((eS (eS eI)).b xg) 0, .pt ((eP eXCategory).b xc) 0, .pt ((eS eI).b xp) 0, .rp 153 0, .rp 152 0]] [153, 152]), (153, .arr 1 [.fn 108 [.rp 151 0]] [151])] (.tup []))] [303, 305, 307, 321] [(303, .r (.arr 1 [optP eXCategory v3] [])), (305, .r (.arr 1 [.fn 136 [.pt ((eS (eS eI)).b xg) 0, .pt ((eP eXCategory).b xc) 0, .pt ((eS eI).b xp) 0, .rp 153 0, .rp 152 0]] [153, 152])), (307, .r (.arr 1 [.fn 108 [.rp 151 0]] [151])), (321, .r (.arr 1 (xl.flatMap eI.o) []))] (cc0 ok78 (impl_clone_c xa _ hv1) (by kernel_rfl) (.cons (lenO_flat eI_ok v1) (.cons (len_take eI_ok.lenO xl) (.cons h2 (.cons (noFr_take eI_ok.lenO eI_ok.noFr xl) (cc (B := []) (ρ := [(154, 1011), (151, 151), (152, 152), (153, 153)]) (rB := []) ok136 (fnc_cv (app_take eI_ok.lenO (fun _ => rfl) v1 xl) (hr (IntKind.i64.wrap (xi + 1)) (v1 ++ xl) xb _ hv3)) (.cons (.same rfl) (.cons (.pass (pass_rsN (len_app v1 xl) rfl)) (.cons (.same rfl) (.cons (.same rfl) (.cons (.same rfl) (.cons (.pass (.rp rfl)) (.cons (.pass (.rp rfl)) .nil))))))) (.inl rfl) .nil)))))) (by kernel_rfl) (by kernel_rfl) (rg_n ?_)
  obtain rfl := Option.some.inj hM
  exact retg (names := [160, 151, 152, 153]) .nil (by kernel_rfl)
theorem impl_permutations_1_B_n_c (k : Nat) : ∀ (xg : List (List Int)) (xc : XCategory) (xp : List Int) (xi : Int) (xa : List Int) (xv : List Int → Option XCategory → Option (Option XCategory)) (_ : ∀ (xl' : List Int) (xb' : Option XCategory) (r' : Option XCategory), xv xl' xb' = some r' → FnC Try.prog 138 [(160, .arr 1 (xl'.flatMap eI.o) []), (151, .arr 1 [optP eXCategory xb'] []), (152, .arr 1 [.fn 136 [.pt ((eS (eS eI)).b xg) 0, .pt ((eP eXCategory).b xc) 0, .pt ((eS eI).b xp) 0, .rp 153 0, .rp 152 0]] [153, 152]), (153, .arr 1 [.fn 108 [.rp 151 0]] [151])] [.rs 160 0 xl'.length, .rp 152 0, .pt (eI.b xi) 0, .pt ((eS eI).b xa) 0] [(160, .arr 1 (xl'.flatMap eI.o) []), (151, .arr 1 [optP eXCategory r'] []), (152, .arr 1 [.fn 136 [.pt ((eS (eS eI)).b xg) 0, .pt ((eP eXCategory).b xc) 0, .pt ((eS eI).b xp) 0, .rp 153 0, .rp 152 0]] [153, 152]), (153, .arr 1 [.fn 108 [.rp 151 0]] [151])] (.tup [])) (xk : Int) (xl : List Int) (xb : Option XCategory) (r : (List Int) × (Option XCategory)) (_ : M.impl_permutations_1_B_n k xv xk xl xb = some r), FnC Try.prog 141 [(160, .arr 1 (xl.flatMap eI.o) []), (161, .arr 1 [.rs 160 0 xl.length] [160]), (162, .arr 1 [.fn 138 [.rp 152 0, .pt (eI.b xi) 0, .pt ((eS eI).b xa) 0]] [152]), (163, .arr 1 [.fn 141 [.rp 161 0, .rp 162 0, .rp 163 0]] [161, 162, 163]), (151, .arr 1 [optP eXCategory xb] []), (152, .arr 1 [.fn 136 [.pt ((eS (eS eI)).b xg) 0, .pt ((eP eXCategory).b xc) 0, .pt ((eS eI).b xp) 0, .rp 153 0, .rp 152 0]] [153, 152]), (153, .arr 1 [.fn 108 [.rp 151 0]] [151])] [iv xk, .rp 161 0, .rp 162 0, .rp 163 0] [(160, .arr 1 (r.1.flatMap eI.o) []), (161, .arr 1 [.rs 160 0 r.1.length] [160]), (162, .arr 1 [.fn 138 [.rp 152 0, .pt (eI.b xi) 0, .pt ((eS eI).b xa) 0]] [152]), (163, .arr 1 [.fn 141 [.rp 161 0, .rp 162 0, .rp 163 0]] [161, 162, 163]), (151, .arr 1 [optP eXCategory r.2] []), (152, .arr 1 [.fn 136 [.pt ((eS (eS eI)).b xg) 0, .pt ((eP eXCategory).b xc) 0, .pt ((eS eI).b xp) 0, .rp 153 0, .rp 152 0]] [153, 152]), (153, .arr 1 [.fn 108 [.rp 151 0]] [151])] (.tup []) := by
  induction k with
  | zero => intro xg xc xp xi xa xv hv xk xl xb r hM; exact absurd hM (by simp [M.impl_permutations_1_B_n])
  | succ k ih =>
    intro xg xc xp xi xa xv hv xk xl xb r hM
    refine fnc_startG (N := 52) (np := 500) hT Try.func141 rfl rfl (by kernel_rfl) ?_
    unfold M.impl_permutations_1_B_n at hM
    refine tr_start (ks := [0, 2, 4, 6, 303, 305, 307, 321, 323, 325, 327]) (st' := [(0, .d (iv xk)), (2, .d (.rp 161 0)), (4, .d (.rp 162 0)), (6, .d (.rp 163 0)), (303, .r (.arr 1 [optP eXCategory xb] [])), (305, .r (.arr 1 [.fn 136 [.pt ((eS (eS eI)).b xg) 0, .pt ((eP eXCategory).b xc) 0, .pt ((eS eI).b xp) 0, .rp 153 0, .rp 152 0]] [153, 152])), (307, .r (.arr 1 [.fn 108 [.rp 151 0]] [151])), (321, .r (.arr 1 (xl.flatMap eI.o) [])), (323, .r (.arr 1 [.rs 160 0 xl.length] [160])), (325, .r (.arr 1 [.fn 138 [.rp 152 0, .pt (eI.b xi) 0, .pt ((eS eI).b xa) 0]] [152])), (327, .r (.arr 1 [.fn 141 [.rp 161 0, .rp 162 0, .rp 163 0]] [161, 162, 163]))]) (by kernel_rfl) ?_
    refine tr_seq ?_
    refine tr_srN hT hm [] [0, 2, 4, 6, 18, 303, 305, 307, 321, 323, 325, 327] [(0, .d (iv xk)), (2, .d (.rp 161 0)), (4, .d (.rp 162 0)), (6, .d (.rp 163 0)), (18, .d (bv (decide (xk ≥ (xl.length : Int))))), (303, .r (.arr 1 [optP eXCategory xb] [])), (305, .r (.arr 1 [.fn 136 [.pt ((eS (eS eI)).b xg) 0, .pt ((eP eXCategory).b xc) 0, .pt ((eS eI).b xp) 0, .rp 153 0, .rp 152 0]] [153, 152])), (307, .r (.arr 1 [.fn 108 [.rp 151 0]] [151])), (321, .r (.arr 1 (xl.flatMap eI.o) [])), (323, .r (.arr 1 [.rs 160 0 xl.length] [160])), (325, .r (.arr 1 [.fn 138 [.rp 152 0, .pt (eI.b xi) 0, .pt ((eS eI).b xa) 0]] [152])), (327, .r (.arr 1 [.fn 141 [.rp 161 0, .rp 162 0, .rp 163 0]] [161, 162, 163]))] .nil (by kernel_rfl) (by kernel_rfl) ?_
    rcases Bool.eq_false_or_eq_true (decide (xk ≥ (xl.length : Int))) with h1 | h1
    · have hM := ite_true' hM h1
      refine tr_condTe (e := decide (xk ≥ (xl.length : Int))) h1 (by kernel_rfl) ?_
      obtain ⟨v2, hv2, hM⟩ := bind_some' hM
      refine tr_srN hT hm [(2, .call [] [(160, 160), (151, 151), (152, 152), (153, 153)] [.rs 160 0 xl.length, .rp 152 0, .pt (eI.b xi) 0, .pt ((eS eI).b xa) 0] [(160, .arr 1 (xl.flatMap eI.o) []), (151, .arr 1 [optP eXCategory v2] []), (152, .arr 1 [.fn 136 [.pt ((eS (eS eI)).b xg) 0, .pt ((eP eXCategory).b xc) 0, .pt ((eS eI).b xp) 0, .rp 153 0, .rp 152 0]] [153, 152]), (153, .arr 1 [.fn 108 [.rp 151 0]] [151])] (.tup []))] [303, 305, 307, 321, 323, 325, 327] [(303, .r (.arr 1 [optP eXCategory v2] [])), (305, .r (.arr 1 [.fn 136 [.pt ((eS (eS eI)).b xg) 0, .pt ((eP eXCategory).b xc) 0, .pt ((eS eI).b xp) 0, .rp 153 0, .rp 152 0]] [153, 152])), (307, .r (.arr 1 [.fn 108 [.rp 151 0]] [151])), (321, .r (.arr 1 (xl.flatMap eI.o) [])), (323, .r (.arr 1 [.rs 160 0 xl.length] [160])), (325, .r (.arr 1 [.fn 138 [.rp 152 0, .pt (eI.b xi) 0, .pt ((eS eI).b xa) 0]] [152])), (327, .r (.arr 1 [.fn 141 [.rp 161 0, .rp 162 0, .rp 163 0]] [161, 162, 163]))] (cc (B := []) (ρ := [(160, 160), (151, 151), (152, 152), (153, 153)]) (rB := []) ok138 (hv xl xb _ hv2) (.cons (.pass (.rs rfl)) (.cons (.pass (.rp rfl)) (.cons (.same rfl) (.cons (.same rfl) .nil)))) (.inl rfl) .nil) (by kernel_rfl) (by kernel_rfl) ?_
      refine tr_ret (q_r (rg_r ?_))
      obtain rfl := Option.some.inj hM
      exact retg (names := [160, 161, 162, 163, 151, 152, 153]) .nil (by kernel_rfl)
    · have hM := ite_false' hM h1
      refine tr_condFe (e := decide (xk ≥ (xl.length : Int))) h1 (by kernel_rfl) ?_
      refine tr_skip (q_n ?_)
      refine tr_srN hT hm [] [0, 2, 6, 10, 303, 305, 307, 321, 323, 325, 327] [(0, .d (iv xk)), (2, .d (.rp 161 0)), (6, .d (.rp 163 0)), (10, .d (iv xk)), (303, .r (.arr 1 [optP eXCategory xb] [])), (305, .r (.arr 1 [.fn 136 [.pt ((eS (eS eI)).b xg) 0, .pt ((eP eXCategory).b xc) 0, .pt ((eS eI).b xp) 0, .rp 153 0, .rp 152 0]] [153, 152])), (307, .r (.arr 1 [.fn 108 [.rp 151 0]] [151])), (321, .r (.arr 1 (xl.flatMap eI.o) [])), (323, .r (.arr 1 [.rs 160 0 xl.length] [160])), (325, .r (.arr 1 [.fn 138 [.rp 152 0, .pt (eI.b xi) 0, .pt ((eS eI).b xa) 0]] [152])), (327, .r (.arr 1 [.fn 141 [.rp 161 0, .rp 162 0, .rp 163 0]] [161, 162, 163]))] .nil (by kernel_rfl) (by kernel_rfl) ?_
      refine tr_block ?_
      refine tr_iterS (fun (s3 : (List Int) × (Option XCategory) × Int) => [(0, .d (iv xk)), (2, .d (.rp 161 0)), (6, .d (.rp 163 0)), (10, .d (iv s3.2.2)), (303, .r (.arr 1 [optP eXCategory s3.2.1] [])), (305, .r (.arr 1 [.fn 136 [.pt ((eS (eS eI)).b xg) 0, .pt ((eP eXCategory).b xc) 0, .pt ((eS eI).b xp) 0, .rp 153 0, .rp 152 0]] [153, 152])), (307, .r (.arr 1 [.fn 108 [.rp 151 0]] [151])), (321, .r (.arr 1 (s3.1.flatMap eI.o) [])), (323, .r (.arr 1 [.rs 160 0 s3.1.length] [160])), (325, .r (.arr 1 [.fn 138 [.rp 152 0, .pt (eI.b xi) 0, .pt ((eS eI).b xa) 0]] [152])), (327, .r (.arr 1 [.fn 141 [.rp 161 0, .rp 162 0, .rp 163 0]] [161, 162, 163]))]) (xl, xb, xk) [0, 2, 6, 10, 303, 305, 307, 321, 323, 325, 327] (by kernel_rfl) hM ?_
      intro n6 next4 ih5 s3 hM
      refine tr_seq ?_
      refine tr_srN hT hm [] [0, 2, 6, 10, 34, 303, 305, 307, 321, 323, 325, 327] [(0, .d (iv xk)), (2, .d (.rp 161 0)), (6, .d (.rp 163 0)), (10, .d (iv s3.2.2)), (34, .d (bv (decide (s3.2.2 < (s3.1.length : Int))))), (303, .r (.arr 1 [optP eXCategory s3.2.1] [])), (305, .r (.arr 1 [.fn 136 [.pt ((eS (eS eI)).b xg) 0, .pt ((eP eXCategory).b xc) 0, .pt ((eS eI).b xp) 0, .rp 153 0, .rp 152 0]] [153, 152])), (307, .r (.arr 1 [.fn 108 [.rp 151 0]] [151])), (321, .r (.arr 1 (s3.1.flatMap eI.o) [])), (323, .r (.arr 1 [.rs 160 0 s3.1.length] [160])), (325, .r (.arr 1 [.fn 138 [.rp 152 0, .pt (eI.b xi) 0, .pt ((eS eI).b xa) 0]] [152])), (327, .r (.arr 1 [.fn 141 [.rp 161 0, .rp 162 0, .rp 163 0]] [161, 162, 163]))] .nil (by kernel_rfl) (by kernel_rfl) ?_
      rcases Bool.eq_false_or_eq_true (decide (s3.2.2 < (s3.1.length : Int))) with h7 | h7
      · have hM := ite_true' hM h7
        refine tr_condTe (e := decide (s3.2.2 < (s3.1.length : Int))) h7 (by kernel_rfl) ?_
        refine tr_skip (q_n ?_)
        refine tr_seq ?_
        refine tr_block ?_
        obtain ⟨y8, hy8, hM⟩ := bind_some' hM
        have hy8' := idx_some hy8
        obtain ⟨y9, hy9, hM⟩ := bind_some' hM
        have hy9' := idx_some hy9
        refine tr_srN hT hm [(7, .val (iv y8)), (11, .val (iv y9))] [0, 2, 6, 10, 303, 305, 307, 321, 323, 325, 327] [(0, .d (iv xk)), (2, .d (.rp 161 0)), (6, .d (.rp 163 0)), (10, .d (iv s3.2.2)), (303, .r (.arr 1 [optP eXCategory s3.2.1] [])), (305, .r (.arr 1 [.fn 136 [.pt ((eS (eS eI)).b xg) 0, .pt ((eP eXCategory).b xc) 0, .pt ((eS eI).b xp) 0, .rp 153 0, .rp 152 0]] [153, 152])), (307, .r (.arr 1 [.fn 108 [.rp 151 0]] [151])), (321, .r (.arr 1 (((s3.1.flatMap eI.o).take (0 + xk.toNat * 1) ++ [iv y8] ++ (s3.1.flatMap eI.o).drop (0 + xk.toNat * 1 + 1)).take (0 + s3.2.2.toNat * 1) ++ [iv y9] ++ ((s3.1.flatMap eI.o).take (0 + xk.toNat * 1) ++ [iv y8] ++ (s3.1.flatMap eI.o).drop (0 + xk.toNat * 1 + 1)).drop (0 + s3.2.2.toNat * 1 + 1)) [])), (323, .r (.arr 1 [.rs 160 0 s3.1.length] [160])), (325, .r (.arr 1 [.fn 138 [.rp 152 0, .pt (eI.b xi) 0, .pt ((eS eI).b xa) 0]] [152])), (327, .r (.arr 1 [.fn 141 [.rp 161 0, .rp 162 0, .rp 163 0]] [161, 162, 163]))] (.cons hy8'.1 (.cons hy8'.2.1 (.cons (at_o0 eI_ok hy8'.2.2 (d := iv y8) (by kernel_rfl)) (.cons hy9'.1 (.cons hy9'.2.1 (.cons (at_o0 eI_ok hy9'.2.2 (d := iv y9) (by kernel_rfl)) (.cons hy9'.1 (.cons hy9'.2.1 (.cons (store_le eI_ok hy9'.2.2) (.cons hy8'.1 (.cons hy8'.2.1 (.cons (store_le2 eI_ok hy8'.2.2 (set_flat eI_ok.lenO (y := y8) hy9'.2.2)) .nil)))))))))))) (by kernel_rfl) (by kernel_rfl) ?_
        refine Tr.by (imp_cvE (r := 160) (sz := 1) (refs := []) (set2_flat eI_ok (w := y9) hy8'.2.2 (set_flat eI_ok.lenO (y := y8) hy9'.2.2)) (menO_flat eI_ok _) (by kernel_rfl)) ?_
        refine Tr.by (imp_cvB (r := 161) (sz := 1) (cells := [.rs 160 0 s3.1.length]) (cells' := [.rs 160 0 (((s3.1.set xk.toNat y8).set s3.2.2.toNat y9).length)]) (refs := [160]) (refs' := [160]) (.cons (Sub.of_eq (congrArg (D.rs 160 0) ((List.length_set.trans List.length_set).symm : s3.1.length = ((s3.1.set xk.toNat y8).set s3.2.2.toNat y9).length))) .nil) (by kernel_rfl) (by kernel_rfl) (by kernel_rfl)) ?_
        obtain ⟨v10, hv10, hM⟩ := bind_some' hM
        refine tr_srN hT hm [(3, .call [] [(160, 160), (161, 161), (162, 162), (163, 163), (151, 151), (152, 152), (153, 153)] [iv (IntKind.i64.wrap (xk + 1)), .rp 161 0, .rp 162 0, .rp 163 0] [(160, .arr 1 (v10.1.flatMap eI.o) []), (161, .arr 1 [.rs 160 0 v10.1.length] [160]), (162, .arr 1 [.fn 138 [.rp 152 0, .pt (eI.b xi) 0, .pt ((eS eI).b xa) 0]] [152]), (163, .arr 1 [.fn 141 [.rp 161 0, .rp 162 0, .rp 163 0]] [161, 162, 163]), (151, .arr 1 [optP eXCategory v10.2] []), (152, .arr 1 [.fn 136 [.pt ((eS (eS eI)).b xg) 0, .pt ((eP eXCategory).b xc) 0, .pt ((eS eI).b xp) 0, .rp 153 0, .rp 152 0]] [153, 152]), (153, .arr 1 [.fn 108 [.rp 151 0]] [151])] (.tup []))] [0, 2, 6, 10, 303, 305, 307, 321, 323, 325, 327] [(0, .d (iv xk)), (2, .d (.rp 161 0)), (6, .d (.rp 163 0)), (10, .d (iv s3.2.2)), (303, .r (.arr 1 [optP eXCategory v10.2] [])), (305, .r (.arr 1 [.fn 136 [.pt ((eS (eS eI)).b xg) 0, .pt ((eP eXCategory).b xc) 0, .pt ((eS eI).b xp) 0, .rp 153 0, .rp 152 0]] [153, 152])), (307, .r (.arr 1 [.fn 108 [.rp 151 0]] [151])), (321, .r (.arr 1 (v10.1.flatMap eI.o) [])), (323, .r (.arr 1 [.rs 160 0 v10.1.length] [160])), (325, .r (.arr 1 [.fn 138 [.rp 152 0, .pt (eI.b xi) 0, .pt ((eS eI).b xa) 0]] [152])), (327, .r (.arr 1 [.fn 141 [.rp 161 0, .rp 162 0, .rp 163 0]] [161, 162, 163]))] (cc (B := []) (ρ := [(160, 160), (161, 161), (162, 162), (163, 163), (151, 151), (152, 152), (153, 153)]) (rB := []) ok141 (ih xg xc xp xi xa xv hv (IntKind.i64.wrap (xk + 1)) ((s3.1.set xk.toNat y8).set s3.2.2.toNat y9) s3.2.1 _ hv10) (.cons (.same rfl) (.cons (.pass (.rp rfl)) (.cons (.pass (.rp rfl)) (.cons (.pass (.rp rfl)) .nil)))) (.inl rfl) .nil) (by kernel_rfl) (by kernel_rfl) ?_
        obtain ⟨y11, hy11, hM⟩ := bind_some' hM
        have hy11' := idx_some hy11
        obtain ⟨y12, hy12, hM⟩ := bind_some' hM
        have hy12' := idx_some hy12
        refine tr_rN hT hm [(7, .val (iv y11)), (11, .val (iv y12))] [0, 2, 6, 10, 303, 305, 307, 321, 323, 325, 327] [(0, .d (iv xk)), (2, .d (.rp 161 0)), (6, .d (.rp 163 0)), (10, .d (iv s3.2.2)), (303, .r (.arr 1 [optP eXCategory v10.2] [])), (305, .r (.arr 1 [.fn 136 [.pt ((eS (eS eI)).b xg) 0, .pt ((eP eXCategory).b xc) 0, .pt ((eS eI).b xp) 0, .rp 153 0, .rp 152 0]] [153, 152])), (307, .r (.arr 1 [.fn 108 [.rp 151 0]] [151])), (321, .r (.arr 1 (((v10.1.flatMap eI.o).take (0 + xk.toNat * 1) ++ [iv y11] ++ (v10.1.flatMap eI.o).drop (0 + xk.toNat * 1 + 1)).take (0 + s3.2.2.toNat * 1) ++ [iv y12] ++ ((v10.1.flatMap eI.o).take (0 + xk.toNat * 1) ++ [iv y11] ++ (v10.1.flatMap eI.o).drop (0 + xk.toNat * 1 + 1)).drop (0 + s3.2.2.toNat * 1 + 1)) [])), (323, .r (.arr 1 [.rs 160 0 v10.1.length] [160])), (325, .r (.arr 1 [.fn 138 [.rp 152 0, .pt (eI.b xi) 0, .pt ((eS eI).b xa) 0]] [152])), (327, .r (.arr 1 [.fn 141 [.rp 161 0, .rp 162 0, .rp 163 0]] [161, 162, 163]))] (.cons hy11'.1 (.cons hy11'.2.1 (.cons (at_o0 eI_ok hy11'.2.2 (d := iv y11) (by kernel_rfl)) (.cons hy12'.1 (.cons hy12'.2.1 (.cons (at_o0 eI_ok hy12'.2.2 (d := iv y12) (by kernel_rfl)) (.cons hy12'.1 (.cons hy12'.2.1 (.cons (store_le eI_ok hy12'.2.2) (.cons hy11'.1 (.cons hy11'.2.1 (.cons (store_le2 eI_ok hy11'.2.2 (set_flat eI_ok.lenO (y := y11) hy12'.2.2)) .nil)))))))))))) (by kernel_rfl) (by kernel_rfl) (b_n (q_n ?_))
        refine Tr.by (imp_cvE (r := 160) (sz := 1) (refs := []) (set2_flat eI_ok (w := y12) hy11'.2.2 (set_flat eI_ok.lenO (y := y11) hy12'.2.2)) (menO_flat eI_ok _) (by kernel_rfl)) ?_
        refine Tr.by (imp_cvB (r := 161) (sz := 1) (cells := [.rs 160 0 v10.1.length]) (cells' := [.rs 160 0 (((v10.1.set xk.toNat y11).set s3.2.2.toNat y12).length)]) (refs := [160]) (refs' := [160]) (.cons (Sub.of_eq (congrArg (D.rs 160 0) ((List.length_set.trans List.length_set).symm : v10.1.length = ((v10.1.set xk.toNat y11).set s3.2.2.toNat y12).length))) .nil) (by kernel_rfl) (by kernel_rfl) (by kernel_rfl)) ?_
        refine tr_rN hT hm [] [0, 2, 6, 10, 303, 305, 307, 321, 323, 325, 327] [(0, .d (iv xk)), (2, .d (.rp 161 0)), (6, .d (.rp 163 0)), (10, .d (iv (IntKind.i64.wrap (s3.2.2 + 1)))), (303, .r (.arr 1 [optP eXCategory v10.2] [])), (305, .r (.arr 1 [.fn 136 [.pt ((eS (eS eI)).b xg) 0, .pt ((eP eXCategory).b xc) 0, .pt ((eS eI).b xp) 0, .rp 153 0, .rp 152 0]] [153, 152])), (307, .r (.arr 1 [.fn 108 [.rp 151 0]] [151])), (321, .r (.arr 1 (((v10.1.set xk.toNat y11).set s3.2.2.toNat y12).flatMap eI.o) [])), (323, .r (.arr 1 [.rs 160 0 (((v10.1.set xk.toNat y11).set s3.2.2.toNat y12).length)] [160])), (325, .r (.arr 1 [.fn 138 [.rp 152 0, .pt (eI.b xi) 0, .pt ((eS eI).b xa) 0]] [152])), (327, .r (.arr 1 [.fn 141 [.rp 161 0, .rp 162 0, .rp 163 0]] [161, 162, 163]))] .nil (by kernel_rfl) (by kernel_rfl) (l_n ?_)
        exact trl_start (ks := [0, 2, 6, 10, 303, 305, 307, 321, 323, 325, 327]) (by kernel_rfl) (ih5 ((v10.1.set xk.toNat y11).set s3.2.2.toNat y12, v10.2, IntKind.i64.wrap (s3.2.2 + 1)) hM)
      · have hM := ite_false' hM h7
        refine tr_condFe (e := decide (s3.2.2 < (s3.1.length : Int))) h7 (by kernel_rfl) ?_
        refine tr_exit (q_x (l_x (b_h (rg_n ?_))))
        obtain rfl := Option.some.inj hM
        exact retg (names := [160, 161, 162, 163, 151, 152, 153]) .nil (by kernel_rfl)
theorem impl_permutations_1_B_c (xg : List (List Int)) (xc : XCategory) (xp : List Int) (xi : Int) (xa : List Int) (xv : List Int → Option XCategory → Option (Option XCategory)) (hv : ∀ (xl' : List Int) (xb' : Option XCategory) (r' : Option XCategory), xv xl' xb' = some r' → FnC Try.prog 138 [(160, .arr 1 (xl'.flatMap eI.o) []), (151, .arr 1 [optP eXCategory xb'] []), (152, .arr 1 [.fn 136 [.pt ((eS (eS eI)).b xg) 0, .pt ((eP eXCategory).b xc) 0, .pt ((eS eI).b xp) 0, .rp 153 0, .rp 152 0]] [153, 152]), (153, .arr 1 [.fn 108 [.rp 151 0]] [151])] [.rs 160 0 xl'.length, .rp 152 0, .pt (eI.b xi) 0, .pt ((eS eI).b xa) 0] [(160, .arr 1 (xl'.flatMap eI.o) []), (151, .arr 1 [optP eXCategory r'] []), (152, .arr 1 [.fn 136 [.pt ((eS (eS eI)).b xg) 0, .pt ((eP eXCategory).b xc) 0, .pt ((eS eI).b xp) 0, .rp 153 0, .rp 152 0]] [153, 152]), (153, .arr 1 [.fn 108 [.rp 151 0]] [151])] (.tup [])) (xk : Int) (xl : List Int) (xb : Option XCategory) (r : (List Int) × (Option XCategory)) (hM : M.impl_permutations_1_B xv xk xl xb = some r) :
    FnC Try.prog 141 [(160, .arr 1 (xl.flatMap eI.o) []), (161, .arr 1 [.rs 160 0 xl.length] [160]), (162, .arr 1 [.fn 138 [.rp 152 0, .pt (eI.b xi) 0, .pt ((eS eI).b xa) 0]] [152]), (163, .arr 1 [.fn 141 [.rp 161 0, .rp 162 0, .rp 163 0]] [161, 162, 163]), (151, .arr 1 [optP eXCategory xb] []), (152, .arr 1 [.fn 136 [.pt ((eS (eS eI)).b xg) 0, .pt ((eP eXCategory).b xc) 0, .pt ((eS eI).b xp) 0, .rp 153 0, .rp 152 0]] [153, 152]), (153, .arr 1 [.fn 108 [.rp 151 0]] [151])] [iv xk, .rp 161 0, .rp 162 0, .rp 163 0] [(160, .arr 1 (r.1.flatMap eI.o) []), (161, .arr 1 [.rs 160 0 r.1.length] [160]), (162, .arr 1 [.fn 138 [.rp 152 0, .pt (eI.b xi) 0, .pt ((eS eI).b xa) 0]] [152]), (163, .arr 1 [.fn 141 [.rp 161 0, .rp 162 0, .rp 163 0]] [161, 162, 163]), (151, .arr 1 [optP eXCategory r.2] []), (152, .arr 1 [.fn 136 [.pt ((eS (eS eI)).b xg) 0, .pt ((eP eXCategory).b xc) 0, .pt ((eS eI).b xp) 0, .rp 153 0, .rp 152 0]] [153, 152]), (153, .arr 1 [.fn 108 [.rp 151 0]] [151])] (.tup []) := impl_permutations_1_B_n_c fuel xg xc xp xi xa xv hv xk xl xb r hM
theorem impl_permutations_B_c (xg : List (List Int)) (xc : XCategory) (xp : List Int) (xi : Int) (xa : List Int) (xv : List Int → Option XCategory → Option (Option XCategory)) (hv : ∀ (xl' : List Int) (xb' : Option XCategory) (r' : Option XCategory), xv xl' xb' = some r' → FnC Try.prog 138 [(160, .arr 1 (xl'.flatMap eI.o) []), (151, .arr 1 [optP eXCategory xb'] []), (152, .arr 1 [.fn 136 [.pt ((eS (eS eI)).b xg) 0, .pt ((eP eXCategory).b xc) 0, .pt ((eS eI).b xp) 0, .rp 153 0, .rp 152 0]] [153, 152]), (153, .arr 1 [.fn 108 [.rp 151 0]] [151])] [.rs 160 0 xl'.length, .rp 152 0, .pt (eI.b xi) 0, .pt ((eS eI).b xa) 0] [(160, .arr 1 (xl'.flatMap eI.o) []), (151, .arr 1 [optP eXCategory r'] []), (152, .arr 1 [.fn 136 [.pt ((eS (eS eI)).b xg) 0, .pt ((eP eXCategory).b xc) 0, .pt ((eS eI).b xp) 0, .rp 153 0, .rp 152 0]] [153, 152]), (153, .arr 1 [.fn 108 [.rp 151 0]] [151])] (.tup [])) (xl : List Int) (xb : Option XCategory) (r : Option XCategory) (hM : M.impl_permutations_B xv xl xb = some r) :
    FnC Try.prog 131 [(160, .arr 1 (xl.flatMap eI.o) []), (151, .arr 1 [optP eXCategory xb] []), (152, .arr 1 [.fn 136 [.pt ((eS (eS eI)).b xg) 0, .pt ((eP eXCategory).b xc) 0, .pt ((eS eI).b xp) 0, .rp 153 0, .rp 152 0]] [153, 152]), (153, .arr 1 [.fn 108 [.rp 151 0]] [151])] [.rs 160 0 xl.length, .fn 138 [.rp 152 0, .pt (eI.b xi) 0, .pt ((eS eI).b xa) 0]] [(151, .arr 1 [optP eXCategory r] []), (152, .arr 1 [.fn 136 [.pt ((eS (eS eI)).b xg) 0, .pt ((eP eXCategory).b xc) 0, .pt ((eS eI).b xp) 0, .rp 153 0, .rp 152 0]] [153, 152]), (153, .arr 1 [.fn 108 [.rp 151 0]] [151])] (.tup []) := by
  refine fnc_startG (N := 8) (np := 161) hT Try.func131 rfl rfl (by kernel_rfl) ?_
  unfold M.impl_permutations_B at hM
  refine tr_start (ks := [0, 2, 303, 305, 307, 321]) (st' := [(0, .d (.rs 160 0 xl.length)), (2, .d (.fn 138 [.rp 152 0, .pt (eI.b xi) 0, .pt ((eS eI).b xa) 0])), (303, .r (.arr 1 [optP eXCategory xb] [])), (305, .r (.arr 1 [.fn 136 [.pt ((eS (eS eI)).b xg) 0, .pt ((eP eXCategory).b xc) 0, .pt ((eS eI).b xp) 0, .rp 153 0, .rp 152 0]] [153, 152])), (307, .r (.arr 1 [.fn 108 [.rp 151 0]] [151])), (321, .r (.arr 1 (xl.flatMap eI.o) []))]) (by kernel_rfl) ?_
  refine tr_sr hT hm [] [4, 6, 303, 305, 307, 321, 2005, 2007] [(4, .d (.rp 1002 0)), (6, .d (.rp 1003 0)), (303, .r (.arr 1 [optP eXCategory xb] [])), (305, .r (.arr 1 [.fn 136 [.pt ((eS (eS eI)).b xg) 0, .pt ((eP eXCategory).b xc) 0, .pt ((eS eI).b xp) 0, .rp 153 0, .rp 152 0]] [153, 152])), (307, .r (.arr 1 [.fn 108 [.rp 151 0]] [151])), (321, .r (.arr 1 (xl.flatMap eI.o) [])), (2005, .r (.arr 1 [.rs 160 0 xl.length] [160])), (2007, .r (.arr 1 [.fn 138 [.rp 152 0, .pt (eI.b xi) 0, .pt ((eS eI).b xa) 0]] [152]))] .nil (by kernel_rfl) (by kernel_rfl) ?_
  refine tr_sr hT hm [] [4, 6, 8, 303, 305, 307, 321, 2005, 2007, 2009] [(4, .d (.rp 1002 0)), (6, .d (.rp 1003 0)), (8, .d (.rp 1004 0)), (303, .r (.arr 1 [optP eXCategory xb] [])), (305, .r (.arr 1 [.fn 136 [.pt ((eS (eS eI)).b xg) 0, .pt ((eP eXCategory).b xc) 0, .pt ((eS eI).b xp) 0, .rp 153 0, .rp 152 0]] [153, 152])), (307, .r (.arr 1 [.fn 108 [.rp 151 0]] [151])), (321, .r (.arr 1 (xl.flatMap eI.o) [])), (2005, .r (.arr 1 [.rs 160 0 xl.length] [160])), (2007, .r (.arr 1 [.fn 138 [.rp 152 0, .pt (eI.b xi) 0, .pt ((eS eI).b xa) 0]] [152])), (2009, .r (.arr 1 [.v (.nilFunc)] []))] .nil (by kernel_rfl) (by kernel_rfl) ?_
  refine tr_sr hT hm [] [8, 303, 305, 307, 321, 2005, 2007, 2009] [(8, .d (.rp 1004 0)), (303, .r (.arr 1 [optP eXCategory xb] [])), (305, .r (.arr 1 [.fn 136 [.pt ((eS (eS eI)).b xg) 0, .pt ((eP eXCategory).b xc) 0, .pt ((eS eI).b xp) 0, .rp 153 0, .rp 152 0]] [153, 152])), (307, .r (.arr 1 [.fn 108 [.rp 151 0]] [151])), (321, .r (.arr 1 (xl.flatMap eI.o) [])), (2005, .r (.arr 1 [.rs 160 0 xl.length] [160])), (2007, .r (.arr 1 [.fn 138 [.rp 152 0, .pt (eI.b xi) 0, .pt ((eS eI).b xa) 0]] [152])), (2009, .r (.arr 1 [.fn 141 [.rp 1002 0, .rp 1003 0, .rp 1004 0]] [1002, 1003, 1004]))] (.cons (Nat.le_of_ble_eq_true (n := 1) (m := 1) rfl) .nil) (by kernel_rfl) (by kernel_rfl) ?_
  refine Tr.by (imp_rename (r := 1002) (q := 161) (by kernel_rfl) (Nat.le_of_ble_eq_true rfl)) ?_
  refine Tr.by (imp_rename (r := 1003) (q := 162) (by kernel_rfl) (Nat.le_of_ble_eq_true rfl)) ?_
  refine Tr.by (imp_rename (r := 1004) (q := 163) (by kernel_rfl) (Nat.le_of_ble_eq_true rfl)) ?_
  obtain ⟨v1, hv1, hM⟩ := bind_some' hM
  refine tr_r hT hm [(1, .call [] [(160, 160), (161, 161), (162, 162), (163, 163), (151, 151), (152, 152), (153, 153)] [iv 0, .rp 161 0, .rp 162 0, .rp 163 0] [(160, .arr 1 (v1.1.flatMap eI.o) []), (161, .arr 1 [.rs 160 0 v1.1.length] [160]), (162, .arr 1 [.fn 138 [.rp 152 0, .pt (eI.b xi) 0, .pt ((eS eI).b xa) 0]] [152]), (163, .arr 1 [.fn 141 [.rp 161 0, .rp 162 0, .rp 163 0]] [161, 162, 163]), (151, .arr 1 [optP eXCategory v1.2] []), (152, .arr 1 [.fn 136 [.pt ((eS (eS eI)).b xg) 0, .pt ((eP eXCategory).b xc) 0, .pt ((eS eI).b xp) 0, .rp 153 0, .rp 152 0]] [153, 152]), (153, .arr 1 [.fn 108 [.rp 151 0]] [151])] (.tup []))] [303, 305, 307] [(303, .r (.arr 1 [optP eXCategory v1.2] [])), (305, .r (.arr 1 [.fn 136 [.pt ((eS (eS eI)).b xg) 0, .pt ((eP eXCategory).b xc) 0, .pt ((eS eI).b xp) 0, .rp 153 0, .rp 152 0]] [153, 152])), (307, .r (.arr 1 [.fn 108 [.rp 151 0]] [151]))] (cc (B := []) (ρ := [(160, 160), (161, 161), (162, 162), (163, 163), (151, 151), (152, 152), (153, 153)]) (rB := []) ok141 (impl_permutations_1_B_c xg xc xp xi xa xv hv 0 xl xb _ hv1) (.cons (.same rfl) (.cons (.pass (.rp rfl)) (.cons (.pass (.rp rfl)) (.cons (.pass (.rp rfl)) .nil)))) (.inl rfl) .nil) (by kernel_rfl) (by kernel_rfl) (rg_n ?_)
  obtain rfl := Option.some.inj hM
  exact retg (names := [151, 152, 153]) .nil (by kernel_rfl)
end Go.Proofs.Ythafadgnjkmfkaa.WzT
