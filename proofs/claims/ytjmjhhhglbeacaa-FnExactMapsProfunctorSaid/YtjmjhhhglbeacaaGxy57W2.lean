/- Walks. Printed by wip/gen. -/
import Derived.Test.YtjmjhhhglbeacaaGxy57W1
namespace Go.Proofs.Ytjmjhhhglbeacaa.Wy57
open Go.Gx Go.Proofs.Ytjmjhhhglbeacaa.WvB Go.Proofs.Ytjmjhhhglbeacaa.WvS Go.Proofs.Ytjmjhhhglbeacaa.WvQ Go.Proofs.Ytjmjhhhglbeacaa.WyG Go.Proofs.Ytjmjhhhglbeacaa.WvH

theorem ok160 : CallOk Try.prog 160 := callOk_of Try.func160 (by kernel_rfl) (by kernel_rfl)
theorem impl_mapCount_c (a0 : Int) (a1 : Int) (r : Int) (hM : M.impl_mapCount a0 a1 = some r) :
    FnC Try.prog 160 [] [iv a0, iv a1] [] (iv r) := by
  refine fnc_startG (N := 15) (np := 500) hT Try.func160 rfl rfl (by kernel_rfl) ?_
  unfold M.impl_mapCount at hM
  refine tr_start (ks := [0, 2]) (st' := [(0, .d (iv a0)), (2, .d (iv a1))]) (by kernel_rfl) ?_
  refine tr_sr hT hm [] [0, 2] [(0, .d (iv a0)), (2, .d (iv a1))] .nil (by kernel_rfl) (by kernel_rfl) ?_
  refine tr_sr hT hm [] [0, 2, 10] [(0, .d (iv a0)), (2, .d (iv a1)), (10, .d (iv 1))] .nil (by kernel_rfl) (by kernel_rfl) ?_
  refine tr_seq ?_
  refine tr_block ?_
  refine tr_iterS (fun (s1 : Int × Int) => [(0, .d (iv s1.1)), (2, .d (iv a1)), (10, .d (iv s1.2))]) (a0, 1) [0, 2, 10] (by kernel_rfl) hM ?_
  intro n4 next2 ih3 s1 hM
  refine tr_seq ?_
  refine tr_sr hT hm [] [0, 2, 10, 14] [(0, .d (iv s1.1)), (2, .d (iv a1)), (10, .d (iv s1.2)), (14, .d (bv (decide (s1.1 > 0))))] .nil (by kernel_rfl) (by kernel_rfl) ?_
  rcases Bool.eq_false_or_eq_true (decide (s1.1 > 0)) with h5 | h5
  · have hM := ite_true' hM h5
    refine tr_condTe (e := decide (s1.1 > 0)) h5 (by kernel_rfl) ?_
    refine tr_skip (q_n ?_)
    refine tr_seq ?_
    refine tr_block ?_
    refine tr_r hT hm [] [0, 2, 10] [(0, .d (iv s1.1)), (2, .d (iv a1)), (10, .d (iv (if (65 : Int) < (IntKind.i64.wrap (s1.2 * a1)) then 65 else (IntKind.i64.wrap (s1.2 * a1)))))] .nil (by kernel_rfl) (by kernel_rfl) (b_n (q_n ?_))
    refine tr_r hT hm [] [0, 2, 10] [(0, .d (iv (IntKind.i64.wrap (s1.1 - 1)))), (2, .d (iv a1)), (10, .d (iv (if (65 : Int) < (IntKind.i64.wrap (s1.2 * a1)) then 65 else (IntKind.i64.wrap (s1.2 * a1)))))] .nil (by kernel_rfl) (by kernel_rfl) (l_n ?_)
    exact trl_start (ks := [0, 2, 10]) (by kernel_rfl) (ih3 (IntKind.i64.wrap (s1.1 - 1), if (65 : Int) < (IntKind.i64.wrap (s1.2 * a1)) then 65 else (IntKind.i64.wrap (s1.2 * a1))) hM)
  · have hM := ite_false' hM h5
    refine tr_condFe (e := decide (s1.1 > 0)) h5 (by kernel_rfl) ?_
    refine tr_exit (q_x (l_x (b_h (q_n ?_))))
    refine tr_sr hT hm [] [8] [(8, .d (iv s1.2))] .nil (by kernel_rfl) (by kernel_rfl) ?_
    refine tr_ret (rg_r ?_)
    obtain rfl := Option.some.inj hM
    exact retg (names := []) .nil (by kernel_rfl)

theorem ok162 : CallOk Try.prog 162 := callOk_of Try.func162 (by kernel_rfl) (by kernel_rfl)
theorem impl_mapNumber_c (a0 : List Int) (a1 : Int) (r : Int) (hM : M.impl_mapNumber a0 a1 = some r) :
    FnC Try.prog 162 [] [.sl a0.length 0 (a0.flatMap eI.b), iv a1] [] (iv r) := by
  refine fnc_startG (N := 21) (np := 500) hT Try.func162 rfl rfl (by kernel_rfl) ?_
  unfold M.impl_mapNumber at hM
  refine tr_start (ks := [0, 2]) (st' := [(0, .d (.sl a0.length 0 (a0.flatMap eI.b))), (2, .d (iv a1))]) (by kernel_rfl) ?_
  refine tr_sr hT hm [] [0, 2] [(0, .d (.sl a0.length 0 (a0.flatMap eI.b))), (2, .d (iv a1))] .nil (by kernel_rfl) (by kernel_rfl) ?_
  refine tr_sr hT hm [] [0, 2, 10] [(0, .d (.sl a0.length 0 (a0.flatMap eI.b))), (2, .d (iv a1)), (10, .d (iv 0))] .nil (by kernel_rfl) (by kernel_rfl) ?_
  refine tr_seq ?_
  refine tr_sr hT hm [] [2, 10, 16, 18, 20] [(2, .d (iv a1)), (10, .d (iv 0)), (16, .d (.sl a0.length 0 (a0.flatMap eI.b))), (18, .d (iv (a0.length : Int))), (20, .d (iv 0))] .nil (by kernel_rfl) (by kernel_rfl) ?_
  refine tr_block ?_
  refine tr_iterS (fun (s1 : Int × Int) => [(2, .d (iv a1)), (10, .d (iv s1.2)), (16, .d (.sl a0.length 0 (a0.flatMap eI.b))), (18, .d (iv (a0.length : Int))), (20, .d (iv s1.1))]) (0, 0) [2, 10, 16, 18, 20] (by kernel_rfl) hM ?_
  intro n4 next2 ih3 s1 hM
  refine tr_sr hT hm [] [2, 10, 16, 18, 20, 22] [(2, .d (iv a1)), (10, .d (iv s1.2)), (16, .d (.sl a0.length 0 (a0.flatMap eI.b))), (18, .d (iv (a0.length : Int))), (20, .d (iv s1.1)), (22, .d (bv (decide (s1.1 < (a0.length : Int)))))] .nil (by kernel_rfl) (by kernel_rfl) ?_
  refine tr_seq ?_
  rcases Bool.eq_false_or_eq_true (decide (s1.1 < (a0.length : Int))) with h5 | h5
  · have hM := ite_true' hM h5
    refine tr_condTe (e := decide (s1.1 < (a0.length : Int))) h5 (by kernel_rfl) ?_
    refine tr_skip (q_n ?_)
    refine tr_seq ?_
    refine tr_block ?_
    obtain ⟨y6, hy6, hM⟩ := bind_some' hM
    have hy6' := idx_some hy6
    refine tr_sr hT hm [(1, .val (iv y6))] [2, 10, 14, 16, 18, 20] [(2, .d (iv a1)), (10, .d (iv s1.2)), (14, .d (iv y6)), (16, .d (.sl a0.length 0 (a0.flatMap eI.b))), (18, .d (iv (a0.length : Int))), (20, .d (iv s1.1))] (.cons hy6'.1 (.cons hy6'.2.1 (.cons (at_b0 eI_ok hy6'.2.2 (d := iv y6) (by kernel_rfl)) .nil))) (by kernel_rfl) (by kernel_rfl) ?_
    refine tr_r hT hm [] [2, 10, 16, 18, 20] [(2, .d (iv a1)), (10, .d (iv (IntKind.i64.wrap ((IntKind.i64.wrap (s1.2 * a1)) + y6)))), (16, .d (.sl a0.length 0 (a0.flatMap eI.b))), (18, .d (iv (a0.length : Int))), (20, .d (iv s1.1))] .nil (by kernel_rfl) (by kernel_rfl) (b_n (q_n ?_))
    refine tr_r hT hm [] [2, 10, 16, 18, 20] [(2, .d (iv a1)), (10, .d (iv (IntKind.i64.wrap ((IntKind.i64.wrap (s1.2 * a1)) + y6)))), (16, .d (.sl a0.length 0 (a0.flatMap eI.b))), (18, .d (iv (a0.length : Int))), (20, .d (iv (IntKind.i64.wrap (s1.1 + 1))))] .nil (by kernel_rfl) (by kernel_rfl) (l_n ?_)
    exact trl_start (ks := [2, 10, 16, 18, 20]) (by kernel_rfl) (ih3 (IntKind.i64.wrap (s1.1 + 1), IntKind.i64.wrap ((IntKind.i64.wrap (s1.2 * a1)) + y6)) hM)
  · have hM := ite_false' hM h5
    refine tr_condFe (e := decide (s1.1 < (a0.length : Int))) h5 (by kernel_rfl) ?_
    refine tr_exit (q_x (l_x (b_h (q_n ?_))))
    refine tr_sr hT hm [] [8] [(8, .d (iv s1.2))] .nil (by kernel_rfl) (by kernel_rfl) ?_
    refine tr_ret (rg_r ?_)
    obtain rfl := Option.some.inj hM
    exact retg (names := []) .nil (by kernel_rfl)

theorem ok164 : CallOk Try.prog 164 := callOk_of Try.func164 (by kernel_rfl) (by kernel_rfl)
theorem impl_mapAt_c (a0 : Int) (a1 : Int) (a2 : Int) (r : (List Int)) (hM : M.impl_mapAt a0 a1 a2 = some r) :
    FnC Try.prog 164 [] [iv a0, iv a1, iv a2] [] (.fr 1 r.length (r.flatMap eI.o)) := by
  refine fnc_startG (N := 27) (np := 500) hT Try.func164 rfl rfl (by kernel_rfl) ?_
  unfold M.impl_mapAt at hM
  refine tr_start (ks := [0, 2, 4]) (st' := [(0, .d (iv a0)), (2, .d (iv a1)), (4, .d (iv a2))]) (by kernel_rfl) ?_
  refine tr_sr hT hm [] [0, 2, 4] [(0, .d (iv a0)), (2, .d (iv a1)), (4, .d (iv a2))] .nil (by kernel_rfl) (by kernel_rfl) ?_
  obtain ⟨h1, hM⟩ := chk_some hM
  refine tr_sr hT hm [] [0, 2, 4, 14, 2021] [(0, .d (iv a0)), (2, .d (iv a1)), (4, .d (iv a2)), (14, .d (.rs 1010 0 a0.toNat)), (2021, .r (.arr 1 (repl a0.toNat [.int .i64 0]) []))] (.cons h1.1 (.cons (Int.le_refl a0) (.cons h1.2 .nil))) (by kernel_rfl) (by kernel_rfl) ?_
  refine Tr.by (imp_cvE (r := 1010) (sz := 1) (refs := []) (repl_flat (f := eI.o) (zs := [.int .i64 0]) (z := (0 : Int)) rfl a0.toNat) (menO_flat eI_ok _) (by kernel_rfl)) ?_
  refine Tr.by (imp_cvD (k := 14) (congrArg (D.rs 1010 0) (List.length_replicate.symm : a0.toNat = (List.replicate a0.toNat (0 : Int)).length)) (by kernel_rfl)) ?_
  refine tr_seq ?_
  refine tr_sr hT hm [] [2, 4, 14, 16, 2021] [(2, .d (iv a1)), (4, .d (iv a2)), (14, .d (.rs 1010 0 ((List.replicate a0.toNat (0 : Int)).length))), (16, .d (iv (IntKind.i64.wrap (a0 - 1)))), (2021, .r (.arr 1 ((List.replicate a0.toNat (0 : Int)).flatMap eI.o) []))] .nil (by kernel_rfl) (by kernel_rfl) ?_
  refine tr_block ?_
  refine tr_iterS (fun (s2 : (List Int) × Int × Int) => [(2, .d (iv a1)), (4, .d (iv s2.2.1)), (14, .d (.rs 1010 0 s2.1.length)), (16, .d (iv s2.2.2)), (2021, .r (.arr 1 (s2.1.flatMap eI.o) []))]) ((List.replicate a0.toNat (0 : Int)), a2, IntKind.i64.wrap (a0 - 1)) [2, 4, 14, 16, 2021] (by kernel_rfl) hM ?_
  intro n5 next3 ih4 s2 hM
  refine tr_seq ?_
  refine tr_sr hT hm [] [2, 4, 14, 16, 28, 2021] [(2, .d (iv a1)), (4, .d (iv s2.2.1)), (14, .d (.rs 1010 0 s2.1.length)), (16, .d (iv s2.2.2)), (28, .d (bv (decide (s2.2.2 ≥ 0)))), (2021, .r (.arr 1 (s2.1.flatMap eI.o) []))] .nil (by kernel_rfl) (by kernel_rfl) ?_
  rcases Bool.eq_false_or_eq_true (decide (s2.2.2 ≥ 0)) with h6 | h6
  · have hM := ite_true' hM h6
    refine tr_condTe (e := decide (s2.2.2 ≥ 0)) h6 (by kernel_rfl) ?_
    refine tr_skip (q_n ?_)
    refine tr_seq ?_
    refine tr_block ?_
    obtain ⟨h7, hM⟩ := chk_some hM
    obtain ⟨y8, hy8, hM⟩ := bind_some' hM
    have hy8' := idx_some hy8
    refine tr_sr hT hm [] [2, 4, 14, 16, 2021] [(2, .d (iv a1)), (4, .d (iv s2.2.1)), (14, .d (.rs 1010 0 s2.1.length)), (16, .d (iv s2.2.2)), (2021, .r (.arr 1 ((s2.1.flatMap eI.o).take (0 + s2.2.2.toNat * 1) ++ [iv (s2.2.1.tmod a1)] ++ (s2.1.flatMap eI.o).drop (0 + s2.2.2.toNat * 1 + 1)) []))] (.cons h7 (.cons hy8'.1 (.cons hy8'.2.1 (.cons (store_le eI_ok hy8'.2.2) .nil)))) (by kernel_rfl) (by kernel_rfl) ?_
    refine Tr.by (imp_cvE (r := 1010) (sz := 1) (refs := []) (set_flat eI_ok.lenO (y := s2.2.1.tmod a1) hy8'.2.2) (menO_flat eI_ok _) (by kernel_rfl)) ?_
    refine Tr.by (imp_cvD (k := 14) (congrArg (D.rs 1010 0) (List.length_set.symm : s2.1.length = (s2.1.set s2.2.2.toNat (s2.2.1.tmod a1)).length)) (by kernel_rfl)) ?_
    refine tr_r hT hm [] [2, 4, 14, 16, 2021] [(2, .d (iv a1)), (4, .d (iv (IntKind.i64.wrap (s2.2.1.tdiv a1)))), (14, .d (.rs 1010 0 ((s2.1.set s2.2.2.toNat (s2.2.1.tmod a1)).length))), (16, .d (iv s2.2.2)), (2021, .r (.arr 1 ((s2.1.set s2.2.2.toNat (s2.2.1.tmod a1)).flatMap eI.o) []))] (.cons h7 .nil) (by kernel_rfl) (by kernel_rfl) (b_n (q_n ?_))
    refine tr_r hT hm [] [2, 4, 14, 16, 2021] [(2, .d (iv a1)), (4, .d (iv (IntKind.i64.wrap (s2.2.1.tdiv a1)))), (14, .d (.rs 1010 0 ((s2.1.set s2.2.2.toNat (s2.2.1.tmod a1)).length))), (16, .d (iv (IntKind.i64.wrap (s2.2.2 - 1)))), (2021, .r (.arr 1 ((s2.1.set s2.2.2.toNat (s2.2.1.tmod a1)).flatMap eI.o) []))] .nil (by kernel_rfl) (by kernel_rfl) (l_n ?_)
    exact trl_start (ks := [2, 4, 14, 16, 2021]) (by kernel_rfl) (ih4 (s2.1.set s2.2.2.toNat (s2.2.1.tmod a1), IntKind.i64.wrap (s2.2.1.tdiv a1), IntKind.i64.wrap (s2.2.2 - 1)) hM)
  · have hM := ite_false' hM h6
    refine tr_condFe (e := decide (s2.2.2 ≥ 0)) h6 (by kernel_rfl) ?_
    refine tr_exit (q_x (l_x (b_h (q_n ?_))))
    refine tr_sr hT hm [] [12, 2021] [(12, .d (.rs 1010 0 s2.1.length)), (2021, .r (.arr 1 (s2.1.flatMap eI.o) []))] .nil (by kernel_rfl) (by kernel_rfl) ?_
    refine tr_ret (rg_r ?_)
    obtain rfl := Option.some.inj hM
    exact retg (names := []) (.cons (lenO_flat eI_ok s2.1) .nil) (by kernel_rfl)

theorem ok159 : CallOk Try.prog 159 := callOk_of Try.func159 (by kernel_rfl) (by kernel_rfl)
theorem impl_MapsProfunctor_1_c (a0 : Int) (a1 : Int) (a2 : XSetFunctor) (a3 : XSetFunctor) (r : Int) (hM : M.impl_MapsProfunctor_1 a0 a1 a2 a3 = some r) :
    FnC Try.prog 159 [] [iv a0, iv a1, .pt (eXSetFunctor.b a2) 0, .pt (eXSetFunctor.b a3) 0] [] (iv r) := by
  refine fnc_startG (N := 18) (np := 500) hT Try.func159 rfl rfl (by kernel_rfl) ?_
  unfold M.impl_MapsProfunctor_1 at hM
  refine tr_start (ks := [0, 2, 4, 6]) (st' := [(0, .d (iv a0)), (2, .d (iv a1)), (4, .d (.pt (eXSetFunctor.b a2) 0)), (6, .d (.pt (eXSetFunctor.b a3) 0))]) (by kernel_rfl) ?_
  refine tr_sr hT hm [] [0, 2, 4, 6] [(0, .d (iv a0)), (2, .d (iv a1)), (4, .d (.pt (eXSetFunctor.b a2) 0)), (6, .d (.pt (eXSetFunctor.b a3) 0))] .nil (by kernel_rfl) (by kernel_rfl) ?_
  obtain ⟨y1, hy1, hM⟩ := bind_some' hM
  have hy1' := idx_some hy1
  obtain ⟨y2, hy2, hM⟩ := bind_some' hM
  have hy2' := idx_some hy2
  obtain ⟨v3, hv3, hM⟩ := bind_some' hM
  refine tr_sr hT hm [(4, .val (iv y1)), (9, .val (iv y2)), (10, .call [] [] [iv y1, iv y2] [] (iv v3))] [12] [(12, .d (iv v3))] (.cons hy1'.1 (.cons hy1'.2.1 (.cons (at_b0 eI_ok hy1'.2.2 (d := iv y1) (by kernel_rfl)) (.cons hy2'.1 (.cons hy2'.2.1 (.cons (at_b0 eI_ok hy2'.2.2 (d := iv y2) (by kernel_rfl)) (cc0 ok160 (impl_mapCount_c y1 y2 _ hv3) (by kernel_rfl) .nil))))))) (by kernel_rfl) (by kernel_rfl) ?_
  refine tr_ret (rg_r ?_)
  obtain rfl := Option.some.inj hM
  exact retg (names := []) .nil (by kernel_rfl)

theorem ok161 : CallOk Try.prog 161 := callOk_of Try.func161 (by kernel_rfl) (by kernel_rfl)
theorem impl_MapsProfunctor_2_c (a0 : Int) (a1 : Int) (a2 : XSetFunctor) (a3 : XSetFunctor) (r : (List Int)) (hM : M.impl_MapsProfunctor_2 a0 a1 a2 a3 = some r) :
    FnC Try.prog 161 [] [iv a0, iv a1, .pt (eXSetFunctor.b a2) 0, .pt (eXSetFunctor.b a3) 0] [] (.fr 1 r.length (r.flatMap eI.o)) := by
  refine fnc_startG (N := 50) (np := 500) hT Try.func161 rfl rfl (by kernel_rfl) ?_
  unfold M.impl_MapsProfunctor_2 at hM
  refine tr_start (ks := [0, 2, 4, 6]) (st' := [(0, .d (iv a0)), (2, .d (iv a1)), (4, .d (.pt (eXSetFunctor.b a2) 0)), (6, .d (.pt (eXSetFunctor.b a3) 0))]) (by kernel_rfl) ?_
  refine tr_sr hT hm [] [0, 2, 4, 6] [(0, .d (iv a0)), (2, .d (iv a1)), (4, .d (.pt (eXSetFunctor.b a2) 0)), (6, .d (.pt (eXSetFunctor.b a3) 0))] .nil (by kernel_rfl) (by kernel_rfl) ?_
  refine tr_sr hT hm [] [0, 2, 4, 6, 14, 2023] [(0, .d (iv a0)), (2, .d (iv a1)), (4, .d (.pt (eXSetFunctor.b a2) 0)), (6, .d (.pt (eXSetFunctor.b a3) 0)), (14, .d (.rs 1011 0 (([] : List Int).length))), (2023, .r (.arr 1 (([] : List Int).flatMap eI.o) []))] .nil (by kernel_rfl) (by kernel_rfl) ?_
  obtain ⟨y1, hy1, hM⟩ := bind_some' hM
  have hy1' := idx_some hy1
  obtain ⟨y2, hy2, hM⟩ := bind_some' hM
  have hy2' := idx_some hy2
  obtain ⟨y3, hy3, hM⟩ := bind_some' hM
  have hy3' := idx_some hy3
  refine tr_sr hT hm [(7, .val (iv y1)), (9, .val (iv y2)), (14, .val (iv y3))] [0, 4, 14, 16, 18, 2023] [(0, .d (iv a0)), (4, .d (.pt (eXSetFunctor.b a2) 0)), (14, .d (.rs 1011 0 (([] : List Int).length))), (16, .d (iv y2)), (18, .d (iv y3)), (2023, .r (.arr 1 (([] : List Int).flatMap eI.o) []))] (.cons hy1'.1 (.cons hy1'.2.1 (.cons (at_b0 eI_ok hy1'.2.2 (d := iv y1) (by kernel_rfl)) (.cons hy2'.1 (.cons hy2'.2.1 (.cons (at_b0 eI_ok hy2'.2.2 (d := iv y2) (by kernel_rfl)) (.cons hy3'.1 (.cons hy3'.2.1 (.cons (at_b0 eI_ok hy3'.2.2 (d := iv y3) (by kernel_rfl)) .nil))))))))) (by kernel_rfl) (by kernel_rfl) ?_
  refine tr_seq ?_
  obtain ⟨v4, hv4, hM⟩ := bind_some' hM
  refine tr_sr hT hm [(2, .call [] [] [iv y2, iv y3] [] (iv v4))] [0, 4, 14, 16, 18, 58, 60, 2023] [(0, .d (iv a0)), (4, .d (.pt (eXSetFunctor.b a2) 0)), (14, .d (.rs 1011 0 (([] : List Int).length))), (16, .d (iv y2)), (18, .d (iv y3)), (58, .d (iv v4)), (60, .d (iv 0)), (2023, .r (.arr 1 (([] : List Int).flatMap eI.o) []))] (cc0 ok160 (impl_mapCount_c y2 y3 _ hv4) (by kernel_rfl) .nil) (by kernel_rfl) (by kernel_rfl) ?_
  refine tr_block ?_
  refine tr_iterS (fun (s5 : (List Int) × Int) => [(0, .d (iv a0)), (4, .d (.pt (eXSetFunctor.b a2) 0)), (14, .d (.rs 1011 0 s5.1.length)), (16, .d (iv y2)), (18, .d (iv y3)), (58, .d (iv v4)), (60, .d (iv s5.2)), (2023, .r (.arr 1 (s5.1.flatMap eI.o) []))]) (([] : List Int), 0) [0, 4, 14, 16, 18, 58, 60, 2023] (by kernel_rfl) hM ?_
  intro n8 next6 ih7 s5 hM
  refine tr_sr hT hm [] [0, 4, 14, 16, 18, 58, 60, 62, 2023] [(0, .d (iv a0)), (4, .d (.pt (eXSetFunctor.b a2) 0)), (14, .d (.rs 1011 0 s5.1.length)), (16, .d (iv y2)), (18, .d (iv y3)), (58, .d (iv v4)), (60, .d (iv s5.2)), (62, .d (bv (decide (s5.2 < v4)))), (2023, .r (.arr 1 (s5.1.flatMap eI.o) []))] .nil (by kernel_rfl) (by kernel_rfl) ?_
  refine tr_seq ?_
  rcases Bool.eq_false_or_eq_true (decide (s5.2 < v4)) with h9 | h9
  · have hM := ite_true' hM h9
    refine tr_condTe (e := decide (s5.2 < v4)) h9 (by kernel_rfl) ?_
    refine tr_skip (q_n ?_)
    refine tr_seq ?_
    refine tr_block ?_
    refine tr_sr hT hm [] [0, 4, 14, 16, 18, 20, 58, 60, 2023] [(0, .d (iv a0)), (4, .d (.pt (eXSetFunctor.b a2) 0)), (14, .d (.rs 1011 0 s5.1.length)), (16, .d (iv y2)), (18, .d (iv y3)), (20, .d (iv s5.2)), (58, .d (iv v4)), (60, .d (iv s5.2)), (2023, .r (.arr 1 (s5.1.flatMap eI.o) []))] .nil (by kernel_rfl) (by kernel_rfl) ?_
    obtain ⟨y10, hy10, hM⟩ := bind_some' hM
    have hy10' := idx_some hy10
    obtain ⟨v11, hv11, hM⟩ := bind_some' hM
    obtain ⟨v12, hv12, hM⟩ := bind_some' hM
    obtain ⟨v13, hv13, hM⟩ := bind_some' hM
    obtain ⟨h14, hM⟩ := chk_some hM
    refine tr_r hT hm [(5, .val (.sl y10.length 0 (y10.flatMap eI.b))), (9, .call [] [] [iv y2, iv y3, iv s5.2] [] (.fr 1 v11.length (v11.flatMap eI.o))), (10, .call [44000] [] [.sl y10.length 0 (y10.flatMap eI.b), .sl v11.length 0 (v11.flatMap eI.b)] [] (.fr 1 v12.length (v12.flatMap eI.o))), (12, .call [45000] [] [.sl v12.length 0 (v12.flatMap eI.b), iv y3] [] (iv v13)), (14, .app true)] [0, 4, 14, 16, 18, 58, 60, 2095] [(0, .d (iv a0)), (4, .d (.pt (eXSetFunctor.b a2) 0)), (14, .d (.rs 1047 0 (s5.1.length + (([v13] : List Int).length)))), (16, .d (iv y2)), (18, .d (iv y3)), (58, .d (iv v4)), (60, .d (iv s5.2)), (2095, .r (.arr 1 (s5.1.flatMap eI.o ++ ([v13] : List Int).flatMap eI.o) []))] (.cons hy10'.1 (.cons hy10'.2.1 (.cons (at_b0 (eS_ok eI_ok) hy10'.2.2 (d := .sl y10.length 0 (y10.flatMap eI.b)) (by kernel_rfl)) (cc0 ok164 (impl_mapAt_c y2 y3 s5.2 _ hv11) (by kernel_rfl) (cc (B := [44000]) (ρ := []) (rB := [(44000, .arr 1 (v11.flatMap eI.o) [])]) ok163 (impl_then_c y10 v11 _ hv12) (.cons (.same rfl) (.cons (.of1 (.rs (r := 44000) (sz := 1) (refs := []) (memB (by kernel_rfl)) (by kernel_rfl) (bor_flat eI_ok _ _ _))) .nil)) (.inr ⟨(.fr (nb_flat eI_nb _)), trivial⟩) (cc (B := [45000]) (ρ := []) (rB := [(45000, .arr 1 (v12.flatMap eI.o) [])]) ok162 (impl_mapNumber_c v12 y3 _ hv13) (.cons (.of1 (.rs (r := 45000) (sz := 1) (refs := []) (memB (by kernel_rfl)) (by kernel_rfl) (bor_flat eI_ok _ _ _))) (.cons (.same rfl) .nil)) (.inr ⟨.v, trivial⟩) (.cons (lenO_flat eI_ok s5.1) (.cons (lenO_flat eI_ok ([v13] : List Int)) (.cons h14 .nil))))))))) (by kernel_rfl) (by kernel_rfl) (b_n (q_n ?_))
    refine Tr.by (imp_cvE (r := 1047) (sz := 1) (refs := []) (flat_app eI.o s5.1 ([v13] : List Int)) (menO_flat eI_ok _) (by kernel_rfl)) ?_
    refine Tr.by (imp_cvD (k := 14) (congrArg (D.rs 1047 0) ((len_app s5.1 ([v13] : List Int)) : s5.1.length + (([v13] : List Int).length) = (s5.1 ++ ([v13] : List Int)).length)) (by kernel_rfl)) ?_
    refine tr_r hT hm [] [0, 4, 14, 16, 18, 58, 60, 2095] [(0, .d (iv a0)), (4, .d (.pt (eXSetFunctor.b a2) 0)), (14, .d (.rs 1047 0 ((s5.1 ++ ([v13] : List Int)).length))), (16, .d (iv y2)), (18, .d (iv y3)), (58, .d (iv v4)), (60, .d (iv (IntKind.i64.wrap (s5.2 + 1)))), (2095, .r (.arr 1 ((s5.1 ++ ([v13] : List Int)).flatMap eI.o) []))] .nil (by kernel_rfl) (by kernel_rfl) (l_n ?_)
    refine TrL.by (imp_sel (ks := [0, 4, 14, 16, 18, 58, 60, 2095]) (st' := [(0, .d (iv a0)), (4, .d (.pt (eXSetFunctor.b a2) 0)), (14, .d (.rs 1047 0 ((s5.1 ++ ([v13] : List Int)).length))), (16, .d (iv y2)), (18, .d (iv y3)), (58, .d (iv v4)), (60, .d (iv (IntKind.i64.wrap (s5.2 + 1)))), (2095, .r (.arr 1 ((s5.1 ++ ([v13] : List Int)).flatMap eI.o) []))]) (by kernel_rfl)) ?_
    refine TrL.by (imp_rename (r := 1047) (q := 1011) (by kernel_rfl) (Nat.le_of_ble_eq_true rfl)) ?_
    exact trl_start (ks := [0, 4, 14, 16, 18, 58, 60, 2023]) (by kernel_rfl) (ih7 (s5.1 ++ ([v13] : List Int), IntKind.i64.wrap (s5.2 + 1)) hM)
  · have hM := ite_false' hM h9
    refine tr_condFe (e := decide (s5.2 < v4)) h9 (by kernel_rfl) ?_
    refine tr_exit (q_x (l_x (b_h (q_n ?_))))
    refine tr_sr hT hm [] [12, 2023] [(12, .d (.rs 1011 0 s5.1.length)), (2023, .r (.arr 1 (s5.1.flatMap eI.o) []))] .nil (by kernel_rfl) (by kernel_rfl) ?_
    refine tr_ret (rg_r ?_)
    obtain rfl := Option.some.inj hM
    exact retg (names := []) (.cons (lenO_flat eI_ok s5.1) .nil) (by kernel_rfl)

theorem ok165 : CallOk Try.prog 165 := callOk_of Try.func165 (by kernel_rfl) (by kernel_rfl)
theorem impl_MapsProfunctor_3_c (a0 : Int) (a1 : Int) (a2 : XSetFunctor) (a3 : XSetFunctor) (r : (List Int)) (hM : M.impl_MapsProfunctor_3 a0 a1 a2 a3 = some r) :
    FnC Try.prog 165 [] [iv a0, iv a1, .pt (eXSetFunctor.b a2) 0, .pt (eXSetFunctor.b a3) 0] [] (.fr 1 r.length (r.flatMap eI.o)) := by
  refine fnc_startG (N := 59) (np := 500) hT Try.func165 rfl rfl (by kernel_rfl) ?_
  unfold M.impl_MapsProfunctor_3 at hM
  refine tr_start (ks := [0, 2, 4, 6]) (st' := [(0, .d (iv a0)), (2, .d (iv a1)), (4, .d (.pt (eXSetFunctor.b a2) 0)), (6, .d (.pt (eXSetFunctor.b a3) 0))]) (by kernel_rfl) ?_
  refine tr_sr hT hm [] [0, 2, 4, 6] [(0, .d (iv a0)), (2, .d (iv a1)), (4, .d (.pt (eXSetFunctor.b a2) 0)), (6, .d (.pt (eXSetFunctor.b a3) 0))] .nil (by kernel_rfl) (by kernel_rfl) ?_
  refine tr_sr hT hm [] [0, 2, 4, 6, 14, 2023] [(0, .d (iv a0)), (2, .d (iv a1)), (4, .d (.pt (eXSetFunctor.b a2) 0)), (6, .d (.pt (eXSetFunctor.b a3) 0)), (14, .d (.rs 1011 0 (([] : List Int).length))), (2023, .r (.arr 1 (([] : List Int).flatMap eI.o) []))] .nil (by kernel_rfl) (by kernel_rfl) ?_
  obtain ⟨y1, hy1, hM⟩ := bind_some' hM
  have hy1' := idx_some hy1
  obtain ⟨y2, hy2, hM⟩ := bind_some' hM
  have hy2' := idx_some hy2
  obtain ⟨y3, hy3, hM⟩ := bind_some' hM
  have hy3' := idx_some hy3
  refine tr_sr hT hm [(4, .val (iv y1)), (12, .val (iv y2)), (14, .val (iv y3))] [0, 6, 14, 16, 18, 2023] [(0, .d (iv a0)), (6, .d (.pt (eXSetFunctor.b a3) 0)), (14, .d (.rs 1011 0 (([] : List Int).length))), (16, .d (iv y1)), (18, .d (iv y3)), (2023, .r (.arr 1 (([] : List Int).flatMap eI.o) []))] (.cons hy1'.1 (.cons hy1'.2.1 (.cons (at_b0 eI_ok hy1'.2.2 (d := iv y1) (by kernel_rfl)) (.cons hy2'.1 (.cons hy2'.2.1 (.cons (at_b0 eI_ok hy2'.2.2 (d := iv y2) (by kernel_rfl)) (.cons hy3'.1 (.cons hy3'.2.1 (.cons (at_b0 eI_ok hy3'.2.2 (d := iv y3) (by kernel_rfl)) .nil))))))))) (by kernel_rfl) (by kernel_rfl) ?_
  refine tr_seq ?_
  obtain ⟨v4, hv4, hM⟩ := bind_some' hM
  refine tr_sr hT hm [(2, .call [] [] [iv y1, iv y3] [] (iv v4))] [0, 6, 14, 16, 18, 58, 60, 2023] [(0, .d (iv a0)), (6, .d (.pt (eXSetFunctor.b a3) 0)), (14, .d (.rs 1011 0 (([] : List Int).length))), (16, .d (iv y1)), (18, .d (iv y3)), (58, .d (iv v4)), (60, .d (iv 0)), (2023, .r (.arr 1 (([] : List Int).flatMap eI.o) []))] (cc0 ok160 (impl_mapCount_c y1 y3 _ hv4) (by kernel_rfl) .nil) (by kernel_rfl) (by kernel_rfl) ?_
  refine tr_block ?_
  refine tr_iterS (fun (s5 : (List Int) × Int) => [(0, .d (iv a0)), (6, .d (.pt (eXSetFunctor.b a3) 0)), (14, .d (.rs 1011 0 s5.1.length)), (16, .d (iv y1)), (18, .d (iv y3)), (58, .d (iv v4)), (60, .d (iv s5.2)), (2023, .r (.arr 1 (s5.1.flatMap eI.o) []))]) (([] : List Int), 0) [0, 6, 14, 16, 18, 58, 60, 2023] (by kernel_rfl) hM ?_
  intro n8 next6 ih7 s5 hM
  refine tr_sr hT hm [] [0, 6, 14, 16, 18, 58, 60, 62, 2023] [(0, .d (iv a0)), (6, .d (.pt (eXSetFunctor.b a3) 0)), (14, .d (.rs 1011 0 s5.1.length)), (16, .d (iv y1)), (18, .d (iv y3)), (58, .d (iv v4)), (60, .d (iv s5.2)), (62, .d (bv (decide (s5.2 < v4)))), (2023, .r (.arr 1 (s5.1.flatMap eI.o) []))] .nil (by kernel_rfl) (by kernel_rfl) ?_
  refine tr_seq ?_
  rcases Bool.eq_false_or_eq_true (decide (s5.2 < v4)) with h9 | h9
  · have hM := ite_true' hM h9
    refine tr_condTe (e := decide (s5.2 < v4)) h9 (by kernel_rfl) ?_
    refine tr_skip (q_n ?_)
    refine tr_seq ?_
    refine tr_block ?_
    refine tr_sr hT hm [] [0, 6, 14, 16, 18, 20, 58, 60, 2023] [(0, .d (iv a0)), (6, .d (.pt (eXSetFunctor.b a3) 0)), (14, .d (.rs 1011 0 s5.1.length)), (16, .d (iv y1)), (18, .d (iv y3)), (20, .d (iv s5.2)), (58, .d (iv v4)), (60, .d (iv s5.2)), (2023, .r (.arr 1 (s5.1.flatMap eI.o) []))] .nil (by kernel_rfl) (by kernel_rfl) ?_
    obtain ⟨v10, hv10, hM⟩ := bind_some' hM
    obtain ⟨y11, hy11, hM⟩ := bind_some' hM
    have hy11' := idx_some hy11
    obtain ⟨v12, hv12, hM⟩ := bind_some' hM
    obtain ⟨y13, hy13, hM⟩ := bind_some' hM
    have hy13' := idx_some hy13
    obtain ⟨y14, hy14, hM⟩ := bind_some' hM
    have hy14' := idx_some hy14
    obtain ⟨v15, hv15, hM⟩ := bind_some' hM
    obtain ⟨h16, hM⟩ := chk_some hM
    refine tr_r hT hm [(4, .call [] [] [iv y1, iv y3, iv s5.2] [] (.fr 1 v10.length (v10.flatMap eI.o))), (9, .val (.sl y11.length 0 (y11.flatMap eI.b))), (10, .call [39000] [] [.sl v10.length 0 (v10.flatMap eI.b), .sl y11.length 0 (y11.flatMap eI.b)] [] (.fr 1 v12.length (v12.flatMap eI.o))), (18, .val (iv y13)), (20, .val (iv y14)), (21, .call [45000] [] [.sl v12.length 0 (v12.flatMap eI.b), iv y14] [] (iv v15)), (23, .app true)] [0, 6, 14, 16, 18, 58, 60, 2113] [(0, .d (iv a0)), (6, .d (.pt (eXSetFunctor.b a3) 0)), (14, .d (.rs 1056 0 (s5.1.length + (([v15] : List Int).length)))), (16, .d (iv y1)), (18, .d (iv y3)), (58, .d (iv v4)), (60, .d (iv s5.2)), (2113, .r (.arr 1 (s5.1.flatMap eI.o ++ ([v15] : List Int).flatMap eI.o) []))] (cc0 ok164 (impl_mapAt_c y1 y3 s5.2 _ hv10) (by kernel_rfl) (.cons hy11'.1 (.cons hy11'.2.1 (.cons (at_b0 (eS_ok eI_ok) hy11'.2.2 (d := .sl y11.length 0 (y11.flatMap eI.b)) (by kernel_rfl)) (cc (B := [39000]) (ρ := []) (rB := [(39000, .arr 1 (v10.flatMap eI.o) [])]) ok163 (impl_then_c v10 y11 _ hv12) (.cons (.of1 (.rs (r := 39000) (sz := 1) (refs := []) (memB (by kernel_rfl)) (by kernel_rfl) (bor_flat eI_ok _ _ _))) (.cons (.same rfl) .nil)) (.inr ⟨(.fr (nb_flat eI_nb _)), trivial⟩) (.cons hy13'.1 (.cons hy13'.2.1 (.cons (at_b0 eI_ok hy13'.2.2 (d := iv y13) (by kernel_rfl)) (.cons hy14'.1 (.cons hy14'.2.1 (.cons (at_b0 eI_ok hy14'.2.2 (d := iv y14) (by kernel_rfl)) (cc (B := [45000]) (ρ := []) (rB := [(45000, .arr 1 (v12.flatMap eI.o) [])]) ok162 (impl_mapNumber_c v12 y14 _ hv15) (.cons (.of1 (.rs (r := 45000) (sz := 1) (refs := []) (memB (by kernel_rfl)) (by kernel_rfl) (bor_flat eI_ok _ _ _))) (.cons (.same rfl) .nil)) (.inr ⟨.v, trivial⟩) (.cons (lenO_flat eI_ok s5.1) (.cons (lenO_flat eI_ok ([v15] : List Int)) (.cons h16 .nil))))))))))))))) (by kernel_rfl) (by kernel_rfl) (b_n (q_n ?_))
    refine Tr.by (imp_cvE (r := 1056) (sz := 1) (refs := []) (flat_app eI.o s5.1 ([v15] : List Int)) (menO_flat eI_ok _) (by kernel_rfl)) ?_
    refine Tr.by (imp_cvD (k := 14) (congrArg (D.rs 1056 0) ((len_app s5.1 ([v15] : List Int)) : s5.1.length + (([v15] : List Int).length) = (s5.1 ++ ([v15] : List Int)).length)) (by kernel_rfl)) ?_
    refine tr_r hT hm [] [0, 6, 14, 16, 18, 58, 60, 2113] [(0, .d (iv a0)), (6, .d (.pt (eXSetFunctor.b a3) 0)), (14, .d (.rs 1056 0 ((s5.1 ++ ([v15] : List Int)).length))), (16, .d (iv y1)), (18, .d (iv y3)), (58, .d (iv v4)), (60, .d (iv (IntKind.i64.wrap (s5.2 + 1)))), (2113, .r (.arr 1 ((s5.1 ++ ([v15] : List Int)).flatMap eI.o) []))] .nil (by kernel_rfl) (by kernel_rfl) (l_n ?_)
    refine TrL.by (imp_sel (ks := [0, 6, 14, 16, 18, 58, 60, 2113]) (st' := [(0, .d (iv a0)), (6, .d (.pt (eXSetFunctor.b a3) 0)), (14, .d (.rs 1056 0 ((s5.1 ++ ([v15] : List Int)).length))), (16, .d (iv y1)), (18, .d (iv y3)), (58, .d (iv v4)), (60, .d (iv (IntKind.i64.wrap (s5.2 + 1)))), (2113, .r (.arr 1 ((s5.1 ++ ([v15] : List Int)).flatMap eI.o) []))]) (by kernel_rfl)) ?_
    refine TrL.by (imp_rename (r := 1056) (q := 1011) (by kernel_rfl) (Nat.le_of_ble_eq_true rfl)) ?_
    exact trl_start (ks := [0, 6, 14, 16, 18, 58, 60, 2023]) (by kernel_rfl) (ih7 (s5.1 ++ ([v15] : List Int), IntKind.i64.wrap (s5.2 + 1)) hM)
  · have hM := ite_false' hM h9
    refine tr_condFe (e := decide (s5.2 < v4)) h9 (by kernel_rfl) ?_
    refine tr_exit (q_x (l_x (b_h (q_n ?_))))
    refine tr_sr hT hm [] [12, 2023] [(12, .d (.rs 1011 0 s5.1.length)), (2023, .r (.arr 1 (s5.1.flatMap eI.o) []))] .nil (by kernel_rfl) (by kernel_rfl) ?_
    refine tr_ret (rg_r ?_)
    obtain rfl := Option.some.inj hM
    exact retg (names := []) (.cons (lenO_flat eI_ok s5.1) .nil) (by kernel_rfl)

theorem ok65 : CallOk Try.prog 65 := callOk_of Try.func65 (by kernel_rfl) (by kernel_rfl)
theorem impl_MapsProfunctor_c (a0 : XSetFunctor) (a1 : XSetFunctor) (r : XProfunctor × Int) (hM : M.impl_MapsProfunctor a0 a1 = some r) :
    FnC Try.prog 65 [] [.agg (eXSetFunctor.b a0), .agg (eXSetFunctor.b a1)] [] (.tup [.agg (eXProfunctor.o r.1), iv r.2]) := by
  refine fnc_startG (N := 25) (np := 500) hT Try.func65 rfl rfl (by kernel_rfl) ?_
  unfold M.impl_MapsProfunctor at hM
  refine tr_start (ks := [0, 2]) (st' := [(0, .d (.agg (eXSetFunctor.b a0))), (2, .d (.agg (eXSetFunctor.b a1)))]) (by kernel_rfl) ?_
  refine tr_sr hT hm [] [4, 6, 8, 2005, 2007, 2009] [(4, .d (.rp 1002 0)), (6, .d (.rp 1003 0)), (8, .d (.rp 1004 0)), bxB 2005 (eXSetFunctor.b a0), bxB 2007 (eXSetFunctor.b a1), (2009, .r (.arr 1 [iv 0, nilv, nilv, nilv, nilv, iv 0, nilv, nilv, nilv, nilv, nilv, nilv, nilv] []))] .nil (by kernel_rfl) (by kernel_rfl) ?_
  refine tr_seq ?_
  obtain ⟨v1, hv1, hM⟩ := bind_some' hM
  refine tr_sr hT hm [(1, .call [1008, 1002, 1003] [] [.sl ([a0, a1] : List XSetFunctor).length 0 (([a0, a1] : List XSetFunctor).flatMap (eP eXSetFunctor).b)] [] (bv v1))] [4, 6, 8, 20, 2005, 2007, 2009] [(4, .d (.rp 1002 0)), (6, .d (.rp 1003 0)), (8, .d (.rp 1004 0)), (20, .d (bv (!v1))), bxB 2005 (eXSetFunctor.b a0), bxB 2007 (eXSetFunctor.b a1), (2009, .r (.arr 1 [iv 0, nilv, nilv, nilv, nilv, iv 0, nilv, nilv, nilv, nilv, nilv, nilv, nilv] []))] (cc (B := [1008, 1002, 1003]) (ρ := []) (rB := [(1008, .arr 1 [.rp 1002 0, .rp 1003 0] [1002, 1003]), (1002, .arr 1 [iv a0.Shape.Objects, .sl a0.Shape.From.length 0 (a0.Shape.From.flatMap eI.b), .sl a0.Shape.To.length 0 (a0.Shape.To.flatMap eI.b), .sl a0.Shape.Identity.length 0 (a0.Shape.Identity.flatMap eI.b), .sl a0.Shape.Composites.length 0 (a0.Shape.Composites.flatMap (eS eI).b), .sl a0.Sizes.length 0 (a0.Sizes.flatMap eI.b), .sl a0.Actions.length 0 (a0.Actions.flatMap (eS eI).b)] []), (1003, .arr 1 [iv a1.Shape.Objects, .sl a1.Shape.From.length 0 (a1.Shape.From.flatMap eI.b), .sl a1.Shape.To.length 0 (a1.Shape.To.flatMap eI.b), .sl a1.Shape.Identity.length 0 (a1.Shape.Identity.flatMap eI.b), .sl a1.Shape.Composites.length 0 (a1.Shape.Composites.flatMap (eS eI).b), .sl a1.Sizes.length 0 (a1.Sizes.flatMap eI.b), .sl a1.Actions.length 0 (a1.Actions.flatMap (eS eI).b)] [])]) ok144 (impl_areSetFunctors_c ([a0, a1] : List XSetFunctor) _ hv1) (.cons (.of1 (.rs (r := 1008) (sz := 1) (cells := [.rp 1002 0, .rp 1003 0]) (refs := [1002, 1003]) (memB (by kernel_rfl)) (by kernel_rfl) (.cons (.rp (r := 1002) (sz := 1) (cells := [iv a0.Shape.Objects, .sl a0.Shape.From.length 0 (a0.Shape.From.flatMap eI.b), .sl a0.Shape.To.length 0 (a0.Shape.To.flatMap eI.b), .sl a0.Shape.Identity.length 0 (a0.Shape.Identity.flatMap eI.b), .sl a0.Shape.Composites.length 0 (a0.Shape.Composites.flatMap (eS eI).b), .sl a0.Sizes.length 0 (a0.Sizes.flatMap eI.b), .sl a0.Actions.length 0 (a0.Actions.flatMap (eS eI).b)]) (refs := []) (memB (by kernel_rfl)) (by kernel_rfl) (.cons .v (.cons (.same rfl rfl) (.cons (.same rfl rfl) (.cons (.same rfl rfl) (.cons (.same rfl rfl) (.cons (.same rfl rfl) (.cons (.same rfl rfl) .nil)))))))) (.cons (.rp (r := 1003) (sz := 1) (cells := [iv a1.Shape.Objects, .sl a1.Shape.From.length 0 (a1.Shape.From.flatMap eI.b), .sl a1.Shape.To.length 0 (a1.Shape.To.flatMap eI.b), .sl a1.Shape.Identity.length 0 (a1.Shape.Identity.flatMap eI.b), .sl a1.Shape.Composites.length 0 (a1.Shape.Composites.flatMap (eS eI).b), .sl a1.Sizes.length 0 (a1.Sizes.flatMap eI.b), .sl a1.Actions.length 0 (a1.Actions.flatMap (eS eI).b)]) (refs := []) (memB (by kernel_rfl)) (by kernel_rfl) (.cons .v (.cons (.same rfl rfl) (.cons (.same rfl rfl) (.cons (.same rfl rfl) (.cons (.same rfl rfl) (.cons (.same rfl rfl) (.cons (.same rfl rfl) .nil)))))))) .nil)))) .nil) (.inr ⟨.v, trivial⟩) .nil) (by kernel_rfl) (by kernel_rfl) ?_
  rcases Bool.eq_false_or_eq_true v1 with h2 | h2
  · have hM := ite_true' hM h2
    refine tr_condFe (e := !v1) (congrArg not h2) (by kernel_rfl) ?_
    refine tr_skip (q_n ?_)
    obtain ⟨v3, hv3, hM⟩ := bind_some' hM
    refine tr_sr hT hm [(5, .call [1002, 1003] [] [.pt (eXCategory.b a0.Shape) 0, .pt (eXCategory.b a1.Shape) 0, .fb 159 [.pt (eXSetFunctor.b a0) 0, .pt (eXSetFunctor.b a1) 0], .fb 161 [.pt (eXSetFunctor.b a0) 0, .pt (eXSetFunctor.b a1) 0], .fb 165 [.pt (eXSetFunctor.b a0) 0, .pt (eXSetFunctor.b a1) 0]] [] (.tup [.agg (eXProfunctor.o v3.1), bv v3.2]))] [8, 12, 14, 2009, 2013, 40003, 40005, 40007, 40009, 40013, 40015, 40017, 40019, 40021, 40023, 40025] ([(8, .d (.rp 1004 0)), (12, .d (.rp 1006 0)), (14, .d (bv v3.2)), (2009, .r (.arr 1 [iv 0, nilv, nilv, nilv, nilv, iv 0, nilv, nilv, nilv, nilv, nilv, nilv, nilv] [])), bxO 2013 20000 (eXProfunctor.o v3.1)] ++ rsS 20000 (eXProfunctor.o v3.1)) (cc (B := [1002, 1003]) (ρ := []) (rB := [(1002, .arr 1 [iv a0.Shape.Objects, .sl a0.Shape.From.length 0 (a0.Shape.From.flatMap eI.b), .sl a0.Shape.To.length 0 (a0.Shape.To.flatMap eI.b), .sl a0.Shape.Identity.length 0 (a0.Shape.Identity.flatMap eI.b), .sl a0.Shape.Composites.length 0 (a0.Shape.Composites.flatMap (eS eI).b), .sl a0.Sizes.length 0 (a0.Sizes.flatMap eI.b), .sl a0.Actions.length 0 (a0.Actions.flatMap (eS eI).b)] []), (1003, .arr 1 [iv a1.Shape.Objects, .sl a1.Shape.From.length 0 (a1.Shape.From.flatMap eI.b), .sl a1.Shape.To.length 0 (a1.Shape.To.flatMap eI.b), .sl a1.Shape.Identity.length 0 (a1.Shape.Identity.flatMap eI.b), .sl a1.Shape.Composites.length 0 (a1.Shape.Composites.flatMap (eS eI).b), .sl a1.Sizes.length 0 (a1.Sizes.flatMap eI.b), .sl a1.Actions.length 0 (a1.Actions.flatMap (eS eI).b)] [])]) ok128 (impl_profunctor_c a0.Shape a1.Shape 159 ([.pt (eXSetFunctor.b a0) 0, .pt (eXSetFunctor.b a1) 0] : List D) (fun (x0 : Int) (x1 : Int) => M.impl_MapsProfunctor_1 x0 x1 a0 a1) ok159 (by kernel_rfl) (fun x0 x1 r h => impl_MapsProfunctor_1_c x0 x1 a0 a1 r h) 161 ([.pt (eXSetFunctor.b a0) 0, .pt (eXSetFunctor.b a1) 0] : List D) (fun (x0 : Int) (x1 : Int) => M.impl_MapsProfunctor_2 x0 x1 a0 a1) ok161 (by kernel_rfl) (fun x0 x1 r h => impl_MapsProfunctor_2_c x0 x1 a0 a1 r h) 165 ([.pt (eXSetFunctor.b a0) 0, .pt (eXSetFunctor.b a1) 0] : List D) (fun (x0 : Int) (x1 : Int) => M.impl_MapsProfunctor_3 x0 x1 a0 a1) ok165 (by kernel_rfl) (fun x0 x1 r h => impl_MapsProfunctor_3_c x0 x1 a0 a1 r h) _ hv3) (.cons (.rpSub (r := 1002) (off := 0) (n := 5) (sz := 1) (cells := [iv a0.Shape.Objects, .sl a0.Shape.From.length 0 (a0.Shape.From.flatMap eI.b), .sl a0.Shape.To.length 0 (a0.Shape.To.flatMap eI.b), .sl a0.Shape.Identity.length 0 (a0.Shape.Identity.flatMap eI.b), .sl a0.Shape.Composites.length 0 (a0.Shape.Composites.flatMap (eS eI).b), .sl a0.Sizes.length 0 (a0.Sizes.flatMap eI.b), .sl a0.Actions.length 0 (a0.Actions.flatMap (eS eI).b)]) (refs := []) (ds' := eXCategory.b a0.Shape) (by kernel_rfl) (by kernel_rfl) (.cons .v (.cons (.same rfl rfl) (.cons (.same rfl rfl) (.cons (.same rfl rfl) (.cons (.same rfl rfl) (.cons (.same rfl rfl) (.cons (.same rfl rfl) .nil))))))) (Nat.le_of_ble_eq_true rfl) (by kernel_rfl) (by kernel_rfl)) (.cons (.rpSub (r := 1003) (off := 0) (n := 5) (sz := 1) (cells := [iv a1.Shape.Objects, .sl a1.Shape.From.length 0 (a1.Shape.From.flatMap eI.b), .sl a1.Shape.To.length 0 (a1.Shape.To.flatMap eI.b), .sl a1.Shape.Identity.length 0 (a1.Shape.Identity.flatMap eI.b), .sl a1.Shape.Composites.length 0 (a1.Shape.Composites.flatMap (eS eI).b), .sl a1.Sizes.length 0 (a1.Sizes.flatMap eI.b), .sl a1.Actions.length 0 (a1.Actions.flatMap (eS eI).b)]) (refs := []) (ds' := eXCategory.b a1.Shape) (by kernel_rfl) (by kernel_rfl) (.cons .v (.cons (.same rfl rfl) (.cons (.same rfl rfl) (.cons (.same rfl rfl) (.cons (.same rfl rfl) (.cons (.same rfl rfl) (.cons (.same rfl rfl) .nil))))))) (Nat.le_of_ble_eq_true rfl) (by kernel_rfl) (by kernel_rfl)) (.cons (.fn (.cons (.rp (r := 1002) (sz := 1) (cells := [iv a0.Shape.Objects, .sl a0.Shape.From.length 0 (a0.Shape.From.flatMap eI.b), .sl a0.Shape.To.length 0 (a0.Shape.To.flatMap eI.b), .sl a0.Shape.Identity.length 0 (a0.Shape.Identity.flatMap eI.b), .sl a0.Shape.Composites.length 0 (a0.Shape.Composites.flatMap (eS eI).b), .sl a0.Sizes.length 0 (a0.Sizes.flatMap eI.b), .sl a0.Actions.length 0 (a0.Actions.flatMap (eS eI).b)]) (refs := []) (memB (by kernel_rfl)) (by kernel_rfl) (.cons .v (.cons (.same rfl rfl) (.cons (.same rfl rfl) (.cons (.same rfl rfl) (.cons (.same rfl rfl) (.cons (.same rfl rfl) (.cons (.same rfl rfl) .nil)))))))) (.cons (.rp (r := 1003) (sz := 1) (cells := [iv a1.Shape.Objects, .sl a1.Shape.From.length 0 (a1.Shape.From.flatMap eI.b), .sl a1.Shape.To.length 0 (a1.Shape.To.flatMap eI.b), .sl a1.Shape.Identity.length 0 (a1.Shape.Identity.flatMap eI.b), .sl a1.Shape.Composites.length 0 (a1.Shape.Composites.flatMap (eS eI).b), .sl a1.Sizes.length 0 (a1.Sizes.flatMap eI.b), .sl a1.Actions.length 0 (a1.Actions.flatMap (eS eI).b)]) (refs := []) (memB (by kernel_rfl)) (by kernel_rfl) (.cons .v (.cons (.same rfl rfl) (.cons (.same rfl rfl) (.cons (.same rfl rfl) (.cons (.same rfl rfl) (.cons (.same rfl rfl) (.cons (.same rfl rfl) .nil)))))))) .nil))) (.cons (.fn (.cons (.rp (r := 1002) (sz := 1) (cells := [iv a0.Shape.Objects, .sl a0.Shape.From.length 0 (a0.Shape.From.flatMap eI.b), .sl a0.Shape.To.length 0 (a0.Shape.To.flatMap eI.b), .sl a0.Shape.Identity.length 0 (a0.Shape.Identity.flatMap eI.b), .sl a0.Shape.Composites.length 0 (a0.Shape.Composites.flatMap (eS eI).b), .sl a0.Sizes.length 0 (a0.Sizes.flatMap eI.b), .sl a0.Actions.length 0 (a0.Actions.flatMap (eS eI).b)]) (refs := []) (memB (by kernel_rfl)) (by kernel_rfl) (.cons .v (.cons (.same rfl rfl) (.cons (.same rfl rfl) (.cons (.same rfl rfl) (.cons (.same rfl rfl) (.cons (.same rfl rfl) (.cons (.same rfl rfl) .nil)))))))) (.cons (.rp (r := 1003) (sz := 1) (cells := [iv a1.Shape.Objects, .sl a1.Shape.From.length 0 (a1.Shape.From.flatMap eI.b), .sl a1.Shape.To.length 0 (a1.Shape.To.flatMap eI.b), .sl a1.Shape.Identity.length 0 (a1.Shape.Identity.flatMap eI.b), .sl a1.Shape.Composites.length 0 (a1.Shape.Composites.flatMap (eS eI).b), .sl a1.Sizes.length 0 (a1.Sizes.flatMap eI.b), .sl a1.Actions.length 0 (a1.Actions.flatMap (eS eI).b)]) (refs := []) (memB (by kernel_rfl)) (by kernel_rfl) (.cons .v (.cons (.same rfl rfl) (.cons (.same rfl rfl) (.cons (.same rfl rfl) (.cons (.same rfl rfl) (.cons (.same rfl rfl) (.cons (.same rfl rfl) .nil)))))))) .nil))) (.cons (.fn (.cons (.rp (r := 1002) (sz := 1) (cells := [iv a0.Shape.Objects, .sl a0.Shape.From.length 0 (a0.Shape.From.flatMap eI.b), .sl a0.Shape.To.length 0 (a0.Shape.To.flatMap eI.b), .sl a0.Shape.Identity.length 0 (a0.Shape.Identity.flatMap eI.b), .sl a0.Shape.Composites.length 0 (a0.Shape.Composites.flatMap (eS eI).b), .sl a0.Sizes.length 0 (a0.Sizes.flatMap eI.b), .sl a0.Actions.length 0 (a0.Actions.flatMap (eS eI).b)]) (refs := []) (memB (by kernel_rfl)) (by kernel_rfl) (.cons .v (.cons (.same rfl rfl) (.cons (.same rfl rfl) (.cons (.same rfl rfl) (.cons (.same rfl rfl) (.cons (.same rfl rfl) (.cons (.same rfl rfl) .nil)))))))) (.cons (.rp (r := 1003) (sz := 1) (cells := [iv a1.Shape.Objects, .sl a1.Shape.From.length 0 (a1.Shape.From.flatMap eI.b), .sl a1.Shape.To.length 0 (a1.Shape.To.flatMap eI.b), .sl a1.Shape.Identity.length 0 (a1.Shape.Identity.flatMap eI.b), .sl a1.Shape.Composites.length 0 (a1.Shape.Composites.flatMap (eS eI).b), .sl a1.Sizes.length 0 (a1.Sizes.flatMap eI.b), .sl a1.Actions.length 0 (a1.Actions.flatMap (eS eI).b)]) (refs := []) (memB (by kernel_rfl)) (by kernel_rfl) (.cons .v (.cons (.same rfl rfl) (.cons (.same rfl rfl) (.cons (.same rfl rfl) (.cons (.same rfl rfl) (.cons (.same rfl rfl) (.cons (.same rfl rfl) .nil)))))))) .nil))) .nil))))) (.inr ⟨(nobor_tup (.cons (.agg (eXProfunctor_nb _)) (.cons .v .nil))), trivial⟩) (.cons (Nat.le_of_ble_eq_true (n := 13) (m := 13) rfl) .nil)) (by kernel_rfl) (by kernel_rfl) ?_
    refine tr_seq ?_
    refine tr_sr hT hm [] [8, 12, 44, 2009, 2013, 40003, 40005, 40007, 40009, 40013, 40015, 40017, 40019, 40021, 40023, 40025] ([(8, .d (.rp 1004 0)), (12, .d (.rp 1006 0)), (44, .d (bv (!v3.2))), (2009, .r (.arr 1 [iv 0, nilv, nilv, nilv, nilv, iv 0, nilv, nilv, nilv, nilv, nilv, nilv, nilv] [])), bxO 2013 20000 (eXProfunctor.o v3.1)] ++ rsS 20000 (eXProfunctor.o v3.1)) .nil (by kernel_rfl) (by kernel_rfl) ?_
    rcases Bool.eq_false_or_eq_true v3.2 with h4 | h4
    · have hM := ite_true' hM h4
      refine tr_condFe (e := !v3.2) (congrArg not h4) (by kernel_rfl) ?_
      refine tr_skip (q_n ?_)
      refine tr_sr hT hm [] [8, 10, 2009, 40003, 40005, 40007, 40009, 40013, 40015, 40017, 40019, 40021, 40023, 40025] ([(8, .d (.rp 1004 0)), (10, .d (iv 0)), bxO 2009 20000 (eXProfunctor.o v3.1)] ++ rsS 20000 (eXProfunctor.o v3.1)) (.cons (Nat.le_of_ble_eq_true (n := 13) (m := 13) rfl) .nil) (by kernel_rfl) (by kernel_rfl) ?_
      refine tr_ret (rg_r ?_)
      obtain rfl := Option.some.inj hM
      exact retg (names := []) (.cons (lenO_flat eI_ok v3.1.Source.From) (.cons (lenO_flat eI_ok v3.1.Source.To) (.cons (lenO_flat eI_ok v3.1.Source.Identity) (.cons (lenO_flat (eS_ok eI_ok) v3.1.Source.Composites) (.cons (lenO_flat eI_ok v3.1.Target.From) (.cons (lenO_flat eI_ok v3.1.Target.To) (.cons (lenO_flat eI_ok v3.1.Target.Identity) (.cons (lenO_flat (eS_ok eI_ok) v3.1.Target.Composites) (.cons (lenO_flat (eS_ok eI_ok) v3.1.Sizes) (.cons (lenO_flat (eS_ok (eS_ok eI_ok)) v3.1.Before) (.cons (lenO_flat (eS_ok (eS_ok eI_ok)) v3.1.Behind) .nil))))))))))) (by kernel_rfl)
    · have hM := ite_false' hM h4
      refine tr_condTe (e := !v3.2) (congrArg not h4) (by kernel_rfl) ?_
      refine tr_sr hT hm [] [8, 10, 2009] [(8, .d (.rp 1004 0)), (10, .d (iv 3)), (2009, .r (.arr 1 [iv 0, nilv, nilv, nilv, nilv, iv 0, nilv, nilv, nilv, nilv, nilv, nilv, nilv] []))] (.cons (Nat.le_of_ble_eq_true (n := 13) (m := 13) rfl) .nil) (by kernel_rfl) (by kernel_rfl) ?_
      refine tr_ret (q_r (rg_r ?_))
      refine RetG.by (imp_cvB (r := 1004) (sz := 1) (cells := [iv 0, nilv, nilv, nilv, nilv, iv 0, nilv, nilv, nilv, nilv, nilv, nilv, nilv]) (cells' := [iv 0, .fr 1 ([] : List Int).length (([] : List Int).flatMap eI.o), .fr 1 ([] : List Int).length (([] : List Int).flatMap eI.o), .fr 1 ([] : List Int).length (([] : List Int).flatMap eI.o), .fr 1 ([] : List (List Int)).length (([] : List (List Int)).flatMap (eS eI).o), iv 0, .fr 1 ([] : List Int).length (([] : List Int).flatMap eI.o), .fr 1 ([] : List Int).length (([] : List Int).flatMap eI.o), .fr 1 ([] : List Int).length (([] : List Int).flatMap eI.o), .fr 1 ([] : List (List Int)).length (([] : List (List Int)).flatMap (eS eI).o), .fr 1 ([] : List (List Int)).length (([] : List (List Int)).flatMap (eS eI).o), .fr 1 ([] : List (List (List Int))).length (([] : List (List (List Int))).flatMap (eS (eS eI)).o), .fr 1 ([] : List (List (List Int))).length (([] : List (List (List Int))).flatMap (eS (eS eI)).o)]) (refs := []) (refs' := []) (.cons (.refl _) (.cons Sub.nil_fr (.cons Sub.nil_fr (.cons Sub.nil_fr (.cons Sub.nil_fr (.cons (.refl _) (.cons Sub.nil_fr (.cons Sub.nil_fr (.cons Sub.nil_fr (.cons Sub.nil_fr (.cons Sub.nil_fr (.cons Sub.nil_fr (.cons Sub.nil_fr .nil))))))))))))) (by kernel_rfl) (by kernel_rfl) (by kernel_rfl)) ?_
      obtain rfl := Option.some.inj hM
      exact retg (names := []) .nil (by kernel_rfl)
  · have hM := ite_false' hM h2
    refine tr_condTe (e := !v1) (congrArg not h2) (by kernel_rfl) ?_
    refine tr_sr hT hm [] [8, 10, 2009] [(8, .d (.rp 1004 0)), (10, .d (iv 1)), (2009, .r (.arr 1 [iv 0, nilv, nilv, nilv, nilv, iv 0, nilv, nilv, nilv, nilv, nilv, nilv, nilv] []))] (.cons (Nat.le_of_ble_eq_true (n := 13) (m := 13) rfl) .nil) (by kernel_rfl) (by kernel_rfl) ?_
    refine tr_ret (q_r (rg_r ?_))
    refine RetG.by (imp_cvB (r := 1004) (sz := 1) (cells := [iv 0, nilv, nilv, nilv, nilv, iv 0, nilv, nilv, nilv, nilv, nilv, nilv, nilv]) (cells' := [iv 0, .fr 1 ([] : List Int).length (([] : List Int).flatMap eI.o), .fr 1 ([] : List Int).length (([] : List Int).flatMap eI.o), .fr 1 ([] : List Int).length (([] : List Int).flatMap eI.o), .fr 1 ([] : List (List Int)).length (([] : List (List Int)).flatMap (eS eI).o), iv 0, .fr 1 ([] : List Int).length (([] : List Int).flatMap eI.o), .fr 1 ([] : List Int).length (([] : List Int).flatMap eI.o), .fr 1 ([] : List Int).length (([] : List Int).flatMap eI.o), .fr 1 ([] : List (List Int)).length (([] : List (List Int)).flatMap (eS eI).o), .fr 1 ([] : List (List Int)).length (([] : List (List Int)).flatMap (eS eI).o), .fr 1 ([] : List (List (List Int))).length (([] : List (List (List Int))).flatMap (eS (eS eI)).o), .fr 1 ([] : List (List (List Int))).length (([] : List (List (List Int))).flatMap (eS (eS eI)).o)]) (refs := []) (refs' := []) (.cons (.refl _) (.cons Sub.nil_fr (.cons Sub.nil_fr (.cons Sub.nil_fr (.cons Sub.nil_fr (.cons (.refl _) (.cons Sub.nil_fr (.cons Sub.nil_fr (.cons Sub.nil_fr (.cons Sub.nil_fr (.cons Sub.nil_fr (.cons Sub.nil_fr (.cons Sub.nil_fr .nil))))))))))))) (by kernel_rfl) (by kernel_rfl) (by kernel_rfl)) ?_
    obtain rfl := Option.some.inj hM
    exact retg (names := []) .nil (by kernel_rfl)

theorem laws_FnExactMapsProfunctor_c (a0 : XSetFunctor) (a1 : XSetFunctor) (r : Bool) (hM : M.laws_FnExactMapsProfunctor a0 a1 = some r) :
    FnC Try.prog 14 [] [.agg (eXSetFunctor.b a0), .agg (eXSetFunctor.b a1)] [] (bv r) := by
  refine fnc_startG (N := 119) (np := 500) hT Try.func14 rfl rfl (by kernel_rfl) ?_
  unfold M.laws_FnExactMapsProfunctor at hM
  refine tr_start (ks := [0, 2]) (st' := [(0, .d (.agg (eXSetFunctor.b a0))), (2, .d (.agg (eXSetFunctor.b a1)))]) (by kernel_rfl) ?_
  refine tr_sr hT hm [] [4, 6, 2005, 2007] [(4, .d (.rp 1002 0)), (6, .d (.rp 1003 0)), bxB 2005 (eXSetFunctor.b a0), bxB 2007 (eXSetFunctor.b a1)] .nil (by kernel_rfl) (by kernel_rfl) ?_
  refine tr_sr hT hm [] [4, 6, 10, 2005, 2007] [(4, .d (.rp 1002 0)), (6, .d (.rp 1003 0)), (10, .d (iv 1048576)), bxB 2005 (eXSetFunctor.b a0), bxB 2007 (eXSetFunctor.b a1)] .nil (by kernel_rfl) (by kernel_rfl) ?_
  obtain ⟨v1, hv1, hM⟩ := bind_some' hM
  refine tr_sr hT hm [(2, .call [] [] [.agg (eXSetFunctor.b a0), iv 1048576] [] (iv v1))] [4, 6, 10, 2005, 2007] [(4, .d (.rp 1002 0)), (6, .d (.rp 1003 0)), (10, .d (iv v1)), bxB 2005 (eXSetFunctor.b a0), bxB 2007 (eXSetFunctor.b a1)] (cc0 ok56 (laws_szSetFunctor_c a0 1048576 _ hv1) (by kernel_rfl) .nil) (by kernel_rfl) (by kernel_rfl) ?_
  refine tr_seq ?_
  refine tr_sr hT hm [] [4, 6, 10, 42, 2005, 2007] [(4, .d (.rp 1002 0)), (6, .d (.rp 1003 0)), (10, .d (iv v1)), (42, .d (bv (decide (v1 < 0)))), bxB 2005 (eXSetFunctor.b a0), bxB 2007 (eXSetFunctor.b a1)] .nil (by kernel_rfl) (by kernel_rfl) ?_
  rcases Bool.eq_false_or_eq_true (decide (v1 < 0)) with h2 | h2
  · have hM := ite_true' hM h2
    refine tr_condTe (e := decide (v1 < 0)) h2 (by kernel_rfl) ?_
    refine tr_sr hT hm [] [8] [(8, .d (bv true))] .nil (by kernel_rfl) (by kernel_rfl) ?_
    refine tr_ret (q_r (rg_r ?_))
    obtain rfl := Option.some.inj hM
    exact retg (names := []) .nil (by kernel_rfl)
  · have hM := ite_false' hM h2
    refine tr_condFe (e := decide (v1 < 0)) h2 (by kernel_rfl) ?_
    refine tr_skip (q_n ?_)
    obtain ⟨v3, hv3, hM⟩ := bind_some' hM
    refine tr_sr hT hm [(2, .call [] [] [.agg (eXSetFunctor.b a1), iv v1] [] (iv v3))] [4, 6, 10, 2005, 2007] [(4, .d (.rp 1002 0)), (6, .d (.rp 1003 0)), (10, .d (iv v3)), bxB 2005 (eXSetFunctor.b a0), bxB 2007 (eXSetFunctor.b a1)] (cc0 ok56 (laws_szSetFunctor_c a1 v1 _ hv3) (by kernel_rfl) .nil) (by kernel_rfl) (by kernel_rfl) ?_
    refine tr_seq ?_
    refine tr_sr hT hm [] [4, 6, 52, 2005, 2007] [(4, .d (.rp 1002 0)), (6, .d (.rp 1003 0)), (52, .d (bv (decide (v3 < 0)))), bxB 2005 (eXSetFunctor.b a0), bxB 2007 (eXSetFunctor.b a1)] .nil (by kernel_rfl) (by kernel_rfl) ?_
    rcases Bool.eq_false_or_eq_true (decide (v3 < 0)) with h4 | h4
    · have hM := ite_true' hM h4
      refine tr_condTe (e := decide (v3 < 0)) h4 (by kernel_rfl) ?_
      refine tr_sr hT hm [] [8] [(8, .d (bv true))] .nil (by kernel_rfl) (by kernel_rfl) ?_
      refine tr_ret (q_r (rg_r ?_))
      obtain rfl := Option.some.inj hM
      exact retg (names := []) .nil (by kernel_rfl)
    · have hM := ite_false' hM h4
      refine tr_condFe (e := decide (v3 < 0)) h4 (by kernel_rfl) ?_
      refine tr_skip (q_n ?_)
      obtain ⟨v5, hv5, hM⟩ := bind_some' hM
      obtain ⟨v6, hv6, hM⟩ := bind_some' hM
      obtain ⟨v7, hv7, hM⟩ := bind_some' hM
      refine tr_sr hT hm [(1, .call [] [] [.agg (eXSetFunctor.b a0)] [] (.agg (eXSetFunctor.o v5))), (3, .call [] [] [.agg (eXSetFunctor.b a1)] [] (.agg (eXSetFunctor.o v6))), (4, .call (rsR 31000 (eXSetFunctor.o v5) ++ rsR 33000 (eXSetFunctor.o v6)) [] [.agg (eXSetFunctor.b v5), .agg (eXSetFunctor.b v6)] [] (.tup [.agg (eXProfunctor.o v7.1), iv v7.2]))] [4, 6, 12, 14, 2005, 2007, 2013, 68003, 68005, 68007, 68009, 68013, 68015, 68017, 68019, 68021, 68023, 68025] ([(4, .d (.rp 1002 0)), (6, .d (.rp 1003 0)), (12, .d (.rp 1006 0)), (14, .d (iv v7.2)), bxB 2005 (eXSetFunctor.b a0), bxB 2007 (eXSetFunctor.b a1), bxO 2013 34000 (eXProfunctor.o v7.1)] ++ rsS 34000 (eXProfunctor.o v7.1)) (cc0 ok58 (laws_toSetFunctor_c a0 _ hv5) (by kernel_rfl) (cc0 ok58 (laws_toSetFunctor_c a1 _ hv6) (by kernel_rfl) (cc (B := (rsR 31000 (eXSetFunctor.o v5) ++ rsR 33000 (eXSetFunctor.o v6))) (ρ := []) (rB := (rsP 31000 (eXSetFunctor.o v5) ++ rsP 33000 (eXSetFunctor.o v6))) ok64 (spec_MapsProfunctor_c v5 v6 _ hv7) (.cons (bor_rs eXSetFunctor_r (q := 31000) (x := v5) (by kernel_rfl) (by kernel_rfl)) (.cons (bor_rs eXSetFunctor_r (q := 33000) (x := v6) (by kernel_rfl) (by kernel_rfl)) .nil)) (.inr ⟨(nobor_tup (.cons (.agg (eXProfunctor_nb _)) (.cons .v .nil))), trivial⟩) (.cons (Nat.le_of_ble_eq_true (n := 13) (m := 13) rfl) .nil)))) (by kernel_rfl) (by kernel_rfl) ?_
      refine tr_sr hT hm [(1, .call [] [] [.agg (eXSetFunctor.b a0)] [] (.agg (eXSetFunctor.o v5)))] [4, 6, 12, 14, 16, 2005, 2007, 2013, 2017, 68003, 68005, 68007, 68009, 68013, 68015, 68017, 68019, 68021, 68023, 68025, 76003, 76005, 76007, 76009, 76011, 76013] ([(4, .d (.rp 1002 0)), (6, .d (.rp 1003 0)), (12, .d (.rp 1006 0)), (14, .d (iv v7.2)), (16, .d (.rp 1008 0)), bxB 2005 (eXSetFunctor.b a0), bxB 2007 (eXSetFunctor.b a1), bxO 2013 34000 (eXProfunctor.o v7.1), bxO 2017 38000 (eXSetFunctor.o v5)] ++ rsS 34000 (eXProfunctor.o v7.1) ++ rsS 38000 (eXSetFunctor.o v5)) (cc0 ok58 (laws_toSetFunctor_c a0 _ hv5) (by kernel_rfl) (.cons (Nat.le_of_ble_eq_true (n := 7) (m := 7) rfl) .nil)) (by kernel_rfl) (by kernel_rfl) ?_
      refine tr_sr hT hm [(1, .call [] [] [.agg (eXSetFunctor.b a1)] [] (.agg (eXSetFunctor.o v6)))] [4, 6, 12, 14, 16, 18, 2005, 2007, 2013, 2017, 2019, 68003, 68005, 68007, 68009, 68013, 68015, 68017, 68019, 68021, 68023, 68025, 76003, 76005, 76007, 76009, 76011, 76013, 80003, 80005, 80007, 80009, 80011, 80013] ([(4, .d (.rp 1002 0)), (6, .d (.rp 1003 0)), (12, .d (.rp 1006 0)), (14, .d (iv v7.2)), (16, .d (.rp 1008 0)), (18, .d (.rp 1009 0)), bxB 2005 (eXSetFunctor.b a0), bxB 2007 (eXSetFunctor.b a1), bxO 2013 34000 (eXProfunctor.o v7.1), bxO 2017 38000 (eXSetFunctor.o v5), bxO 2019 40000 (eXSetFunctor.o v6)] ++ rsS 34000 (eXProfunctor.o v7.1) ++ rsS 38000 (eXSetFunctor.o v5) ++ rsS 40000 (eXSetFunctor.o v6)) (cc0 ok58 (laws_toSetFunctor_c a1 _ hv6) (by kernel_rfl) (.cons (Nat.le_of_ble_eq_true (n := 7) (m := 7) rfl) .nil)) (by kernel_rfl) (by kernel_rfl) ?_
      obtain ⟨v8, hv8, hM⟩ := bind_some' hM
      refine tr_sr hT hm [(2, .call (rsR 38000 (eXSetFunctor.o v5) ++ rsR 40000 (eXSetFunctor.o v6)) [] [.agg (eXSetFunctor.b v5), .agg (eXSetFunctor.b v6)] [] (.tup [.agg (eXProfunctor.o v8.1), iv v8.2]))] [4, 6, 12, 14, 16, 18, 20, 22, 2005, 2007, 2013, 2017, 2019, 2021, 68003, 68005, 68007, 68009, 68013, 68015, 68017, 68019, 68021, 68023, 68025, 76003, 76005, 76007, 76009, 76011, 76013, 80003, 80005, 80007, 80009, 80011, 80013, 88003, 88005, 88007, 88009, 88013, 88015, 88017, 88019, 88021, 88023, 88025] ([(4, .d (.rp 1002 0)), (6, .d (.rp 1003 0)), (12, .d (.rp 1006 0)), (14, .d (iv v7.2)), (16, .d (.rp 1008 0)), (18, .d (.rp 1009 0)), (20, .d (.rp 1010 0)), (22, .d (iv v8.2)), bxB 2005 (eXSetFunctor.b a0), bxB 2007 (eXSetFunctor.b a1), bxO 2013 34000 (eXProfunctor.o v7.1), bxO 2017 38000 (eXSetFunctor.o v5), bxO 2019 40000 (eXSetFunctor.o v6), bxO 2021 44000 (eXProfunctor.o v8.1)] ++ rsS 34000 (eXProfunctor.o v7.1) ++ rsS 38000 (eXSetFunctor.o v5) ++ rsS 40000 (eXSetFunctor.o v6) ++ rsS 44000 (eXProfunctor.o v8.1)) (cc (B := (rsR 38000 (eXSetFunctor.o v5) ++ rsR 40000 (eXSetFunctor.o v6))) (ρ := []) (rB := (rsP 38000 (eXSetFunctor.o v5) ++ rsP 40000 (eXSetFunctor.o v6))) ok65 (impl_MapsProfunctor_c v5 v6 _ hv8) (.cons (bor_rs eXSetFunctor_r (q := 38000) (x := v5) (by kernel_rfl) (by kernel_rfl)) (.cons (bor_rs eXSetFunctor_r (q := 40000) (x := v6) (by kernel_rfl) (by kernel_rfl)) .nil)) (.inr ⟨(nobor_tup (.cons (.agg (eXProfunctor_nb _)) (.cons .v .nil))), trivial⟩) (.cons (Nat.le_of_ble_eq_true (n := 13) (m := 13) rfl) .nil)) (by kernel_rfl) (by kernel_rfl) ?_
      refine tr_seq ?_
      obtain ⟨v9, hv9, hM⟩ := bind_some' hM
      rcases Bool.eq_false_or_eq_true v9 with h10 | h10
      · have hM := ite_true' hM h10
        refine tr_sr hT hm [(2, .call (rsR 44000 (eXProfunctor.o v8.1) ++ rsR 34000 (eXProfunctor.o v7.1)) [] [.agg (eXProfunctor.b v8.1), .agg (eXProfunctor.b v7.1)] [] (bv v9)), (4, .val (bv false))] [4, 6, 12, 14, 16, 18, 20, 22, 106, 2005, 2007, 2013, 2017, 2019, 2021, 68003, 68005, 68007, 68009, 68013, 68015, 68017, 68019, 68021, 68023, 68025, 76003, 76005, 76007, 76009, 76011, 76013, 80003, 80005, 80007, 80009, 80011, 80013, 88003, 88005, 88007, 88009, 88013, 88015, 88017, 88019, 88021, 88023, 88025] ([(4, .d (.rp 1002 0)), (6, .d (.rp 1003 0)), (12, .d (.rp 1006 0)), (14, .d (iv v7.2)), (16, .d (.rp 1008 0)), (18, .d (.rp 1009 0)), (20, .d (.rp 1010 0)), (22, .d (iv v8.2)), (106, .d (bv (v8.2 != v7.2))), bxB 2005 (eXSetFunctor.b a0), bxB 2007 (eXSetFunctor.b a1), bxO 2013 34000 (eXProfunctor.o v7.1), bxO 2017 38000 (eXSetFunctor.o v5), bxO 2019 40000 (eXSetFunctor.o v6), bxO 2021 44000 (eXProfunctor.o v8.1)] ++ rsS 34000 (eXProfunctor.o v7.1) ++ rsS 38000 (eXSetFunctor.o v5) ++ rsS 40000 (eXSetFunctor.o v6) ++ rsS 44000 (eXProfunctor.o v8.1)) (cc (B := (rsR 44000 (eXProfunctor.o v8.1) ++ rsR 34000 (eXProfunctor.o v7.1))) (ρ := []) (rB := (rsP 44000 (eXProfunctor.o v8.1) ++ rsP 34000 (eXProfunctor.o v7.1))) ok51 (laws_eqProfunctor_c v8.1 v7.1 _ hv9) (.cons (bor_rs eXProfunctor_r (q := 44000) (x := v8.1) (by kernel_rfl) (by kernel_rfl)) (.cons (bor_rs eXProfunctor_r (q := 34000) (x := v7.1) (by kernel_rfl) (by kernel_rfl)) .nil)) (.inr ⟨.v, trivial⟩) (.cons (congrArg (fun b => bv b) (congrArg not h10)) .nil)) (by kernel_rfl) (by kernel_rfl) ?_
        rcases Bool.eq_false_or_eq_true (v8.2 != v7.2) with h11 | h11
        · have hM := ite_true' hM h11
          refine tr_condTe (e := v8.2 != v7.2) h11 (by kernel_rfl) ?_
          refine tr_sr hT hm [] [8] [(8, .d (bv false))] .nil (by kernel_rfl) (by kernel_rfl) ?_
          refine tr_ret (q_r (rg_r ?_))
          obtain rfl := Option.some.inj hM
          exact retg (names := []) .nil (by kernel_rfl)
        · have hM := ite_false' hM h11
          refine tr_condFe (e := v8.2 != v7.2) h11 (by kernel_rfl) ?_
          refine tr_skip (q_n ?_)
          refine tr_seq ?_
          obtain ⟨v12, hv12, hM⟩ := bind_some' hM
          refine tr_sr hT hm [(2, .call [] [] [.agg (eXSetFunctor.b a0)] [] (.agg (eXSetFunctor.o v5))), (3, .call (rsR 38000 (eXSetFunctor.o v5) ++ rsR 58000 (eXSetFunctor.o v5)) [] [.agg (eXSetFunctor.b v5), .agg (eXSetFunctor.b v5)] [] (bv v12))] [4, 6, 12, 14, 16, 18, 20, 22, 116, 2005, 2007, 2013, 2017, 2019, 2021, 68003, 68005, 68007, 68009, 68013, 68015, 68017, 68019, 68021, 68023, 68025, 76003, 76005, 76007, 76009, 76011, 76013, 80003, 80005, 80007, 80009, 80011, 80013, 88003, 88005, 88007, 88009, 88013, 88015, 88017, 88019, 88021, 88023, 88025] ([(4, .d (.rp 1002 0)), (6, .d (.rp 1003 0)), (12, .d (.rp 1006 0)), (14, .d (iv v7.2)), (16, .d (.rp 1008 0)), (18, .d (.rp 1009 0)), (20, .d (.rp 1010 0)), (22, .d (iv v8.2)), (116, .d (bv (!v12))), bxB 2005 (eXSetFunctor.b a0), bxB 2007 (eXSetFunctor.b a1), bxO 2013 34000 (eXProfunctor.o v7.1), bxO 2017 38000 (eXSetFunctor.o v5), bxO 2019 40000 (eXSetFunctor.o v6), bxO 2021 44000 (eXProfunctor.o v8.1)] ++ rsS 34000 (eXProfunctor.o v7.1) ++ rsS 38000 (eXSetFunctor.o v5) ++ rsS 40000 (eXSetFunctor.o v6) ++ rsS 44000 (eXProfunctor.o v8.1)) (cc0 ok58 (laws_toSetFunctor_c a0 _ hv5) (by kernel_rfl) (cc (B := (rsR 38000 (eXSetFunctor.o v5) ++ rsR 58000 (eXSetFunctor.o v5))) (ρ := []) (rB := (rsP 38000 (eXSetFunctor.o v5) ++ rsP 58000 (eXSetFunctor.o v5))) ok26 (laws_eqSetFunctor_c v5 v5 _ hv12) (.cons (bor_rs eXSetFunctor_r (q := 38000) (x := v5) (by kernel_rfl) (by kernel_rfl)) (.cons (bor_rs eXSetFunctor_r (q := 58000) (x := v5) (by kernel_rfl) (by kernel_rfl)) .nil)) (.inr ⟨.v, trivial⟩) .nil)) (by kernel_rfl) (by kernel_rfl) ?_
          rcases Bool.eq_false_or_eq_true v12 with h13 | h13
          · have hM := ite_true' hM h13
            refine tr_condFe (e := !v12) (congrArg not h13) (by kernel_rfl) ?_
            refine tr_skip (q_n ?_)
            refine tr_seq ?_
            obtain ⟨v14, hv14, hM⟩ := bind_some' hM
            refine tr_sr hT hm [(2, .call [] [] [.agg (eXSetFunctor.b a1)] [] (.agg (eXSetFunctor.o v6))), (3, .call (rsR 40000 (eXSetFunctor.o v6) ++ rsR 63000 (eXSetFunctor.o v6)) [] [.agg (eXSetFunctor.b v6), .agg (eXSetFunctor.b v6)] [] (bv v14))] [4, 6, 12, 14, 16, 18, 20, 22, 126, 2005, 2007, 2013, 2017, 2019, 2021, 68003, 68005, 68007, 68009, 68013, 68015, 68017, 68019, 68021, 68023, 68025, 76003, 76005, 76007, 76009, 76011, 76013, 80003, 80005, 80007, 80009, 80011, 80013, 88003, 88005, 88007, 88009, 88013, 88015, 88017, 88019, 88021, 88023, 88025] ([(4, .d (.rp 1002 0)), (6, .d (.rp 1003 0)), (12, .d (.rp 1006 0)), (14, .d (iv v7.2)), (16, .d (.rp 1008 0)), (18, .d (.rp 1009 0)), (20, .d (.rp 1010 0)), (22, .d (iv v8.2)), (126, .d (bv (!v14))), bxB 2005 (eXSetFunctor.b a0), bxB 2007 (eXSetFunctor.b a1), bxO 2013 34000 (eXProfunctor.o v7.1), bxO 2017 38000 (eXSetFunctor.o v5), bxO 2019 40000 (eXSetFunctor.o v6), bxO 2021 44000 (eXProfunctor.o v8.1)] ++ rsS 34000 (eXProfunctor.o v7.1) ++ rsS 38000 (eXSetFunctor.o v5) ++ rsS 40000 (eXSetFunctor.o v6) ++ rsS 44000 (eXProfunctor.o v8.1)) (cc0 ok58 (laws_toSetFunctor_c a1 _ hv6) (by kernel_rfl) (cc (B := (rsR 40000 (eXSetFunctor.o v6) ++ rsR 63000 (eXSetFunctor.o v6))) (ρ := []) (rB := (rsP 40000 (eXSetFunctor.o v6) ++ rsP 63000 (eXSetFunctor.o v6))) ok26 (laws_eqSetFunctor_c v6 v6 _ hv14) (.cons (bor_rs eXSetFunctor_r (q := 40000) (x := v6) (by kernel_rfl) (by kernel_rfl)) (.cons (bor_rs eXSetFunctor_r (q := 63000) (x := v6) (by kernel_rfl) (by kernel_rfl)) .nil)) (.inr ⟨.v, trivial⟩) .nil)) (by kernel_rfl) (by kernel_rfl) ?_
            rcases Bool.eq_false_or_eq_true v14 with h15 | h15
            · have hM := ite_true' hM h15
              refine tr_condFe (e := !v14) (congrArg not h15) (by kernel_rfl) ?_
              refine tr_skip (q_n ?_)
              refine tr_sr hT hm [] [4, 6, 12, 14, 16, 18, 20, 22, 24, 2005, 2007, 2013, 2017, 2019, 2021, 68003, 68005, 68007, 68009, 68013, 68015, 68017, 68019, 68021, 68023, 68025, 76003, 76005, 76007, 76009, 76011, 76013, 80003, 80005, 80007, 80009, 80011, 80013, 88003, 88005, 88007, 88009, 88013, 88015, 88017, 88019, 88021, 88023, 88025] ([(4, .d (.rp 1002 0)), (6, .d (.rp 1003 0)), (12, .d (.rp 1006 0)), (14, .d (iv v7.2)), (16, .d (.rp 1008 0)), (18, .d (.rp 1009 0)), (20, .d (.rp 1010 0)), (22, .d (iv v8.2)), (24, .d (iv 1)), bxB 2005 (eXSetFunctor.b a0), bxB 2007 (eXSetFunctor.b a1), bxO 2013 34000 (eXProfunctor.o v7.1), bxO 2017 38000 (eXSetFunctor.o v5), bxO 2019 40000 (eXSetFunctor.o v6), bxO 2021 44000 (eXProfunctor.o v8.1)] ++ rsS 34000 (eXProfunctor.o v7.1) ++ rsS 38000 (eXSetFunctor.o v5) ++ rsS 40000 (eXSetFunctor.o v6) ++ rsS 44000 (eXProfunctor.o v8.1)) .nil (by kernel_rfl) (by kernel_rfl) ?_
              obtain ⟨v16, hv16, hM⟩ := bind_some' hM
              refine tr_sr hT hm [(2, .call [] [(101, 38001), (102, 38002), (103, 38003), (104, 38004), (105, 38005), (106, 38006)] [.agg [iv v5.Shape.Objects, .rs 101 0 v5.Shape.From.length, .rs 102 0 v5.Shape.To.length, .rs 103 0 v5.Shape.Identity.length, .rs 104 0 v5.Shape.Composites.length, .rs 105 0 v5.Sizes.length, .rs 106 0 v5.Actions.length], iv 1] [(101, .arr 1 (v16.2.Shape.From.flatMap eI.o) []), (102, .arr 1 (v16.2.Shape.To.flatMap eI.o) []), (103, .arr 1 (v16.2.Shape.Identity.flatMap eI.o) []), (104, .arr 1 (v16.2.Shape.Composites.flatMap (eS eI).o) []), (105, .arr 1 (v16.2.Sizes.flatMap eI.o) []), (106, .arr 1 (v16.2.Actions.flatMap (eS eI).o) [])] (iv v16.1))] [4, 6, 12, 14, 18, 20, 22, 24, 2005, 2007, 2013, 2019, 2021, 68003, 68005, 68007, 68009, 68013, 68015, 68017, 68019, 68021, 68023, 68025, 80003, 80005, 80007, 80009, 80011, 80013, 88003, 88005, 88007, 88009, 88013, 88015, 88017, 88019, 88021, 88023, 88025] ([(4, .d (.rp 1002 0)), (6, .d (.rp 1003 0)), (12, .d (.rp 1006 0)), (14, .d (iv v7.2)), (18, .d (.rp 1009 0)), (20, .d (.rp 1010 0)), (22, .d (iv v8.2)), (24, .d (iv v16.1)), bxB 2005 (eXSetFunctor.b a0), bxB 2007 (eXSetFunctor.b a1), bxO 2013 34000 (eXProfunctor.o v7.1), bxO 2019 40000 (eXSetFunctor.o v6), bxO 2021 44000 (eXProfunctor.o v8.1)] ++ rsS 34000 (eXProfunctor.o v7.1) ++ rsS 40000 (eXSetFunctor.o v6) ++ rsS 44000 (eXProfunctor.o v8.1)) (cc (B := []) (ρ := [(101, 38001), (102, 38002), (103, 38003), (104, 38004), (105, 38005), (106, 38006)]) (rB := []) ok29 (laws_markSetFunctor_c v5 1 _ hv16) (.cons (.aggA (.cons (.same rfl) (.cons (.pass (.rs rfl)) (.cons (.pass (.rs rfl)) (.cons (.pass (.rs rfl)) (.cons (.pass (.rs rfl)) (.cons (.pass (.rs rfl)) (.cons (.pass (.rs rfl)) .nil)))))))) (.cons (.same rfl) .nil)) (.inl rfl) .nil) (by kernel_rfl) (by kernel_rfl) ?_
              obtain ⟨v17, hv17, hM⟩ := bind_some' hM
              refine tr_sr hT hm [(2, .call [] [(101, 40001), (102, 40002), (103, 40003), (104, 40004), (105, 40005), (106, 40006)] [.agg [iv v6.Shape.Objects, .rs 101 0 v6.Shape.From.length, .rs 102 0 v6.Shape.To.length, .rs 103 0 v6.Shape.Identity.length, .rs 104 0 v6.Shape.Composites.length, .rs 105 0 v6.Sizes.length, .rs 106 0 v6.Actions.length], iv v16.1] [(101, .arr 1 (v17.2.Shape.From.flatMap eI.o) []), (102, .arr 1 (v17.2.Shape.To.flatMap eI.o) []), (103, .arr 1 (v17.2.Shape.Identity.flatMap eI.o) []), (104, .arr 1 (v17.2.Shape.Composites.flatMap (eS eI).o) []), (105, .arr 1 (v17.2.Sizes.flatMap eI.o) []), (106, .arr 1 (v17.2.Actions.flatMap (eS eI).o) [])] (iv v17.1))] [4, 6, 12, 14, 20, 22, 24, 2005, 2007, 2013, 2021, 68003, 68005, 68007, 68009, 68013, 68015, 68017, 68019, 68021, 68023, 68025, 88003, 88005, 88007, 88009, 88013, 88015, 88017, 88019, 88021, 88023, 88025] ([(4, .d (.rp 1002 0)), (6, .d (.rp 1003 0)), (12, .d (.rp 1006 0)), (14, .d (iv v7.2)), (20, .d (.rp 1010 0)), (22, .d (iv v8.2)), (24, .d (iv v17.1)), bxB 2005 (eXSetFunctor.b a0), bxB 2007 (eXSetFunctor.b a1), bxO 2013 34000 (eXProfunctor.o v7.1), bxO 2021 44000 (eXProfunctor.o v8.1)] ++ rsS 34000 (eXProfunctor.o v7.1) ++ rsS 44000 (eXProfunctor.o v8.1)) (cc (B := []) (ρ := [(101, 40001), (102, 40002), (103, 40003), (104, 40004), (105, 40005), (106, 40006)]) (rB := []) ok29 (laws_markSetFunctor_c v6 v16.1 _ hv17) (.cons (.aggA (.cons (.same rfl) (.cons (.pass (.rs rfl)) (.cons (.pass (.rs rfl)) (.cons (.pass (.rs rfl)) (.cons (.pass (.rs rfl)) (.cons (.pass (.rs rfl)) (.cons (.pass (.rs rfl)) .nil)))))))) (.cons (.same rfl) .nil)) (.inl rfl) .nil) (by kernel_rfl) (by kernel_rfl) ?_
              refine tr_seq ?_
              rcases Bool.eq_false_or_eq_true (decide (v17.1 < 0)) with h18 | h18
              · have hM := ite_true' hM h18
                refine tr_sr hT hm [(2, .val (bv true))] [4, 6, 12, 14, 20, 164, 2005, 2007, 2013, 2021, 68003, 68005, 68007, 68009, 68013, 68015, 68017, 68019, 68021, 68023, 68025, 88003, 88005, 88007, 88009, 88013, 88015, 88017, 88019, 88021, 88023, 88025] ([(4, .d (.rp 1002 0)), (6, .d (.rp 1003 0)), (12, .d (.rp 1006 0)), (14, .d (iv v7.2)), (20, .d (.rp 1010 0)), (164, .d (bv true)), bxB 2005 (eXSetFunctor.b a0), bxB 2007 (eXSetFunctor.b a1), bxO 2013 34000 (eXProfunctor.o v7.1), bxO 2021 44000 (eXProfunctor.o v8.1)] ++ rsS 34000 (eXProfunctor.o v7.1) ++ rsS 44000 (eXProfunctor.o v8.1)) (.cons (congrArg (fun b => bv b) h18) .nil) (by kernel_rfl) (by kernel_rfl) ?_
                refine tr_condT (by kernel_rfl) ?_
                refine tr_sr hT hm [] [8] [(8, .d (bv false))] .nil (by kernel_rfl) (by kernel_rfl) ?_
                refine tr_ret (q_r (rg_r ?_))
                obtain rfl := Option.some.inj hM
                exact retg (names := []) .nil (by kernel_rfl)
              · have hM := ite_false' hM h18
                refine tr_sr hT hm [(2, .val (bv false)), (5, .call (rsR 44000 (eXProfunctor.o v8.1) ++ rsR 34000 (eXProfunctor.o v7.1)) [] [.agg (eXProfunctor.b v8.1), .agg (eXProfunctor.b v7.1)] [] (bv v9)), (8, .val (bv false))] [4, 6, 12, 14, 20, 164, 2005, 2007, 2013, 2021, 68003, 68005, 68007, 68009, 68013, 68015, 68017, 68019, 68021, 68023, 68025, 88003, 88005, 88007, 88009, 88013, 88015, 88017, 88019, 88021, 88023, 88025] ([(4, .d (.rp 1002 0)), (6, .d (.rp 1003 0)), (12, .d (.rp 1006 0)), (14, .d (iv v7.2)), (20, .d (.rp 1010 0)), (164, .d (bv (v8.2 != v7.2))), bxB 2005 (eXSetFunctor.b a0), bxB 2007 (eXSetFunctor.b a1), bxO 2013 34000 (eXProfunctor.o v7.1), bxO 2021 44000 (eXProfunctor.o v8.1)] ++ rsS 34000 (eXProfunctor.o v7.1) ++ rsS 44000 (eXProfunctor.o v8.1)) (.cons (congrArg (fun b => bv b) h18) (cc (B := (rsR 44000 (eXProfunctor.o v8.1) ++ rsR 34000 (eXProfunctor.o v7.1))) (ρ := []) (rB := (rsP 44000 (eXProfunctor.o v8.1) ++ rsP 34000 (eXProfunctor.o v7.1))) ok51 (laws_eqProfunctor_c v8.1 v7.1 _ hv9) (.cons (bor_rs eXProfunctor_r (q := 44000) (x := v8.1) (by kernel_rfl) (by kernel_rfl)) (.cons (bor_rs eXProfunctor_r (q := 34000) (x := v7.1) (by kernel_rfl) (by kernel_rfl)) .nil)) (.inr ⟨.v, trivial⟩) (.cons (congrArg (fun b => bv b) (congrArg not h10)) .nil))) (by kernel_rfl) (by kernel_rfl) ?_
                refine tr_condFe (e := v8.2 != v7.2) h11 (by kernel_rfl) ?_
                refine tr_skip (q_n ?_)
                refine tr_sr hT hm [] [4, 6, 12, 14, 20, 26, 2005, 2007, 2013, 2021, 68003, 68005, 68007, 68009, 68013, 68015, 68017, 68019, 68021, 68023, 68025, 88003, 88005, 88007, 88009, 88013, 88015, 88017, 88019, 88021, 88023, 88025] ([(4, .d (.rp 1002 0)), (6, .d (.rp 1003 0)), (12, .d (.rp 1006 0)), (14, .d (iv v7.2)), (20, .d (.rp 1010 0)), (26, .d (iv 1)), bxB 2005 (eXSetFunctor.b a0), bxB 2007 (eXSetFunctor.b a1), bxO 2013 34000 (eXProfunctor.o v7.1), bxO 2021 44000 (eXProfunctor.o v8.1)] ++ rsS 34000 (eXProfunctor.o v7.1) ++ rsS 44000 (eXProfunctor.o v8.1)) .nil (by kernel_rfl) (by kernel_rfl) ?_
                obtain ⟨v19, hv19, hM⟩ := bind_some' hM
                refine tr_sr hT hm [(2, .call [] [(101, 44001), (102, 44002), (103, 44003), (104, 44004), (106, 44006), (107, 44007), (108, 44008), (109, 44009), (110, 44010), (111, 44011), (112, 44012)] [.agg [iv v8.1.Source.Objects, .rs 101 0 v8.1.Source.From.length, .rs 102 0 v8.1.Source.To.length, .rs 103 0 v8.1.Source.Identity.length, .rs 104 0 v8.1.Source.Composites.length, iv v8.1.Target.Objects, .rs 106 0 v8.1.Target.From.length, .rs 107 0 v8.1.Target.To.length, .rs 108 0 v8.1.Target.Identity.length, .rs 109 0 v8.1.Target.Composites.length, .rs 110 0 v8.1.Sizes.length, .rs 111 0 v8.1.Before.length, .rs 112 0 v8.1.Behind.length], iv 1] [(101, .arr 1 (v19.2.Source.From.flatMap eI.o) []), (102, .arr 1 (v19.2.Source.To.flatMap eI.o) []), (103, .arr 1 (v19.2.Source.Identity.flatMap eI.o) []), (104, .arr 1 (v19.2.Source.Composites.flatMap (eS eI).o) []), (106, .arr 1 (v19.2.Target.From.flatMap eI.o) []), (107, .arr 1 (v19.2.Target.To.flatMap eI.o) []), (108, .arr 1 (v19.2.Target.Identity.flatMap eI.o) []), (109, .arr 1 (v19.2.Target.Composites.flatMap (eS eI).o) []), (110, .arr 1 (v19.2.Sizes.flatMap (eS eI).o) []), (111, .arr 1 (v19.2.Before.flatMap (eS (eS eI)).o) []), (112, .arr 1 (v19.2.Behind.flatMap (eS (eS eI)).o) [])] (iv v19.1))] [4, 6, 12, 14, 20, 26, 2005, 2007, 2013, 2021, 68003, 68005, 68007, 68009, 68013, 68015, 68017, 68019, 68021, 68023, 68025, 88003, 88005, 88007, 88009, 88013, 88015, 88017, 88019, 88021, 88023, 88025] ([(4, .d (.rp 1002 0)), (6, .d (.rp 1003 0)), (12, .d (.rp 1006 0)), (14, .d (iv v7.2)), (20, .d (.rp 1010 0)), (26, .d (iv v19.1)), bxB 2005 (eXSetFunctor.b a0), bxB 2007 (eXSetFunctor.b a1), bxO 2013 34000 (eXProfunctor.o v7.1), bxO 2021 44000 (eXProfunctor.o v8.1)] ++ rsS 34000 (eXProfunctor.o v7.1) ++ rsS 44000 (eXProfunctor.o v19.2)) (cc (B := []) (ρ := [(101, 44001), (102, 44002), (103, 44003), (104, 44004), (106, 44006), (107, 44007), (108, 44008), (109, 44009), (110, 44010), (111, 44011), (112, 44012)]) (rB := []) ok54 (laws_markProfunctor_c v8.1 1 _ hv19) (.cons (.aggA (.cons (.same rfl) (.cons (.pass (.rs rfl)) (.cons (.pass (.rs rfl)) (.cons (.pass (.rs rfl)) (.cons (.pass (.rs rfl)) (.cons (.same rfl) (.cons (.pass (.rs rfl)) (.cons (.pass (.rs rfl)) (.cons (.pass (.rs rfl)) (.cons (.pass (.rs rfl)) (.cons (.pass (.rs rfl)) (.cons (.pass (.rs rfl)) (.cons (.pass (.rs rfl)) .nil)))))))))))))) (.cons (.same rfl) .nil)) (.inl rfl) .nil) (by kernel_rfl) (by kernel_rfl) ?_
                refine Tr.by (imp_cvB (r := 1010) (sz := 1) (cells := rsC 44000 (eXProfunctor.o v8.1)) (cells' := rsC 44000 (eXProfunctor.o v19.2)) (refs := rsR 44000 (eXProfunctor.o v8.1)) (refs' := rsR 44000 (eXProfunctor.o v19.2)) (SubL.of_eq (rsC_eXProfunctor 44000 (M.len_markProfunctor hv19))) (by kernel_rfl) (by kernel_rfl) (by kernel_rfl)) ?_
                refine tr_sr hT hm [] [4, 6, 12, 14, 20, 26, 28, 2005, 2007, 2013, 2021, 68003, 68005, 68007, 68009, 68013, 68015, 68017, 68019, 68021, 68023, 68025, 88003, 88005, 88007, 88009, 88013, 88015, 88017, 88019, 88021, 88023, 88025] ([(4, .d (.rp 1002 0)), (6, .d (.rp 1003 0)), (12, .d (.rp 1006 0)), (14, .d (iv v7.2)), (20, .d (.rp 1010 0)), (26, .d (iv v19.1)), (28, .d (iv 1)), bxB 2005 (eXSetFunctor.b a0), bxB 2007 (eXSetFunctor.b a1), bxO 2013 34000 (eXProfunctor.o v7.1), bxO 2021 44000 (eXProfunctor.o v19.2)] ++ rsS 34000 (eXProfunctor.o v7.1) ++ rsS 44000 (eXProfunctor.o v19.2)) .nil (by kernel_rfl) (by kernel_rfl) ?_
                obtain ⟨v20, hv20, hM⟩ := bind_some' hM
                refine tr_sr hT hm [(2, .call (rsR 44000 (eXProfunctor.o v19.2)) [] [.agg (eXProfunctor.b v19.2), iv 1] [] (iv v20))] [4, 6, 12, 14, 20, 26, 28, 2005, 2007, 2013, 2021, 68003, 68005, 68007, 68009, 68013, 68015, 68017, 68019, 68021, 68023, 68025, 88003, 88005, 88007, 88009, 88013, 88015, 88017, 88019, 88021, 88023, 88025] ([(4, .d (.rp 1002 0)), (6, .d (.rp 1003 0)), (12, .d (.rp 1006 0)), (14, .d (iv v7.2)), (20, .d (.rp 1010 0)), (26, .d (iv v19.1)), (28, .d (iv v20)), bxB 2005 (eXSetFunctor.b a0), bxB 2007 (eXSetFunctor.b a1), bxO 2013 34000 (eXProfunctor.o v7.1), bxO 2021 44000 (eXProfunctor.o v19.2)] ++ rsS 34000 (eXProfunctor.o v7.1) ++ rsS 44000 (eXProfunctor.o v19.2)) (cc (B := (rsR 44000 (eXProfunctor.o v19.2))) (ρ := []) (rB := (rsP 44000 (eXProfunctor.o v19.2))) ok55 (laws_heldProfunctor_c v19.2 1 _ hv20) (.cons (bor_rs eXProfunctor_r (q := 44000) (x := v19.2) (by kernel_rfl) (by kernel_rfl)) (.cons (.same rfl) .nil)) (.inr ⟨.v, trivial⟩) .nil) (by kernel_rfl) (by kernel_rfl) ?_
                refine tr_seq ?_
                refine tr_sr hT hm [] [4, 6, 12, 14, 20, 26, 28, 180, 2005, 2007, 2013, 2021, 68003, 68005, 68007, 68009, 68013, 68015, 68017, 68019, 68021, 68023, 68025, 88003, 88005, 88007, 88009, 88013, 88015, 88017, 88019, 88021, 88023, 88025] ([(4, .d (.rp 1002 0)), (6, .d (.rp 1003 0)), (12, .d (.rp 1006 0)), (14, .d (iv v7.2)), (20, .d (.rp 1010 0)), (26, .d (iv v19.1)), (28, .d (iv v20)), (180, .d (bv (decide (v20 < 0)))), bxB 2005 (eXSetFunctor.b a0), bxB 2007 (eXSetFunctor.b a1), bxO 2013 34000 (eXProfunctor.o v7.1), bxO 2021 44000 (eXProfunctor.o v19.2)] ++ rsS 34000 (eXProfunctor.o v7.1) ++ rsS 44000 (eXProfunctor.o v19.2)) .nil (by kernel_rfl) (by kernel_rfl) ?_
                rcases Bool.eq_false_or_eq_true (decide (v20 < 0)) with h21 | h21
                · have hM := ite_true' hM h21
                  refine tr_condTe (e := decide (v20 < 0)) h21 (by kernel_rfl) ?_
                  refine tr_sr hT hm [] [8] [(8, .d (bv false))] .nil (by kernel_rfl) (by kernel_rfl) ?_
                  refine tr_ret (q_r (rg_r ?_))
                  obtain rfl := Option.some.inj hM
                  exact retg (names := []) .nil (by kernel_rfl)
                · have hM := ite_false' hM h21
                  refine tr_condFe (e := decide (v20 < 0)) h21 (by kernel_rfl) ?_
                  refine tr_skip (q_n ?_)
                  refine tr_seq ?_
                  refine tr_sr hT hm [] [4, 6, 12, 14, 20, 26, 186, 2005, 2007, 2013, 2021, 68003, 68005, 68007, 68009, 68013, 68015, 68017, 68019, 68021, 68023, 68025, 88003, 88005, 88007, 88009, 88013, 88015, 88017, 88019, 88021, 88023, 88025] ([(4, .d (.rp 1002 0)), (6, .d (.rp 1003 0)), (12, .d (.rp 1006 0)), (14, .d (iv v7.2)), (20, .d (.rp 1010 0)), (26, .d (iv v19.1)), (186, .d (bv (v20 != v19.1))), bxB 2005 (eXSetFunctor.b a0), bxB 2007 (eXSetFunctor.b a1), bxO 2013 34000 (eXProfunctor.o v7.1), bxO 2021 44000 (eXProfunctor.o v19.2)] ++ rsS 34000 (eXProfunctor.o v7.1) ++ rsS 44000 (eXProfunctor.o v19.2)) .nil (by kernel_rfl) (by kernel_rfl) ?_
                  rcases Bool.eq_false_or_eq_true (v20 != v19.1) with h22 | h22
                  · have hM := ite_true' hM h22
                    refine tr_condTe (e := v20 != v19.1) h22 (by kernel_rfl) ?_
                    refine tr_sr hT hm [] [8] [(8, .d (bv false))] .nil (by kernel_rfl) (by kernel_rfl) ?_
                    refine tr_ret (q_r (rg_r ?_))
                    obtain rfl := Option.some.inj hM
                    exact retg (names := []) .nil (by kernel_rfl)
                  · have hM := ite_false' hM h22
                    refine tr_condFe (e := v20 != v19.1) h22 (by kernel_rfl) ?_
                    refine tr_skip (q_n ?_)
                    refine tr_sr hT hm [(1, .call [] [] [.agg (eXSetFunctor.b a0)] [] (.agg (eXSetFunctor.o v5))), (3, .call [] [] [.agg (eXSetFunctor.b a1)] [] (.agg (eXSetFunctor.o v6))), (4, .call (rsR 98000 (eXSetFunctor.o v5) ++ rsR 100000 (eXSetFunctor.o v6)) [] [.agg (eXSetFunctor.b v5), .agg (eXSetFunctor.b v6)] [] (.tup [.agg (eXProfunctor.o v8.1), iv v8.2]))] [12, 14, 20, 26, 30, 32, 2013, 2021, 2031, 68003, 68005, 68007, 68009, 68013, 68015, 68017, 68019, 68021, 68023, 68025, 88003, 88005, 88007, 88009, 88013, 88015, 88017, 88019, 88021, 88023, 88025, 202003, 202005, 202007, 202009, 202013, 202015, 202017, 202019, 202021, 202023, 202025] ([(12, .d (.rp 1006 0)), (14, .d (iv v7.2)), (20, .d (.rp 1010 0)), (26, .d (iv v19.1)), (30, .d (.rp 1015 0)), (32, .d (iv v8.2)), bxO 2013 34000 (eXProfunctor.o v7.1), bxO 2021 44000 (eXProfunctor.o v19.2), bxO 2031 101000 (eXProfunctor.o v8.1)] ++ rsS 34000 (eXProfunctor.o v7.1) ++ rsS 44000 (eXProfunctor.o v19.2) ++ rsS 101000 (eXProfunctor.o v8.1)) (cc0 ok58 (laws_toSetFunctor_c a0 _ hv5) (by kernel_rfl) (cc0 ok58 (laws_toSetFunctor_c a1 _ hv6) (by kernel_rfl) (cc (B := (rsR 98000 (eXSetFunctor.o v5) ++ rsR 100000 (eXSetFunctor.o v6))) (ρ := []) (rB := (rsP 98000 (eXSetFunctor.o v5) ++ rsP 100000 (eXSetFunctor.o v6))) ok65 (impl_MapsProfunctor_c v5 v6 _ hv8) (.cons (bor_rs eXSetFunctor_r (q := 98000) (x := v5) (by kernel_rfl) (by kernel_rfl)) (.cons (bor_rs eXSetFunctor_r (q := 100000) (x := v6) (by kernel_rfl) (by kernel_rfl)) .nil)) (.inr ⟨(nobor_tup (.cons (.agg (eXProfunctor_nb _)) (.cons .v .nil))), trivial⟩) (.cons (Nat.le_of_ble_eq_true (n := 13) (m := 13) rfl) .nil)))) (by kernel_rfl) (by kernel_rfl) ?_
                    refine tr_seq ?_
                    refine tr_sr hT hm [(2, .call (rsR 101000 (eXProfunctor.o v8.1) ++ rsR 34000 (eXProfunctor.o v7.1)) [] [.agg (eXProfunctor.b v8.1), .agg (eXProfunctor.b v7.1)] [] (bv v9)), (4, .val (bv false))] [20, 26, 220, 2021, 88003, 88005, 88007, 88009, 88013, 88015, 88017, 88019, 88021, 88023, 88025] ([(20, .d (.rp 1010 0)), (26, .d (iv v19.1)), (220, .d (bv (v8.2 != v7.2))), bxO 2021 44000 (eXProfunctor.o v19.2)] ++ rsS 44000 (eXProfunctor.o v19.2)) (cc (B := (rsR 101000 (eXProfunctor.o v8.1) ++ rsR 34000 (eXProfunctor.o v7.1))) (ρ := []) (rB := (rsP 101000 (eXProfunctor.o v8.1) ++ rsP 34000 (eXProfunctor.o v7.1))) ok51 (laws_eqProfunctor_c v8.1 v7.1 _ hv9) (.cons (bor_rs eXProfunctor_r (q := 101000) (x := v8.1) (by kernel_rfl) (by kernel_rfl)) (.cons (bor_rs eXProfunctor_r (q := 34000) (x := v7.1) (by kernel_rfl) (by kernel_rfl)) .nil)) (.inr ⟨.v, trivial⟩) (.cons (congrArg (fun b => bv b) (congrArg not h10)) .nil)) (by kernel_rfl) (by kernel_rfl) ?_
                    refine tr_condFe (e := v8.2 != v7.2) h11 (by kernel_rfl) ?_
                    refine tr_skip (q_n ?_)
                    refine tr_sr hT hm [] [20, 26, 28, 2021, 88003, 88005, 88007, 88009, 88013, 88015, 88017, 88019, 88021, 88023, 88025] ([(20, .d (.rp 1010 0)), (26, .d (iv v19.1)), (28, .d (iv 1)), bxO 2021 44000 (eXProfunctor.o v19.2)] ++ rsS 44000 (eXProfunctor.o v19.2)) .nil (by kernel_rfl) (by kernel_rfl) ?_
                    refine tr_sr hT hm [(2, .call (rsR 44000 (eXProfunctor.o v19.2)) [] [.agg (eXProfunctor.b v19.2), iv 1] [] (iv v20))] [26, 28] [(26, .d (iv v19.1)), (28, .d (iv v20))] (cc (B := (rsR 44000 (eXProfunctor.o v19.2))) (ρ := []) (rB := (rsP 44000 (eXProfunctor.o v19.2))) ok55 (laws_heldProfunctor_c v19.2 1 _ hv20) (.cons (bor_rs eXProfunctor_r (q := 44000) (x := v19.2) (by kernel_rfl) (by kernel_rfl)) (.cons (.same rfl) .nil)) (.inr ⟨.v, trivial⟩) .nil) (by kernel_rfl) (by kernel_rfl) ?_
                    refine tr_seq ?_
                    refine tr_sr hT hm [] [26, 28, 230] [(26, .d (iv v19.1)), (28, .d (iv v20)), (230, .d (bv (decide (v20 < 0))))] .nil (by kernel_rfl) (by kernel_rfl) ?_
                    refine tr_condFe (e := decide (v20 < 0)) h21 (by kernel_rfl) ?_
                    refine tr_skip (q_n ?_)
                    refine tr_seq ?_
                    refine tr_sr hT hm [] [236] [(236, .d (bv (v20 != v19.1)))] .nil (by kernel_rfl) (by kernel_rfl) ?_
                    refine tr_condFe (e := v20 != v19.1) h22 (by kernel_rfl) ?_
                    refine tr_skip (q_n ?_)
                    refine tr_sr hT hm [] [8] [(8, .d (bv true))] .nil (by kernel_rfl) (by kernel_rfl) ?_
                    refine tr_ret (rg_r ?_)
                    obtain rfl := Option.some.inj hM
                    exact retg (names := []) .nil (by kernel_rfl)
            · have hM := ite_false' hM h15
              refine tr_condTe (e := !v14) (congrArg not h15) (by kernel_rfl) ?_
              refine tr_sr hT hm [] [8] [(8, .d (bv false))] .nil (by kernel_rfl) (by kernel_rfl) ?_
              refine tr_ret (q_r (rg_r ?_))
              obtain rfl := Option.some.inj hM
              exact retg (names := []) .nil (by kernel_rfl)
          · have hM := ite_false' hM h13
            refine tr_condTe (e := !v12) (congrArg not h13) (by kernel_rfl) ?_
            refine tr_sr hT hm [] [8] [(8, .d (bv false))] .nil (by kernel_rfl) (by kernel_rfl) ?_
            refine tr_ret (q_r (rg_r ?_))
            obtain rfl := Option.some.inj hM
            exact retg (names := []) .nil (by kernel_rfl)
      · have hM := ite_false' hM h10
        refine tr_sr hT hm [(2, .call (rsR 44000 (eXProfunctor.o v8.1) ++ rsR 34000 (eXProfunctor.o v7.1)) [] [.agg (eXProfunctor.b v8.1), .agg (eXProfunctor.b v7.1)] [] (bv v9)), (4, .val (bv true))] [4, 6, 12, 14, 16, 18, 20, 22, 106, 2005, 2007, 2013, 2017, 2019, 2021, 68003, 68005, 68007, 68009, 68013, 68015, 68017, 68019, 68021, 68023, 68025, 76003, 76005, 76007, 76009, 76011, 76013, 80003, 80005, 80007, 80009, 80011, 80013, 88003, 88005, 88007, 88009, 88013, 88015, 88017, 88019, 88021, 88023, 88025] ([(4, .d (.rp 1002 0)), (6, .d (.rp 1003 0)), (12, .d (.rp 1006 0)), (14, .d (iv v7.2)), (16, .d (.rp 1008 0)), (18, .d (.rp 1009 0)), (20, .d (.rp 1010 0)), (22, .d (iv v8.2)), (106, .d (bv true)), bxB 2005 (eXSetFunctor.b a0), bxB 2007 (eXSetFunctor.b a1), bxO 2013 34000 (eXProfunctor.o v7.1), bxO 2017 38000 (eXSetFunctor.o v5), bxO 2019 40000 (eXSetFunctor.o v6), bxO 2021 44000 (eXProfunctor.o v8.1)] ++ rsS 34000 (eXProfunctor.o v7.1) ++ rsS 38000 (eXSetFunctor.o v5) ++ rsS 40000 (eXSetFunctor.o v6) ++ rsS 44000 (eXProfunctor.o v8.1)) (cc (B := (rsR 44000 (eXProfunctor.o v8.1) ++ rsR 34000 (eXProfunctor.o v7.1))) (ρ := []) (rB := (rsP 44000 (eXProfunctor.o v8.1) ++ rsP 34000 (eXProfunctor.o v7.1))) ok51 (laws_eqProfunctor_c v8.1 v7.1 _ hv9) (.cons (bor_rs eXProfunctor_r (q := 44000) (x := v8.1) (by kernel_rfl) (by kernel_rfl)) (.cons (bor_rs eXProfunctor_r (q := 34000) (x := v7.1) (by kernel_rfl) (by kernel_rfl)) .nil)) (.inr ⟨.v, trivial⟩) (.cons (congrArg (fun b => bv b) (congrArg not h10)) .nil)) (by kernel_rfl) (by kernel_rfl) ?_
        refine tr_condT (by kernel_rfl) ?_
        refine tr_sr hT hm [] [8] [(8, .d (bv false))] .nil (by kernel_rfl) (by kernel_rfl) ?_
        refine tr_ret (q_r (rg_r ?_))
        obtain rfl := Option.some.inj hM
        exact retg (names := []) .nil (by kernel_rfl)

end Go.Proofs.Ytjmjhhhglbeacaa.Wy57
