/- Walks. Printed by wip/gen. -/
import Derived.Test.YtpfdieaiogfihaaGxwVM
import Derived.Test.YtpfdieaiogfihaaGxwNW
import Derived.KernelRfl
namespace Go.Proofs.Ytpfdieaiogfihaa.WwV
open Go.Gx Go.Proofs.Ytpfdieaiogfihaa.WvB Go.Proofs.Ytpfdieaiogfihaa.WwN

theorem eXCategory_r : EncR eXCategory := (eA_r (eC_r eI_r _) (eA_r (eC_r (eS_r eI_ok) _) (eA_r (eC_r (eS_r eI_ok) _) (eA_r (eC_r (eS_r eI_ok) _) (eC_r (eS_r (eS_ok eI_ok)) _)))))
theorem eXFunctor_r : EncR eXFunctor := (eA_r (eC_r eXCategory_r _) (eA_r (eC_r eXCategory_r _) (eA_r (eC_r (eS_r eI_ok) _) (eC_r (eS_r eI_ok) _))))
theorem eXends_r : EncR eXends := (eA_r (eC_r eI_r _) (eC_r eI_r _))
theorem eXTransformation_r : EncR eXTransformation := (eA_r (eC_r eXFunctor_r _) (eA_r (eC_r eXFunctor_r _) (eC_r (eS_r eI_ok) _)))
def T : Tab := [(2, ⟨.int .i64, 1, 8, [.int .i64 0]⟩),
  (3, ⟨.int .i64, 1, 8, [.int .i64 0]⟩),
  (22, ⟨.slice 2, 1, 24, [.slice .none 0 0]⟩),
  (23, ⟨.slice 22, 1, 24, [.slice .none 0 0]⟩),
  (32, ⟨.struct #[⟨"Objects", 2, 0, false, "", "", 0⟩, ⟨"From", 22, 1, false, "", "", 8⟩, ⟨"To", 22, 2, false, "", "", 32⟩, ⟨"Identity", 22, 3, false, "", "", 56⟩, ⟨"Composites", 23, 4, false, "", "", 80⟩], 5, 104, [.int .i64 0, .slice .none 0 0, .slice .none 0 0, .slice .none 0 0, .slice .none 0 0]⟩)]
theorem hT : TabOk Try.prog T := ⟨tiok (by kernel_rfl) (by kernel_rfl), tiok (by kernel_rfl) (by kernel_rfl), tiok (by kernel_rfl) (by kernel_rfl), tiok (by kernel_rfl) (by kernel_rfl), tiok (by kernel_rfl) (by kernel_rfl), trivial⟩
theorem hm : Try.prog.follows .mixedOrders = true := by kernel_rfl

theorem ok130 : CallOk Try.prog 130 := callOk_of Try.func130 (by kernel_rfl) (by kernel_rfl)
theorem spec_l02Hom_c (a0 : XCategory) (a1 : Int) (a2 : Int) (r : (List Int)) (hM : M.spec_l02Hom a0 a1 a2 = some r) :
    FnC Try.prog 130 [] [.agg (eXCategory.b a0), iv a1, iv a2] [] (.fr 1 r.length (r.flatMap eI.o)) := by
  refine fnc_startG (N := 38) (np := 500) hT Try.func130 rfl rfl (by kernel_rfl) ?_
  unfold M.spec_l02Hom at hM
  refine tr_start (ks := [0, 2, 4]) (st' := [(0, .d (.agg (eXCategory.b a0))), (2, .d (iv a1)), (4, .d (iv a2))]) (by kernel_rfl) ?_
  refine tr_sr hT hm [] [2, 4, 6, 2007] [(2, .d (iv a1)), (4, .d (iv a2)), (6, .d (.rp 1003 0)), bxB 2007 (eXCategory.b a0)] .nil (by kernel_rfl) (by kernel_rfl) ?_
  refine tr_sr hT hm [] [2, 4, 6, 14, 2007, 2019] [(2, .d (iv a1)), (4, .d (iv a2)), (6, .d (.rp 1003 0)), (14, .d (.rs 1009 0 (([] : List Int).length))), bxB 2007 (eXCategory.b a0), (2019, .r (.arr 1 (([] : List Int).flatMap eI.o) []))] .nil (by kernel_rfl) (by kernel_rfl) ?_
  refine tr_seq ?_
  refine tr_sr hT hm [] [2, 4, 6, 14, 16, 2007, 2019] [(2, .d (iv a1)), (4, .d (iv a2)), (6, .d (.rp 1003 0)), (14, .d (.rs 1009 0 (([] : List Int).length))), (16, .d (iv 0)), bxB 2007 (eXCategory.b a0), (2019, .r (.arr 1 (([] : List Int).flatMap eI.o) []))] .nil (by kernel_rfl) (by kernel_rfl) ?_
  refine tr_block ?_
  refine tr_iterS (fun (s1 : (List Int) × Int) => [(2, .d (iv a1)), (4, .d (iv a2)), (6, .d (.rp 1003 0)), (14, .d (.rs 1009 0 s1.1.length)), (16, .d (iv s1.2)), bxB 2007 (eXCategory.b a0), (2019, .r (.arr 1 (s1.1.flatMap eI.o) []))]) (([] : List Int), 0) [2, 4, 6, 14, 16, 2007, 2019] (by kernel_rfl) hM ?_
  intro n4 next2 ih3 s1 hM
  refine tr_seq ?_
  refine tr_sr hT hm [] [2, 4, 6, 14, 16, 28, 2007, 2019] [(2, .d (iv a1)), (4, .d (iv a2)), (6, .d (.rp 1003 0)), (14, .d (.rs 1009 0 s1.1.length)), (16, .d (iv s1.2)), (28, .d (bv (decide (s1.2 < (a0.From.length : Int))))), bxB 2007 (eXCategory.b a0), (2019, .r (.arr 1 (s1.1.flatMap eI.o) []))] .nil (by kernel_rfl) (by kernel_rfl) ?_
  rcases Bool.eq_false_or_eq_true (decide (s1.2 < (a0.From.length : Int))) with h5 | h5
  · have hM := ite_true' hM h5
    refine tr_condTe (e := decide (s1.2 < (a0.From.length : Int))) h5 (by kernel_rfl) ?_
    refine tr_skip (q_n ?_)
    refine tr_seq ?_
    refine tr_block ?_
    obtain ⟨y6, hy6, hM⟩ := bind_some' hM
    have hy6' := idx_some hy6
    rcases Bool.eq_false_or_eq_true (y6 == a1) with h7 | h7
    · have hM := ite_true' hM h7
      obtain ⟨y8, hy8, hM⟩ := bind_some' hM
      have hy8' := idx_some hy8
      refine tr_sr hT hm [(4, .val (iv y6)), (7, .val (bv true)), (12, .val (iv y8))] [2, 4, 6, 14, 16, 50, 52, 54, 56, 58, 60, 62, 64, 2007, 2019] [(2, .d (iv a1)), (4, .d (iv a2)), (6, .d (.rp 1003 0)), (14, .d (.rs 1009 0 s1.1.length)), (16, .d (iv s1.2)), (50, .d (.rp 1003 2)), (52, .d (.sl a0.To.length 0 (a0.To.flatMap eI.b))), (54, .d (iv s1.2)), (56, .d (.pt (a0.To.flatMap eI.b) (0 + s1.2.toNat * 1))), (58, .d (iv y8)), (60, .d (iv a2)), (62, .d (bv (y8 == a2))), (64, .d (bv (y8 == a2))), bxB 2007 (eXCategory.b a0), (2019, .r (.arr 1 (s1.1.flatMap eI.o) []))] (.cons hy6'.1 (.cons hy6'.2.1 (.cons (at_b0 eI_ok hy6'.2.2 (d := iv y6) (by kernel_rfl)) (.cons (congrArg (fun b => bv b) h7) (.cons hy8'.1 (.cons hy8'.2.1 (.cons (at_b0 eI_ok hy8'.2.2 (d := iv y8) (by kernel_rfl)) .nil))))))) (by kernel_rfl) (by kernel_rfl) ?_
      rcases Bool.eq_false_or_eq_true (y8 == a2) with h9 | h9
      · have hM := ite_true' hM h9
        refine tr_condTe (e := y8 == a2) h9 (by kernel_rfl) ?_
        obtain ⟨h10, hM⟩ := chk_some hM
        refine tr_r hT hm [(3, .app true)] [2, 4, 6, 14, 16, 50, 52, 54, 56, 58, 60, 62, 2007, 2073] [(2, .d (iv a1)), (4, .d (iv a2)), (6, .d (.rp 1003 0)), (14, .d (.rs 1036 0 (s1.1.length + (([s1.2] : List Int).length)))), (16, .d (iv s1.2)), (50, .d (.rp 1003 2)), (52, .d (.sl a0.To.length 0 (a0.To.flatMap eI.b))), (54, .d (iv s1.2)), (56, .d (.pt (a0.To.flatMap eI.b) (0 + s1.2.toNat * 1))), (58, .d (iv y8)), (60, .d (iv a2)), (62, .d (bv (y8 == a2))), bxB 2007 (eXCategory.b a0), (2073, .r (.arr 1 (s1.1.flatMap eI.o ++ ([s1.2] : List Int).flatMap eI.o) []))] (.cons (lenO_flat eI_ok s1.1) (.cons (lenO_flat eI_ok ([s1.2] : List Int)) (.cons h10 .nil))) (by kernel_rfl) (by kernel_rfl) (b_n (q_n ?_))
        refine Tr.by (imp_cvE (r := 1036) (sz := 1) (refs := []) (flat_app eI.o s1.1 ([s1.2] : List Int)) (menO_flat eI_ok _) (by kernel_rfl)) ?_
        refine Tr.by (imp_cvD (k := 14) (congrArg (D.rs 1036 0) ((len_app s1.1 ([s1.2] : List Int)) : s1.1.length + (([s1.2] : List Int).length) = (s1.1 ++ ([s1.2] : List Int)).length)) (by kernel_rfl)) ?_
        refine tr_r hT hm [] [2, 4, 6, 14, 16, 50, 52, 54, 56, 58, 60, 62, 2007, 2073] [(2, .d (iv a1)), (4, .d (iv a2)), (6, .d (.rp 1003 0)), (14, .d (.rs 1036 0 ((s1.1 ++ ([s1.2] : List Int)).length))), (16, .d (iv (IntKind.i64.wrap (s1.2 + 1)))), (50, .d (.rp 1003 2)), (52, .d (.sl a0.To.length 0 (a0.To.flatMap eI.b))), (54, .d (iv s1.2)), (56, .d (.pt (a0.To.flatMap eI.b) (0 + s1.2.toNat * 1))), (58, .d (iv y8)), (60, .d (iv a2)), (62, .d (bv (y8 == a2))), bxB 2007 (eXCategory.b a0), (2073, .r (.arr 1 ((s1.1 ++ ([s1.2] : List Int)).flatMap eI.o) []))] .nil (by kernel_rfl) (by kernel_rfl) (l_n ?_)
        refine TrL.by (imp_sel (ks := [2, 4, 6, 14, 16, 2007, 2073]) (st' := [(2, .d (iv a1)), (4, .d (iv a2)), (6, .d (.rp 1003 0)), (14, .d (.rs 1036 0 ((s1.1 ++ ([s1.2] : List Int)).length))), (16, .d (iv (IntKind.i64.wrap (s1.2 + 1)))), bxB 2007 (eXCategory.b a0), (2073, .r (.arr 1 ((s1.1 ++ ([s1.2] : List Int)).flatMap eI.o) []))]) (by kernel_rfl)) ?_
        refine TrL.by (imp_rename (r := 1036) (q := 1009) (by kernel_rfl) (Nat.le_of_ble_eq_true rfl)) ?_
        exact trl_start (ks := [2, 4, 6, 14, 16, 2007, 2019]) (by kernel_rfl) (ih3 (s1.1 ++ ([s1.2] : List Int), IntKind.i64.wrap (s1.2 + 1)) hM)
      · have hM := ite_false' hM h9
        refine tr_condFe (e := y8 == a2) h9 (by kernel_rfl) ?_
        refine tr_skip (b_n (q_n ?_))
        refine tr_r hT hm [] [2, 4, 6, 14, 16, 50, 52, 54, 56, 58, 60, 62, 2007, 2019] [(2, .d (iv a1)), (4, .d (iv a2)), (6, .d (.rp 1003 0)), (14, .d (.rs 1009 0 s1.1.length)), (16, .d (iv (IntKind.i64.wrap (s1.2 + 1)))), (50, .d (.rp 1003 2)), (52, .d (.sl a0.To.length 0 (a0.To.flatMap eI.b))), (54, .d (iv s1.2)), (56, .d (.pt (a0.To.flatMap eI.b) (0 + s1.2.toNat * 1))), (58, .d (iv y8)), (60, .d (iv a2)), (62, .d (bv (y8 == a2))), bxB 2007 (eXCategory.b a0), (2019, .r (.arr 1 (s1.1.flatMap eI.o) []))] .nil (by kernel_rfl) (by kernel_rfl) (l_n ?_)
        exact trl_start (ks := [2, 4, 6, 14, 16, 2007, 2019]) (by kernel_rfl) (ih3 (s1.1, IntKind.i64.wrap (s1.2 + 1)) hM)
    · have hM := ite_false' hM h7
      refine tr_sr hT hm [(4, .val (iv y6)), (7, .val (bv false))] [2, 4, 6, 14, 16, 64, 2007, 2019] [(2, .d (iv a1)), (4, .d (iv a2)), (6, .d (.rp 1003 0)), (14, .d (.rs 1009 0 s1.1.length)), (16, .d (iv s1.2)), (64, .d (bv false)), bxB 2007 (eXCategory.b a0), (2019, .r (.arr 1 (s1.1.flatMap eI.o) []))] (.cons hy6'.1 (.cons hy6'.2.1 (.cons (at_b0 eI_ok hy6'.2.2 (d := iv y6) (by kernel_rfl)) (.cons (congrArg (fun b => bv b) h7) .nil)))) (by kernel_rfl) (by kernel_rfl) ?_
      refine tr_condF (by kernel_rfl) ?_
      refine tr_skip (b_n (q_n ?_))
      refine tr_r hT hm [] [2, 4, 6, 14, 16, 2007, 2019] [(2, .d (iv a1)), (4, .d (iv a2)), (6, .d (.rp 1003 0)), (14, .d (.rs 1009 0 s1.1.length)), (16, .d (iv (IntKind.i64.wrap (s1.2 + 1)))), bxB 2007 (eXCategory.b a0), (2019, .r (.arr 1 (s1.1.flatMap eI.o) []))] .nil (by kernel_rfl) (by kernel_rfl) (l_n ?_)
      exact trl_start (ks := [2, 4, 6, 14, 16, 2007, 2019]) (by kernel_rfl) (ih3 (s1.1, IntKind.i64.wrap (s1.2 + 1)) hM)
  · have hM := ite_false' hM h5
    refine tr_condFe (e := decide (s1.2 < (a0.From.length : Int))) h5 (by kernel_rfl) ?_
    refine tr_exit (q_x (l_x (b_h (q_n ?_))))
    refine tr_sr hT hm [] [12, 2019] [(12, .d (.rs 1009 0 s1.1.length)), (2019, .r (.arr 1 (s1.1.flatMap eI.o) []))] .nil (by kernel_rfl) (by kernel_rfl) ?_
    refine tr_ret (rg_r ?_)
    obtain rfl := Option.some.inj hM
    exact retg (names := []) (.cons (lenO_flat eI_ok s1.1) .nil) (by kernel_rfl)

theorem ok110 : CallOk Try.prog 110 := callOk_of Try.func110 (by kernel_rfl) (by kernel_rfl)
theorem spec_l02Inverse_c (a0 : XCategory) (a1 : Int) (r : Int) (hM : M.spec_l02Inverse a0 a1 = some r) :
    FnC Try.prog 110 [] [.agg (eXCategory.b a0), iv a1] [] (iv r) := by
  refine fnc_startG (N := 49) (np := 500) hT Try.func110 rfl rfl (by kernel_rfl) ?_
  unfold M.spec_l02Inverse at hM
  refine tr_start (ks := [0, 2]) (st' := [(0, .d (.agg (eXCategory.b a0))), (2, .d (iv a1))]) (by kernel_rfl) ?_
  refine tr_sr hT hm [] [2, 4, 2005] [(2, .d (iv a1)), (4, .d (.rp 1002 0)), bxB 2005 (eXCategory.b a0)] .nil (by kernel_rfl) (by kernel_rfl) ?_
  obtain ⟨y1, hy1, hM⟩ := bind_some' hM
  have hy1' := idx_some hy1
  obtain ⟨y2, hy2, hM⟩ := bind_some' hM
  have hy2' := idx_some hy2
  obtain ⟨v3, hv3, hM⟩ := bind_some' hM
  refine tr_sr hT hm [(5, .val (iv y1)), (10, .val (iv y2)), (11, .call [] [] [.agg (eXCategory.b a0), iv y1, iv y2] [] (.fr 1 v3.length (v3.flatMap eI.o)))] [2, 4, 10, 2005, 40001] [(2, .d (iv a1)), (4, .d (.rp 1002 0)), (10, .d (.rs 20000 0 v3.length)), bxB 2005 (eXCategory.b a0), (40001, .r (.arr 1 (v3.flatMap eI.o) []))] (.cons hy1'.1 (.cons hy1'.2.1 (.cons (at_b0 eI_ok hy1'.2.2 (d := iv y1) (by kernel_rfl)) (.cons hy2'.1 (.cons hy2'.2.1 (.cons (at_b0 eI_ok hy2'.2.2 (d := iv y2) (by kernel_rfl)) (cc0 ok130 (spec_l02Hom_c a0 y1 y2 _ hv3) (by kernel_rfl) .nil))))))) (by kernel_rfl) (by kernel_rfl) ?_
  refine tr_seq ?_
  refine tr_sr hT hm [] [2, 4, 10, 12, 2005, 40001] [(2, .d (iv a1)), (4, .d (.rp 1002 0)), (10, .d (.rs 20000 0 v3.length)), (12, .d (iv 0)), bxB 2005 (eXCategory.b a0), (40001, .r (.arr 1 (v3.flatMap eI.o) []))] .nil (by kernel_rfl) (by kernel_rfl) ?_
  refine tr_block ?_
  refine tr_iterS (fun (s4 : Int) => [(2, .d (iv a1)), (4, .d (.rp 1002 0)), (10, .d (.rs 20000 0 v3.length)), (12, .d (iv s4)), bxB 2005 (eXCategory.b a0), (40001, .r (.arr 1 (v3.flatMap eI.o) []))]) 0 [2, 4, 10, 12, 2005, 40001] (by kernel_rfl) hM ?_
  intro n7 next5 ih6 s4 hM
  refine tr_seq ?_
  refine tr_sr hT hm [] [2, 4, 10, 12, 44, 2005, 40001] [(2, .d (iv a1)), (4, .d (.rp 1002 0)), (10, .d (.rs 20000 0 v3.length)), (12, .d (iv s4)), (44, .d (bv (decide (s4 < (v3.length : Int))))), bxB 2005 (eXCategory.b a0), (40001, .r (.arr 1 (v3.flatMap eI.o) []))] .nil (by kernel_rfl) (by kernel_rfl) ?_
  rcases Bool.eq_false_or_eq_true (decide (s4 < (v3.length : Int))) with h8 | h8
  · have hM := ite_true' hM h8
    refine tr_condTe (e := decide (s4 < (v3.length : Int))) h8 (by kernel_rfl) ?_
    refine tr_skip (q_n ?_)
    refine tr_seq ?_
    refine tr_block ?_
    obtain ⟨y9, hy9, hM⟩ := bind_some' hM
    have hy9' := idx_some hy9
    obtain ⟨v10, hv10, hM⟩ := bind_some' hM
    obtain ⟨v11, hv11, hM⟩ := bind_some' hM
    rcases Bool.eq_false_or_eq_true v11 with h12 | h12
    · have hM := ite_true' hM h12
      obtain ⟨v13, hv13, hM⟩ := bind_some' hM
      obtain ⟨v14, hv14, hM⟩ := bind_some' hM
      refine tr_sr hT hm [(6, .val (iv y9)), (7, .call [] [] [.agg (eXCategory.b a0), iv a1, iv y9] [] (iv v10)), (8, .call [] [] [.agg (eXCategory.b a0), iv v10] [] (bv v11)), (9, .val (bv true)), (15, .val (iv y9)), (17, .call [] [] [.agg (eXCategory.b a0), iv y9, iv a1] [] (iv v13)), (18, .call [] [] [.agg (eXCategory.b a0), iv v13] [] (bv v14))] [2, 4, 10, 12, 70, 72, 74, 76, 78, 80, 82, 84, 86, 88, 2005, 40001] [(2, .d (iv a1)), (4, .d (.rp 1002 0)), (10, .d (.rs 20000 0 v3.length)), (12, .d (iv s4)), (70, .d (.agg (eXCategory.b a0))), (72, .d (.agg (eXCategory.b a0))), (74, .d (.rs 20000 0 v3.length)), (76, .d (iv s4)), (78, .d (.rp 20000 (0 + s4.toNat * 1))), (80, .d (iv y9)), (82, .d (iv a1)), (84, .d (iv v13)), (86, .d (bv v14)), (88, .d (bv v14)), bxB 2005 (eXCategory.b a0), (40001, .r (.arr 1 (v3.flatMap eI.o) []))] (.cons hy9'.1 (.cons hy9'.2.1 (.cons (at_o0 eI_ok hy9'.2.2 (d := iv y9) (by kernel_rfl)) (cc0 ok68 (spec_l02Then_c a0 a1 y9 _ hv10) (by kernel_rfl) (cc0 ok103 (spec_l02Unit_c a0 v10 _ hv11) (by kernel_rfl) (.cons (congrArg (fun b => bv b) h12) (.cons hy9'.1 (.cons hy9'.2.1 (.cons (at_o0 eI_ok hy9'.2.2 (d := iv y9) (by kernel_rfl)) (cc0 ok68 (spec_l02Then_c a0 y9 a1 _ hv13) (by kernel_rfl) (cc0 ok103 (spec_l02Unit_c a0 v13 _ hv14) (by kernel_rfl) .nil))))))))))) (by kernel_rfl) (by kernel_rfl) ?_
      rcases Bool.eq_false_or_eq_true v14 with h15 | h15
      · have hM := ite_true' hM h15
        refine tr_condTe (e := v14) h15 (by kernel_rfl) ?_
        refine tr_sr hT hm [(3, .val (iv y9))] [8] [(8, .d (iv y9))] (.cons hy9'.1 (.cons hy9'.2.1 (.cons (at_o0 eI_ok hy9'.2.2 (d := iv y9) (by kernel_rfl)) .nil))) (by kernel_rfl) (by kernel_rfl) ?_
        refine tr_ret (b_r (q_r (l_r (b_r (q_r (rg_r ?_))))))
        obtain rfl := Option.some.inj hM
        exact retg (names := []) .nil (by kernel_rfl)
      · have hM := ite_false' hM h15
        refine tr_condFe (e := v14) h15 (by kernel_rfl) ?_
        refine tr_skip (b_n (q_n ?_))
        refine tr_r hT hm [] [2, 4, 10, 12, 70, 72, 74, 76, 78, 80, 82, 84, 86, 2005, 40001] [(2, .d (iv a1)), (4, .d (.rp 1002 0)), (10, .d (.rs 20000 0 v3.length)), (12, .d (iv (IntKind.i64.wrap (s4 + 1)))), (70, .d (.agg (eXCategory.b a0))), (72, .d (.agg (eXCategory.b a0))), (74, .d (.rs 20000 0 v3.length)), (76, .d (iv s4)), (78, .d (.rp 20000 (0 + s4.toNat * 1))), (80, .d (iv y9)), (82, .d (iv a1)), (84, .d (iv v13)), (86, .d (bv v14)), bxB 2005 (eXCategory.b a0), (40001, .r (.arr 1 (v3.flatMap eI.o) []))] .nil (by kernel_rfl) (by kernel_rfl) (l_n ?_)
        exact trl_start (ks := [2, 4, 10, 12, 2005, 40001]) (by kernel_rfl) (ih6 (IntKind.i64.wrap (s4 + 1)) hM)
    · have hM := ite_false' hM h12
      refine tr_sr hT hm [(6, .val (iv y9)), (7, .call [] [] [.agg (eXCategory.b a0), iv a1, iv y9] [] (iv v10)), (8, .call [] [] [.agg (eXCategory.b a0), iv v10] [] (bv v11)), (9, .val (bv false))] [2, 4, 10, 12, 88, 2005, 40001] [(2, .d (iv a1)), (4, .d (.rp 1002 0)), (10, .d (.rs 20000 0 v3.length)), (12, .d (iv s4)), (88, .d (bv false)), bxB 2005 (eXCategory.b a0), (40001, .r (.arr 1 (v3.flatMap eI.o) []))] (.cons hy9'.1 (.cons hy9'.2.1 (.cons (at_o0 eI_ok hy9'.2.2 (d := iv y9) (by kernel_rfl)) (cc0 ok68 (spec_l02Then_c a0 a1 y9 _ hv10) (by kernel_rfl) (cc0 ok103 (spec_l02Unit_c a0 v10 _ hv11) (by kernel_rfl) (.cons (congrArg (fun b => bv b) h12) .nil)))))) (by kernel_rfl) (by kernel_rfl) ?_
      refine tr_condF (by kernel_rfl) ?_
      refine tr_skip (b_n (q_n ?_))
      refine tr_r hT hm [] [2, 4, 10, 12, 2005, 40001] [(2, .d (iv a1)), (4, .d (.rp 1002 0)), (10, .d (.rs 20000 0 v3.length)), (12, .d (iv (IntKind.i64.wrap (s4 + 1)))), bxB 2005 (eXCategory.b a0), (40001, .r (.arr 1 (v3.flatMap eI.o) []))] .nil (by kernel_rfl) (by kernel_rfl) (l_n ?_)
      exact trl_start (ks := [2, 4, 10, 12, 2005, 40001]) (by kernel_rfl) (ih6 (IntKind.i64.wrap (s4 + 1)) hM)
  · have hM := ite_false' hM h8
    refine tr_condFe (e := decide (s4 < (v3.length : Int))) h8 (by kernel_rfl) ?_
    refine tr_exit (q_x (l_x (b_h (q_n ?_))))
    refine tr_sr hT hm [] [8] [(8, .d (iv (-1)))] .nil (by kernel_rfl) (by kernel_rfl) ?_
    refine tr_ret (rg_r ?_)
    obtain rfl := Option.some.inj hM
    exact retg (names := []) .nil (by kernel_rfl)

theorem ok82 : CallOk Try.prog 82 := callOk_of Try.func82 (by kernel_rfl) (by kernel_rfl)
theorem spec_l15Isos_c (a0 : XCategory) (a1 : List Int) (r : (List Int)) (hM : M.spec_l15Isos a0 a1 = some r) :
    FnC Try.prog 82 [] [.agg (eXCategory.b a0), .sl a1.length 0 (a1.flatMap eI.b)] [] (.fr 1 r.length (r.flatMap eI.o)) := by
  refine fnc_startG (N := 26) (np := 500) hT Try.func82 rfl rfl (by kernel_rfl) ?_
  unfold M.spec_l15Isos at hM
  refine tr_start (ks := [0, 2]) (st' := [(0, .d (.agg (eXCategory.b a0))), (2, .d (.sl a1.length 0 (a1.flatMap eI.b)))]) (by kernel_rfl) ?_
  refine tr_sr hT hm [] [2, 4, 2005] [(2, .d (.sl a1.length 0 (a1.flatMap eI.b))), (4, .d (.rp 1002 0)), bxB 2005 (eXCategory.b a0)] .nil (by kernel_rfl) (by kernel_rfl) ?_
  refine tr_sr hT hm [] [2, 4, 10, 2005, 2015] [(2, .d (.sl a1.length 0 (a1.flatMap eI.b))), (4, .d (.rp 1002 0)), (10, .d (.rs 1007 0 (([] : List Int).length))), bxB 2005 (eXCategory.b a0), (2015, .r (.arr 1 (([] : List Int).flatMap eI.o) []))] .nil (by kernel_rfl) (by kernel_rfl) ?_
  refine tr_seq ?_
  refine tr_sr hT hm [] [2, 4, 10, 12, 2005, 2015] [(2, .d (.sl a1.length 0 (a1.flatMap eI.b))), (4, .d (.rp 1002 0)), (10, .d (.rs 1007 0 (([] : List Int).length))), (12, .d (iv 0)), bxB 2005 (eXCategory.b a0), (2015, .r (.arr 1 (([] : List Int).flatMap eI.o) []))] .nil (by kernel_rfl) (by kernel_rfl) ?_
  refine tr_block ?_
  refine tr_iterS (fun (s1 : (List Int) × Int) => [(2, .d (.sl a1.length 0 (a1.flatMap eI.b))), (4, .d (.rp 1002 0)), (10, .d (.rs 1007 0 s1.1.length)), (12, .d (iv s1.2)), bxB 2005 (eXCategory.b a0), (2015, .r (.arr 1 (s1.1.flatMap eI.o) []))]) (([] : List Int), 0) [2, 4, 10, 12, 2005, 2015] (by kernel_rfl) hM ?_
  intro n4 next2 ih3 s1 hM
  refine tr_seq ?_
  refine tr_sr hT hm [] [2, 4, 10, 12, 22, 2005, 2015] [(2, .d (.sl a1.length 0 (a1.flatMap eI.b))), (4, .d (.rp 1002 0)), (10, .d (.rs 1007 0 s1.1.length)), (12, .d (iv s1.2)), (22, .d (bv (decide (s1.2 < (a1.length : Int))))), bxB 2005 (eXCategory.b a0), (2015, .r (.arr 1 (s1.1.flatMap eI.o) []))] .nil (by kernel_rfl) (by kernel_rfl) ?_
  rcases Bool.eq_false_or_eq_true (decide (s1.2 < (a1.length : Int))) with h5 | h5
  · have hM := ite_true' hM h5
    refine tr_condTe (e := decide (s1.2 < (a1.length : Int))) h5 (by kernel_rfl) ?_
    refine tr_skip (q_n ?_)
    refine tr_seq ?_
    refine tr_block ?_
    obtain ⟨y6, hy6, hM⟩ := bind_some' hM
    have hy6' := idx_some hy6
    obtain ⟨v7, hv7, hM⟩ := bind_some' hM
    refine tr_sr hT hm [(4, .val (iv y6)), (5, .call [] [] [.agg (eXCategory.b a0), iv y6] [] (iv v7))] [2, 4, 10, 12, 40, 2005, 2015] [(2, .d (.sl a1.length 0 (a1.flatMap eI.b))), (4, .d (.rp 1002 0)), (10, .d (.rs 1007 0 s1.1.length)), (12, .d (iv s1.2)), (40, .d (bv (decide (v7 ≥ 0)))), bxB 2005 (eXCategory.b a0), (2015, .r (.arr 1 (s1.1.flatMap eI.o) []))] (.cons hy6'.1 (.cons hy6'.2.1 (.cons (at_b0 eI_ok hy6'.2.2 (d := iv y6) (by kernel_rfl)) (cc0 ok110 (spec_l02Inverse_c a0 y6 _ hv7) (by kernel_rfl) .nil)))) (by kernel_rfl) (by kernel_rfl) ?_
    rcases Bool.eq_false_or_eq_true (decide (v7 ≥ 0)) with h8 | h8
    · have hM := ite_true' hM h8
      refine tr_condTe (e := decide (v7 ≥ 0)) h8 (by kernel_rfl) ?_
      obtain ⟨h9, hM⟩ := chk_some hM
      refine tr_r hT hm [(3, .app true)] [2, 4, 10, 12, 2005, 2049] [(2, .d (.sl a1.length 0 (a1.flatMap eI.b))), (4, .d (.rp 1002 0)), (10, .d (.rs 1024 0 (s1.1.length + (([s1.2] : List Int).length)))), (12, .d (iv s1.2)), bxB 2005 (eXCategory.b a0), (2049, .r (.arr 1 (s1.1.flatMap eI.o ++ ([s1.2] : List Int).flatMap eI.o) []))] (.cons (lenO_flat eI_ok s1.1) (.cons (lenO_flat eI_ok ([s1.2] : List Int)) (.cons h9 .nil))) (by kernel_rfl) (by kernel_rfl) (b_n (q_n ?_))
      refine Tr.by (imp_cvE (r := 1024) (sz := 1) (refs := []) (flat_app eI.o s1.1 ([s1.2] : List Int)) (menO_flat eI_ok _) (by kernel_rfl)) ?_
      refine Tr.by (imp_cvD (k := 10) (congrArg (D.rs 1024 0) ((len_app s1.1 ([s1.2] : List Int)) : s1.1.length + (([s1.2] : List Int).length) = (s1.1 ++ ([s1.2] : List Int)).length)) (by kernel_rfl)) ?_
      refine tr_r hT hm [] [2, 4, 10, 12, 2005, 2049] [(2, .d (.sl a1.length 0 (a1.flatMap eI.b))), (4, .d (.rp 1002 0)), (10, .d (.rs 1024 0 ((s1.1 ++ ([s1.2] : List Int)).length))), (12, .d (iv (IntKind.i64.wrap (s1.2 + 1)))), bxB 2005 (eXCategory.b a0), (2049, .r (.arr 1 ((s1.1 ++ ([s1.2] : List Int)).flatMap eI.o) []))] .nil (by kernel_rfl) (by kernel_rfl) (l_n ?_)
      refine TrL.by (imp_sel (ks := [2, 4, 10, 12, 2005, 2049]) (st' := [(2, .d (.sl a1.length 0 (a1.flatMap eI.b))), (4, .d (.rp 1002 0)), (10, .d (.rs 1024 0 ((s1.1 ++ ([s1.2] : List Int)).length))), (12, .d (iv (IntKind.i64.wrap (s1.2 + 1)))), bxB 2005 (eXCategory.b a0), (2049, .r (.arr 1 ((s1.1 ++ ([s1.2] : List Int)).flatMap eI.o) []))]) (by kernel_rfl)) ?_
      refine TrL.by (imp_rename (r := 1024) (q := 1007) (by kernel_rfl) (Nat.le_of_ble_eq_true rfl)) ?_
      exact trl_start (ks := [2, 4, 10, 12, 2005, 2015]) (by kernel_rfl) (ih3 (s1.1 ++ ([s1.2] : List Int), IntKind.i64.wrap (s1.2 + 1)) hM)
    · have hM := ite_false' hM h8
      refine tr_condFe (e := decide (v7 ≥ 0)) h8 (by kernel_rfl) ?_
      refine tr_skip (b_n (q_n ?_))
      refine tr_r hT hm [] [2, 4, 10, 12, 2005, 2015] [(2, .d (.sl a1.length 0 (a1.flatMap eI.b))), (4, .d (.rp 1002 0)), (10, .d (.rs 1007 0 s1.1.length)), (12, .d (iv (IntKind.i64.wrap (s1.2 + 1)))), bxB 2005 (eXCategory.b a0), (2015, .r (.arr 1 (s1.1.flatMap eI.o) []))] .nil (by kernel_rfl) (by kernel_rfl) (l_n ?_)
      exact trl_start (ks := [2, 4, 10, 12, 2005, 2015]) (by kernel_rfl) (ih3 (s1.1, IntKind.i64.wrap (s1.2 + 1)) hM)
  · have hM := ite_false' hM h5
    refine tr_condFe (e := decide (s1.2 < (a1.length : Int))) h5 (by kernel_rfl) ?_
    refine tr_exit (q_x (l_x (b_h (q_n ?_))))
    refine tr_sr hT hm [] [8, 2015] [(8, .d (.rs 1007 0 s1.1.length)), (2015, .r (.arr 1 (s1.1.flatMap eI.o) []))] .nil (by kernel_rfl) (by kernel_rfl) ?_
    refine tr_ret (rg_r ?_)
    obtain rfl := Option.some.inj hM
    exact retg (names := []) (.cons (lenO_flat eI_ok s1.1) .nil) (by kernel_rfl)

theorem ok131 : CallOk Try.prog 131 := callOk_of Try.func131 (by kernel_rfl) (by kernel_rfl)
theorem impl_Category_hom_c (a0 : XCategory) (a1 : Int) (a2 : Int) (r : (List Int)) (hM : M.impl_Category_hom a0 a1 a2 = some r) :
    FnC Try.prog 131 [] [.pt (eXCategory.b a0) 0, iv a1, iv a2] [] (.fr 1 r.length (r.flatMap eI.o)) := by
  refine fnc_startG (N := 44) (np := 500) hT Try.func131 rfl rfl (by kernel_rfl) ?_
  unfold M.impl_Category_hom at hM
  refine tr_start (ks := [0, 2, 4]) (st' := [(0, .d (.pt (eXCategory.b a0) 0)), (2, .d (iv a1)), (4, .d (iv a2))]) (by kernel_rfl) ?_
  refine tr_sr hT hm [] [0, 2, 4] [(0, .d (.pt (eXCategory.b a0) 0)), (2, .d (iv a1)), (4, .d (iv a2))] .nil (by kernel_rfl) (by kernel_rfl) ?_
  refine tr_sr hT hm [] [0, 2, 4, 14, 2019] [(0, .d (.pt (eXCategory.b a0) 0)), (2, .d (iv a1)), (4, .d (iv a2)), (14, .d (.rs 1009 0 (([] : List Int).length))), (2019, .r (.arr 1 (([] : List Int).flatMap eI.o) []))] .nil (by kernel_rfl) (by kernel_rfl) ?_
  refine tr_seq ?_
  refine tr_sr hT hm [] [0, 2, 4, 14, 28, 30, 2019] [(0, .d (.pt (eXCategory.b a0) 0)), (2, .d (iv a1)), (4, .d (iv a2)), (14, .d (.rs 1009 0 (([] : List Int).length))), (28, .d (iv (a0.From.length : Int))), (30, .d (iv 0)), (2019, .r (.arr 1 (([] : List Int).flatMap eI.o) []))] .nil (by kernel_rfl) (by kernel_rfl) ?_
  refine tr_block ?_
  refine tr_iterS (fun (s1 : (List Int) × Int) => [(0, .d (.pt (eXCategory.b a0) 0)), (2, .d (iv a1)), (4, .d (iv a2)), (14, .d (.rs 1009 0 s1.1.length)), (28, .d (iv (a0.From.length : Int))), (30, .d (iv s1.2)), (2019, .r (.arr 1 (s1.1.flatMap eI.o) []))]) (([] : List Int), 0) [0, 2, 4, 14, 28, 30, 2019] (by kernel_rfl) hM ?_
  intro n4 next2 ih3 s1 hM
  refine tr_sr hT hm [] [0, 2, 4, 14, 28, 30, 32, 2019] [(0, .d (.pt (eXCategory.b a0) 0)), (2, .d (iv a1)), (4, .d (iv a2)), (14, .d (.rs 1009 0 s1.1.length)), (28, .d (iv (a0.From.length : Int))), (30, .d (iv s1.2)), (32, .d (bv (decide (s1.2 < (a0.From.length : Int))))), (2019, .r (.arr 1 (s1.1.flatMap eI.o) []))] .nil (by kernel_rfl) (by kernel_rfl) ?_
  refine tr_seq ?_
  rcases Bool.eq_false_or_eq_true (decide (s1.2 < (a0.From.length : Int))) with h5 | h5
  · have hM := ite_true' hM h5
    refine tr_condTe (e := decide (s1.2 < (a0.From.length : Int))) h5 (by kernel_rfl) ?_
    refine tr_skip (q_n ?_)
    refine tr_seq ?_
    refine tr_block ?_
    refine tr_sr hT hm [] [0, 2, 4, 14, 16, 28, 30, 2019] [(0, .d (.pt (eXCategory.b a0) 0)), (2, .d (iv a1)), (4, .d (iv a2)), (14, .d (.rs 1009 0 s1.1.length)), (16, .d (iv s1.2)), (28, .d (iv (a0.From.length : Int))), (30, .d (iv s1.2)), (2019, .r (.arr 1 (s1.1.flatMap eI.o) []))] .nil (by kernel_rfl) (by kernel_rfl) ?_
    obtain ⟨y6, hy6, hM⟩ := bind_some' hM
    have hy6' := idx_some hy6
    rcases Bool.eq_false_or_eq_true (y6 == a1) with h7 | h7
    · have hM := ite_true' hM h7
      obtain ⟨y8, hy8, hM⟩ := bind_some' hM
      have hy8' := idx_some hy8
      refine tr_sr hT hm [(6, .val (iv y6)), (9, .val (bv true)), (16, .val (iv y8))] [0, 2, 4, 14, 16, 28, 30, 56, 58, 60, 62, 64, 66, 68, 70, 72, 74, 2019] [(0, .d (.pt (eXCategory.b a0) 0)), (2, .d (iv a1)), (4, .d (iv a2)), (14, .d (.rs 1009 0 s1.1.length)), (16, .d (iv s1.2)), (28, .d (iv (a0.From.length : Int))), (30, .d (iv s1.2)), (56, .d (.pt (eXCategory.b a0) 0)), (58, .d (.pt (eXCategory.b a0) 0)), (60, .d (.pt (eXCategory.b a0) 2)), (62, .d (.sl a0.To.length 0 (a0.To.flatMap eI.b))), (64, .d (iv s1.2)), (66, .d (.pt (a0.To.flatMap eI.b) (0 + s1.2.toNat * 1))), (68, .d (iv y8)), (70, .d (iv a2)), (72, .d (bv (y8 == a2))), (74, .d (bv (y8 == a2))), (2019, .r (.arr 1 (s1.1.flatMap eI.o) []))] (.cons hy6'.1 (.cons hy6'.2.1 (.cons (at_b0 eI_ok hy6'.2.2 (d := iv y6) (by kernel_rfl)) (.cons (congrArg (fun b => bv b) h7) (.cons hy8'.1 (.cons hy8'.2.1 (.cons (at_b0 eI_ok hy8'.2.2 (d := iv y8) (by kernel_rfl)) .nil))))))) (by kernel_rfl) (by kernel_rfl) ?_
      rcases Bool.eq_false_or_eq_true (y8 == a2) with h9 | h9
      · have hM := ite_true' hM h9
        refine tr_condTe (e := y8 == a2) h9 (by kernel_rfl) ?_
        obtain ⟨h10, hM⟩ := chk_some hM
        refine tr_r hT hm [(3, .app true)] [0, 2, 4, 14, 28, 30, 56, 58, 60, 62, 64, 66, 68, 70, 72, 2083] [(0, .d (.pt (eXCategory.b a0) 0)), (2, .d (iv a1)), (4, .d (iv a2)), (14, .d (.rs 1041 0 (s1.1.length + (([s1.2] : List Int).length)))), (28, .d (iv (a0.From.length : Int))), (30, .d (iv s1.2)), (56, .d (.pt (eXCategory.b a0) 0)), (58, .d (.pt (eXCategory.b a0) 0)), (60, .d (.pt (eXCategory.b a0) 2)), (62, .d (.sl a0.To.length 0 (a0.To.flatMap eI.b))), (64, .d (iv s1.2)), (66, .d (.pt (a0.To.flatMap eI.b) (0 + s1.2.toNat * 1))), (68, .d (iv y8)), (70, .d (iv a2)), (72, .d (bv (y8 == a2))), (2083, .r (.arr 1 (s1.1.flatMap eI.o ++ ([s1.2] : List Int).flatMap eI.o) []))] (.cons (lenO_flat eI_ok s1.1) (.cons (lenO_flat eI_ok ([s1.2] : List Int)) (.cons h10 .nil))) (by kernel_rfl) (by kernel_rfl) (b_n (q_n ?_))
        refine Tr.by (imp_cvE (r := 1041) (sz := 1) (refs := []) (flat_app eI.o s1.1 ([s1.2] : List Int)) (menO_flat eI_ok _) (by kernel_rfl)) ?_
        refine Tr.by (imp_cvD (k := 14) (congrArg (D.rs 1041 0) ((len_app s1.1 ([s1.2] : List Int)) : s1.1.length + (([s1.2] : List Int).length) = (s1.1 ++ ([s1.2] : List Int)).length)) (by kernel_rfl)) ?_
        refine tr_r hT hm [] [0, 2, 4, 14, 28, 30, 56, 58, 60, 62, 64, 66, 68, 70, 72, 2083] [(0, .d (.pt (eXCategory.b a0) 0)), (2, .d (iv a1)), (4, .d (iv a2)), (14, .d (.rs 1041 0 ((s1.1 ++ ([s1.2] : List Int)).length))), (28, .d (iv (a0.From.length : Int))), (30, .d (iv (IntKind.i64.wrap (s1.2 + 1)))), (56, .d (.pt (eXCategory.b a0) 0)), (58, .d (.pt (eXCategory.b a0) 0)), (60, .d (.pt (eXCategory.b a0) 2)), (62, .d (.sl a0.To.length 0 (a0.To.flatMap eI.b))), (64, .d (iv s1.2)), (66, .d (.pt (a0.To.flatMap eI.b) (0 + s1.2.toNat * 1))), (68, .d (iv y8)), (70, .d (iv a2)), (72, .d (bv (y8 == a2))), (2083, .r (.arr 1 ((s1.1 ++ ([s1.2] : List Int)).flatMap eI.o) []))] .nil (by kernel_rfl) (by kernel_rfl) (l_n ?_)
        refine TrL.by (imp_sel (ks := [0, 2, 4, 14, 28, 30, 2083]) (st' := [(0, .d (.pt (eXCategory.b a0) 0)), (2, .d (iv a1)), (4, .d (iv a2)), (14, .d (.rs 1041 0 ((s1.1 ++ ([s1.2] : List Int)).length))), (28, .d (iv (a0.From.length : Int))), (30, .d (iv (IntKind.i64.wrap (s1.2 + 1)))), (2083, .r (.arr 1 ((s1.1 ++ ([s1.2] : List Int)).flatMap eI.o) []))]) (by kernel_rfl)) ?_
        refine TrL.by (imp_rename (r := 1041) (q := 1009) (by kernel_rfl) (Nat.le_of_ble_eq_true rfl)) ?_
        exact trl_start (ks := [0, 2, 4, 14, 28, 30, 2019]) (by kernel_rfl) (ih3 (s1.1 ++ ([s1.2] : List Int), IntKind.i64.wrap (s1.2 + 1)) hM)
      · have hM := ite_false' hM h9
        refine tr_condFe (e := y8 == a2) h9 (by kernel_rfl) ?_
        refine tr_skip (b_n (q_n ?_))
        refine tr_r hT hm [] [0, 2, 4, 14, 28, 30, 56, 58, 60, 62, 64, 66, 68, 70, 72, 2019] [(0, .d (.pt (eXCategory.b a0) 0)), (2, .d (iv a1)), (4, .d (iv a2)), (14, .d (.rs 1009 0 s1.1.length)), (28, .d (iv (a0.From.length : Int))), (30, .d (iv (IntKind.i64.wrap (s1.2 + 1)))), (56, .d (.pt (eXCategory.b a0) 0)), (58, .d (.pt (eXCategory.b a0) 0)), (60, .d (.pt (eXCategory.b a0) 2)), (62, .d (.sl a0.To.length 0 (a0.To.flatMap eI.b))), (64, .d (iv s1.2)), (66, .d (.pt (a0.To.flatMap eI.b) (0 + s1.2.toNat * 1))), (68, .d (iv y8)), (70, .d (iv a2)), (72, .d (bv (y8 == a2))), (2019, .r (.arr 1 (s1.1.flatMap eI.o) []))] .nil (by kernel_rfl) (by kernel_rfl) (l_n ?_)
        exact trl_start (ks := [0, 2, 4, 14, 28, 30, 2019]) (by kernel_rfl) (ih3 (s1.1, IntKind.i64.wrap (s1.2 + 1)) hM)
    · have hM := ite_false' hM h7
      refine tr_sr hT hm [(6, .val (iv y6)), (9, .val (bv false))] [0, 2, 4, 14, 16, 28, 30, 74, 2019] [(0, .d (.pt (eXCategory.b a0) 0)), (2, .d (iv a1)), (4, .d (iv a2)), (14, .d (.rs 1009 0 s1.1.length)), (16, .d (iv s1.2)), (28, .d (iv (a0.From.length : Int))), (30, .d (iv s1.2)), (74, .d (bv false)), (2019, .r (.arr 1 (s1.1.flatMap eI.o) []))] (.cons hy6'.1 (.cons hy6'.2.1 (.cons (at_b0 eI_ok hy6'.2.2 (d := iv y6) (by kernel_rfl)) (.cons (congrArg (fun b => bv b) h7) .nil)))) (by kernel_rfl) (by kernel_rfl) ?_
      refine tr_condF (by kernel_rfl) ?_
      refine tr_skip (b_n (q_n ?_))
      refine tr_r hT hm [] [0, 2, 4, 14, 28, 30, 2019] [(0, .d (.pt (eXCategory.b a0) 0)), (2, .d (iv a1)), (4, .d (iv a2)), (14, .d (.rs 1009 0 s1.1.length)), (28, .d (iv (a0.From.length : Int))), (30, .d (iv (IntKind.i64.wrap (s1.2 + 1)))), (2019, .r (.arr 1 (s1.1.flatMap eI.o) []))] .nil (by kernel_rfl) (by kernel_rfl) (l_n ?_)
      exact trl_start (ks := [0, 2, 4, 14, 28, 30, 2019]) (by kernel_rfl) (ih3 (s1.1, IntKind.i64.wrap (s1.2 + 1)) hM)
  · have hM := ite_false' hM h5
    refine tr_condFe (e := decide (s1.2 < (a0.From.length : Int))) h5 (by kernel_rfl) ?_
    refine tr_exit (q_x (l_x (b_h (q_n ?_))))
    refine tr_sr hT hm [] [12, 2019] [(12, .d (.rs 1009 0 s1.1.length)), (2019, .r (.arr 1 (s1.1.flatMap eI.o) []))] .nil (by kernel_rfl) (by kernel_rfl) ?_
    refine tr_ret (rg_r ?_)
    obtain rfl := Option.some.inj hM
    exact retg (names := []) (.cons (lenO_flat eI_ok s1.1) .nil) (by kernel_rfl)

theorem ok111 : CallOk Try.prog 111 := callOk_of Try.func111 (by kernel_rfl) (by kernel_rfl)
theorem impl_Category_inverse_c (a0 : XCategory) (a1 : Int) (r : Int) (hM : M.impl_Category_inverse a0 a1 = some r) :
    FnC Try.prog 111 [] [.pt (eXCategory.b a0) 0, iv a1] [] (iv r) := by
  refine fnc_startG (N := 60) (np := 500) hT Try.func111 rfl rfl (by kernel_rfl) ?_
  unfold M.impl_Category_inverse at hM
  refine tr_start (ks := [0, 2]) (st' := [(0, .d (.pt (eXCategory.b a0) 0)), (2, .d (iv a1))]) (by kernel_rfl) ?_
  refine tr_sr hT hm [] [0, 2] [(0, .d (.pt (eXCategory.b a0) 0)), (2, .d (iv a1))] .nil (by kernel_rfl) (by kernel_rfl) ?_
  obtain ⟨y1, hy1, hM⟩ := bind_some' hM
  have hy1' := idx_some hy1
  obtain ⟨y2, hy2, hM⟩ := bind_some' hM
  have hy2' := idx_some hy2
  refine tr_sr hT hm [(6, .val (iv y1)), (13, .val (iv y2))] [0, 2, 10, 12] [(0, .d (.pt (eXCategory.b a0) 0)), (2, .d (iv a1)), (10, .d (iv y1)), (12, .d (iv y2))] (.cons hy1'.1 (.cons hy1'.2.1 (.cons (at_b0 eI_ok hy1'.2.2 (d := iv y1) (by kernel_rfl)) (.cons hy2'.1 (.cons hy2'.2.1 (.cons (at_b0 eI_ok hy2'.2.2 (d := iv y2) (by kernel_rfl)) .nil)))))) (by kernel_rfl) (by kernel_rfl) ?_
  refine tr_seq ?_
  obtain ⟨v3, hv3, hM⟩ := bind_some' hM
  refine tr_sr hT hm [(3, .call [] [] [.pt (eXCategory.b a0) 0, iv y2, iv y1] [] (.fr 1 v3.length (v3.flatMap eI.o)))] [0, 2, 10, 12, 52, 54, 56, 56001] [(0, .d (.pt (eXCategory.b a0) 0)), (2, .d (iv a1)), (10, .d (iv y1)), (12, .d (iv y2)), (52, .d (.rs 28000 0 v3.length)), (54, .d (iv (v3.length : Int))), (56, .d (iv 0)), (56001, .r (.arr 1 (v3.flatMap eI.o) []))] (cc0 ok131 (impl_Category_hom_c a0 y2 y1 _ hv3) (by kernel_rfl) .nil) (by kernel_rfl) (by kernel_rfl) ?_
  refine tr_block ?_
  refine tr_iterS (fun (s4 : Int) => [(0, .d (.pt (eXCategory.b a0) 0)), (2, .d (iv a1)), (10, .d (iv y1)), (12, .d (iv y2)), (52, .d (.rs 28000 0 v3.length)), (54, .d (iv (v3.length : Int))), (56, .d (iv s4)), (56001, .r (.arr 1 (v3.flatMap eI.o) []))]) 0 [0, 2, 10, 12, 52, 54, 56, 56001] (by kernel_rfl) hM ?_
  intro n7 next5 ih6 s4 hM
  refine tr_sr hT hm [] [0, 2, 10, 12, 52, 54, 56, 58, 56001] [(0, .d (.pt (eXCategory.b a0) 0)), (2, .d (iv a1)), (10, .d (iv y1)), (12, .d (iv y2)), (52, .d (.rs 28000 0 v3.length)), (54, .d (iv (v3.length : Int))), (56, .d (iv s4)), (58, .d (bv (decide (s4 < (v3.length : Int))))), (56001, .r (.arr 1 (v3.flatMap eI.o) []))] .nil (by kernel_rfl) (by kernel_rfl) ?_
  refine tr_seq ?_
  rcases Bool.eq_false_or_eq_true (decide (s4 < (v3.length : Int))) with h8 | h8
  · have hM := ite_true' hM h8
    refine tr_condTe (e := decide (s4 < (v3.length : Int))) h8 (by kernel_rfl) ?_
    refine tr_skip (q_n ?_)
    refine tr_seq ?_
    refine tr_block ?_
    obtain ⟨y9, hy9, hM⟩ := bind_some' hM
    have hy9' := idx_some hy9
    refine tr_sr hT hm [(1, .val (iv y9))] [0, 2, 10, 12, 16, 52, 54, 56, 56001] [(0, .d (.pt (eXCategory.b a0) 0)), (2, .d (iv a1)), (10, .d (iv y1)), (12, .d (iv y2)), (16, .d (iv y9)), (52, .d (.rs 28000 0 v3.length)), (54, .d (iv (v3.length : Int))), (56, .d (iv s4)), (56001, .r (.arr 1 (v3.flatMap eI.o) []))] (.cons hy9'.1 (.cons hy9'.2.1 (.cons (at_o0 eI_ok hy9'.2.2 (d := iv y9) (by kernel_rfl)) .nil))) (by kernel_rfl) (by kernel_rfl) ?_
    obtain ⟨v10, hv10, hM⟩ := bind_some' hM
    obtain ⟨y11, hy11, hM⟩ := bind_some' hM
    have hy11' := idx_some hy11
    rcases Bool.eq_false_or_eq_true (v10 == y11) with h12 | h12
    · have hM := ite_true' hM h12
      obtain ⟨v13, hv13, hM⟩ := bind_some' hM
      obtain ⟨y14, hy14, hM⟩ := bind_some' hM
      have hy14' := idx_some hy14
      refine tr_sr hT hm [(3, .call [] [] [.pt (eXCategory.b a0) 0, iv a1, iv y9] [] (iv v10)), (10, .val (iv y11)), (12, .val (bv true)), (16, .call [] [] [.pt (eXCategory.b a0) 0, iv y9, iv a1] [] (iv v13)), (23, .val (iv y14))] [0, 2, 10, 12, 16, 52, 54, 56, 90, 92, 94, 96, 98, 100, 102, 104, 106, 108, 110, 112, 114, 56001] [(0, .d (.pt (eXCategory.b a0) 0)), (2, .d (iv a1)), (10, .d (iv y1)), (12, .d (iv y2)), (16, .d (iv y9)), (52, .d (.rs 28000 0 v3.length)), (54, .d (iv (v3.length : Int))), (56, .d (iv s4)), (90, .d (.pt (eXCategory.b a0) 0)), (92, .d (iv y9)), (94, .d (iv a1)), (96, .d (iv v13)), (98, .d (.pt (eXCategory.b a0) 0)), (100, .d (.pt (eXCategory.b a0) 0)), (102, .d (.pt (eXCategory.b a0) 3)), (104, .d (.sl a0.Identity.length 0 (a0.Identity.flatMap eI.b))), (106, .d (iv y2)), (108, .d (.pt (a0.Identity.flatMap eI.b) (0 + y2.toNat * 1))), (110, .d (iv y14)), (112, .d (bv (v13 == y14))), (114, .d (bv (v13 == y14))), (56001, .r (.arr 1 (v3.flatMap eI.o) []))] (cc0 ok69 (impl_Category_then_c a0 a1 y9 _ hv10) (by kernel_rfl) (.cons hy11'.1 (.cons hy11'.2.1 (.cons (at_b0 eI_ok hy11'.2.2 (d := iv y11) (by kernel_rfl)) (.cons (congrArg (fun b => bv b) h12) (cc0 ok69 (impl_Category_then_c a0 y9 a1 _ hv13) (by kernel_rfl) (.cons hy14'.1 (.cons hy14'.2.1 (.cons (at_b0 eI_ok hy14'.2.2 (d := iv y14) (by kernel_rfl)) .nil))))))))) (by kernel_rfl) (by kernel_rfl) ?_
      rcases Bool.eq_false_or_eq_true (v13 == y14) with h15 | h15
      · have hM := ite_true' hM h15
        refine tr_condTe (e := v13 == y14) h15 (by kernel_rfl) ?_
        refine tr_sr hT hm [] [8] [(8, .d (iv y9))] .nil (by kernel_rfl) (by kernel_rfl) ?_
        refine tr_ret (b_r (q_r (l_r (b_r (q_r (rg_r ?_))))))
        obtain rfl := Option.some.inj hM
        exact retg (names := []) .nil (by kernel_rfl)
      · have hM := ite_false' hM h15
        refine tr_condFe (e := v13 == y14) h15 (by kernel_rfl) ?_
        refine tr_skip (b_n (q_n ?_))
        refine tr_r hT hm [] [0, 2, 10, 12, 52, 54, 56, 90, 92, 94, 96, 98, 100, 102, 104, 106, 108, 110, 112, 56001] [(0, .d (.pt (eXCategory.b a0) 0)), (2, .d (iv a1)), (10, .d (iv y1)), (12, .d (iv y2)), (52, .d (.rs 28000 0 v3.length)), (54, .d (iv (v3.length : Int))), (56, .d (iv (IntKind.i64.wrap (s4 + 1)))), (90, .d (.pt (eXCategory.b a0) 0)), (92, .d (iv y9)), (94, .d (iv a1)), (96, .d (iv v13)), (98, .d (.pt (eXCategory.b a0) 0)), (100, .d (.pt (eXCategory.b a0) 0)), (102, .d (.pt (eXCategory.b a0) 3)), (104, .d (.sl a0.Identity.length 0 (a0.Identity.flatMap eI.b))), (106, .d (iv y2)), (108, .d (.pt (a0.Identity.flatMap eI.b) (0 + y2.toNat * 1))), (110, .d (iv y14)), (112, .d (bv (v13 == y14))), (56001, .r (.arr 1 (v3.flatMap eI.o) []))] .nil (by kernel_rfl) (by kernel_rfl) (l_n ?_)
        exact trl_start (ks := [0, 2, 10, 12, 52, 54, 56, 56001]) (by kernel_rfl) (ih6 (IntKind.i64.wrap (s4 + 1)) hM)
    · have hM := ite_false' hM h12
      refine tr_sr hT hm [(3, .call [] [] [.pt (eXCategory.b a0) 0, iv a1, iv y9] [] (iv v10)), (10, .val (iv y11)), (12, .val (bv false))] [0, 2, 10, 12, 16, 52, 54, 56, 114, 56001] [(0, .d (.pt (eXCategory.b a0) 0)), (2, .d (iv a1)), (10, .d (iv y1)), (12, .d (iv y2)), (16, .d (iv y9)), (52, .d (.rs 28000 0 v3.length)), (54, .d (iv (v3.length : Int))), (56, .d (iv s4)), (114, .d (bv false)), (56001, .r (.arr 1 (v3.flatMap eI.o) []))] (cc0 ok69 (impl_Category_then_c a0 a1 y9 _ hv10) (by kernel_rfl) (.cons hy11'.1 (.cons hy11'.2.1 (.cons (at_b0 eI_ok hy11'.2.2 (d := iv y11) (by kernel_rfl)) (.cons (congrArg (fun b => bv b) h12) .nil))))) (by kernel_rfl) (by kernel_rfl) ?_
      refine tr_condF (by kernel_rfl) ?_
      refine tr_skip (b_n (q_n ?_))
      refine tr_r hT hm [] [0, 2, 10, 12, 52, 54, 56, 56001] [(0, .d (.pt (eXCategory.b a0) 0)), (2, .d (iv a1)), (10, .d (iv y1)), (12, .d (iv y2)), (52, .d (.rs 28000 0 v3.length)), (54, .d (iv (v3.length : Int))), (56, .d (iv (IntKind.i64.wrap (s4 + 1)))), (56001, .r (.arr 1 (v3.flatMap eI.o) []))] .nil (by kernel_rfl) (by kernel_rfl) (l_n ?_)
      exact trl_start (ks := [0, 2, 10, 12, 52, 54, 56, 56001]) (by kernel_rfl) (ih6 (IntKind.i64.wrap (s4 + 1)) hM)
  · have hM := ite_false' hM h8
    refine tr_condFe (e := decide (s4 < (v3.length : Int))) h8 (by kernel_rfl) ?_
    refine tr_exit (q_x (l_x (b_h (q_n ?_))))
    refine tr_sr hT hm [] [8] [(8, .d (iv (-1)))] .nil (by kernel_rfl) (by kernel_rfl) ?_
    refine tr_ret (rg_r ?_)
    obtain rfl := Option.some.inj hM
    exact retg (names := []) .nil (by kernel_rfl)

theorem ok83 : CallOk Try.prog 83 := callOk_of Try.func83 (by kernel_rfl) (by kernel_rfl)
theorem impl_Category_isos_c (a0 : XCategory) (a1 : List Int) (r : (List Int)) (hM : M.impl_Category_isos a0 a1 = some r) :
    FnC Try.prog 83 [] [.pt (eXCategory.b a0) 0, .sl a1.length 0 (a1.flatMap eI.b)] [] (.fr 1 r.length (r.flatMap eI.o)) := by
  refine fnc_startG (N := 26) (np := 500) hT Try.func83 rfl rfl (by kernel_rfl) ?_
  unfold M.impl_Category_isos at hM
  refine tr_start (ks := [0, 2]) (st' := [(0, .d (.pt (eXCategory.b a0) 0)), (2, .d (.sl a1.length 0 (a1.flatMap eI.b)))]) (by kernel_rfl) ?_
  refine tr_sr hT hm [] [0, 2] [(0, .d (.pt (eXCategory.b a0) 0)), (2, .d (.sl a1.length 0 (a1.flatMap eI.b)))] .nil (by kernel_rfl) (by kernel_rfl) ?_
  refine tr_sr hT hm [] [0, 2, 10, 2017] [(0, .d (.pt (eXCategory.b a0) 0)), (2, .d (.sl a1.length 0 (a1.flatMap eI.b))), (10, .d (.rs 1008 0 (([] : List Int).length))), (2017, .r (.arr 1 (([] : List Int).flatMap eI.o) []))] .nil (by kernel_rfl) (by kernel_rfl) ?_
  refine tr_seq ?_
  refine tr_sr hT hm [] [0, 10, 18, 20, 22, 2017] [(0, .d (.pt (eXCategory.b a0) 0)), (10, .d (.rs 1008 0 (([] : List Int).length))), (18, .d (.sl a1.length 0 (a1.flatMap eI.b))), (20, .d (iv (a1.length : Int))), (22, .d (iv 0)), (2017, .r (.arr 1 (([] : List Int).flatMap eI.o) []))] .nil (by kernel_rfl) (by kernel_rfl) ?_
  refine tr_block ?_
  refine tr_iterS (fun (s1 : (List Int) × Int) => [(0, .d (.pt (eXCategory.b a0) 0)), (10, .d (.rs 1008 0 s1.1.length)), (18, .d (.sl a1.length 0 (a1.flatMap eI.b))), (20, .d (iv (a1.length : Int))), (22, .d (iv s1.2)), (2017, .r (.arr 1 (s1.1.flatMap eI.o) []))]) (([] : List Int), 0) [0, 10, 18, 20, 22, 2017] (by kernel_rfl) hM ?_
  intro n4 next2 ih3 s1 hM
  refine tr_sr hT hm [] [0, 10, 18, 20, 22, 24, 2017] [(0, .d (.pt (eXCategory.b a0) 0)), (10, .d (.rs 1008 0 s1.1.length)), (18, .d (.sl a1.length 0 (a1.flatMap eI.b))), (20, .d (iv (a1.length : Int))), (22, .d (iv s1.2)), (24, .d (bv (decide (s1.2 < (a1.length : Int))))), (2017, .r (.arr 1 (s1.1.flatMap eI.o) []))] .nil (by kernel_rfl) (by kernel_rfl) ?_
  refine tr_seq ?_
  rcases Bool.eq_false_or_eq_true (decide (s1.2 < (a1.length : Int))) with h5 | h5
  · have hM := ite_true' hM h5
    refine tr_condTe (e := decide (s1.2 < (a1.length : Int))) h5 (by kernel_rfl) ?_
    refine tr_skip (q_n ?_)
    refine tr_seq ?_
    refine tr_block ?_
    obtain ⟨y6, hy6, hM⟩ := bind_some' hM
    have hy6' := idx_some hy6
    refine tr_sr hT hm [(2, .val (iv y6))] [0, 10, 12, 14, 18, 20, 22, 2017] [(0, .d (.pt (eXCategory.b a0) 0)), (10, .d (.rs 1008 0 s1.1.length)), (12, .d (iv s1.2)), (14, .d (iv y6)), (18, .d (.sl a1.length 0 (a1.flatMap eI.b))), (20, .d (iv (a1.length : Int))), (22, .d (iv s1.2)), (2017, .r (.arr 1 (s1.1.flatMap eI.o) []))] (.cons hy6'.1 (.cons hy6'.2.1 (.cons (at_b0 eI_ok hy6'.2.2 (d := iv y6) (by kernel_rfl)) .nil))) (by kernel_rfl) (by kernel_rfl) ?_
    obtain ⟨v7, hv7, hM⟩ := bind_some' hM
    refine tr_sr hT hm [(2, .call [] [] [.pt (eXCategory.b a0) 0, iv y6] [] (iv v7))] [0, 10, 12, 18, 20, 22, 38, 2017] [(0, .d (.pt (eXCategory.b a0) 0)), (10, .d (.rs 1008 0 s1.1.length)), (12, .d (iv s1.2)), (18, .d (.sl a1.length 0 (a1.flatMap eI.b))), (20, .d (iv (a1.length : Int))), (22, .d (iv s1.2)), (38, .d (bv (decide (v7 ≥ 0)))), (2017, .r (.arr 1 (s1.1.flatMap eI.o) []))] (cc0 ok111 (impl_Category_inverse_c a0 y6 _ hv7) (by kernel_rfl) .nil) (by kernel_rfl) (by kernel_rfl) ?_
    rcases Bool.eq_false_or_eq_true (decide (v7 ≥ 0)) with h8 | h8
    · have hM := ite_true' hM h8
      refine tr_condTe (e := decide (v7 ≥ 0)) h8 (by kernel_rfl) ?_
      obtain ⟨h9, hM⟩ := chk_some hM
      refine tr_r hT hm [(3, .app true)] [0, 10, 18, 20, 22, 2047] [(0, .d (.pt (eXCategory.b a0) 0)), (10, .d (.rs 1023 0 (s1.1.length + (([s1.2] : List Int).length)))), (18, .d (.sl a1.length 0 (a1.flatMap eI.b))), (20, .d (iv (a1.length : Int))), (22, .d (iv s1.2)), (2047, .r (.arr 1 (s1.1.flatMap eI.o ++ ([s1.2] : List Int).flatMap eI.o) []))] (.cons (lenO_flat eI_ok s1.1) (.cons (lenO_flat eI_ok ([s1.2] : List Int)) (.cons h9 .nil))) (by kernel_rfl) (by kernel_rfl) (b_n (q_n ?_))
      refine Tr.by (imp_cvE (r := 1023) (sz := 1) (refs := []) (flat_app eI.o s1.1 ([s1.2] : List Int)) (menO_flat eI_ok _) (by kernel_rfl)) ?_
      refine Tr.by (imp_cvD (k := 10) (congrArg (D.rs 1023 0) ((len_app s1.1 ([s1.2] : List Int)) : s1.1.length + (([s1.2] : List Int).length) = (s1.1 ++ ([s1.2] : List Int)).length)) (by kernel_rfl)) ?_
      refine tr_r hT hm [] [0, 10, 18, 20, 22, 2047] [(0, .d (.pt (eXCategory.b a0) 0)), (10, .d (.rs 1023 0 ((s1.1 ++ ([s1.2] : List Int)).length))), (18, .d (.sl a1.length 0 (a1.flatMap eI.b))), (20, .d (iv (a1.length : Int))), (22, .d (iv (IntKind.i64.wrap (s1.2 + 1)))), (2047, .r (.arr 1 ((s1.1 ++ ([s1.2] : List Int)).flatMap eI.o) []))] .nil (by kernel_rfl) (by kernel_rfl) (l_n ?_)
      refine TrL.by (imp_sel (ks := [0, 10, 18, 20, 22, 2047]) (st' := [(0, .d (.pt (eXCategory.b a0) 0)), (10, .d (.rs 1023 0 ((s1.1 ++ ([s1.2] : List Int)).length))), (18, .d (.sl a1.length 0 (a1.flatMap eI.b))), (20, .d (iv (a1.length : Int))), (22, .d (iv (IntKind.i64.wrap (s1.2 + 1)))), (2047, .r (.arr 1 ((s1.1 ++ ([s1.2] : List Int)).flatMap eI.o) []))]) (by kernel_rfl)) ?_
      refine TrL.by (imp_rename (r := 1023) (q := 1008) (by kernel_rfl) (Nat.le_of_ble_eq_true rfl)) ?_
      exact trl_start (ks := [0, 10, 18, 20, 22, 2017]) (by kernel_rfl) (ih3 (s1.1 ++ ([s1.2] : List Int), IntKind.i64.wrap (s1.2 + 1)) hM)
    · have hM := ite_false' hM h8
      refine tr_condFe (e := decide (v7 ≥ 0)) h8 (by kernel_rfl) ?_
      refine tr_skip (b_n (q_n ?_))
      refine tr_r hT hm [] [0, 10, 18, 20, 22, 2017] [(0, .d (.pt (eXCategory.b a0) 0)), (10, .d (.rs 1008 0 s1.1.length)), (18, .d (.sl a1.length 0 (a1.flatMap eI.b))), (20, .d (iv (a1.length : Int))), (22, .d (iv (IntKind.i64.wrap (s1.2 + 1)))), (2017, .r (.arr 1 (s1.1.flatMap eI.o) []))] .nil (by kernel_rfl) (by kernel_rfl) (l_n ?_)
      exact trl_start (ks := [0, 10, 18, 20, 22, 2017]) (by kernel_rfl) (ih3 (s1.1, IntKind.i64.wrap (s1.2 + 1)) hM)
  · have hM := ite_false' hM h5
    refine tr_condFe (e := decide (s1.2 < (a1.length : Int))) h5 (by kernel_rfl) ?_
    refine tr_exit (q_x (l_x (b_h (q_n ?_))))
    refine tr_sr hT hm [] [8, 2017] [(8, .d (.rs 1008 0 s1.1.length)), (2017, .r (.arr 1 (s1.1.flatMap eI.o) []))] .nil (by kernel_rfl) (by kernel_rfl) ?_
    refine tr_ret (rg_r ?_)
    obtain rfl := Option.some.inj hM
    exact retg (names := []) (.cons (lenO_flat eI_ok s1.1) .nil) (by kernel_rfl)

end Go.Proofs.Ytpfdieaiogfihaa.WwV
