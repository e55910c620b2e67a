/- Walks. Printed by wip/gen. -/
import Derived.Test.YtiikkfdehbcfaaaGxEM0
import Derived.Test.YtiikkfdehbcfaaaGxEO0
import Derived.Test.YtiikkfdehbcfaaaGxzSW1
import Derived.KernelRfl
namespace Go.Proofs.Ytiikkfdehbcfaaa.WzT
open Go.Gx Go.Proofs.Ytiikkfdehbcfaaa.WvB Go.Proofs.Ytiikkfdehbcfaaa.WyN Go.Proofs.Ytiikkfdehbcfaaa.WzS

theorem eXCategory_r : EncR eXCategory := (eA_r (eC_r eI_r _) (eA_r (eC_r (eS_r eI_ok) _) (eA_r (eC_r (eS_r eI_ok) _) (eA_r (eC_r (eS_r eI_ok) _) (eC_r (eS_r (eS_ok eI_ok)) _)))))
theorem eXFunctor_r : EncR eXFunctor := (eA_r (eC_r eXCategory_r _) (eA_r (eC_r eXCategory_r _) (eA_r (eC_r (eS_r eI_ok) _) (eC_r (eS_r eI_ok) _))))
def T : Tab := [(2, ⟨.int .i64, 1, 8, [.int .i64 0]⟩),
  (3, ⟨.int .i64, 1, 8, [.int .i64 0]⟩),
  (22, ⟨.slice 2, 1, 24, [.slice .none 0 0]⟩),
  (23, ⟨.slice 22, 1, 24, [.slice .none 0 0]⟩),
  (34, ⟨.struct #[⟨"Objects", 2, 0, false, "", "", 0⟩, ⟨"From", 22, 1, false, "", "", 8⟩, ⟨"To", 22, 2, false, "", "", 32⟩, ⟨"Identity", 22, 3, false, "", "", 56⟩, ⟨"Composites", 23, 4, false, "", "", 80⟩], 5, 104, [.int .i64 0, .slice .none 0 0, .slice .none 0 0, .slice .none 0 0, .slice .none 0 0]⟩)]
theorem hT : TabOk Try.prog T := ⟨tiok (by kernel_rfl) (by kernel_rfl), tiok (by kernel_rfl) (by kernel_rfl), tiok (by kernel_rfl) (by kernel_rfl), tiok (by kernel_rfl) (by kernel_rfl), tiok (by kernel_rfl) (by kernel_rfl), trivial⟩
theorem hm : Try.prog.follows .mixedOrders = true := by kernel_rfl

theorem ok109 : CallOk Try.prog 109 := callOk_of Try.func109 (by kernel_rfl) (by kernel_rfl)
theorem spec_l02Full_c (a0 : XCategory) (a1 : List Int) (r : (List Int)) (hM : M.spec_l02Full a0 a1 = some r) :
    FnC Try.prog 109 [] [.agg (eXCategory.b a0), .sl a1.length 0 (a1.flatMap eI.b)] [] (.fr 1 r.length (r.flatMap eI.o)) := by
  refine fnc_startG (N := 36) (np := 500) hT Try.func109 rfl rfl (by kernel_rfl) ?_
  unfold M.spec_l02Full at hM
  refine tr_start (ks := [0, 2]) (st' := [(0, .d (.agg (eXCategory.b a0))), (2, .d (.sl a1.length 0 (a1.flatMap eI.b)))]) (by kernel_rfl) ?_
  refine tr_sr hT hm [] [2, 4, 2005] [(2, .d (.sl a1.length 0 (a1.flatMap eI.b))), (4, .d (.rp 1002 0)), bxB 2005 (eXCategory.b a0)] .nil (by kernel_rfl) (by kernel_rfl) ?_
  refine tr_sr hT hm [] [2, 4, 10, 2005, 2015] [(2, .d (.sl a1.length 0 (a1.flatMap eI.b))), (4, .d (.rp 1002 0)), (10, .d (.rs 1007 0 (([] : List Int).length))), bxB 2005 (eXCategory.b a0), (2015, .r (.arr 1 (([] : List Int).flatMap eI.o) []))] .nil (by kernel_rfl) (by kernel_rfl) ?_
  refine tr_seq ?_
  refine tr_sr hT hm [] [2, 4, 10, 12, 2005, 2015] [(2, .d (.sl a1.length 0 (a1.flatMap eI.b))), (4, .d (.rp 1002 0)), (10, .d (.rs 1007 0 (([] : List Int).length))), (12, .d (iv 0)), bxB 2005 (eXCategory.b a0), (2015, .r (.arr 1 (([] : List Int).flatMap eI.o) []))] .nil (by kernel_rfl) (by kernel_rfl) ?_
  refine tr_block ?_
  refine tr_iterS (fun (s1 : (List Int) × Int) => [(2, .d (.sl a1.length 0 (a1.flatMap eI.b))), (4, .d (.rp 1002 0)), (10, .d (.rs 1007 0 s1.1.length)), (12, .d (iv s1.2)), bxB 2005 (eXCategory.b a0), (2015, .r (.arr 1 (s1.1.flatMap eI.o) []))]) (([] : List Int), 0) [2, 4, 10, 12, 2005, 2015] (by kernel_rfl) hM ?_
  intro n4 next2 ih3 s1 hM
  refine tr_seq ?_
  refine tr_sr hT hm [] [2, 4, 10, 12, 24, 2005, 2015] [(2, .d (.sl a1.length 0 (a1.flatMap eI.b))), (4, .d (.rp 1002 0)), (10, .d (.rs 1007 0 s1.1.length)), (12, .d (iv s1.2)), (24, .d (bv (decide (s1.2 < (a0.From.length : Int))))), bxB 2005 (eXCategory.b a0), (2015, .r (.arr 1 (s1.1.flatMap eI.o) []))] .nil (by kernel_rfl) (by kernel_rfl) ?_
  rcases Bool.eq_false_or_eq_true (decide (s1.2 < (a0.From.length : Int))) with h5 | h5
  · have hM := ite_true' hM h5
    refine tr_condTe (e := decide (s1.2 < (a0.From.length : Int))) h5 (by kernel_rfl) ?_
    refine tr_skip (q_n ?_)
    refine tr_seq ?_
    refine tr_block ?_
    obtain ⟨y6, hy6, hM⟩ := bind_some' hM
    have hy6' := idx_some hy6
    obtain ⟨v7, hv7, hM⟩ := bind_some' hM
    rcases Bool.eq_false_or_eq_true v7 with h8 | h8
    · have hM := ite_true' hM h8
      obtain ⟨y9, hy9, hM⟩ := bind_some' hM
      have hy9' := idx_some hy9
      obtain ⟨v10, hv10, hM⟩ := bind_some' hM
      refine tr_sr hT hm [(5, .val (iv y6)), (6, .call [] [] [.sl a1.length 0 (a1.flatMap eI.b), iv y6] [] (bv v7)), (7, .val (bv true)), (13, .val (iv y9)), (14, .call [] [] [.sl a1.length 0 (a1.flatMap eI.b), iv y9] [] (bv v10))] [2, 4, 10, 12, 60, 2005, 2015] [(2, .d (.sl a1.length 0 (a1.flatMap eI.b))), (4, .d (.rp 1002 0)), (10, .d (.rs 1007 0 s1.1.length)), (12, .d (iv s1.2)), (60, .d (bv v10)), bxB 2005 (eXCategory.b a0), (2015, .r (.arr 1 (s1.1.flatMap eI.o) []))] (.cons hy6'.1 (.cons hy6'.2.1 (.cons (at_b0 eI_ok hy6'.2.2 (d := iv y6) (by kernel_rfl)) (cc0 ok101 (spec_l01Has_c a1 y6 _ hv7) (by kernel_rfl) (.cons (congrArg (fun b => bv b) h8) (.cons hy9'.1 (.cons hy9'.2.1 (.cons (at_b0 eI_ok hy9'.2.2 (d := iv y9) (by kernel_rfl)) (cc0 ok101 (spec_l01Has_c a1 y9 _ hv10) (by kernel_rfl) .nil))))))))) (by kernel_rfl) (by kernel_rfl) ?_
      rcases Bool.eq_false_or_eq_true v10 with h11 | h11
      · have hM := ite_true' hM h11
        refine tr_condTe (e := v10) h11 (by kernel_rfl) ?_
        obtain ⟨h12, hM⟩ := chk_some hM
        refine tr_r hT hm [(3, .app true)] [2, 4, 10, 12, 2005, 2069] [(2, .d (.sl a1.length 0 (a1.flatMap eI.b))), (4, .d (.rp 1002 0)), (10, .d (.rs 1034 0 (s1.1.length + (([s1.2] : List Int).length)))), (12, .d (iv s1.2)), bxB 2005 (eXCategory.b a0), (2069, .r (.arr 1 (s1.1.flatMap eI.o ++ ([s1.2] : List Int).flatMap eI.o) []))] (.cons (lenO_flat eI_ok s1.1) (.cons (lenO_flat eI_ok ([s1.2] : List Int)) (.cons h12 .nil))) (by kernel_rfl) (by kernel_rfl) (b_n (q_n ?_))
        refine Tr.by (imp_cvE (r := 1034) (sz := 1) (refs := []) (flat_app eI.o s1.1 ([s1.2] : List Int)) (menO_flat eI_ok _) (by kernel_rfl)) ?_
        refine Tr.by (imp_cvD (k := 10) (congrArg (D.rs 1034 0) ((len_app s1.1 ([s1.2] : List Int)) : s1.1.length + (([s1.2] : List Int).length) = (s1.1 ++ ([s1.2] : List Int)).length)) (by kernel_rfl)) ?_
        refine tr_r hT hm [] [2, 4, 10, 12, 2005, 2069] [(2, .d (.sl a1.length 0 (a1.flatMap eI.b))), (4, .d (.rp 1002 0)), (10, .d (.rs 1034 0 ((s1.1 ++ ([s1.2] : List Int)).length))), (12, .d (iv (IntKind.i64.wrap (s1.2 + 1)))), bxB 2005 (eXCategory.b a0), (2069, .r (.arr 1 ((s1.1 ++ ([s1.2] : List Int)).flatMap eI.o) []))] .nil (by kernel_rfl) (by kernel_rfl) (l_n ?_)
        refine TrL.by (imp_sel (ks := [2, 4, 10, 12, 2005, 2069]) (st' := [(2, .d (.sl a1.length 0 (a1.flatMap eI.b))), (4, .d (.rp 1002 0)), (10, .d (.rs 1034 0 ((s1.1 ++ ([s1.2] : List Int)).length))), (12, .d (iv (IntKind.i64.wrap (s1.2 + 1)))), bxB 2005 (eXCategory.b a0), (2069, .r (.arr 1 ((s1.1 ++ ([s1.2] : List Int)).flatMap eI.o) []))]) (by kernel_rfl)) ?_
        refine TrL.by (imp_rename (r := 1034) (q := 1007) (by kernel_rfl) (Nat.le_of_ble_eq_true rfl)) ?_
        exact trl_start (ks := [2, 4, 10, 12, 2005, 2015]) (by kernel_rfl) (ih3 (s1.1 ++ ([s1.2] : List Int), IntKind.i64.wrap (s1.2 + 1)) hM)
      · have hM := ite_false' hM h11
        refine tr_condFe (e := v10) h11 (by kernel_rfl) ?_
        refine tr_skip (b_n (q_n ?_))
        refine tr_r hT hm [] [2, 4, 10, 12, 2005, 2015] [(2, .d (.sl a1.length 0 (a1.flatMap eI.b))), (4, .d (.rp 1002 0)), (10, .d (.rs 1007 0 s1.1.length)), (12, .d (iv (IntKind.i64.wrap (s1.2 + 1)))), bxB 2005 (eXCategory.b a0), (2015, .r (.arr 1 (s1.1.flatMap eI.o) []))] .nil (by kernel_rfl) (by kernel_rfl) (l_n ?_)
        exact trl_start (ks := [2, 4, 10, 12, 2005, 2015]) (by kernel_rfl) (ih3 (s1.1, IntKind.i64.wrap (s1.2 + 1)) hM)
    · have hM := ite_false' hM h8
      refine tr_sr hT hm [(5, .val (iv y6)), (6, .call [] [] [.sl a1.length 0 (a1.flatMap eI.b), iv y6] [] (bv v7)), (7, .val (bv false))] [2, 4, 10, 12, 60, 2005, 2015] [(2, .d (.sl a1.length 0 (a1.flatMap eI.b))), (4, .d (.rp 1002 0)), (10, .d (.rs 1007 0 s1.1.length)), (12, .d (iv s1.2)), (60, .d (bv false)), bxB 2005 (eXCategory.b a0), (2015, .r (.arr 1 (s1.1.flatMap eI.o) []))] (.cons hy6'.1 (.cons hy6'.2.1 (.cons (at_b0 eI_ok hy6'.2.2 (d := iv y6) (by kernel_rfl)) (cc0 ok101 (spec_l01Has_c a1 y6 _ hv7) (by kernel_rfl) (.cons (congrArg (fun b => bv b) h8) .nil))))) (by kernel_rfl) (by kernel_rfl) ?_
      refine tr_condF (by kernel_rfl) ?_
      refine tr_skip (b_n (q_n ?_))
      refine tr_r hT hm [] [2, 4, 10, 12, 2005, 2015] [(2, .d (.sl a1.length 0 (a1.flatMap eI.b))), (4, .d (.rp 1002 0)), (10, .d (.rs 1007 0 s1.1.length)), (12, .d (iv (IntKind.i64.wrap (s1.2 + 1)))), bxB 2005 (eXCategory.b a0), (2015, .r (.arr 1 (s1.1.flatMap eI.o) []))] .nil (by kernel_rfl) (by kernel_rfl) (l_n ?_)
      exact trl_start (ks := [2, 4, 10, 12, 2005, 2015]) (by kernel_rfl) (ih3 (s1.1, IntKind.i64.wrap (s1.2 + 1)) hM)
  · have hM := ite_false' hM h5
    refine tr_condFe (e := decide (s1.2 < (a0.From.length : Int))) h5 (by kernel_rfl) ?_
    refine tr_exit (q_x (l_x (b_h (q_n ?_))))
    refine tr_sr hT hm [] [8, 2015] [(8, .d (.rs 1007 0 s1.1.length)), (2015, .r (.arr 1 (s1.1.flatMap eI.o) []))] .nil (by kernel_rfl) (by kernel_rfl) ?_
    refine tr_ret (rg_r ?_)
    obtain rfl := Option.some.inj hM
    exact retg (names := []) (.cons (lenO_flat eI_ok s1.1) .nil) (by kernel_rfl)

theorem ok259 : CallOk Try.prog 259 := callOk_of Try.func259 (by kernel_rfl) (by kernel_rfl)
theorem impl_Category_between_c (a0 : XCategory) (a1 : List Int) (r : (List Int)) (hM : M.impl_Category_between a0 a1 = some r) :
    FnC Try.prog 259 [] [.pt (eXCategory.b a0) 0, .sl a1.length 0 (a1.flatMap eI.b)] [] (.fr 1 r.length (r.flatMap eI.o)) := by
  refine fnc_startG (N := 42) (np := 500) hT Try.func259 rfl rfl (by kernel_rfl) ?_
  unfold M.impl_Category_between at hM
  refine tr_start (ks := [0, 2]) (st' := [(0, .d (.pt (eXCategory.b a0) 0)), (2, .d (.sl a1.length 0 (a1.flatMap eI.b)))]) (by kernel_rfl) ?_
  refine tr_sr hT hm [] [0, 2] [(0, .d (.pt (eXCategory.b a0) 0)), (2, .d (.sl a1.length 0 (a1.flatMap eI.b)))] .nil (by kernel_rfl) (by kernel_rfl) ?_
  refine tr_sr hT hm [] [0, 2, 10, 2015] [(0, .d (.pt (eXCategory.b a0) 0)), (2, .d (.sl a1.length 0 (a1.flatMap eI.b))), (10, .d (.rs 1007 0 (([] : List Int).length))), (2015, .r (.arr 1 (([] : List Int).flatMap eI.o) []))] .nil (by kernel_rfl) (by kernel_rfl) ?_
  refine tr_seq ?_
  refine tr_sr hT hm [] [0, 2, 10, 24, 26, 2015] [(0, .d (.pt (eXCategory.b a0) 0)), (2, .d (.sl a1.length 0 (a1.flatMap eI.b))), (10, .d (.rs 1007 0 (([] : List Int).length))), (24, .d (iv (a0.From.length : Int))), (26, .d (iv 0)), (2015, .r (.arr 1 (([] : List Int).flatMap eI.o) []))] .nil (by kernel_rfl) (by kernel_rfl) ?_
  refine tr_block ?_
  refine tr_iterS (fun (s1 : (List Int) × Int) => [(0, .d (.pt (eXCategory.b a0) 0)), (2, .d (.sl a1.length 0 (a1.flatMap eI.b))), (10, .d (.rs 1007 0 s1.1.length)), (24, .d (iv (a0.From.length : Int))), (26, .d (iv s1.2)), (2015, .r (.arr 1 (s1.1.flatMap eI.o) []))]) (([] : List Int), 0) [0, 2, 10, 24, 26, 2015] (by kernel_rfl) hM ?_
  intro n4 next2 ih3 s1 hM
  refine tr_sr hT hm [] [0, 2, 10, 24, 26, 28, 2015] [(0, .d (.pt (eXCategory.b a0) 0)), (2, .d (.sl a1.length 0 (a1.flatMap eI.b))), (10, .d (.rs 1007 0 s1.1.length)), (24, .d (iv (a0.From.length : Int))), (26, .d (iv s1.2)), (28, .d (bv (decide (s1.2 < (a0.From.length : Int))))), (2015, .r (.arr 1 (s1.1.flatMap eI.o) []))] .nil (by kernel_rfl) (by kernel_rfl) ?_
  refine tr_seq ?_
  rcases Bool.eq_false_or_eq_true (decide (s1.2 < (a0.From.length : Int))) with h5 | h5
  · have hM := ite_true' hM h5
    refine tr_condTe (e := decide (s1.2 < (a0.From.length : Int))) h5 (by kernel_rfl) ?_
    refine tr_skip (q_n ?_)
    refine tr_seq ?_
    refine tr_block ?_
    refine tr_sr hT hm [] [0, 2, 10, 12, 24, 26, 2015] [(0, .d (.pt (eXCategory.b a0) 0)), (2, .d (.sl a1.length 0 (a1.flatMap eI.b))), (10, .d (.rs 1007 0 s1.1.length)), (12, .d (iv s1.2)), (24, .d (iv (a0.From.length : Int))), (26, .d (iv s1.2)), (2015, .r (.arr 1 (s1.1.flatMap eI.o) []))] .nil (by kernel_rfl) (by kernel_rfl) ?_
    obtain ⟨y6, hy6, hM⟩ := bind_some' hM
    have hy6' := idx_some hy6
    obtain ⟨v7, hv7, hM⟩ := bind_some' hM
    rcases Bool.eq_false_or_eq_true v7 with h8 | h8
    · have hM := ite_true' hM h8
      obtain ⟨y9, hy9, hM⟩ := bind_some' hM
      have hy9' := idx_some hy9
      obtain ⟨v10, hv10, hM⟩ := bind_some' hM
      refine tr_sr hT hm [(7, .val (iv y6)), (8, .call [] [] [.sl a1.length 0 (a1.flatMap eI.b), iv y6] [] (bv v7)), (9, .val (bv true)), (17, .val (iv y9)), (18, .call [] [] [.sl a1.length 0 (a1.flatMap eI.b), iv y9] [] (bv v10))] [0, 2, 10, 12, 24, 26, 70, 2015] [(0, .d (.pt (eXCategory.b a0) 0)), (2, .d (.sl a1.length 0 (a1.flatMap eI.b))), (10, .d (.rs 1007 0 s1.1.length)), (12, .d (iv s1.2)), (24, .d (iv (a0.From.length : Int))), (26, .d (iv s1.2)), (70, .d (bv v10)), (2015, .r (.arr 1 (s1.1.flatMap eI.o) []))] (.cons hy6'.1 (.cons hy6'.2.1 (.cons (at_b0 eI_ok hy6'.2.2 (d := iv y6) (by kernel_rfl)) (cc0 ok280 (impl_has_c a1 y6 _ hv7) (by kernel_rfl) (.cons (congrArg (fun b => bv b) h8) (.cons hy9'.1 (.cons hy9'.2.1 (.cons (at_b0 eI_ok hy9'.2.2 (d := iv y9) (by kernel_rfl)) (cc0 ok280 (impl_has_c a1 y9 _ hv10) (by kernel_rfl) .nil))))))))) (by kernel_rfl) (by kernel_rfl) ?_
      rcases Bool.eq_false_or_eq_true v10 with h11 | h11
      · have hM := ite_true' hM h11
        refine tr_condTe (e := v10) h11 (by kernel_rfl) ?_
        obtain ⟨h12, hM⟩ := chk_some hM
        refine tr_r hT hm [(3, .app true)] [0, 2, 10, 24, 26, 2079] [(0, .d (.pt (eXCategory.b a0) 0)), (2, .d (.sl a1.length 0 (a1.flatMap eI.b))), (10, .d (.rs 1039 0 (s1.1.length + (([s1.2] : List Int).length)))), (24, .d (iv (a0.From.length : Int))), (26, .d (iv s1.2)), (2079, .r (.arr 1 (s1.1.flatMap eI.o ++ ([s1.2] : List Int).flatMap eI.o) []))] (.cons (lenO_flat eI_ok s1.1) (.cons (lenO_flat eI_ok ([s1.2] : List Int)) (.cons h12 .nil))) (by kernel_rfl) (by kernel_rfl) (b_n (q_n ?_))
        refine Tr.by (imp_cvE (r := 1039) (sz := 1) (refs := []) (flat_app eI.o s1.1 ([s1.2] : List Int)) (menO_flat eI_ok _) (by kernel_rfl)) ?_
        refine Tr.by (imp_cvD (k := 10) (congrArg (D.rs 1039 0) ((len_app s1.1 ([s1.2] : List Int)) : s1.1.length + (([s1.2] : List Int).length) = (s1.1 ++ ([s1.2] : List Int)).length)) (by kernel_rfl)) ?_
        refine tr_r hT hm [] [0, 2, 10, 24, 26, 2079] [(0, .d (.pt (eXCategory.b a0) 0)), (2, .d (.sl a1.length 0 (a1.flatMap eI.b))), (10, .d (.rs 1039 0 ((s1.1 ++ ([s1.2] : List Int)).length))), (24, .d (iv (a0.From.length : Int))), (26, .d (iv (IntKind.i64.wrap (s1.2 + 1)))), (2079, .r (.arr 1 ((s1.1 ++ ([s1.2] : List Int)).flatMap eI.o) []))] .nil (by kernel_rfl) (by kernel_rfl) (l_n ?_)
        refine TrL.by (imp_sel (ks := [0, 2, 10, 24, 26, 2079]) (st' := [(0, .d (.pt (eXCategory.b a0) 0)), (2, .d (.sl a1.length 0 (a1.flatMap eI.b))), (10, .d (.rs 1039 0 ((s1.1 ++ ([s1.2] : List Int)).length))), (24, .d (iv (a0.From.length : Int))), (26, .d (iv (IntKind.i64.wrap (s1.2 + 1)))), (2079, .r (.arr 1 ((s1.1 ++ ([s1.2] : List Int)).flatMap eI.o) []))]) (by kernel_rfl)) ?_
        refine TrL.by (imp_rename (r := 1039) (q := 1007) (by kernel_rfl) (Nat.le_of_ble_eq_true rfl)) ?_
        exact trl_start (ks := [0, 2, 10, 24, 26, 2015]) (by kernel_rfl) (ih3 (s1.1 ++ ([s1.2] : List Int), IntKind.i64.wrap (s1.2 + 1)) hM)
      · have hM := ite_false' hM h11
        refine tr_condFe (e := v10) h11 (by kernel_rfl) ?_
        refine tr_skip (b_n (q_n ?_))
        refine tr_r hT hm [] [0, 2, 10, 24, 26, 2015] [(0, .d (.pt (eXCategory.b a0) 0)), (2, .d (.sl a1.length 0 (a1.flatMap eI.b))), (10, .d (.rs 1007 0 s1.1.length)), (24, .d (iv (a0.From.length : Int))), (26, .d (iv (IntKind.i64.wrap (s1.2 + 1)))), (2015, .r (.arr 1 (s1.1.flatMap eI.o) []))] .nil (by kernel_rfl) (by kernel_rfl) (l_n ?_)
        exact trl_start (ks := [0, 2, 10, 24, 26, 2015]) (by kernel_rfl) (ih3 (s1.1, IntKind.i64.wrap (s1.2 + 1)) hM)
    · have hM := ite_false' hM h8
      refine tr_sr hT hm [(7, .val (iv y6)), (8, .call [] [] [.sl a1.length 0 (a1.flatMap eI.b), iv y6] [] (bv v7)), (9, .val (bv false))] [0, 2, 10, 12, 24, 26, 70, 2015] [(0, .d (.pt (eXCategory.b a0) 0)), (2, .d (.sl a1.length 0 (a1.flatMap eI.b))), (10, .d (.rs 1007 0 s1.1.length)), (12, .d (iv s1.2)), (24, .d (iv (a0.From.length : Int))), (26, .d (iv s1.2)), (70, .d (bv false)), (2015, .r (.arr 1 (s1.1.flatMap eI.o) []))] (.cons hy6'.1 (.cons hy6'.2.1 (.cons (at_b0 eI_ok hy6'.2.2 (d := iv y6) (by kernel_rfl)) (cc0 ok280 (impl_has_c a1 y6 _ hv7) (by kernel_rfl) (.cons (congrArg (fun b => bv b) h8) .nil))))) (by kernel_rfl) (by kernel_rfl) ?_
      refine tr_condF (by kernel_rfl) ?_
      refine tr_skip (b_n (q_n ?_))
      refine tr_r hT hm [] [0, 2, 10, 24, 26, 2015] [(0, .d (.pt (eXCategory.b a0) 0)), (2, .d (.sl a1.length 0 (a1.flatMap eI.b))), (10, .d (.rs 1007 0 s1.1.length)), (24, .d (iv (a0.From.length : Int))), (26, .d (iv (IntKind.i64.wrap (s1.2 + 1)))), (2015, .r (.arr 1 (s1.1.flatMap eI.o) []))] .nil (by kernel_rfl) (by kernel_rfl) (l_n ?_)
      exact trl_start (ks := [0, 2, 10, 24, 26, 2015]) (by kernel_rfl) (ih3 (s1.1, IntKind.i64.wrap (s1.2 + 1)) hM)
  · have hM := ite_false' hM h5
    refine tr_condFe (e := decide (s1.2 < (a0.From.length : Int))) h5 (by kernel_rfl) ?_
    refine tr_exit (q_x (l_x (b_h (q_n ?_))))
    refine tr_sr hT hm [] [8, 2015] [(8, .d (.rs 1007 0 s1.1.length)), (2015, .r (.arr 1 (s1.1.flatMap eI.o) []))] .nil (by kernel_rfl) (by kernel_rfl) ?_
    refine tr_ret (rg_r ?_)
    obtain rfl := Option.some.inj hM
    exact retg (names := []) (.cons (lenO_flat eI_ok s1.1) .nil) (by kernel_rfl)

end Go.Proofs.Ytiikkfdehbcfaaa.WzT
