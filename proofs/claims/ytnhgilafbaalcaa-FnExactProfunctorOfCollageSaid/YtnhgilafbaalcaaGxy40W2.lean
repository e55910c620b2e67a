/- Walks. Printed by wip/gen. -/
import Derived.Test.YtnhgilafbaalcaaGxy40W1
namespace Go.Proofs.Ytnhgilafbaalcaa.Wy40
open Go.Gx Go.Proofs.Ytnhgilafbaalcaa.WvB Go.Proofs.Ytnhgilafbaalcaa.WyN Go.Proofs.Ytnhgilafbaalcaa.WyG Go.Proofs.Ytnhgilafbaalcaa.WvI Go.Proofs.Ytnhgilafbaalcaa.WyX

theorem ok13 : CallOk Try.prog 13 := callOk_of Try.func13 (by kernel_rfl) (by kernel_rfl)
theorem spec_ProfunctorOfCollage_c (a0 : XCategory) (a1 : Int) (r : XProfunctor × Int) (hM : M.spec_ProfunctorOfCollage a0 a1 = some r) :
    FnC Try.prog 13 [] [.agg (eXCategory.b a0), iv a1] [] (.tup [.agg (eXProfunctor.o r.1), iv r.2]) := by
  refine fnc_startG (N := 88) (np := 500) hT Try.func13 rfl rfl (by kernel_rfl) ?_
  unfold M.spec_ProfunctorOfCollage at hM
  refine tr_start (ks := [0, 2]) (st' := [(0, .d (.agg (eXCategory.b a0))), (2, .d (iv a1))]) (by kernel_rfl) ?_
  refine tr_sr hT hm [] [2, 4, 8, 2005, 2009] [(2, .d (iv a1)), (4, .d (.rp 1002 0)), (8, .d (.rp 1004 0)), bxB 2005 (eXCategory.b a0), (2009, .r (.arr 1 [iv 0, nilv, nilv, nilv, nilv, iv 0, nilv, nilv, nilv, nilv, nilv, nilv, nilv] []))] .nil (by kernel_rfl) (by kernel_rfl) ?_
  refine tr_seq ?_
  obtain ⟨v1, hv1, hM⟩ := bind_some' hM
  refine tr_sr hT hm [(1, .call [] [] [.agg (eXCategory.b a0)] [] (bv v1))] [2, 4, 8, 30, 2005, 2009] [(2, .d (iv a1)), (4, .d (.rp 1002 0)), (8, .d (.rp 1004 0)), (30, .d (bv (!v1))), bxB 2005 (eXCategory.b a0), (2009, .r (.arr 1 [iv 0, nilv, nilv, nilv, nilv, iv 0, nilv, nilv, nilv, nilv, nilv, nilv, nilv] []))] (cc0 ok39 (spec_l02Is_c a0 _ hv1) (by kernel_rfl) .nil) (by kernel_rfl) (by kernel_rfl) ?_
  rcases Bool.eq_false_or_eq_true v1 with h2 | h2
  · have hM := ite_true' hM h2
    refine tr_condFe (e := !v1) (congrArg not h2) (by kernel_rfl) ?_
    refine tr_skip (q_n ?_)
    refine tr_seq ?_
    obtain ⟨v3, hv3, hM⟩ := bind_some' hM
    refine tr_sr hT hm [(3, .call [] [] [iv a1, iv 0, iv a0.Objects] [] (bv v3))] [2, 4, 8, 42, 2005, 2009] [(2, .d (iv a1)), (4, .d (.rp 1002 0)), (8, .d (.rp 1004 0)), (42, .d (bv (!v3))), bxB 2005 (eXCategory.b a0), (2009, .r (.arr 1 [iv 0, nilv, nilv, nilv, nilv, iv 0, nilv, nilv, nilv, nilv, nilv, nilv, nilv] []))] (cc0 ok40 (spec_l01In_c a1 0 a0.Objects _ hv3) (by kernel_rfl) .nil) (by kernel_rfl) (by kernel_rfl) ?_
    rcases Bool.eq_false_or_eq_true v3 with h4 | h4
    · have hM := ite_true' hM h4
      refine tr_condFe (e := !v3) (congrArg not h4) (by kernel_rfl) ?_
      refine tr_skip (q_n ?_)
      refine tr_seq ?_
      refine tr_sr hT hm [] [2, 4, 8, 12, 2005, 2009] [(2, .d (iv a1)), (4, .d (.rp 1002 0)), (8, .d (.rp 1004 0)), (12, .d (iv 0)), bxB 2005 (eXCategory.b a0), (2009, .r (.arr 1 [iv 0, nilv, nilv, nilv, nilv, iv 0, nilv, nilv, nilv, nilv, nilv, nilv, nilv] []))] .nil (by kernel_rfl) (by kernel_rfl) ?_
      refine tr_block ?_
      refine tr_iterS (fun (s5 : Int) => [(2, .d (iv a1)), (4, .d (.rp 1002 0)), (8, .d (.rp 1004 0)), (12, .d (iv s5)), bxB 2005 (eXCategory.b a0), (2009, .r (.arr 1 [iv 0, nilv, nilv, nilv, nilv, iv 0, nilv, nilv, nilv, nilv, nilv, nilv, nilv] []))]) 0 [2, 4, 8, 12, 2005, 2009] (by kernel_rfl) hM ?_
      intro n8 next6 ih7 s5 hM
      refine tr_seq ?_
      refine tr_sr hT hm [] [2, 4, 8, 12, 54, 2005, 2009] [(2, .d (iv a1)), (4, .d (.rp 1002 0)), (8, .d (.rp 1004 0)), (12, .d (iv s5)), (54, .d (bv (decide (s5 < (a0.From.length : Int))))), bxB 2005 (eXCategory.b a0), (2009, .r (.arr 1 [iv 0, nilv, nilv, nilv, nilv, iv 0, nilv, nilv, nilv, nilv, nilv, nilv, nilv] []))] .nil (by kernel_rfl) (by kernel_rfl) ?_
      rcases Bool.eq_false_or_eq_true (decide (s5 < (a0.From.length : Int))) with h9 | h9
      · have hM := ite_true' hM h9
        refine tr_condTe (e := decide (s5 < (a0.From.length : Int))) h9 (by kernel_rfl) ?_
        refine tr_skip (q_n ?_)
        refine tr_seq ?_
        refine tr_block ?_
        obtain ⟨y10, hy10, hM⟩ := bind_some' hM
        have hy10' := idx_some hy10
        rcases Bool.eq_false_or_eq_true (decide (y10 ≥ a1)) with h11 | h11
        · have hM := ite_true' hM h11
          obtain ⟨y12, hy12, hM⟩ := bind_some' hM
          have hy12' := idx_some hy12
          refine tr_sr hT hm [(4, .val (iv y10)), (7, .val (bv true)), (12, .val (iv y12))] [2, 4, 8, 12, 90, 2005, 2009] [(2, .d (iv a1)), (4, .d (.rp 1002 0)), (8, .d (.rp 1004 0)), (12, .d (iv s5)), (90, .d (bv (decide (y12 < a1)))), bxB 2005 (eXCategory.b a0), (2009, .r (.arr 1 [iv 0, nilv, nilv, nilv, nilv, iv 0, nilv, nilv, nilv, nilv, nilv, nilv, nilv] []))] (.cons hy10'.1 (.cons hy10'.2.1 (.cons (at_b0 eI_ok hy10'.2.2 (d := iv y10) (by kernel_rfl)) (.cons (congrArg (fun b => bv b) h11) (.cons hy12'.1 (.cons hy12'.2.1 (.cons (at_b0 eI_ok hy12'.2.2 (d := iv y12) (by kernel_rfl)) .nil))))))) (by kernel_rfl) (by kernel_rfl) ?_
          rcases Bool.eq_false_or_eq_true (decide (y12 < a1)) with h13 | h13
          · have hM := ite_true' hM h13
            refine tr_condTe (e := decide (y12 < a1)) h13 (by kernel_rfl) ?_
            refine tr_sr hT hm [] [8, 10, 2009] [(8, .d (.rp 1004 0)), (10, .d (iv 5)), (2009, .r (.arr 1 [iv 0, nilv, nilv, nilv, nilv, iv 0, nilv, nilv, nilv, nilv, nilv, nilv, nilv] []))] (.cons (Nat.le_of_ble_eq_true (n := 13) (m := 13) rfl) .nil) (by kernel_rfl) (by kernel_rfl) ?_
            refine tr_ret (b_r (q_r (l_r (b_r (q_r (rg_r ?_))))))
            refine RetG.by (imp_cvB (r := 1004) (sz := 1) (cells := [iv 0, nilv, nilv, nilv, nilv, iv 0, nilv, nilv, nilv, nilv, nilv, nilv, nilv]) (cells' := [iv 0, .fr 1 ([] : List Int).length (([] : List Int).flatMap eI.o), .fr 1 ([] : List Int).length (([] : List Int).flatMap eI.o), .fr 1 ([] : List Int).length (([] : List Int).flatMap eI.o), .fr 1 ([] : List (List Int)).length (([] : List (List Int)).flatMap (eS eI).o), iv 0, .fr 1 ([] : List Int).length (([] : List Int).flatMap eI.o), .fr 1 ([] : List Int).length (([] : List Int).flatMap eI.o), .fr 1 ([] : List Int).length (([] : List Int).flatMap eI.o), .fr 1 ([] : List (List Int)).length (([] : List (List Int)).flatMap (eS eI).o), .fr 1 ([] : List (List Int)).length (([] : List (List Int)).flatMap (eS eI).o), .fr 1 ([] : List (List (List Int))).length (([] : List (List (List Int))).flatMap (eS (eS eI)).o), .fr 1 ([] : List (List (List Int))).length (([] : List (List (List Int))).flatMap (eS (eS eI)).o)]) (refs := []) (refs' := []) (.cons (.refl _) (.cons Sub.nil_fr (.cons Sub.nil_fr (.cons Sub.nil_fr (.cons Sub.nil_fr (.cons (.refl _) (.cons Sub.nil_fr (.cons Sub.nil_fr (.cons Sub.nil_fr (.cons Sub.nil_fr (.cons Sub.nil_fr (.cons Sub.nil_fr (.cons Sub.nil_fr .nil))))))))))))) (by kernel_rfl) (by kernel_rfl) (by kernel_rfl)) ?_
            obtain rfl := Option.some.inj hM
            exact retg (names := []) .nil (by kernel_rfl)
          · have hM := ite_false' hM h13
            refine tr_condFe (e := decide (y12 < a1)) h13 (by kernel_rfl) ?_
            refine tr_skip (b_n (q_n ?_))
            refine tr_r hT hm [] [2, 4, 8, 12, 2005, 2009] [(2, .d (iv a1)), (4, .d (.rp 1002 0)), (8, .d (.rp 1004 0)), (12, .d (iv (IntKind.i64.wrap (s5 + 1)))), bxB 2005 (eXCategory.b a0), (2009, .r (.arr 1 [iv 0, nilv, nilv, nilv, nilv, iv 0, nilv, nilv, nilv, nilv, nilv, nilv, nilv] []))] .nil (by kernel_rfl) (by kernel_rfl) (l_n ?_)
            exact trl_start (ks := [2, 4, 8, 12, 2005, 2009]) (by kernel_rfl) (ih7 (IntKind.i64.wrap (s5 + 1)) hM)
        · have hM := ite_false' hM h11
          refine tr_sr hT hm [(4, .val (iv y10)), (7, .val (bv false))] [2, 4, 8, 12, 90, 2005, 2009] [(2, .d (iv a1)), (4, .d (.rp 1002 0)), (8, .d (.rp 1004 0)), (12, .d (iv s5)), (90, .d (bv false)), bxB 2005 (eXCategory.b a0), (2009, .r (.arr 1 [iv 0, nilv, nilv, nilv, nilv, iv 0, nilv, nilv, nilv, nilv, nilv, nilv, nilv] []))] (.cons hy10'.1 (.cons hy10'.2.1 (.cons (at_b0 eI_ok hy10'.2.2 (d := iv y10) (by kernel_rfl)) (.cons (congrArg (fun b => bv b) h11) .nil)))) (by kernel_rfl) (by kernel_rfl) ?_
          refine tr_condF (by kernel_rfl) ?_
          refine tr_skip (b_n (q_n ?_))
          refine tr_r hT hm [] [2, 4, 8, 12, 2005, 2009] [(2, .d (iv a1)), (4, .d (.rp 1002 0)), (8, .d (.rp 1004 0)), (12, .d (iv (IntKind.i64.wrap (s5 + 1)))), bxB 2005 (eXCategory.b a0), (2009, .r (.arr 1 [iv 0, nilv, nilv, nilv, nilv, iv 0, nilv, nilv, nilv, nilv, nilv, nilv, nilv] []))] .nil (by kernel_rfl) (by kernel_rfl) (l_n ?_)
          exact trl_start (ks := [2, 4, 8, 12, 2005, 2009]) (by kernel_rfl) (ih7 (IntKind.i64.wrap (s5 + 1)) hM)
      · have hM := ite_false' hM h9
        refine tr_condFe (e := decide (s5 < (a0.From.length : Int))) h9 (by kernel_rfl) ?_
        refine tr_exit (q_x (l_x (b_h (q_n ?_))))
        refine tr_sr hT hm [] [2, 4, 8, 14, 16, 2005, 2009, 2095, 2097] [(2, .d (iv a1)), (4, .d (.rp 1002 0)), (8, .d (.rp 1004 0)), (14, .d (.rs 1047 0 (([] : List Int).length))), (16, .d (.rs 1048 0 (([] : List Int).length))), bxB 2005 (eXCategory.b a0), (2009, .r (.arr 1 [iv 0, nilv, nilv, nilv, nilv, iv 0, nilv, nilv, nilv, nilv, nilv, nilv, nilv] [])), (2095, .r (.arr 1 (([] : List Int).flatMap eI.o) [])), (2097, .r (.arr 1 (([] : List Int).flatMap eI.o) []))] .nil (by kernel_rfl) (by kernel_rfl) ?_
        refine tr_seq ?_
        refine tr_sr hT hm [] [2, 4, 8, 14, 16, 18, 2005, 2009, 2095, 2097] [(2, .d (iv a1)), (4, .d (.rp 1002 0)), (8, .d (.rp 1004 0)), (14, .d (.rs 1047 0 (([] : List Int).length))), (16, .d (.rs 1048 0 (([] : List Int).length))), (18, .d (iv 0)), bxB 2005 (eXCategory.b a0), (2009, .r (.arr 1 [iv 0, nilv, nilv, nilv, nilv, iv 0, nilv, nilv, nilv, nilv, nilv, nilv, nilv] [])), (2095, .r (.arr 1 (([] : List Int).flatMap eI.o) [])), (2097, .r (.arr 1 (([] : List Int).flatMap eI.o) []))] .nil (by kernel_rfl) (by kernel_rfl) ?_
        refine tr_block ?_
        refine tr_iterS (fun (s14 : (List Int) × (List Int) × Int) => [(2, .d (iv a1)), (4, .d (.rp 1002 0)), (8, .d (.rp 1004 0)), (14, .d (.rs 1047 0 s14.1.length)), (16, .d (.rs 1048 0 s14.2.1.length)), (18, .d (iv s14.2.2)), bxB 2005 (eXCategory.b a0), (2009, .r (.arr 1 [iv 0, nilv, nilv, nilv, nilv, iv 0, nilv, nilv, nilv, nilv, nilv, nilv, nilv] [])), (2095, .r (.arr 1 (s14.1.flatMap eI.o) [])), (2097, .r (.arr 1 (s14.2.1.flatMap eI.o) []))]) (([] : List Int), ([] : List Int), 0) [2, 4, 8, 14, 16, 18, 2005, 2009, 2095, 2097] (by kernel_rfl) hM ?_
        intro n17 next15 ih16 s14 hM
        refine tr_seq ?_
        refine tr_sr hT hm [] [2, 4, 8, 14, 16, 18, 104, 2005, 2009, 2095, 2097] [(2, .d (iv a1)), (4, .d (.rp 1002 0)), (8, .d (.rp 1004 0)), (14, .d (.rs 1047 0 s14.1.length)), (16, .d (.rs 1048 0 s14.2.1.length)), (18, .d (iv s14.2.2)), (104, .d (bv (decide (s14.2.2 < a0.Objects)))), bxB 2005 (eXCategory.b a0), (2009, .r (.arr 1 [iv 0, nilv, nilv, nilv, nilv, iv 0, nilv, nilv, nilv, nilv, nilv, nilv, nilv] [])), (2095, .r (.arr 1 (s14.1.flatMap eI.o) [])), (2097, .r (.arr 1 (s14.2.1.flatMap eI.o) []))] .nil (by kernel_rfl) (by kernel_rfl) ?_
        rcases Bool.eq_false_or_eq_true (decide (s14.2.2 < a0.Objects)) with h18 | h18
        · have hM := ite_true' hM h18
          refine tr_condTe (e := decide (s14.2.2 < a0.Objects)) h18 (by kernel_rfl) ?_
          refine tr_skip (q_n ?_)
          refine tr_seq ?_
          refine tr_block ?_
          refine tr_sr hT hm [] [2, 4, 8, 14, 16, 18, 114, 2005, 2009, 2095, 2097] [(2, .d (iv a1)), (4, .d (.rp 1002 0)), (8, .d (.rp 1004 0)), (14, .d (.rs 1047 0 s14.1.length)), (16, .d (.rs 1048 0 s14.2.1.length)), (18, .d (iv s14.2.2)), (114, .d (bv (decide (s14.2.2 < a1)))), bxB 2005 (eXCategory.b a0), (2009, .r (.arr 1 [iv 0, nilv, nilv, nilv, nilv, iv 0, nilv, nilv, nilv, nilv, nilv, nilv, nilv] [])), (2095, .r (.arr 1 (s14.1.flatMap eI.o) [])), (2097, .r (.arr 1 (s14.2.1.flatMap eI.o) []))] .nil (by kernel_rfl) (by kernel_rfl) ?_
          rcases Bool.eq_false_or_eq_true (decide (s14.2.2 < a1)) with h19 | h19
          · have hM := ite_true' hM h19
            refine tr_condTe (e := decide (s14.2.2 < a1)) h19 (by kernel_rfl) ?_
            obtain ⟨h20, hM⟩ := chk_some hM
            refine tr_r hT hm [(3, .app true)] [2, 4, 8, 14, 16, 18, 2005, 2009, 2097, 2123] [(2, .d (iv a1)), (4, .d (.rp 1002 0)), (8, .d (.rp 1004 0)), (14, .d (.rs 1061 0 (s14.1.length + (([s14.2.2] : List Int).length)))), (16, .d (.rs 1048 0 s14.2.1.length)), (18, .d (iv s14.2.2)), bxB 2005 (eXCategory.b a0), (2009, .r (.arr 1 [iv 0, nilv, nilv, nilv, nilv, iv 0, nilv, nilv, nilv, nilv, nilv, nilv, nilv] [])), (2097, .r (.arr 1 (s14.2.1.flatMap eI.o) [])), (2123, .r (.arr 1 (s14.1.flatMap eI.o ++ ([s14.2.2] : List Int).flatMap eI.o) []))] (.cons (lenO_flat eI_ok s14.1) (.cons (lenO_flat eI_ok ([s14.2.2] : List Int)) (.cons h20 .nil))) (by kernel_rfl) (by kernel_rfl) (b_n (q_n ?_))
            refine Tr.by (imp_cvE (r := 1061) (sz := 1) (refs := []) (flat_app eI.o s14.1 ([s14.2.2] : List Int)) (menO_flat eI_ok _) (by kernel_rfl)) ?_
            refine Tr.by (imp_cvD (k := 14) (congrArg (D.rs 1061 0) ((len_app s14.1 ([s14.2.2] : List Int)) : s14.1.length + (([s14.2.2] : List Int).length) = (s14.1 ++ ([s14.2.2] : List Int)).length)) (by kernel_rfl)) ?_
            refine tr_r hT hm [] [2, 4, 8, 14, 16, 18, 2005, 2009, 2097, 2123] [(2, .d (iv a1)), (4, .d (.rp 1002 0)), (8, .d (.rp 1004 0)), (14, .d (.rs 1061 0 ((s14.1 ++ ([s14.2.2] : List Int)).length))), (16, .d (.rs 1048 0 s14.2.1.length)), (18, .d (iv (IntKind.i64.wrap (s14.2.2 + 1)))), bxB 2005 (eXCategory.b a0), (2009, .r (.arr 1 [iv 0, nilv, nilv, nilv, nilv, iv 0, nilv, nilv, nilv, nilv, nilv, nilv, nilv] [])), (2097, .r (.arr 1 (s14.2.1.flatMap eI.o) [])), (2123, .r (.arr 1 ((s14.1 ++ ([s14.2.2] : List Int)).flatMap eI.o) []))] .nil (by kernel_rfl) (by kernel_rfl) (l_n ?_)
            refine TrL.by (imp_sel (ks := [2, 4, 8, 14, 16, 18, 2005, 2009, 2097, 2123]) (st' := [(2, .d (iv a1)), (4, .d (.rp 1002 0)), (8, .d (.rp 1004 0)), (14, .d (.rs 1061 0 ((s14.1 ++ ([s14.2.2] : List Int)).length))), (16, .d (.rs 1048 0 s14.2.1.length)), (18, .d (iv (IntKind.i64.wrap (s14.2.2 + 1)))), bxB 2005 (eXCategory.b a0), (2009, .r (.arr 1 [iv 0, nilv, nilv, nilv, nilv, iv 0, nilv, nilv, nilv, nilv, nilv, nilv, nilv] [])), (2097, .r (.arr 1 (s14.2.1.flatMap eI.o) [])), (2123, .r (.arr 1 ((s14.1 ++ ([s14.2.2] : List Int)).flatMap eI.o) []))]) (by kernel_rfl)) ?_
            refine TrL.by (imp_rename (r := 1061) (q := 1047) (by kernel_rfl) (Nat.le_of_ble_eq_true rfl)) ?_
            exact trl_start (ks := [2, 4, 8, 14, 16, 18, 2005, 2009, 2095, 2097]) (by kernel_rfl) (ih16 (s14.1 ++ ([s14.2.2] : List Int), s14.2.1, IntKind.i64.wrap (s14.2.2 + 1)) hM)
          · have hM := ite_false' hM h19
            refine tr_condFe (e := decide (s14.2.2 < a1)) h19 (by kernel_rfl) ?_
            obtain ⟨h21, hM⟩ := chk_some hM
            refine tr_r hT hm [(3, .app true)] [2, 4, 8, 14, 16, 18, 2005, 2009, 2095, 2131] [(2, .d (iv a1)), (4, .d (.rp 1002 0)), (8, .d (.rp 1004 0)), (14, .d (.rs 1047 0 s14.1.length)), (16, .d (.rs 1065 0 (s14.2.1.length + (([s14.2.2] : List Int).length)))), (18, .d (iv s14.2.2)), bxB 2005 (eXCategory.b a0), (2009, .r (.arr 1 [iv 0, nilv, nilv, nilv, nilv, iv 0, nilv, nilv, nilv, nilv, nilv, nilv, nilv] [])), (2095, .r (.arr 1 (s14.1.flatMap eI.o) [])), (2131, .r (.arr 1 (s14.2.1.flatMap eI.o ++ ([s14.2.2] : List Int).flatMap eI.o) []))] (.cons (lenO_flat eI_ok s14.2.1) (.cons (lenO_flat eI_ok ([s14.2.2] : List Int)) (.cons h21 .nil))) (by kernel_rfl) (by kernel_rfl) (b_n (q_n ?_))
            refine Tr.by (imp_cvE (r := 1065) (sz := 1) (refs := []) (flat_app eI.o s14.2.1 ([s14.2.2] : List Int)) (menO_flat eI_ok _) (by kernel_rfl)) ?_
            refine Tr.by (imp_cvD (k := 16) (congrArg (D.rs 1065 0) ((len_app s14.2.1 ([s14.2.2] : List Int)) : s14.2.1.length + (([s14.2.2] : List Int).length) = (s14.2.1 ++ ([s14.2.2] : List Int)).length)) (by kernel_rfl)) ?_
            refine tr_r hT hm [] [2, 4, 8, 14, 16, 18, 2005, 2009, 2095, 2131] [(2, .d (iv a1)), (4, .d (.rp 1002 0)), (8, .d (.rp 1004 0)), (14, .d (.rs 1047 0 s14.1.length)), (16, .d (.rs 1065 0 ((s14.2.1 ++ ([s14.2.2] : List Int)).length))), (18, .d (iv (IntKind.i64.wrap (s14.2.2 + 1)))), bxB 2005 (eXCategory.b a0), (2009, .r (.arr 1 [iv 0, nilv, nilv, nilv, nilv, iv 0, nilv, nilv, nilv, nilv, nilv, nilv, nilv] [])), (2095, .r (.arr 1 (s14.1.flatMap eI.o) [])), (2131, .r (.arr 1 ((s14.2.1 ++ ([s14.2.2] : List Int)).flatMap eI.o) []))] .nil (by kernel_rfl) (by kernel_rfl) (l_n ?_)
            refine TrL.by (imp_sel (ks := [2, 4, 8, 14, 16, 18, 2005, 2009, 2095, 2131]) (st' := [(2, .d (iv a1)), (4, .d (.rp 1002 0)), (8, .d (.rp 1004 0)), (14, .d (.rs 1047 0 s14.1.length)), (16, .d (.rs 1065 0 ((s14.2.1 ++ ([s14.2.2] : List Int)).length))), (18, .d (iv (IntKind.i64.wrap (s14.2.2 + 1)))), bxB 2005 (eXCategory.b a0), (2009, .r (.arr 1 [iv 0, nilv, nilv, nilv, nilv, iv 0, nilv, nilv, nilv, nilv, nilv, nilv, nilv] [])), (2095, .r (.arr 1 (s14.1.flatMap eI.o) [])), (2131, .r (.arr 1 ((s14.2.1 ++ ([s14.2.2] : List Int)).flatMap eI.o) []))]) (by kernel_rfl)) ?_
            refine TrL.by (imp_rename (r := 1065) (q := 1048) (by kernel_rfl) (Nat.le_of_ble_eq_true rfl)) ?_
            exact trl_start (ks := [2, 4, 8, 14, 16, 18, 2005, 2009, 2095, 2097]) (by kernel_rfl) (ih16 (s14.1, s14.2.1 ++ ([s14.2.2] : List Int), IntKind.i64.wrap (s14.2.2 + 1)) hM)
        · have hM := ite_false' hM h18
          refine tr_condFe (e := decide (s14.2.2 < a0.Objects)) h18 (by kernel_rfl) ?_
          refine tr_exit (q_x (l_x (b_h (q_n ?_))))
          obtain ⟨v22, hv22, hM⟩ := bind_some' hM
          obtain ⟨v23, hv23, hM⟩ := bind_some' hM
          refine tr_sr hT hm [(2, .call [1047] [] [.agg (eXCategory.b a0), .sl s14.1.length 0 (s14.1.flatMap eI.b)] [] (.fr 1 v22.length (v22.flatMap eI.o))), (5, .call [1048] [] [.agg (eXCategory.b a0), .sl s14.2.1.length 0 (s14.2.1.flatMap eI.b)] [] (.fr 1 v23.length (v23.flatMap eI.o)))] [4, 8, 14, 16, 20, 22, 2005, 2009, 2095, 2097, 140001, 146001] [(4, .d (.rp 1002 0)), (8, .d (.rp 1004 0)), (14, .d (.rs 1047 0 s14.1.length)), (16, .d (.rs 1048 0 s14.2.1.length)), (20, .d (.rs 70000 0 v22.length)), (22, .d (.rs 73000 0 v23.length)), bxB 2005 (eXCategory.b a0), (2009, .r (.arr 1 [iv 0, nilv, nilv, nilv, nilv, iv 0, nilv, nilv, nilv, nilv, nilv, nilv, nilv] [])), (2095, .r (.arr 1 (s14.1.flatMap eI.o) [])), (2097, .r (.arr 1 (s14.2.1.flatMap eI.o) [])), (140001, .r (.arr 1 (v22.flatMap eI.o) [])), (146001, .r (.arr 1 (v23.flatMap eI.o) []))] (cc (B := [1047]) (ρ := []) (rB := [(1047, .arr 1 (s14.1.flatMap eI.o) [])]) ok41 (spec_l02Full_c a0 s14.1 _ hv22) (.cons (.same rfl) (.cons (.of1 (.rs (r := 1047) (sz := 1) (refs := []) (memB (by kernel_rfl)) (by kernel_rfl) (bor_flat eI_ok _ _ _))) .nil)) (.inr ⟨(.fr (nb_flat eI_nb _)), trivial⟩) (cc (B := [1048]) (ρ := []) (rB := [(1048, .arr 1 (s14.2.1.flatMap eI.o) [])]) ok41 (spec_l02Full_c a0 s14.2.1 _ hv23) (.cons (.same rfl) (.cons (.of1 (.rs (r := 1048) (sz := 1) (refs := []) (memB (by kernel_rfl)) (by kernel_rfl) (bor_flat eI_ok _ _ _))) .nil)) (.inr ⟨(.fr (nb_flat eI_nb _)), trivial⟩) .nil)) (by kernel_rfl) (by kernel_rfl) ?_
          obtain ⟨v24, hv24, hM⟩ := bind_some' hM
          obtain ⟨v25, hv25, hM⟩ := bind_some' hM
          obtain ⟨v26, hv26, hM⟩ := bind_some' hM
          obtain ⟨v27, hv27, hM⟩ := bind_some' hM
          obtain ⟨v28, hv28, hM⟩ := bind_some' hM
          refine tr_sr hT hm [(2, .call [70000] [] [.agg (eXCategory.b a0), .sl v22.length 0 (v22.flatMap eI.b)] [] (.agg (eXCategory.o v24))), (6, .call (rsR 76000 (eXCategory.o v24) ++ [1047, 70000]) [] [.agg (eXCategory.b v24), .agg (eXCategory.b a0), .sl s14.1.length 0 (s14.1.flatMap eI.b), .sl v22.length 0 (v22.flatMap eI.b)] [] (.agg (eXFunctor.o v25))), (9, .call [73000] [] [.agg (eXCategory.b a0), .sl v23.length 0 (v23.flatMap eI.b)] [] (.agg (eXCategory.o v26))), (13, .call (rsR 83000 (eXCategory.o v26) ++ [1048, 73000]) [] [.agg (eXCategory.b v26), .agg (eXCategory.b a0), .sl s14.2.1.length 0 (s14.2.1.flatMap eI.b), .sl v23.length 0 (v23.flatMap eI.b)] [] (.agg (eXFunctor.o v27))), (14, .call (rsR 80000 (eXFunctor.o v25) ++ rsR 87000 (eXFunctor.o v27)) [] [.agg (eXFunctor.b v25), .agg (eXFunctor.b v27)] [] (.agg (eXProfunctor.o v28)))] [8, 24, 2009, 2025, 176003, 176005, 176007, 176009, 176013, 176015, 176017, 176019, 176021, 176023, 176025] ([(8, .d (.rp 1004 0)), (24, .d (.rp 1012 0)), (2009, .r (.arr 1 [iv 0, nilv, nilv, nilv, nilv, iv 0, nilv, nilv, nilv, nilv, nilv, nilv, nilv] [])), bxO 2025 88000 (eXProfunctor.o v28)] ++ rsS 88000 (eXProfunctor.o v28)) (cc (B := [70000]) (ρ := []) (rB := [(70000, .arr 1 (v22.flatMap eI.o) [])]) ok43 (spec_l02Part_c a0 v22 _ hv24) (.cons (.same rfl) (.cons (.of1 (.rs (r := 70000) (sz := 1) (refs := []) (memB (by kernel_rfl)) (by kernel_rfl) (bor_flat eI_ok _ _ _))) .nil)) (.inr ⟨(.agg (eXCategory_nb _)), trivial⟩) (cc (B := (rsR 76000 (eXCategory.o v24) ++ [1047, 70000])) (ρ := []) (rB := (rsP 76000 (eXCategory.o v24) ++ [(1047, .arr 1 (s14.1.flatMap eI.o) []), (70000, .arr 1 (v22.flatMap eI.o) [])])) ok26 (spec_l06Make_c v24 a0 s14.1 v22 _ hv25) (.cons (bor_rs eXCategory_r (q := 76000) (x := v24) (by kernel_rfl) (by kernel_rfl)) (.cons (.same rfl) (.cons (.of1 (.rs (r := 1047) (sz := 1) (refs := []) (memB (by kernel_rfl)) (by kernel_rfl) (bor_flat eI_ok _ _ _))) (.cons (.of1 (.rs (r := 70000) (sz := 1) (refs := []) (memB (by kernel_rfl)) (by kernel_rfl) (bor_flat eI_ok _ _ _))) .nil)))) (.inr ⟨(.agg (eXFunctor_nb _)), trivial⟩) (cc (B := [73000]) (ρ := []) (rB := [(73000, .arr 1 (v23.flatMap eI.o) [])]) ok43 (spec_l02Part_c a0 v23 _ hv26) (.cons (.same rfl) (.cons (.of1 (.rs (r := 73000) (sz := 1) (refs := []) (memB (by kernel_rfl)) (by kernel_rfl) (bor_flat eI_ok _ _ _))) .nil)) (.inr ⟨(.agg (eXCategory_nb _)), trivial⟩) (cc (B := (rsR 83000 (eXCategory.o v26) ++ [1048, 73000])) (ρ := []) (rB := (rsP 83000 (eXCategory.o v26) ++ [(1048, .arr 1 (s14.2.1.flatMap eI.o) []), (73000, .arr 1 (v23.flatMap eI.o) [])])) ok26 (spec_l06Make_c v26 a0 s14.2.1 v23 _ hv27) (.cons (bor_rs eXCategory_r (q := 83000) (x := v26) (by kernel_rfl) (by kernel_rfl)) (.cons (.same rfl) (.cons (.of1 (.rs (r := 1048) (sz := 1) (refs := []) (memB (by kernel_rfl)) (by kernel_rfl) (bor_flat eI_ok _ _ _))) (.cons (.of1 (.rs (r := 73000) (sz := 1) (refs := []) (memB (by kernel_rfl)) (by kernel_rfl) (bor_flat eI_ok _ _ _))) .nil)))) (.inr ⟨(.agg (eXFunctor_nb _)), trivial⟩) (cc (B := (rsR 80000 (eXFunctor.o v25) ++ rsR 87000 (eXFunctor.o v27))) (ρ := []) (rB := (rsP 80000 (eXFunctor.o v25) ++ rsP 87000 (eXFunctor.o v27))) ok42 (spec_l22Natural_c v25 v27 _ hv28) (.cons (bor_rs eXFunctor_r (q := 80000) (x := v25) (by kernel_rfl) (by kernel_rfl)) (.cons (bor_rs eXFunctor_r (q := 87000) (x := v27) (by kernel_rfl) (by kernel_rfl)) .nil)) (.inr ⟨(.agg (eXProfunctor_nb _)), trivial⟩) (.cons (Nat.le_of_ble_eq_true (n := 13) (m := 13) rfl) .nil)))))) (by kernel_rfl) (by kernel_rfl) ?_
          refine tr_sr hT hm [] [8, 10, 2009, 176003, 176005, 176007, 176009, 176013, 176015, 176017, 176019, 176021, 176023, 176025] ([(8, .d (.rp 1004 0)), (10, .d (iv 0)), bxO 2009 88000 (eXProfunctor.o v28)] ++ rsS 88000 (eXProfunctor.o v28)) (.cons (Nat.le_of_ble_eq_true (n := 13) (m := 13) rfl) .nil) (by kernel_rfl) (by kernel_rfl) ?_
          refine tr_ret (rg_r ?_)
          obtain rfl := Option.some.inj hM
          exact retg (names := []) (.cons (lenO_flat eI_ok v28.Source.From) (.cons (lenO_flat eI_ok v28.Source.To) (.cons (lenO_flat eI_ok v28.Source.Identity) (.cons (lenO_flat (eS_ok eI_ok) v28.Source.Composites) (.cons (lenO_flat eI_ok v28.Target.From) (.cons (lenO_flat eI_ok v28.Target.To) (.cons (lenO_flat eI_ok v28.Target.Identity) (.cons (lenO_flat (eS_ok eI_ok) v28.Target.Composites) (.cons (lenO_flat (eS_ok eI_ok) v28.Sizes) (.cons (lenO_flat (eS_ok (eS_ok eI_ok)) v28.Before) (.cons (lenO_flat (eS_ok (eS_ok eI_ok)) v28.Behind) .nil))))))))))) (by kernel_rfl)
    · have hM := ite_false' hM h4
      refine tr_condTe (e := !v3) (congrArg not h4) (by kernel_rfl) ?_
      refine tr_sr hT hm [] [8, 10, 2009] [(8, .d (.rp 1004 0)), (10, .d (iv 2)), (2009, .r (.arr 1 [iv 0, nilv, nilv, nilv, nilv, iv 0, nilv, nilv, nilv, nilv, nilv, nilv, nilv] []))] (.cons (Nat.le_of_ble_eq_true (n := 13) (m := 13) rfl) .nil) (by kernel_rfl) (by kernel_rfl) ?_
      refine tr_ret (q_r (rg_r ?_))
      refine RetG.by (imp_cvB (r := 1004) (sz := 1) (cells := [iv 0, nilv, nilv, nilv, nilv, iv 0, nilv, nilv, nilv, nilv, nilv, nilv, nilv]) (cells' := [iv 0, .fr 1 ([] : List Int).length (([] : List Int).flatMap eI.o), .fr 1 ([] : List Int).length (([] : List Int).flatMap eI.o), .fr 1 ([] : List Int).length (([] : List Int).flatMap eI.o), .fr 1 ([] : List (List Int)).length (([] : List (List Int)).flatMap (eS eI).o), iv 0, .fr 1 ([] : List Int).length (([] : List Int).flatMap eI.o), .fr 1 ([] : List Int).length (([] : List Int).flatMap eI.o), .fr 1 ([] : List Int).length (([] : List Int).flatMap eI.o), .fr 1 ([] : List (List Int)).length (([] : List (List Int)).flatMap (eS eI).o), .fr 1 ([] : List (List Int)).length (([] : List (List Int)).flatMap (eS eI).o), .fr 1 ([] : List (List (List Int))).length (([] : List (List (List Int))).flatMap (eS (eS eI)).o), .fr 1 ([] : List (List (List Int))).length (([] : List (List (List Int))).flatMap (eS (eS eI)).o)]) (refs := []) (refs' := []) (.cons (.refl _) (.cons Sub.nil_fr (.cons Sub.nil_fr (.cons Sub.nil_fr (.cons Sub.nil_fr (.cons (.refl _) (.cons Sub.nil_fr (.cons Sub.nil_fr (.cons Sub.nil_fr (.cons Sub.nil_fr (.cons Sub.nil_fr (.cons Sub.nil_fr (.cons Sub.nil_fr .nil))))))))))))) (by kernel_rfl) (by kernel_rfl) (by kernel_rfl)) ?_
      obtain rfl := Option.some.inj hM
      exact retg (names := []) .nil (by kernel_rfl)
  · have hM := ite_false' hM h2
    refine tr_condTe (e := !v1) (congrArg not h2) (by kernel_rfl) ?_
    refine tr_sr hT hm [] [8, 10, 2009] [(8, .d (.rp 1004 0)), (10, .d (iv 1)), (2009, .r (.arr 1 [iv 0, nilv, nilv, nilv, nilv, iv 0, nilv, nilv, nilv, nilv, nilv, nilv, nilv] []))] (.cons (Nat.le_of_ble_eq_true (n := 13) (m := 13) rfl) .nil) (by kernel_rfl) (by kernel_rfl) ?_
    refine tr_ret (q_r (rg_r ?_))
    refine RetG.by (imp_cvB (r := 1004) (sz := 1) (cells := [iv 0, nilv, nilv, nilv, nilv, iv 0, nilv, nilv, nilv, nilv, nilv, nilv, nilv]) (cells' := [iv 0, .fr 1 ([] : List Int).length (([] : List Int).flatMap eI.o), .fr 1 ([] : List Int).length (([] : List Int).flatMap eI.o), .fr 1 ([] : List Int).length (([] : List Int).flatMap eI.o), .fr 1 ([] : List (List Int)).length (([] : List (List Int)).flatMap (eS eI).o), iv 0, .fr 1 ([] : List Int).length (([] : List Int).flatMap eI.o), .fr 1 ([] : List Int).length (([] : List Int).flatMap eI.o), .fr 1 ([] : List Int).length (([] : List Int).flatMap eI.o), .fr 1 ([] : List (List Int)).length (([] : List (List Int)).flatMap (eS eI).o), .fr 1 ([] : List (List Int)).length (([] : List (List Int)).flatMap (eS eI).o), .fr 1 ([] : List (List (List Int))).length (([] : List (List (List Int))).flatMap (eS (eS eI)).o), .fr 1 ([] : List (List (List Int))).length (([] : List (List (List Int))).flatMap (eS (eS eI)).o)]) (refs := []) (refs' := []) (.cons (.refl _) (.cons Sub.nil_fr (.cons Sub.nil_fr (.cons Sub.nil_fr (.cons Sub.nil_fr (.cons (.refl _) (.cons Sub.nil_fr (.cons Sub.nil_fr (.cons Sub.nil_fr (.cons Sub.nil_fr (.cons Sub.nil_fr (.cons Sub.nil_fr (.cons Sub.nil_fr .nil))))))))))))) (by kernel_rfl) (by kernel_rfl) (by kernel_rfl)) ?_
    obtain rfl := Option.some.inj hM
    exact retg (names := []) .nil (by kernel_rfl)

theorem ok82 : CallOk Try.prog 82 := callOk_of Try.func82 (by kernel_rfl) (by kernel_rfl)
theorem impl_has_c (a0 : List Int) (a1 : Int) (r : Bool) (hM : M.impl_has a0 a1 = some r) :
    FnC Try.prog 82 [] [.sl a0.length 0 (a0.flatMap eI.b), iv a1] [] (bv r) := by
  refine fnc_startG (N := 17) (np := 500) hT Try.func82 rfl rfl (by kernel_rfl) ?_
  unfold M.impl_has at hM
  refine tr_start (ks := [0, 2]) (st' := [(0, .d (.sl a0.length 0 (a0.flatMap eI.b))), (2, .d (iv a1))]) (by kernel_rfl) ?_
  refine tr_sr hT hm [] [0, 2] [(0, .d (.sl a0.length 0 (a0.flatMap eI.b))), (2, .d (iv a1))] .nil (by kernel_rfl) (by kernel_rfl) ?_
  refine tr_seq ?_
  refine tr_sr hT hm [] [2, 14, 16, 18] [(2, .d (iv a1)), (14, .d (.sl a0.length 0 (a0.flatMap eI.b))), (16, .d (iv (a0.length : Int))), (18, .d (iv 0))] .nil (by kernel_rfl) (by kernel_rfl) ?_
  refine tr_block ?_
  refine tr_iterS (fun (s1 : Int) => [(2, .d (iv a1)), (14, .d (.sl a0.length 0 (a0.flatMap eI.b))), (16, .d (iv (a0.length : Int))), (18, .d (iv s1))]) 0 [2, 14, 16, 18] (by kernel_rfl) hM ?_
  intro n4 next2 ih3 s1 hM
  refine tr_sr hT hm [] [2, 14, 16, 18, 20] [(2, .d (iv a1)), (14, .d (.sl a0.length 0 (a0.flatMap eI.b))), (16, .d (iv (a0.length : Int))), (18, .d (iv s1)), (20, .d (bv (decide (s1 < (a0.length : Int)))))] .nil (by kernel_rfl) (by kernel_rfl) ?_
  refine tr_seq ?_
  rcases Bool.eq_false_or_eq_true (decide (s1 < (a0.length : Int))) with h5 | h5
  · have hM := ite_true' hM h5
    refine tr_condTe (e := decide (s1 < (a0.length : Int))) h5 (by kernel_rfl) ?_
    refine tr_skip (q_n ?_)
    refine tr_seq ?_
    refine tr_block ?_
    obtain ⟨y6, hy6, hM⟩ := bind_some' hM
    have hy6' := idx_some hy6
    refine tr_sr hT hm [(1, .val (iv y6))] [2, 12, 14, 16, 18] [(2, .d (iv a1)), (12, .d (iv y6)), (14, .d (.sl a0.length 0 (a0.flatMap eI.b))), (16, .d (iv (a0.length : Int))), (18, .d (iv s1))] (.cons hy6'.1 (.cons hy6'.2.1 (.cons (at_b0 eI_ok hy6'.2.2 (d := iv y6) (by kernel_rfl)) .nil))) (by kernel_rfl) (by kernel_rfl) ?_
    refine tr_sr hT hm [] [2, 14, 16, 18, 30] [(2, .d (iv a1)), (14, .d (.sl a0.length 0 (a0.flatMap eI.b))), (16, .d (iv (a0.length : Int))), (18, .d (iv s1)), (30, .d (bv (y6 == a1)))] .nil (by kernel_rfl) (by kernel_rfl) ?_
    rcases Bool.eq_false_or_eq_true (y6 == a1) with h7 | h7
    · have hM := ite_true' hM h7
      refine tr_condTe (e := y6 == a1) h7 (by kernel_rfl) ?_
      refine tr_sr hT hm [] [8] [(8, .d (bv true))] .nil (by kernel_rfl) (by kernel_rfl) ?_
      refine tr_ret (b_r (q_r (l_r (b_r (q_r (rg_r ?_))))))
      obtain rfl := Option.some.inj hM
      exact retg (names := []) .nil (by kernel_rfl)
    · have hM := ite_false' hM h7
      refine tr_condFe (e := y6 == a1) h7 (by kernel_rfl) ?_
      refine tr_skip (b_n (q_n ?_))
      refine tr_r hT hm [] [2, 14, 16, 18] [(2, .d (iv a1)), (14, .d (.sl a0.length 0 (a0.flatMap eI.b))), (16, .d (iv (a0.length : Int))), (18, .d (iv (IntKind.i64.wrap (s1 + 1))))] .nil (by kernel_rfl) (by kernel_rfl) (l_n ?_)
      exact trl_start (ks := [2, 14, 16, 18]) (by kernel_rfl) (ih3 (IntKind.i64.wrap (s1 + 1)) hM)
  · have hM := ite_false' hM h5
    refine tr_condFe (e := decide (s1 < (a0.length : Int))) h5 (by kernel_rfl) ?_
    refine tr_exit (q_x (l_x (b_h (q_n ?_))))
    refine tr_sr hT hm [] [8] [(8, .d (bv false))] .nil (by kernel_rfl) (by kernel_rfl) ?_
    refine tr_ret (rg_r ?_)
    obtain rfl := Option.some.inj hM
    exact retg (names := []) .nil (by kernel_rfl)

theorem ok47 : CallOk Try.prog 47 := callOk_of Try.func47 (by kernel_rfl) (by kernel_rfl)
theorem impl_Category_between_c (a0 : XCategory) (a1 : List Int) (r : (List Int)) (hM : M.impl_Category_between a0 a1 = some r) :
    FnC Try.prog 47 [] [.pt (eXCategory.b a0) 0, .sl a1.length 0 (a1.flatMap eI.b)] [] (.fr 1 r.length (r.flatMap eI.o)) := by
  refine fnc_startG (N := 42) (np := 500) hT Try.func47 rfl rfl (by kernel_rfl) ?_
  unfold M.impl_Category_between at hM
  refine tr_start (ks := [0, 2]) (st' := [(0, .d (.pt (eXCategory.b a0) 0)), (2, .d (.sl a1.length 0 (a1.flatMap eI.b)))]) (by kernel_rfl) ?_
  refine tr_sr hT hm [] [0, 2] [(0, .d (.pt (eXCategory.b a0) 0)), (2, .d (.sl a1.length 0 (a1.flatMap eI.b)))] .nil (by kernel_rfl) (by kernel_rfl) ?_
  refine tr_sr hT hm [] [0, 2, 10, 2015] [(0, .d (.pt (eXCategory.b a0) 0)), (2, .d (.sl a1.length 0 (a1.flatMap eI.b))), (10, .d (.rs 1007 0 (([] : List Int).length))), (2015, .r (.arr 1 (([] : List Int).flatMap eI.o) []))] .nil (by kernel_rfl) (by kernel_rfl) ?_
  refine tr_seq ?_
  refine tr_sr hT hm [] [0, 2, 10, 24, 26, 2015] [(0, .d (.pt (eXCategory.b a0) 0)), (2, .d (.sl a1.length 0 (a1.flatMap eI.b))), (10, .d (.rs 1007 0 (([] : List Int).length))), (24, .d (iv (a0.From.length : Int))), (26, .d (iv 0)), (2015, .r (.arr 1 (([] : List Int).flatMap eI.o) []))] .nil (by kernel_rfl) (by kernel_rfl) ?_
  refine tr_block ?_
  refine tr_iterS (fun (s1 : (List Int) × Int) => [(0, .d (.pt (eXCategory.b a0) 0)), (2, .d (.sl a1.length 0 (a1.flatMap eI.b))), (10, .d (.rs 1007 0 s1.1.length)), (24, .d (iv (a0.From.length : Int))), (26, .d (iv s1.2)), (2015, .r (.arr 1 (s1.1.flatMap eI.o) []))]) (([] : List Int), 0) [0, 2, 10, 24, 26, 2015] (by kernel_rfl) hM ?_
  intro n4 next2 ih3 s1 hM
  refine tr_sr hT hm [] [0, 2, 10, 24, 26, 28, 2015] [(0, .d (.pt (eXCategory.b a0) 0)), (2, .d (.sl a1.length 0 (a1.flatMap eI.b))), (10, .d (.rs 1007 0 s1.1.length)), (24, .d (iv (a0.From.length : Int))), (26, .d (iv s1.2)), (28, .d (bv (decide (s1.2 < (a0.From.length : Int))))), (2015, .r (.arr 1 (s1.1.flatMap eI.o) []))] .nil (by kernel_rfl) (by kernel_rfl) ?_
  refine tr_seq ?_
  rcases Bool.eq_false_or_eq_true (decide (s1.2 < (a0.From.length : Int))) with h5 | h5
  · have hM := ite_true' hM h5
    refine tr_condTe (e := decide (s1.2 < (a0.From.length : Int))) h5 (by kernel_rfl) ?_
    refine tr_skip (q_n ?_)
    refine tr_seq ?_
    refine tr_block ?_
    refine tr_sr hT hm [] [0, 2, 10, 12, 24, 26, 2015] [(0, .d (.pt (eXCategory.b a0) 0)), (2, .d (.sl a1.length 0 (a1.flatMap eI.b))), (10, .d (.rs 1007 0 s1.1.length)), (12, .d (iv s1.2)), (24, .d (iv (a0.From.length : Int))), (26, .d (iv s1.2)), (2015, .r (.arr 1 (s1.1.flatMap eI.o) []))] .nil (by kernel_rfl) (by kernel_rfl) ?_
    obtain ⟨y6, hy6, hM⟩ := bind_some' hM
    have hy6' := idx_some hy6
    obtain ⟨v7, hv7, hM⟩ := bind_some' hM
    rcases Bool.eq_false_or_eq_true v7 with h8 | h8
    · have hM := ite_true' hM h8
      obtain ⟨y9, hy9, hM⟩ := bind_some' hM
      have hy9' := idx_some hy9
      obtain ⟨v10, hv10, hM⟩ := bind_some' hM
      refine tr_sr hT hm [(7, .val (iv y6)), (8, .call [] [] [.sl a1.length 0 (a1.flatMap eI.b), iv y6] [] (bv v7)), (9, .val (bv true)), (17, .val (iv y9)), (18, .call [] [] [.sl a1.length 0 (a1.flatMap eI.b), iv y9] [] (bv v10))] [0, 2, 10, 12, 24, 26, 70, 2015] [(0, .d (.pt (eXCategory.b a0) 0)), (2, .d (.sl a1.length 0 (a1.flatMap eI.b))), (10, .d (.rs 1007 0 s1.1.length)), (12, .d (iv s1.2)), (24, .d (iv (a0.From.length : Int))), (26, .d (iv s1.2)), (70, .d (bv v10)), (2015, .r (.arr 1 (s1.1.flatMap eI.o) []))] (.cons hy6'.1 (.cons hy6'.2.1 (.cons (at_b0 eI_ok hy6'.2.2 (d := iv y6) (by kernel_rfl)) (cc0 ok82 (impl_has_c a1 y6 _ hv7) (by kernel_rfl) (.cons (congrArg (fun b => bv b) h8) (.cons hy9'.1 (.cons hy9'.2.1 (.cons (at_b0 eI_ok hy9'.2.2 (d := iv y9) (by kernel_rfl)) (cc0 ok82 (impl_has_c a1 y9 _ hv10) (by kernel_rfl) .nil))))))))) (by kernel_rfl) (by kernel_rfl) ?_
      rcases Bool.eq_false_or_eq_true v10 with h11 | h11
      · have hM := ite_true' hM h11
        refine tr_condTe (e := v10) h11 (by kernel_rfl) ?_
        obtain ⟨h12, hM⟩ := chk_some hM
        refine tr_r hT hm [(3, .app true)] [0, 2, 10, 24, 26, 2079] [(0, .d (.pt (eXCategory.b a0) 0)), (2, .d (.sl a1.length 0 (a1.flatMap eI.b))), (10, .d (.rs 1039 0 (s1.1.length + (([s1.2] : List Int).length)))), (24, .d (iv (a0.From.length : Int))), (26, .d (iv s1.2)), (2079, .r (.arr 1 (s1.1.flatMap eI.o ++ ([s1.2] : List Int).flatMap eI.o) []))] (.cons (lenO_flat eI_ok s1.1) (.cons (lenO_flat eI_ok ([s1.2] : List Int)) (.cons h12 .nil))) (by kernel_rfl) (by kernel_rfl) (b_n (q_n ?_))
        refine Tr.by (imp_cvE (r := 1039) (sz := 1) (refs := []) (flat_app eI.o s1.1 ([s1.2] : List Int)) (menO_flat eI_ok _) (by kernel_rfl)) ?_
        refine Tr.by (imp_cvD (k := 10) (congrArg (D.rs 1039 0) ((len_app s1.1 ([s1.2] : List Int)) : s1.1.length + (([s1.2] : List Int).length) = (s1.1 ++ ([s1.2] : List Int)).length)) (by kernel_rfl)) ?_
        refine tr_r hT hm [] [0, 2, 10, 24, 26, 2079] [(0, .d (.pt (eXCategory.b a0) 0)), (2, .d (.sl a1.length 0 (a1.flatMap eI.b))), (10, .d (.rs 1039 0 ((s1.1 ++ ([s1.2] : List Int)).length))), (24, .d (iv (a0.From.length : Int))), (26, .d (iv (IntKind.i64.wrap (s1.2 + 1)))), (2079, .r (.arr 1 ((s1.1 ++ ([s1.2] : List Int)).flatMap eI.o) []))] .nil (by kernel_rfl) (by kernel_rfl) (l_n ?_)
        refine TrL.by (imp_sel (ks := [0, 2, 10, 24, 26, 2079]) (st' := [(0, .d (.pt (eXCategory.b a0) 0)), (2, .d (.sl a1.length 0 (a1.flatMap eI.b))), (10, .d (.rs 1039 0 ((s1.1 ++ ([s1.2] : List Int)).length))), (24, .d (iv (a0.From.length : Int))), (26, .d (iv (IntKind.i64.wrap (s1.2 + 1)))), (2079, .r (.arr 1 ((s1.1 ++ ([s1.2] : List Int)).flatMap eI.o) []))]) (by kernel_rfl)) ?_
        refine TrL.by (imp_rename (r := 1039) (q := 1007) (by kernel_rfl) (Nat.le_of_ble_eq_true rfl)) ?_
        exact trl_start (ks := [0, 2, 10, 24, 26, 2015]) (by kernel_rfl) (ih3 (s1.1 ++ ([s1.2] : List Int), IntKind.i64.wrap (s1.2 + 1)) hM)
      · have hM := ite_false' hM h11
        refine tr_condFe (e := v10) h11 (by kernel_rfl) ?_
        refine tr_skip (b_n (q_n ?_))
        refine tr_r hT hm [] [0, 2, 10, 24, 26, 2015] [(0, .d (.pt (eXCategory.b a0) 0)), (2, .d (.sl a1.length 0 (a1.flatMap eI.b))), (10, .d (.rs 1007 0 s1.1.length)), (24, .d (iv (a0.From.length : Int))), (26, .d (iv (IntKind.i64.wrap (s1.2 + 1)))), (2015, .r (.arr 1 (s1.1.flatMap eI.o) []))] .nil (by kernel_rfl) (by kernel_rfl) (l_n ?_)
        exact trl_start (ks := [0, 2, 10, 24, 26, 2015]) (by kernel_rfl) (ih3 (s1.1, IntKind.i64.wrap (s1.2 + 1)) hM)
    · have hM := ite_false' hM h8
      refine tr_sr hT hm [(7, .val (iv y6)), (8, .call [] [] [.sl a1.length 0 (a1.flatMap eI.b), iv y6] [] (bv v7)), (9, .val (bv false))] [0, 2, 10, 12, 24, 26, 70, 2015] [(0, .d (.pt (eXCategory.b a0) 0)), (2, .d (.sl a1.length 0 (a1.flatMap eI.b))), (10, .d (.rs 1007 0 s1.1.length)), (12, .d (iv s1.2)), (24, .d (iv (a0.From.length : Int))), (26, .d (iv s1.2)), (70, .d (bv false)), (2015, .r (.arr 1 (s1.1.flatMap eI.o) []))] (.cons hy6'.1 (.cons hy6'.2.1 (.cons (at_b0 eI_ok hy6'.2.2 (d := iv y6) (by kernel_rfl)) (cc0 ok82 (impl_has_c a1 y6 _ hv7) (by kernel_rfl) (.cons (congrArg (fun b => bv b) h8) .nil))))) (by kernel_rfl) (by kernel_rfl) ?_
      refine tr_condF (by kernel_rfl) ?_
      refine tr_skip (b_n (q_n ?_))
      refine tr_r hT hm [] [0, 2, 10, 24, 26, 2015] [(0, .d (.pt (eXCategory.b a0) 0)), (2, .d (.sl a1.length 0 (a1.flatMap eI.b))), (10, .d (.rs 1007 0 s1.1.length)), (24, .d (iv (a0.From.length : Int))), (26, .d (iv (IntKind.i64.wrap (s1.2 + 1)))), (2015, .r (.arr 1 (s1.1.flatMap eI.o) []))] .nil (by kernel_rfl) (by kernel_rfl) (l_n ?_)
      exact trl_start (ks := [0, 2, 10, 24, 26, 2015]) (by kernel_rfl) (ih3 (s1.1, IntKind.i64.wrap (s1.2 + 1)) hM)
  · have hM := ite_false' hM h5
    refine tr_condFe (e := decide (s1.2 < (a0.From.length : Int))) h5 (by kernel_rfl) ?_
    refine tr_exit (q_x (l_x (b_h (q_n ?_))))
    refine tr_sr hT hm [] [8, 2015] [(8, .d (.rs 1007 0 s1.1.length)), (2015, .r (.arr 1 (s1.1.flatMap eI.o) []))] .nil (by kernel_rfl) (by kernel_rfl) ?_
    refine tr_ret (rg_r ?_)
    obtain rfl := Option.some.inj hM
    exact retg (names := []) (.cons (lenO_flat eI_ok s1.1) .nil) (by kernel_rfl)

theorem ok83 : CallOk Try.prog 83 := callOk_of Try.func83 (by kernel_rfl) (by kernel_rfl)
theorem impl_Category_marks_c (a0 : XCategory) (a1 : List Int) (r : (List Bool)) (hM : M.impl_Category_marks a0 a1 = some r) :
    FnC Try.prog 83 [] [.pt (eXCategory.b a0) 0, .sl a1.length 0 (a1.flatMap eI.b)] [] (.fr 1 r.length (r.flatMap eB.o)) := by
  refine fnc_startG (N := 22) (np := 500) hT Try.func83 rfl rfl (by kernel_rfl) ?_
  unfold M.impl_Category_marks at hM
  refine tr_start (ks := [0, 2]) (st' := [(0, .d (.pt (eXCategory.b a0) 0)), (2, .d (.sl a1.length 0 (a1.flatMap eI.b)))]) (by kernel_rfl) ?_
  refine tr_sr hT hm [] [0, 2] [(0, .d (.pt (eXCategory.b a0) 0)), (2, .d (.sl a1.length 0 (a1.flatMap eI.b)))] .nil (by kernel_rfl) (by kernel_rfl) ?_
  obtain ⟨v1, hv1, hM⟩ := bind_some' hM
  obtain ⟨h2, hM⟩ := chk_some hM
  refine tr_sr hT hm [(1, .call [] [] [.pt (eXCategory.b a0) 0] [] (iv v1))] [2, 10, 2021] [(2, .d (.sl a1.length 0 (a1.flatMap eI.b))), (10, .d (.rs 1010 0 v1.toNat)), (2021, .r (.arr 1 (repl v1.toNat [.bool false]) []))] (cc0 ok70 (impl_Category_arrows_c a0 _ hv1) (by kernel_rfl) (.cons h2.1 (.cons (Int.le_refl v1) (.cons h2.2 .nil)))) (by kernel_rfl) (by kernel_rfl) ?_
  refine Tr.by (imp_cvE (r := 1010) (sz := 1) (refs := []) (repl_flat (f := eB.o) (zs := [.bool false]) (z := (false : Bool)) rfl v1.toNat) (menO_flat eB_ok _) (by kernel_rfl)) ?_
  refine Tr.by (imp_cvD (k := 10) (congrArg (D.rs 1010 0) (List.length_replicate.symm : v1.toNat = (List.replicate v1.toNat (false : Bool)).length)) (by kernel_rfl)) ?_
  refine tr_seq ?_
  refine tr_sr hT hm [] [10, 22, 24, 26, 2021] [(10, .d (.rs 1010 0 ((List.replicate v1.toNat (false : Bool)).length))), (22, .d (.sl a1.length 0 (a1.flatMap eI.b))), (24, .d (iv (a1.length : Int))), (26, .d (iv 0)), (2021, .r (.arr 1 ((List.replicate v1.toNat (false : Bool)).flatMap eB.o) []))] .nil (by kernel_rfl) (by kernel_rfl) ?_
  refine tr_block ?_
  refine tr_iterS (fun (s3 : (List Bool) × Int) => [(10, .d (.rs 1010 0 s3.1.length)), (22, .d (.sl a1.length 0 (a1.flatMap eI.b))), (24, .d (iv (a1.length : Int))), (26, .d (iv s3.2)), (2021, .r (.arr 1 (s3.1.flatMap eB.o) []))]) ((List.replicate v1.toNat (false : Bool)), 0) [10, 22, 24, 26, 2021] (by kernel_rfl) hM ?_
  intro n6 next4 ih5 s3 hM
  refine tr_sr hT hm [] [10, 22, 24, 26, 28, 2021] [(10, .d (.rs 1010 0 s3.1.length)), (22, .d (.sl a1.length 0 (a1.flatMap eI.b))), (24, .d (iv (a1.length : Int))), (26, .d (iv s3.2)), (28, .d (bv (decide (s3.2 < (a1.length : Int))))), (2021, .r (.arr 1 (s3.1.flatMap eB.o) []))] .nil (by kernel_rfl) (by kernel_rfl) ?_
  refine tr_seq ?_
  rcases Bool.eq_false_or_eq_true (decide (s3.2 < (a1.length : Int))) with h7 | h7
  · have hM := ite_true' hM h7
    refine tr_condTe (e := decide (s3.2 < (a1.length : Int))) h7 (by kernel_rfl) ?_
    refine tr_skip (q_n ?_)
    refine tr_seq ?_
    refine tr_block ?_
    obtain ⟨y8, hy8, hM⟩ := bind_some' hM
    have hy8' := idx_some hy8
    refine tr_sr hT hm [(1, .val (iv y8))] [10, 14, 22, 24, 26, 2021] [(10, .d (.rs 1010 0 s3.1.length)), (14, .d (iv y8)), (22, .d (.sl a1.length 0 (a1.flatMap eI.b))), (24, .d (iv (a1.length : Int))), (26, .d (iv s3.2)), (2021, .r (.arr 1 (s3.1.flatMap eB.o) []))] (.cons hy8'.1 (.cons hy8'.2.1 (.cons (at_b0 eI_ok hy8'.2.2 (d := iv y8) (by kernel_rfl)) .nil))) (by kernel_rfl) (by kernel_rfl) ?_
    obtain ⟨y9, hy9, hM⟩ := bind_some' hM
    have hy9' := idx_some hy9
    refine tr_r hT hm [] [10, 22, 24, 26, 2021] [(10, .d (.rs 1010 0 s3.1.length)), (22, .d (.sl a1.length 0 (a1.flatMap eI.b))), (24, .d (iv (a1.length : Int))), (26, .d (iv s3.2)), (2021, .r (.arr 1 ((s3.1.flatMap eB.o).take (0 + y8.toNat * 1) ++ [bv true] ++ (s3.1.flatMap eB.o).drop (0 + y8.toNat * 1 + 1)) []))] (.cons hy9'.1 (.cons hy9'.2.1 (.cons (store_le eB_ok hy9'.2.2) .nil))) (by kernel_rfl) (by kernel_rfl) (b_n (q_n ?_))
    refine Tr.by (imp_cvE (r := 1010) (sz := 1) (refs := []) (set_flat eB_ok.lenO (y := true) hy9'.2.2) (menO_flat eB_ok _) (by kernel_rfl)) ?_
    refine Tr.by (imp_cvD (k := 10) (congrArg (D.rs 1010 0) (List.length_set.symm : s3.1.length = (s3.1.set y8.toNat true).length)) (by kernel_rfl)) ?_
    refine tr_r hT hm [] [10, 22, 24, 26, 2021] [(10, .d (.rs 1010 0 ((s3.1.set y8.toNat true).length))), (22, .d (.sl a1.length 0 (a1.flatMap eI.b))), (24, .d (iv (a1.length : Int))), (26, .d (iv (IntKind.i64.wrap (s3.2 + 1)))), (2021, .r (.arr 1 ((s3.1.set y8.toNat true).flatMap eB.o) []))] .nil (by kernel_rfl) (by kernel_rfl) (l_n ?_)
    exact trl_start (ks := [10, 22, 24, 26, 2021]) (by kernel_rfl) (ih5 (s3.1.set y8.toNat true, IntKind.i64.wrap (s3.2 + 1)) hM)
  · have hM := ite_false' hM h7
    refine tr_condFe (e := decide (s3.2 < (a1.length : Int))) h7 (by kernel_rfl) ?_
    refine tr_exit (q_x (l_x (b_h (q_n ?_))))
    refine tr_sr hT hm [] [8, 2021] [(8, .d (.rs 1010 0 s3.1.length)), (2021, .r (.arr 1 (s3.1.flatMap eB.o) []))] .nil (by kernel_rfl) (by kernel_rfl) ?_
    refine tr_ret (rg_r ?_)
    obtain rfl := Option.some.inj hM
    exact retg (names := []) (.cons (lenO_flat eB_ok s3.1) .nil) (by kernel_rfl)

end Go.Proofs.Ytnhgilafbaalcaa.Wy40
