/- Walks. Printed by wip/gen. -/
import Derived.Test.YtiikkfdehbcfaaaGxz23W
namespace Go.Proofs.Ytiikkfdehbcfaaa.Wz23
open Go.Gx Go.Proofs.Ytiikkfdehbcfaaa.WvB Go.Proofs.Ytiikkfdehbcfaaa.WyT Go.Proofs.Ytiikkfdehbcfaaa.WyP Go.Proofs.Ytiikkfdehbcfaaa.WyO Go.Proofs.Ytiikkfdehbcfaaa.WyN Go.Proofs.Ytiikkfdehbcfaaa.WzN

theorem ok127 : CallOk Try.prog 127 := callOk_of Try.func127 (by kernel_rfl) (by kernel_rfl)
theorem spec_l12Two_c (a0 : XFunctor) (a1 : XCone) (a2 : XCone) (r : Int) (hM : M.spec_l12Two a0 a1 a2 = some r) :
    FnC Try.prog 127 [] [.agg (eXFunctor.b a0), .agg (eXCone.b a1), .agg (eXCone.b a2)] [] (iv r) := by
  refine fnc_startG (N := 17) (np := 500) hT Try.func127 rfl rfl (by kernel_rfl) ?_
  unfold M.spec_l12Two at hM
  refine tr_start (ks := [0, 2, 4]) (st' := [(0, .d (.agg (eXFunctor.b a0))), (2, .d (.agg (eXCone.b a1))), (4, .d (.agg (eXCone.b a2)))]) (by kernel_rfl) ?_
  refine tr_sr hT hm [] [6, 8, 10, 2007, 2009, 2011] [(6, .d (.rp 1003 0)), (8, .d (.rp 1004 0)), (10, .d (.rp 1005 0)), bxB 2007 (eXFunctor.b a0), bxB 2009 (eXCone.b a1), bxB 2011 (eXCone.b a2)] .nil (by kernel_rfl) (by kernel_rfl) ?_
  refine tr_seq ?_
  obtain ⟨v1, hv1, hM⟩ := bind_some' hM
  rcases Bool.eq_false_or_eq_true v1 with h2 | h2
  · have hM := ite_true' hM h2
    obtain ⟨v3, hv3, hM⟩ := bind_some' hM
    refine tr_sr hT hm [(2, .call [] [] [.agg (eXFunctor.b a0), .agg (eXCone.b a1)] [] (bv v1)), (4, .val (bv false)), (7, .call [] [] [.agg (eXFunctor.b a0), .agg (eXCone.b a2)] [] (bv v3))] [32] [(32, .d (bv (!v3)))] (cc0 ok79 (spec_l12Cone_c a0 a1 _ hv1) (by kernel_rfl) (.cons (congrArg (fun b => bv b) (congrArg not h2)) (cc0 ok79 (spec_l12Cone_c a0 a2 _ hv3) (by kernel_rfl) .nil))) (by kernel_rfl) (by kernel_rfl) ?_
    rcases Bool.eq_false_or_eq_true v3 with h4 | h4
    · have hM := ite_true' hM h4
      refine tr_condFe (e := !v3) (congrArg not h4) (by kernel_rfl) ?_
      refine tr_skip (q_n ?_)
      refine tr_sr hT hm [] [12] [(12, .d (iv 0))] .nil (by kernel_rfl) (by kernel_rfl) ?_
      refine tr_ret (rg_r ?_)
      obtain rfl := Option.some.inj hM
      exact retg (names := []) .nil (by kernel_rfl)
    · have hM := ite_false' hM h4
      refine tr_condTe (e := !v3) (congrArg not h4) (by kernel_rfl) ?_
      refine tr_sr hT hm [] [12] [(12, .d (iv 5))] .nil (by kernel_rfl) (by kernel_rfl) ?_
      refine tr_ret (q_r (rg_r ?_))
      obtain rfl := Option.some.inj hM
      exact retg (names := []) .nil (by kernel_rfl)
  · have hM := ite_false' hM h2
    refine tr_sr hT hm [(2, .call [] [] [.agg (eXFunctor.b a0), .agg (eXCone.b a1)] [] (bv v1)), (4, .val (bv true))] [32] [(32, .d (bv true))] (cc0 ok79 (spec_l12Cone_c a0 a1 _ hv1) (by kernel_rfl) (.cons (congrArg (fun b => bv b) (congrArg not h2)) .nil)) (by kernel_rfl) (by kernel_rfl) ?_
    refine tr_condT (by kernel_rfl) ?_
    refine tr_sr hT hm [] [12] [(12, .d (iv 5))] .nil (by kernel_rfl) (by kernel_rfl) ?_
    refine tr_ret (q_r (rg_r ?_))
    obtain rfl := Option.some.inj hM
    exact retg (names := []) .nil (by kernel_rfl)

theorem ok128 : CallOk Try.prog 128 := callOk_of Try.func128 (by kernel_rfl) (by kernel_rfl)
theorem spec_l12Maps_c (a0 : XFunctor) (a1 : XCone) (a2 : XCone) (r : (List Int)) (hM : M.spec_l12Maps a0 a1 a2 = some r) :
    FnC Try.prog 128 [] [.agg (eXFunctor.b a0), .agg (eXCone.b a1), .agg (eXCone.b a2)] [] (.fr 1 r.length (r.flatMap eI.o)) := by
  refine fnc_startG (N := 63) (np := 500) hT Try.func128 rfl rfl (by kernel_rfl) ?_
  unfold M.spec_l12Maps at hM
  refine tr_start (ks := [0, 2, 4]) (st' := [(0, .d (.agg (eXFunctor.b a0))), (2, .d (.agg (eXCone.b a1))), (4, .d (.agg (eXCone.b a2)))]) (by kernel_rfl) ?_
  refine tr_sr hT hm [] [6, 8, 10, 2007, 2009, 2011] [(6, .d (.rp 1003 0)), (8, .d (.rp 1004 0)), (10, .d (.rp 1005 0)), bxB 2007 (eXFunctor.b a0), bxB 2009 (eXCone.b a1), bxB 2011 (eXCone.b a2)] .nil (by kernel_rfl) (by kernel_rfl) ?_
  obtain ⟨v1, hv1, hM⟩ := bind_some' hM
  refine tr_sr hT hm [(6, .call [] [] [.agg (eXCategory.b a0.Target), iv a1.Apex, iv a2.Apex] [] (.fr 1 v1.length (v1.flatMap eI.o)))] [6, 8, 10, 14, 2007, 2009, 2011, 40001] [(6, .d (.rp 1003 0)), (8, .d (.rp 1004 0)), (10, .d (.rp 1005 0)), (14, .d (.rs 20000 0 v1.length)), bxB 2007 (eXFunctor.b a0), bxB 2009 (eXCone.b a1), bxB 2011 (eXCone.b a2), (40001, .r (.arr 1 (v1.flatMap eI.o) []))] (cc0 ok192 (spec_l02Hom_c a0.Target a1.Apex a2.Apex _ hv1) (by kernel_rfl) .nil) (by kernel_rfl) (by kernel_rfl) ?_
  refine tr_sr hT hm [] [6, 8, 10, 14, 16, 2007, 2009, 2011, 2039, 40001] [(6, .d (.rp 1003 0)), (8, .d (.rp 1004 0)), (10, .d (.rp 1005 0)), (14, .d (.rs 20000 0 v1.length)), (16, .d (.rs 1019 0 (([] : List Int).length))), bxB 2007 (eXFunctor.b a0), bxB 2009 (eXCone.b a1), bxB 2011 (eXCone.b a2), (2039, .r (.arr 1 (([] : List Int).flatMap eI.o) [])), (40001, .r (.arr 1 (v1.flatMap eI.o) []))] .nil (by kernel_rfl) (by kernel_rfl) ?_
  refine tr_seq ?_
  refine tr_sr hT hm [] [6, 8, 10, 14, 16, 18, 2007, 2009, 2011, 2039, 40001] [(6, .d (.rp 1003 0)), (8, .d (.rp 1004 0)), (10, .d (.rp 1005 0)), (14, .d (.rs 20000 0 v1.length)), (16, .d (.rs 1019 0 (([] : List Int).length))), (18, .d (iv 0)), bxB 2007 (eXFunctor.b a0), bxB 2009 (eXCone.b a1), bxB 2011 (eXCone.b a2), (2039, .r (.arr 1 (([] : List Int).flatMap eI.o) [])), (40001, .r (.arr 1 (v1.flatMap eI.o) []))] .nil (by kernel_rfl) (by kernel_rfl) ?_
  refine tr_block ?_
  refine tr_iterS (fun (s2 : (List Int) × Int) => [(6, .d (.rp 1003 0)), (8, .d (.rp 1004 0)), (10, .d (.rp 1005 0)), (14, .d (.rs 20000 0 v1.length)), (16, .d (.rs 1019 0 s2.1.length)), (18, .d (iv s2.2)), bxB 2007 (eXFunctor.b a0), bxB 2009 (eXCone.b a1), bxB 2011 (eXCone.b a2), (2039, .r (.arr 1 (s2.1.flatMap eI.o) [])), (40001, .r (.arr 1 (v1.flatMap eI.o) []))]) (([] : List Int), 0) [6, 8, 10, 14, 16, 18, 2007, 2009, 2011, 2039, 40001] (by kernel_rfl) hM ?_
  intro n5 next3 ih4 s2 hM
  refine tr_seq ?_
  refine tr_sr hT hm [] [6, 8, 10, 14, 16, 18, 46, 2007, 2009, 2011, 2039, 40001] [(6, .d (.rp 1003 0)), (8, .d (.rp 1004 0)), (10, .d (.rp 1005 0)), (14, .d (.rs 20000 0 v1.length)), (16, .d (.rs 1019 0 s2.1.length)), (18, .d (iv s2.2)), (46, .d (bv (decide (s2.2 < (v1.length : Int))))), bxB 2007 (eXFunctor.b a0), bxB 2009 (eXCone.b a1), bxB 2011 (eXCone.b a2), (2039, .r (.arr 1 (s2.1.flatMap eI.o) [])), (40001, .r (.arr 1 (v1.flatMap eI.o) []))] .nil (by kernel_rfl) (by kernel_rfl) ?_
  rcases Bool.eq_false_or_eq_true (decide (s2.2 < (v1.length : Int))) with h6 | h6
  · have hM := ite_true' hM h6
    refine tr_condTe (e := decide (s2.2 < (v1.length : Int))) h6 (by kernel_rfl) ?_
    refine tr_skip (q_n ?_)
    refine tr_seq ?_
    refine tr_block ?_
    refine tr_sr hT hm [] [6, 8, 10, 14, 16, 18, 20, 2007, 2009, 2011, 2039, 40001] [(6, .d (.rp 1003 0)), (8, .d (.rp 1004 0)), (10, .d (.rp 1005 0)), (14, .d (.rs 20000 0 v1.length)), (16, .d (.rs 1019 0 s2.1.length)), (18, .d (iv s2.2)), (20, .d (bv true)), bxB 2007 (eXFunctor.b a0), bxB 2009 (eXCone.b a1), bxB 2011 (eXCone.b a2), (2039, .r (.arr 1 (s2.1.flatMap eI.o) [])), (40001, .r (.arr 1 (v1.flatMap eI.o) []))] .nil (by kernel_rfl) (by kernel_rfl) ?_
    refine tr_joinM (fun (s7 : Bool) => [(6, .d (.rp 1003 0)), (8, .d (.rp 1004 0)), (10, .d (.rp 1005 0)), (14, .d (.rs 20000 0 v1.length)), (16, .d (.rs 1019 0 s2.1.length)), (18, .d (iv s2.2)), (20, .d (bv s7)), bxB 2007 (eXFunctor.b a0), bxB 2009 (eXCone.b a1), bxB 2011 (eXCone.b a2), (2039, .r (.arr 1 (s2.1.flatMap eI.o) [])), (40001, .r (.arr 1 (v1.flatMap eI.o) []))]) hM ?_ ?_
    · intro s7 hM
      refine tr_sr hT hm [] [6, 8, 10, 14, 16, 18, 108, 2007, 2009, 2011, 2039, 40001] [(6, .d (.rp 1003 0)), (8, .d (.rp 1004 0)), (10, .d (.rp 1005 0)), (14, .d (.rs 20000 0 v1.length)), (16, .d (.rs 1019 0 s2.1.length)), (18, .d (iv s2.2)), (108, .d (bv s7)), bxB 2007 (eXFunctor.b a0), bxB 2009 (eXCone.b a1), bxB 2011 (eXCone.b a2), (2039, .r (.arr 1 (s2.1.flatMap eI.o) [])), (40001, .r (.arr 1 (v1.flatMap eI.o) []))] .nil (by kernel_rfl) (by kernel_rfl) ?_
      rcases Bool.eq_false_or_eq_true s7 with h10 | h10
      · have hM := ite_true' hM h10
        refine tr_condTe (e := s7) h10 (by kernel_rfl) ?_
        obtain ⟨y11, hy11, hM⟩ := bind_some' hM
        have hy11' := idx_some hy11
        obtain ⟨h12, hM⟩ := chk_some hM
        refine tr_r hT hm [(4, .val (iv y11)), (6, .app true)] [6, 8, 10, 14, 16, 18, 2007, 2009, 2011, 2123, 40001] [(6, .d (.rp 1003 0)), (8, .d (.rp 1004 0)), (10, .d (.rp 1005 0)), (14, .d (.rs 20000 0 v1.length)), (16, .d (.rs 1061 0 (s2.1.length + (([y11] : List Int).length)))), (18, .d (iv s2.2)), bxB 2007 (eXFunctor.b a0), bxB 2009 (eXCone.b a1), bxB 2011 (eXCone.b a2), (2123, .r (.arr 1 (s2.1.flatMap eI.o ++ ([y11] : List Int).flatMap eI.o) [])), (40001, .r (.arr 1 (v1.flatMap eI.o) []))] (.cons hy11'.1 (.cons hy11'.2.1 (.cons (at_o0 eI_ok hy11'.2.2 (d := iv y11) (by kernel_rfl)) (.cons (lenO_flat eI_ok s2.1) (.cons (lenO_flat eI_ok ([y11] : List Int)) (.cons h12 .nil)))))) (by kernel_rfl) (by kernel_rfl) (b_n (q_n ?_))
        refine Tr.by (imp_cvE (r := 1061) (sz := 1) (refs := []) (flat_app eI.o s2.1 ([y11] : List Int)) (menO_flat eI_ok _) (by kernel_rfl)) ?_
        refine Tr.by (imp_cvD (k := 16) (congrArg (D.rs 1061 0) ((len_app s2.1 ([y11] : List Int)) : s2.1.length + (([y11] : List Int).length) = (s2.1 ++ ([y11] : List Int)).length)) (by kernel_rfl)) ?_
        refine tr_r hT hm [] [6, 8, 10, 14, 16, 18, 2007, 2009, 2011, 2123, 40001] [(6, .d (.rp 1003 0)), (8, .d (.rp 1004 0)), (10, .d (.rp 1005 0)), (14, .d (.rs 20000 0 v1.length)), (16, .d (.rs 1061 0 ((s2.1 ++ ([y11] : List Int)).length))), (18, .d (iv (IntKind.i64.wrap (s2.2 + 1)))), bxB 2007 (eXFunctor.b a0), bxB 2009 (eXCone.b a1), bxB 2011 (eXCone.b a2), (2123, .r (.arr 1 ((s2.1 ++ ([y11] : List Int)).flatMap eI.o) [])), (40001, .r (.arr 1 (v1.flatMap eI.o) []))] .nil (by kernel_rfl) (by kernel_rfl) (l_n ?_)
        refine TrL.by (imp_sel (ks := [6, 8, 10, 14, 16, 18, 2007, 2009, 2011, 2123, 40001]) (st' := [(6, .d (.rp 1003 0)), (8, .d (.rp 1004 0)), (10, .d (.rp 1005 0)), (14, .d (.rs 20000 0 v1.length)), (16, .d (.rs 1061 0 ((s2.1 ++ ([y11] : List Int)).length))), (18, .d (iv (IntKind.i64.wrap (s2.2 + 1)))), bxB 2007 (eXFunctor.b a0), bxB 2009 (eXCone.b a1), bxB 2011 (eXCone.b a2), (2123, .r (.arr 1 ((s2.1 ++ ([y11] : List Int)).flatMap eI.o) [])), (40001, .r (.arr 1 (v1.flatMap eI.o) []))]) (by kernel_rfl)) ?_
        refine TrL.by (imp_rename (r := 1061) (q := 1019) (by kernel_rfl) (Nat.le_of_ble_eq_true rfl)) ?_
        exact trl_start (ks := [6, 8, 10, 14, 16, 18, 2007, 2009, 2011, 2039, 40001]) (by kernel_rfl) (ih4 (s2.1 ++ ([y11] : List Int), IntKind.i64.wrap (s2.2 + 1)) hM)
      · have hM := ite_false' hM h10
        refine tr_condFe (e := s7) h10 (by kernel_rfl) ?_
        refine tr_skip (b_n (q_n ?_))
        refine tr_r hT hm [] [6, 8, 10, 14, 16, 18, 2007, 2009, 2011, 2039, 40001] [(6, .d (.rp 1003 0)), (8, .d (.rp 1004 0)), (10, .d (.rp 1005 0)), (14, .d (.rs 20000 0 v1.length)), (16, .d (.rs 1019 0 s2.1.length)), (18, .d (iv (IntKind.i64.wrap (s2.2 + 1)))), bxB 2007 (eXFunctor.b a0), bxB 2009 (eXCone.b a1), bxB 2011 (eXCone.b a2), (2039, .r (.arr 1 (s2.1.flatMap eI.o) [])), (40001, .r (.arr 1 (v1.flatMap eI.o) []))] .nil (by kernel_rfl) (by kernel_rfl) (l_n ?_)
        exact trl_start (ks := [6, 8, 10, 14, 16, 18, 2007, 2009, 2011, 2039, 40001]) (by kernel_rfl) (ih4 (s2.1, IntKind.i64.wrap (s2.2 + 1)) hM)
    · intro k8 K9 hM
      refine tr_sr hT hm [] [6, 8, 10, 14, 16, 18, 20, 22, 2007, 2009, 2011, 2039, 40001] [(6, .d (.rp 1003 0)), (8, .d (.rp 1004 0)), (10, .d (.rp 1005 0)), (14, .d (.rs 20000 0 v1.length)), (16, .d (.rs 1019 0 s2.1.length)), (18, .d (iv s2.2)), (20, .d (bv true)), (22, .d (iv 0)), bxB 2007 (eXFunctor.b a0), bxB 2009 (eXCone.b a1), bxB 2011 (eXCone.b a2), (2039, .r (.arr 1 (s2.1.flatMap eI.o) [])), (40001, .r (.arr 1 (v1.flatMap eI.o) []))] .nil (by kernel_rfl) (by kernel_rfl) ?_
      refine tr_block ?_
      refine tr_iterS (fun (s13 : Bool × Int) => [(6, .d (.rp 1003 0)), (8, .d (.rp 1004 0)), (10, .d (.rp 1005 0)), (14, .d (.rs 20000 0 v1.length)), (16, .d (.rs 1019 0 s2.1.length)), (18, .d (iv s2.2)), (20, .d (bv s13.1)), (22, .d (iv s13.2)), bxB 2007 (eXFunctor.b a0), bxB 2009 (eXCone.b a1), bxB 2011 (eXCone.b a2), (2039, .r (.arr 1 (s2.1.flatMap eI.o) [])), (40001, .r (.arr 1 (v1.flatMap eI.o) []))]) (true, 0) [6, 8, 10, 14, 16, 18, 20, 22, 2007, 2009, 2011, 2039, 40001] (by kernel_rfl) hM ?_
      intro n16 next14 ih15 s13 hM
      refine tr_seq ?_
      rcases Bool.eq_false_or_eq_true (decide (s13.2 < (a1.Legs.length : Int))) with h17 | h17
      · have hM := ite_true' hM h17
        refine tr_sr hT hm [(5, .val (bv true))] [6, 8, 10, 14, 16, 18, 20, 22, 66, 2007, 2009, 2011, 2039, 40001] [(6, .d (.rp 1003 0)), (8, .d (.rp 1004 0)), (10, .d (.rp 1005 0)), (14, .d (.rs 20000 0 v1.length)), (16, .d (.rs 1019 0 s2.1.length)), (18, .d (iv s2.2)), (20, .d (bv s13.1)), (22, .d (iv s13.2)), (66, .d (bv s13.1)), bxB 2007 (eXFunctor.b a0), bxB 2009 (eXCone.b a1), bxB 2011 (eXCone.b a2), (2039, .r (.arr 1 (s2.1.flatMap eI.o) [])), (40001, .r (.arr 1 (v1.flatMap eI.o) []))] (.cons (congrArg (fun b => bv b) h17) .nil) (by kernel_rfl) (by kernel_rfl) ?_
        rcases Bool.eq_false_or_eq_true s13.1 with h18 | h18
        · have hM := ite_true' hM h18
          refine tr_condTe (e := s13.1) h18 (by kernel_rfl) ?_
          refine tr_skip (q_n ?_)
          refine tr_seq ?_
          refine tr_block ?_
          obtain ⟨y19, hy19, hM⟩ := bind_some' hM
          have hy19' := idx_some hy19
          obtain ⟨y20, hy20, hM⟩ := bind_some' hM
          have hy20' := idx_some hy20
          obtain ⟨v21, hv21, hM⟩ := bind_some' hM
          obtain ⟨y22, hy22, hM⟩ := bind_some' hM
          have hy22' := idx_some hy22
          refine tr_r hT hm [(5, .val (iv y19)), (10, .val (iv y20)), (11, .call [] [] [.agg (eXCategory.b a0.Target), iv y19, iv y20] [] (iv v21)), (16, .val (iv y22))] [6, 8, 10, 14, 16, 18, 20, 22, 2007, 2009, 2011, 2039, 40001] [(6, .d (.rp 1003 0)), (8, .d (.rp 1004 0)), (10, .d (.rp 1005 0)), (14, .d (.rs 20000 0 v1.length)), (16, .d (.rs 1019 0 s2.1.length)), (18, .d (iv s2.2)), (20, .d (bv (v21 == y22))), (22, .d (iv s13.2)), bxB 2007 (eXFunctor.b a0), bxB 2009 (eXCone.b a1), bxB 2011 (eXCone.b a2), (2039, .r (.arr 1 (s2.1.flatMap eI.o) [])), (40001, .r (.arr 1 (v1.flatMap eI.o) []))] (.cons hy19'.1 (.cons hy19'.2.1 (.cons (at_o0 eI_ok hy19'.2.2 (d := iv y19) (by kernel_rfl)) (.cons hy20'.1 (.cons hy20'.2.1 (.cons (at_b0 eI_ok hy20'.2.2 (d := iv y20) (by kernel_rfl)) (cc0 ok113 (spec_l02Then_c a0.Target y19 y20 _ hv21) (by kernel_rfl) (.cons hy22'.1 (.cons hy22'.2.1 (.cons (at_b0 eI_ok hy22'.2.2 (d := iv y22) (by kernel_rfl)) .nil)))))))))) (by kernel_rfl) (by kernel_rfl) (b_n (q_n ?_))
          refine tr_r hT hm [] [6, 8, 10, 14, 16, 18, 20, 22, 2007, 2009, 2011, 2039, 40001] [(6, .d (.rp 1003 0)), (8, .d (.rp 1004 0)), (10, .d (.rp 1005 0)), (14, .d (.rs 20000 0 v1.length)), (16, .d (.rs 1019 0 s2.1.length)), (18, .d (iv s2.2)), (20, .d (bv (v21 == y22))), (22, .d (iv (IntKind.i64.wrap (s13.2 + 1)))), bxB 2007 (eXFunctor.b a0), bxB 2009 (eXCone.b a1), bxB 2011 (eXCone.b a2), (2039, .r (.arr 1 (s2.1.flatMap eI.o) [])), (40001, .r (.arr 1 (v1.flatMap eI.o) []))] .nil (by kernel_rfl) (by kernel_rfl) (l_n ?_)
          exact trl_start (ks := [6, 8, 10, 14, 16, 18, 20, 22, 2007, 2009, 2011, 2039, 40001]) (by kernel_rfl) (ih15 (v21 == y22, IntKind.i64.wrap (s13.2 + 1)) hM)
        · have hM := ite_false' hM h18
          refine tr_condFe (e := s13.1) h18 (by kernel_rfl) ?_
          refine tr_exit (q_x (l_x (b_h (q_n ?_))))
          exact tr_start (ks := [6, 8, 10, 14, 16, 18, 20, 2007, 2009, 2011, 2039, 40001]) (by kernel_rfl) (K9 s13.1 hM)
      · have hM := ite_false' hM h17
        refine tr_sr hT hm [(5, .val (bv false))] [6, 8, 10, 14, 16, 18, 20, 22, 66, 2007, 2009, 2011, 2039, 40001] [(6, .d (.rp 1003 0)), (8, .d (.rp 1004 0)), (10, .d (.rp 1005 0)), (14, .d (.rs 20000 0 v1.length)), (16, .d (.rs 1019 0 s2.1.length)), (18, .d (iv s2.2)), (20, .d (bv s13.1)), (22, .d (iv s13.2)), (66, .d (bv false)), bxB 2007 (eXFunctor.b a0), bxB 2009 (eXCone.b a1), bxB 2011 (eXCone.b a2), (2039, .r (.arr 1 (s2.1.flatMap eI.o) [])), (40001, .r (.arr 1 (v1.flatMap eI.o) []))] (.cons (congrArg (fun b => bv b) h17) .nil) (by kernel_rfl) (by kernel_rfl) ?_
        refine tr_condF (by kernel_rfl) ?_
        refine tr_exit (q_x (l_x (b_h (q_n ?_))))
        exact tr_start (ks := [6, 8, 10, 14, 16, 18, 20, 2007, 2009, 2011, 2039, 40001]) (by kernel_rfl) (K9 s13.1 hM)
  · have hM := ite_false' hM h6
    refine tr_condFe (e := decide (s2.2 < (v1.length : Int))) h6 (by kernel_rfl) ?_
    refine tr_exit (q_x (l_x (b_h (q_n ?_))))
    refine tr_sr hT hm [] [12, 2039] [(12, .d (.rs 1019 0 s2.1.length)), (2039, .r (.arr 1 (s2.1.flatMap eI.o) []))] .nil (by kernel_rfl) (by kernel_rfl) ?_
    refine tr_ret (rg_r ?_)
    obtain rfl := Option.some.inj hM
    exact retg (names := []) (.cons (lenO_flat eI_ok s2.1) .nil) (by kernel_rfl)

theorem ok56 : CallOk Try.prog 56 := callOk_of Try.func56 (by kernel_rfl) (by kernel_rfl)
theorem spec_CoconeMaps_c (a0 : XFunctor) (a1 : XCone) (a2 : XCone) (r : (List Int) × Int) (hM : M.spec_CoconeMaps a0 a1 a2 = some r) :
    FnC Try.prog 56 [] [.agg (eXFunctor.b a0), .agg (eXCone.b a1), .agg (eXCone.b a2)] [] (.tup [.fr 1 r.1.length (r.1.flatMap eI.o), iv r.2]) := by
  refine fnc_startG (N := 26) (np := 500) hT Try.func56 rfl rfl (by kernel_rfl) ?_
  unfold M.spec_CoconeMaps at hM
  refine tr_start (ks := [0, 2, 4]) (st' := [(0, .d (.agg (eXFunctor.b a0))), (2, .d (.agg (eXCone.b a1))), (4, .d (.agg (eXCone.b a2)))]) (by kernel_rfl) ?_
  refine tr_sr hT hm [] [6, 8, 10, 2007, 2009, 2011] [(6, .d (.rp 1003 0)), (8, .d (.rp 1004 0)), (10, .d (.rp 1005 0)), bxB 2007 (eXFunctor.b a0), bxB 2009 (eXCone.b a1), bxB 2011 (eXCone.b a2)] .nil (by kernel_rfl) (by kernel_rfl) ?_
  refine tr_seq ?_
  obtain ⟨v1, hv1, hM⟩ := bind_some' hM
  refine tr_sr hT hm [(1, .call [] [] [.agg (eXFunctor.b a0)] [] (bv v1))] [6, 8, 10, 24, 2007, 2009, 2011] [(6, .d (.rp 1003 0)), (8, .d (.rp 1004 0)), (10, .d (.rp 1005 0)), (24, .d (bv (!v1))), bxB 2007 (eXFunctor.b a0), bxB 2009 (eXCone.b a1), bxB 2011 (eXCone.b a2)] (cc0 ok78 (spec_l06Is_c a0 _ hv1) (by kernel_rfl) .nil) (by kernel_rfl) (by kernel_rfl) ?_
  rcases Bool.eq_false_or_eq_true v1 with h2 | h2
  · have hM := ite_true' hM h2
    refine tr_condFe (e := !v1) (congrArg not h2) (by kernel_rfl) ?_
    refine tr_skip (q_n ?_)
    obtain ⟨v3, hv3, hM⟩ := bind_some' hM
    refine tr_sr hT hm [(1, .call [] [] [.agg (eXFunctor.b a0)] [] (.agg (eXFunctor.o v3)))] [8, 10, 16, 2009, 2011, 2017, 32003, 32005, 32007, 32009, 32013, 32015, 32017, 32019, 32021, 32023] ([(8, .d (.rp 1004 0)), (10, .d (.rp 1005 0)), (16, .d (.rp 1008 0)), bxB 2009 (eXCone.b a1), bxB 2011 (eXCone.b a2), bxO 2017 16000 (eXFunctor.o v3)] ++ rsS 16000 (eXFunctor.o v3)) (cc0 ok80 (spec_l06Op_c a0 _ hv3) (by kernel_rfl) (.cons (Nat.le_of_ble_eq_true (n := 12) (m := 12) rfl) .nil)) (by kernel_rfl) (by kernel_rfl) ?_
    refine tr_seq ?_
    obtain ⟨v4, hv4, hM⟩ := bind_some' hM
    refine tr_sr hT hm [(3, .call (rsR 16000 (eXFunctor.o v3)) [] [.agg (eXFunctor.b v3), .agg (eXCone.b a1), .agg (eXCone.b a2)] [] (iv v4))] [8, 10, 16, 18, 2009, 2011, 2017, 32003, 32005, 32007, 32009, 32013, 32015, 32017, 32019, 32021, 32023] ([(8, .d (.rp 1004 0)), (10, .d (.rp 1005 0)), (16, .d (.rp 1008 0)), (18, .d (iv v4)), bxB 2009 (eXCone.b a1), bxB 2011 (eXCone.b a2), bxO 2017 16000 (eXFunctor.o v3)] ++ rsS 16000 (eXFunctor.o v3)) (cc (B := (rsR 16000 (eXFunctor.o v3))) (ρ := []) (rB := (rsP 16000 (eXFunctor.o v3))) ok127 (spec_l12Two_c v3 a1 a2 _ hv4) (.cons (bor_rs eXFunctor_r (q := 16000) (x := v3) (by kernel_rfl) (by kernel_rfl)) (.cons (.same rfl) (.cons (.same rfl) .nil))) (.inr ⟨.v, trivial⟩) .nil) (by kernel_rfl) (by kernel_rfl) ?_
    refine tr_sr hT hm [] [8, 10, 16, 18, 40, 2009, 2011, 2017, 32003, 32005, 32007, 32009, 32013, 32015, 32017, 32019, 32021, 32023] ([(8, .d (.rp 1004 0)), (10, .d (.rp 1005 0)), (16, .d (.rp 1008 0)), (18, .d (iv v4)), (40, .d (bv (v4 != 0))), bxB 2009 (eXCone.b a1), bxB 2011 (eXCone.b a2), bxO 2017 16000 (eXFunctor.o v3)] ++ rsS 16000 (eXFunctor.o v3)) .nil (by kernel_rfl) (by kernel_rfl) ?_
    rcases Bool.eq_false_or_eq_true (v4 != 0) with h5 | h5
    · have hM := ite_true' hM h5
      refine tr_condTe (e := v4 != 0) h5 (by kernel_rfl) ?_
      refine tr_sr hT hm [] [12, 14] [(12, .d (nilv)), (14, .d (iv v4))] .nil (by kernel_rfl) (by kernel_rfl) ?_
      refine tr_ret (q_r (rg_r ?_))
      refine RetG.by (imp_cvS (k := 12) (d' := .fr 1 ([] : List Int).length (([] : List Int).flatMap eI.o)) Sub.nil_fr (by kernel_rfl)) ?_
      obtain rfl := Option.some.inj hM
      exact retg (names := []) .nil (by kernel_rfl)
    · have hM := ite_false' hM h5
      refine tr_condFe (e := v4 != 0) h5 (by kernel_rfl) ?_
      refine tr_skip (q_n ?_)
      obtain ⟨v6, hv6, hM⟩ := bind_some' hM
      refine tr_sr hT hm [(3, .call (rsR 16000 (eXFunctor.o v3)) [] [.agg (eXFunctor.b v3), .agg (eXCone.b a2), .agg (eXCone.b a1)] [] (.fr 1 v6.length (v6.flatMap eI.o)))] [12, 14, 54001] [(12, .d (.rs 27000 0 v6.length)), (14, .d (iv 0)), (54001, .r (.arr 1 (v6.flatMap eI.o) []))] (cc (B := (rsR 16000 (eXFunctor.o v3))) (ρ := []) (rB := (rsP 16000 (eXFunctor.o v3))) ok128 (spec_l12Maps_c v3 a2 a1 _ hv6) (.cons (bor_rs eXFunctor_r (q := 16000) (x := v3) (by kernel_rfl) (by kernel_rfl)) (.cons (.same rfl) (.cons (.same rfl) .nil))) (.inr ⟨(.fr (nb_flat eI_nb _)), trivial⟩) .nil) (by kernel_rfl) (by kernel_rfl) ?_
      refine tr_ret (rg_r ?_)
      obtain rfl := Option.some.inj hM
      exact retg (names := []) (.cons (lenO_flat eI_ok v6) .nil) (by kernel_rfl)
  · have hM := ite_false' hM h2
    refine tr_condTe (e := !v1) (congrArg not h2) (by kernel_rfl) ?_
    refine tr_sr hT hm [] [12, 14] [(12, .d (nilv)), (14, .d (iv 1))] .nil (by kernel_rfl) (by kernel_rfl) ?_
    refine tr_ret (q_r (rg_r ?_))
    refine RetG.by (imp_cvS (k := 12) (d' := .fr 1 ([] : List Int).length (([] : List Int).flatMap eI.o)) Sub.nil_fr (by kernel_rfl)) ?_
    obtain rfl := Option.some.inj hM
    exact retg (names := []) .nil (by kernel_rfl)

theorem ok302 : CallOk Try.prog 302 := callOk_of Try.func302 (by kernel_rfl) (by kernel_rfl)
theorem impl_coneMaps_c (a0 : XFunctor) (a1 : XCone) (a2 : XCone) (r : (List Int)) (hM : M.impl_coneMaps a0 a1 a2 = some r) :
    FnC Try.prog 302 [] [.pt (eXFunctor.b a0) 0, .agg (eXCone.b a1), .agg (eXCone.b a2)] [] (.fr 1 r.length (r.flatMap eI.o)) := by
  refine fnc_startG (N := 53) (np := 500) hT Try.func302 rfl rfl (by kernel_rfl) ?_
  unfold M.impl_coneMaps at hM
  refine tr_start (ks := [0, 2, 4]) (st' := [(0, .d (.pt (eXFunctor.b a0) 0)), (2, .d (.agg (eXCone.b a1))), (4, .d (.agg (eXCone.b a2)))]) (by kernel_rfl) ?_
  refine tr_sr hT hm [] [0, 8, 10, 2009, 2011] [(0, .d (.pt (eXFunctor.b a0) 0)), (8, .d (.rp 1004 0)), (10, .d (.rp 1005 0)), bxB 2009 (eXCone.b a1), bxB 2011 (eXCone.b a2)] .nil (by kernel_rfl) (by kernel_rfl) ?_
  refine tr_scope ?_
  refine tr_sr hT hm [] [8, 10, 14, 2009, 2011] [(8, .d (.rp 1004 0)), (10, .d (.rp 1005 0)), (14, .d (.pt (eXFunctor.b a0) 5)), bxB 2009 (eXCone.b a1), bxB 2011 (eXCone.b a2)] .nil (by kernel_rfl) (by kernel_rfl) ?_
  refine tr_sr hT hm [] [8, 10, 14, 16, 2009, 2011, 2033] [(8, .d (.rp 1004 0)), (10, .d (.rp 1005 0)), (14, .d (.pt (eXFunctor.b a0) 5)), (16, .d (.rs 1016 0 (([] : List Int).length))), bxB 2009 (eXCone.b a1), bxB 2011 (eXCone.b a2), (2033, .r (.arr 1 (([] : List Int).flatMap eI.o) []))] .nil (by kernel_rfl) (by kernel_rfl) ?_
  refine tr_seq ?_
  refine tr_label (q_n ?_)
  refine tr_seq ?_
  obtain ⟨v1, hv1, hM⟩ := bind_some' hM
  refine tr_sr hT hm [(5, .call [] [] [.pt (eXCategory.b a0.Target) 0, iv a1.Apex, iv a2.Apex] [] (.fr 1 v1.length (v1.flatMap eI.o)))] [8, 10, 14, 16, 44, 46, 48, 2009, 2011, 2033, 48001] [(8, .d (.rp 1004 0)), (10, .d (.rp 1005 0)), (14, .d (.pt (eXFunctor.b a0) 5)), (16, .d (.rs 1016 0 (([] : List Int).length))), (44, .d (.rs 24000 0 v1.length)), (46, .d (iv (v1.length : Int))), (48, .d (iv 0)), bxB 2009 (eXCone.b a1), bxB 2011 (eXCone.b a2), (2033, .r (.arr 1 (([] : List Int).flatMap eI.o) [])), (48001, .r (.arr 1 (v1.flatMap eI.o) []))] (cc (B := []) (ρ := []) (rB := []) ok202 (impl_Category_hom_c a0.Target a1.Apex a2.Apex _ hv1) (.cons (.pass (.ptk (ds := eXFunctor.b a0) (ds' := eXCategory.b a0.Target) (off := 5) (n := 5) (by kernel_rfl) (by kernel_rfl) (by kernel_rfl))) (.cons (.same rfl) (.cons (.same rfl) .nil))) (.inl rfl) .nil) (by kernel_rfl) (by kernel_rfl) ?_
  refine tr_block ?_
  refine tr_iterS (fun (s2 : (List Int) × Int) => [(8, .d (.rp 1004 0)), (10, .d (.rp 1005 0)), (14, .d (.pt (eXFunctor.b a0) 5)), (16, .d (.rs 1016 0 s2.1.length)), (44, .d (.rs 24000 0 v1.length)), (46, .d (iv (v1.length : Int))), (48, .d (iv s2.2)), bxB 2009 (eXCone.b a1), bxB 2011 (eXCone.b a2), (2033, .r (.arr 1 (s2.1.flatMap eI.o) [])), (48001, .r (.arr 1 (v1.flatMap eI.o) []))]) (([] : List Int), 0) [8, 10, 14, 16, 44, 46, 48, 2009, 2011, 2033, 48001] (by kernel_rfl) hM ?_
  intro n5 next3 ih4 s2 hM
  refine tr_sr hT hm [] [8, 10, 14, 16, 44, 46, 48, 50, 2009, 2011, 2033, 48001] [(8, .d (.rp 1004 0)), (10, .d (.rp 1005 0)), (14, .d (.pt (eXFunctor.b a0) 5)), (16, .d (.rs 1016 0 s2.1.length)), (44, .d (.rs 24000 0 v1.length)), (46, .d (iv (v1.length : Int))), (48, .d (iv s2.2)), (50, .d (bv (decide (s2.2 < (v1.length : Int))))), bxB 2009 (eXCone.b a1), bxB 2011 (eXCone.b a2), (2033, .r (.arr 1 (s2.1.flatMap eI.o) [])), (48001, .r (.arr 1 (v1.flatMap eI.o) []))] .nil (by kernel_rfl) (by kernel_rfl) ?_
  refine tr_seq ?_
  rcases Bool.eq_false_or_eq_true (decide (s2.2 < (v1.length : Int))) with h6 | h6
  · have hM := ite_true' hM h6
    refine tr_condTe (e := decide (s2.2 < (v1.length : Int))) h6 (by kernel_rfl) ?_
    refine tr_skip (q_n ?_)
    refine tr_seq ?_
    refine tr_block ?_
    obtain ⟨y7, hy7, hM⟩ := bind_some' hM
    have hy7' := idx_some hy7
    refine tr_sr hT hm [(1, .val (iv y7))] [8, 10, 14, 16, 20, 44, 46, 48, 2009, 2011, 2033, 48001] [(8, .d (.rp 1004 0)), (10, .d (.rp 1005 0)), (14, .d (.pt (eXFunctor.b a0) 5)), (16, .d (.rs 1016 0 s2.1.length)), (20, .d (iv y7)), (44, .d (.rs 24000 0 v1.length)), (46, .d (iv (v1.length : Int))), (48, .d (iv s2.2)), bxB 2009 (eXCone.b a1), bxB 2011 (eXCone.b a2), (2033, .r (.arr 1 (s2.1.flatMap eI.o) [])), (48001, .r (.arr 1 (v1.flatMap eI.o) []))] (.cons hy7'.1 (.cons hy7'.2.1 (.cons (at_o0 eI_ok hy7'.2.2 (d := iv y7) (by kernel_rfl)) .nil))) (by kernel_rfl) (by kernel_rfl) ?_
    refine tr_seq ?_
    refine tr_sr hT hm [] [8, 10, 14, 16, 20, 44, 46, 48, 58, 60, 62, 2009, 2011, 2033, 48001] [(8, .d (.rp 1004 0)), (10, .d (.rp 1005 0)), (14, .d (.pt (eXFunctor.b a0) 5)), (16, .d (.rs 1016 0 s2.1.length)), (20, .d (iv y7)), (44, .d (.rs 24000 0 v1.length)), (46, .d (iv (v1.length : Int))), (48, .d (iv s2.2)), (58, .d (.sl a2.Legs.length 0 (a2.Legs.flatMap eI.b))), (60, .d (iv (a2.Legs.length : Int))), (62, .d (iv 0)), bxB 2009 (eXCone.b a1), bxB 2011 (eXCone.b a2), (2033, .r (.arr 1 (s2.1.flatMap eI.o) [])), (48001, .r (.arr 1 (v1.flatMap eI.o) []))] .nil (by kernel_rfl) (by kernel_rfl) ?_
    refine tr_block ?_
    refine tr_iterS (fun (s8 : Int) => [(8, .d (.rp 1004 0)), (10, .d (.rp 1005 0)), (14, .d (.pt (eXFunctor.b a0) 5)), (16, .d (.rs 1016 0 s2.1.length)), (20, .d (iv y7)), (44, .d (.rs 24000 0 v1.length)), (46, .d (iv (v1.length : Int))), (48, .d (iv s2.2)), (58, .d (.sl a2.Legs.length 0 (a2.Legs.flatMap eI.b))), (60, .d (iv (a2.Legs.length : Int))), (62, .d (iv s8)), bxB 2009 (eXCone.b a1), bxB 2011 (eXCone.b a2), (2033, .r (.arr 1 (s2.1.flatMap eI.o) [])), (48001, .r (.arr 1 (v1.flatMap eI.o) []))]) 0 [8, 10, 14, 16, 20, 44, 46, 48, 58, 60, 62, 2009, 2011, 2033, 48001] (by kernel_rfl) hM ?_
    intro n11 next9 ih10 s8 hM
    refine tr_sr hT hm [] [8, 10, 14, 16, 20, 44, 46, 48, 58, 60, 62, 64, 2009, 2011, 2033, 48001] [(8, .d (.rp 1004 0)), (10, .d (.rp 1005 0)), (14, .d (.pt (eXFunctor.b a0) 5)), (16, .d (.rs 1016 0 s2.1.length)), (20, .d (iv y7)), (44, .d (.rs 24000 0 v1.length)), (46, .d (iv (v1.length : Int))), (48, .d (iv s2.2)), (58, .d (.sl a2.Legs.length 0 (a2.Legs.flatMap eI.b))), (60, .d (iv (a2.Legs.length : Int))), (62, .d (iv s8)), (64, .d (bv (decide (s8 < (a2.Legs.length : Int))))), bxB 2009 (eXCone.b a1), bxB 2011 (eXCone.b a2), (2033, .r (.arr 1 (s2.1.flatMap eI.o) [])), (48001, .r (.arr 1 (v1.flatMap eI.o) []))] .nil (by kernel_rfl) (by kernel_rfl) ?_
    refine tr_seq ?_
    rcases Bool.eq_false_or_eq_true (decide (s8 < (a2.Legs.length : Int))) with h12 | h12
    · have hM := ite_true' hM h12
      refine tr_condTe (e := decide (s8 < (a2.Legs.length : Int))) h12 (by kernel_rfl) ?_
      refine tr_skip (q_n ?_)
      refine tr_seq ?_
      refine tr_block ?_
      obtain ⟨y13, hy13, hM⟩ := bind_some' hM
      have hy13' := idx_some hy13
      refine tr_sr hT hm [(2, .val (iv y13))] [8, 10, 14, 16, 20, 22, 24, 44, 46, 48, 58, 60, 62, 2009, 2011, 2033, 48001] [(8, .d (.rp 1004 0)), (10, .d (.rp 1005 0)), (14, .d (.pt (eXFunctor.b a0) 5)), (16, .d (.rs 1016 0 s2.1.length)), (20, .d (iv y7)), (22, .d (iv s8)), (24, .d (iv y13)), (44, .d (.rs 24000 0 v1.length)), (46, .d (iv (v1.length : Int))), (48, .d (iv s2.2)), (58, .d (.sl a2.Legs.length 0 (a2.Legs.flatMap eI.b))), (60, .d (iv (a2.Legs.length : Int))), (62, .d (iv s8)), bxB 2009 (eXCone.b a1), bxB 2011 (eXCone.b a2), (2033, .r (.arr 1 (s2.1.flatMap eI.o) [])), (48001, .r (.arr 1 (v1.flatMap eI.o) []))] (.cons hy13'.1 (.cons hy13'.2.1 (.cons (at_b0 eI_ok hy13'.2.2 (d := iv y13) (by kernel_rfl)) .nil))) (by kernel_rfl) (by kernel_rfl) ?_
      obtain ⟨v14, hv14, hM⟩ := bind_some' hM
      obtain ⟨y15, hy15, hM⟩ := bind_some' hM
      have hy15' := idx_some hy15
      refine tr_sr hT hm [(3, .call [] [] [.pt (eXCategory.b a0.Target) 0, iv y7, iv y13] [] (iv v14)), (8, .val (iv y15))] [8, 10, 14, 16, 20, 44, 46, 48, 58, 60, 62, 90, 2009, 2011, 2033, 48001] [(8, .d (.rp 1004 0)), (10, .d (.rp 1005 0)), (14, .d (.pt (eXFunctor.b a0) 5)), (16, .d (.rs 1016 0 s2.1.length)), (20, .d (iv y7)), (44, .d (.rs 24000 0 v1.length)), (46, .d (iv (v1.length : Int))), (48, .d (iv s2.2)), (58, .d (.sl a2.Legs.length 0 (a2.Legs.flatMap eI.b))), (60, .d (iv (a2.Legs.length : Int))), (62, .d (iv s8)), (90, .d (bv (v14 != y15))), bxB 2009 (eXCone.b a1), bxB 2011 (eXCone.b a2), (2033, .r (.arr 1 (s2.1.flatMap eI.o) [])), (48001, .r (.arr 1 (v1.flatMap eI.o) []))] (cc (B := []) (ρ := []) (rB := []) ok163 (impl_Category_then_c a0.Target y7 y13 _ hv14) (.cons (.pass (.ptk (ds := eXFunctor.b a0) (ds' := eXCategory.b a0.Target) (off := 5) (n := 5) (by kernel_rfl) (by kernel_rfl) (by kernel_rfl))) (.cons (.same rfl) (.cons (.same rfl) .nil))) (.inl rfl) (.cons hy15'.1 (.cons hy15'.2.1 (.cons (at_b0 eI_ok hy15'.2.2 (d := iv y15) (by kernel_rfl)) .nil)))) (by kernel_rfl) (by kernel_rfl) ?_
      rcases Bool.eq_false_or_eq_true (v14 != y15) with h16 | h16
      · have hM := ite_true' hM h16
        refine tr_condTe (e := v14 != y15) h16 (by kernel_rfl) ?_
        refine tr_exit (b_x (by kernel_rfl) (q_x (l_x (b_x (by kernel_rfl) (q_x (b_h (q_n ?_)))))))
        refine tr_r hT hm [] [8, 10, 14, 16, 44, 46, 48, 2009, 2011, 2033, 48001] [(8, .d (.rp 1004 0)), (10, .d (.rp 1005 0)), (14, .d (.pt (eXFunctor.b a0) 5)), (16, .d (.rs 1016 0 s2.1.length)), (44, .d (.rs 24000 0 v1.length)), (46, .d (iv (v1.length : Int))), (48, .d (iv (IntKind.i64.wrap (s2.2 + 1)))), bxB 2009 (eXCone.b a1), bxB 2011 (eXCone.b a2), (2033, .r (.arr 1 (s2.1.flatMap eI.o) [])), (48001, .r (.arr 1 (v1.flatMap eI.o) []))] .nil (by kernel_rfl) (by kernel_rfl) (l_n ?_)
        exact trl_start (ks := [8, 10, 14, 16, 44, 46, 48, 2009, 2011, 2033, 48001]) (by kernel_rfl) (ih4 (s2.1, IntKind.i64.wrap (s2.2 + 1)) hM)
      · have hM := ite_false' hM h16
        refine tr_condFe (e := v14 != y15) h16 (by kernel_rfl) ?_
        refine tr_skip (b_n (q_n ?_))
        refine tr_r hT hm [] [8, 10, 14, 16, 20, 44, 46, 48, 58, 60, 62, 2009, 2011, 2033, 48001] [(8, .d (.rp 1004 0)), (10, .d (.rp 1005 0)), (14, .d (.pt (eXFunctor.b a0) 5)), (16, .d (.rs 1016 0 s2.1.length)), (20, .d (iv y7)), (44, .d (.rs 24000 0 v1.length)), (46, .d (iv (v1.length : Int))), (48, .d (iv s2.2)), (58, .d (.sl a2.Legs.length 0 (a2.Legs.flatMap eI.b))), (60, .d (iv (a2.Legs.length : Int))), (62, .d (iv (IntKind.i64.wrap (s8 + 1)))), bxB 2009 (eXCone.b a1), bxB 2011 (eXCone.b a2), (2033, .r (.arr 1 (s2.1.flatMap eI.o) [])), (48001, .r (.arr 1 (v1.flatMap eI.o) []))] .nil (by kernel_rfl) (by kernel_rfl) (l_n ?_)
        exact trl_start (ks := [8, 10, 14, 16, 20, 44, 46, 48, 58, 60, 62, 2009, 2011, 2033, 48001]) (by kernel_rfl) (ih10 (IntKind.i64.wrap (s8 + 1)) hM)
    · have hM := ite_false' hM h12
      refine tr_condFe (e := decide (s8 < (a2.Legs.length : Int))) h12 (by kernel_rfl) ?_
      refine tr_exit (q_x (l_x (b_h (q_n ?_))))
      obtain ⟨h17, hM⟩ := chk_some hM
      refine tr_r hT hm [(3, .app true)] [8, 10, 14, 16, 44, 46, 48, 2009, 2011, 2101, 48001] [(8, .d (.rp 1004 0)), (10, .d (.rp 1005 0)), (14, .d (.pt (eXFunctor.b a0) 5)), (16, .d (.rs 1050 0 (s2.1.length + (([y7] : List Int).length)))), (44, .d (.rs 24000 0 v1.length)), (46, .d (iv (v1.length : Int))), (48, .d (iv s2.2)), bxB 2009 (eXCone.b a1), bxB 2011 (eXCone.b a2), (2101, .r (.arr 1 (s2.1.flatMap eI.o ++ ([y7] : List Int).flatMap eI.o) [])), (48001, .r (.arr 1 (v1.flatMap eI.o) []))] (.cons (lenO_flat eI_ok s2.1) (.cons (lenO_flat eI_ok ([y7] : List Int)) (.cons h17 .nil))) (by kernel_rfl) (by kernel_rfl) (b_n (q_n ?_))
      refine Tr.by (imp_cvE (r := 1050) (sz := 1) (refs := []) (flat_app eI.o s2.1 ([y7] : List Int)) (menO_flat eI_ok _) (by kernel_rfl)) ?_
      refine Tr.by (imp_cvD (k := 16) (congrArg (D.rs 1050 0) ((len_app s2.1 ([y7] : List Int)) : s2.1.length + (([y7] : List Int).length) = (s2.1 ++ ([y7] : List Int)).length)) (by kernel_rfl)) ?_
      refine tr_r hT hm [] [8, 10, 14, 16, 44, 46, 48, 2009, 2011, 2101, 48001] [(8, .d (.rp 1004 0)), (10, .d (.rp 1005 0)), (14, .d (.pt (eXFunctor.b a0) 5)), (16, .d (.rs 1050 0 ((s2.1 ++ ([y7] : List Int)).length))), (44, .d (.rs 24000 0 v1.length)), (46, .d (iv (v1.length : Int))), (48, .d (iv (IntKind.i64.wrap (s2.2 + 1)))), bxB 2009 (eXCone.b a1), bxB 2011 (eXCone.b a2), (2101, .r (.arr 1 ((s2.1 ++ ([y7] : List Int)).flatMap eI.o) [])), (48001, .r (.arr 1 (v1.flatMap eI.o) []))] .nil (by kernel_rfl) (by kernel_rfl) (l_n ?_)
      refine TrL.by (imp_sel (ks := [8, 10, 14, 16, 44, 46, 48, 2009, 2011, 2101, 48001]) (st' := [(8, .d (.rp 1004 0)), (10, .d (.rp 1005 0)), (14, .d (.pt (eXFunctor.b a0) 5)), (16, .d (.rs 1050 0 ((s2.1 ++ ([y7] : List Int)).length))), (44, .d (.rs 24000 0 v1.length)), (46, .d (iv (v1.length : Int))), (48, .d (iv (IntKind.i64.wrap (s2.2 + 1)))), bxB 2009 (eXCone.b a1), bxB 2011 (eXCone.b a2), (2101, .r (.arr 1 ((s2.1 ++ ([y7] : List Int)).flatMap eI.o) [])), (48001, .r (.arr 1 (v1.flatMap eI.o) []))]) (by kernel_rfl)) ?_
      refine TrL.by (imp_rename (r := 1050) (q := 1016) (by kernel_rfl) (Nat.le_of_ble_eq_true rfl)) ?_
      exact trl_start (ks := [8, 10, 14, 16, 44, 46, 48, 2009, 2011, 2033, 48001]) (by kernel_rfl) (ih4 (s2.1 ++ ([y7] : List Int), IntKind.i64.wrap (s2.2 + 1)) hM)
  · have hM := ite_false' hM h6
    refine tr_condFe (e := decide (s2.2 < (v1.length : Int))) h6 (by kernel_rfl) ?_
    refine tr_exit (q_x (l_x (b_h (q_n ?_))))
    refine tr_sr hT hm [] [12, 2033] [(12, .d (.rs 1016 0 s2.1.length)), (2033, .r (.arr 1 (s2.1.flatMap eI.o) []))] .nil (by kernel_rfl) (by kernel_rfl) ?_
    refine tr_ret (sc_r (rg_r ?_))
    obtain rfl := Option.some.inj hM
    exact retg (names := []) (.cons (lenO_flat eI_ok s2.1) .nil) (by kernel_rfl)

theorem ok301 : CallOk Try.prog 301 := callOk_of Try.func301 (by kernel_rfl) (by kernel_rfl)
theorem impl_cocones_maps_c (a0 : Xcocones) (a1 : XCone) (a2 : XCone) (r : (List Int)) (hM : M.impl_cocones_maps a0 a1 a2 = some r) :
    FnC Try.prog 301 [] [.agg (eXcocones.b a0), .agg (eXCone.b a1), .agg (eXCone.b a2)] [] (.fr 1 r.length (r.flatMap eI.o)) := by
  refine fnc_startG (N := 12) (np := 500) hT Try.func301 rfl rfl (by kernel_rfl) ?_
  unfold M.impl_cocones_maps at hM
  refine tr_start (ks := [0, 2, 4]) (st' := [(0, .d (.agg [.pt (eXFunctor.b a0.opposite_) 0])), (2, .d (.agg (eXCone.b a1))), (4, .d (.agg (eXCone.b a2)))]) (by kernel_rfl) ?_
  refine tr_sr hT hm [] [6, 8, 10, 2007, 2009, 2011] [(6, .d (.rp 1003 0)), (8, .d (.rp 1004 0)), (10, .d (.rp 1005 0)), (2007, .r (.arr 1 [.pt (eXFunctor.b a0.opposite_) 0] [])), bxB 2009 (eXCone.b a1), bxB 2011 (eXCone.b a2)] .nil (by kernel_rfl) (by kernel_rfl) ?_
  obtain ⟨v1, hv1, hM⟩ := bind_some' hM
  refine tr_sr hT hm [(4, .call [] [] [.pt (eXFunctor.b a0.opposite_) 0, .agg (eXCone.b a2), .agg (eXCone.b a1)] [] (.fr 1 v1.length (v1.flatMap eI.o)))] [12, 26001] [(12, .d (.rs 13000 0 v1.length)), (26001, .r (.arr 1 (v1.flatMap eI.o) []))] (cc0 ok302 (impl_coneMaps_c a0.opposite_ a2 a1 _ hv1) (by kernel_rfl) .nil) (by kernel_rfl) (by kernel_rfl) ?_
  refine tr_ret (rg_r ?_)
  obtain rfl := Option.some.inj hM
  exact retg (names := []) (.cons (lenO_flat eI_ok v1) .nil) (by kernel_rfl)

theorem ok210 : CallOk Try.prog 210 := callOk_of Try.func210 (by kernel_rfl) (by kernel_rfl)
theorem impl_coneCode_c (a0 : Xcocones) (a1 : List XCone) (r : Int) (hM : M.impl_coneCode a0 a1 = some r) :
    FnC Try.prog 210 [] [.ifc 221 (.agg (eXcocones.b a0)), .sl a1.length 0 (a1.flatMap eXCone.b)] [] (iv r) := by
  refine fnc_startG (N := 19) (np := 500) hT Try.func210 rfl rfl (by kernel_rfl) ?_
  unfold M.impl_coneCode at hM
  refine tr_start (ks := [0, 2]) (st' := [(0, .d (.ifc 221 (.agg [.pt (eXFunctor.b a0.opposite_) 0]))), (2, .d (.sl a1.length 0 (a1.flatMap eXCone.b)))]) (by kernel_rfl) ?_
  refine tr_sr hT hm [] [0, 2] [(0, .d (.ifc 221 (.agg [.pt (eXFunctor.b a0.opposite_) 0]))), (2, .d (.sl a1.length 0 (a1.flatMap eXCone.b)))] .nil (by kernel_rfl) (by kernel_rfl) ?_
  refine tr_seq ?_
  refine tr_sr hT hm [] [0, 14, 16, 18] [(0, .d (.ifc 221 (.agg [.pt (eXFunctor.b a0.opposite_) 0]))), (14, .d (.sl a1.length 0 (a1.flatMap eXCone.b))), (16, .d (iv (a1.length : Int))), (18, .d (iv 0))] .nil (by kernel_rfl) (by kernel_rfl) ?_
  refine tr_block ?_
  refine tr_iterS (fun (s1 : Int) => [(0, .d (.ifc 221 (.agg [.pt (eXFunctor.b a0.opposite_) 0]))), (14, .d (.sl a1.length 0 (a1.flatMap eXCone.b))), (16, .d (iv (a1.length : Int))), (18, .d (iv s1))]) 0 [0, 14, 16, 18] (by kernel_rfl) hM ?_
  intro n4 next2 ih3 s1 hM
  refine tr_sr hT hm [] [0, 14, 16, 18, 20] [(0, .d (.ifc 221 (.agg [.pt (eXFunctor.b a0.opposite_) 0]))), (14, .d (.sl a1.length 0 (a1.flatMap eXCone.b))), (16, .d (iv (a1.length : Int))), (18, .d (iv s1)), (20, .d (bv (decide (s1 < (a1.length : Int)))))] .nil (by kernel_rfl) (by kernel_rfl) ?_
  refine tr_seq ?_
  rcases Bool.eq_false_or_eq_true (decide (s1 < (a1.length : Int))) with h5 | h5
  · have hM := ite_true' hM h5
    refine tr_condTe (e := decide (s1 < (a1.length : Int))) h5 (by kernel_rfl) ?_
    refine tr_skip (q_n ?_)
    refine tr_seq ?_
    refine tr_block ?_
    obtain ⟨y6, hy6, hM⟩ := bind_some' hM
    have hy6' := idx_some hy6
    refine tr_sr hT hm [(1, .val (.agg [iv y6.Apex, .sl y6.Legs.length 0 (y6.Legs.flatMap eI.b)]))] [0, 12, 14, 16, 18, 2013] [(0, .d (.ifc 221 (.agg [.pt (eXFunctor.b a0.opposite_) 0]))), (12, .d (.rp 1006 0)), (14, .d (.sl a1.length 0 (a1.flatMap eXCone.b))), (16, .d (iv (a1.length : Int))), (18, .d (iv s1)), bxB 2013 (eXCone.b y6)] (.cons hy6'.1 (.cons hy6'.2.1 (.cons (sub_b eXCone_ok hy6'.2.2) (.cons (Nat.le_of_ble_eq_true (n := 2) (m := 2) rfl) .nil)))) (by kernel_rfl) (by kernel_rfl) ?_
    obtain ⟨v7, hv7, hM⟩ := bind_some' hM
    obtain ⟨v8, hv8, hM⟩ := bind_some' hM
    refine tr_sr hT hm [(1, .inv 300 [] [] [.agg [.pt (eXFunctor.b a0.opposite_) 0]] [] (.pt (eXFunctor.b v7) 0)), (3, .call [] [] [.pt (eXFunctor.b v7) 0, .agg (eXCone.b y6)] [] (bv v8))] [0, 14, 16, 18, 34] [(0, .d (.ifc 221 (.agg [.pt (eXFunctor.b a0.opposite_) 0]))), (14, .d (.sl a1.length 0 (a1.flatMap eXCone.b))), (16, .d (iv (a1.length : Int))), (18, .d (iv s1)), (34, .d (bv (!v8)))] (.cons (by kernel_rfl : methB Try.prog 221 "loop.example/g01083/impl.diagram" 300 = true) (cc0 ok300 (impl_cocones_diagram_c a0 _ hv7) (by kernel_rfl) (cc0 ok82 (impl_isCone_c v7 y6 _ hv8) (by kernel_rfl) .nil))) (by kernel_rfl) (by kernel_rfl) ?_
    rcases Bool.eq_false_or_eq_true v8 with h9 | h9
    · have hM := ite_true' hM h9
      refine tr_condFe (e := !v8) (congrArg not h9) (by kernel_rfl) ?_
      refine tr_skip (b_n (q_n ?_))
      refine tr_r hT hm [] [0, 14, 16, 18] [(0, .d (.ifc 221 (.agg [.pt (eXFunctor.b a0.opposite_) 0]))), (14, .d (.sl a1.length 0 (a1.flatMap eXCone.b))), (16, .d (iv (a1.length : Int))), (18, .d (iv (IntKind.i64.wrap (s1 + 1))))] .nil (by kernel_rfl) (by kernel_rfl) (l_n ?_)
      exact trl_start (ks := [0, 14, 16, 18]) (by kernel_rfl) (ih3 (IntKind.i64.wrap (s1 + 1)) hM)
    · have hM := ite_false' hM h9
      refine tr_condTe (e := !v8) (congrArg not h9) (by kernel_rfl) ?_
      refine tr_sr hT hm [] [8] [(8, .d (iv 5))] .nil (by kernel_rfl) (by kernel_rfl) ?_
      refine tr_ret (b_r (q_r (l_r (b_r (q_r (rg_r ?_))))))
      obtain rfl := Option.some.inj hM
      exact retg (names := []) .nil (by kernel_rfl)
  · have hM := ite_false' hM h5
    refine tr_condFe (e := decide (s1 < (a1.length : Int))) h5 (by kernel_rfl) ?_
    refine tr_exit (q_x (l_x (b_h (q_n ?_))))
    refine tr_sr hT hm [] [8] [(8, .d (iv 0))] .nil (by kernel_rfl) (by kernel_rfl) ?_
    refine tr_ret (rg_r ?_)
    obtain rfl := Option.some.inj hM
    exact retg (names := []) .nil (by kernel_rfl)

theorem ok129 : CallOk Try.prog 129 := callOk_of Try.func129 (by kernel_rfl) (by kernel_rfl)
theorem impl_mapsBetween_c (a0 : Xcocones) (a1 : XCone) (a2 : XCone) (r : (List Int) × Int) (hM : M.impl_mapsBetween a0 a1 a2 = some r) :
    FnC Try.prog 129 [] [.ifc 221 (.agg (eXcocones.b a0)), .agg (eXCone.b a1), .agg (eXCone.b a2)] [] (.tup [.fr 1 r.1.length (r.1.flatMap eI.o), iv r.2]) := by
  refine fnc_startG (N := 21) (np := 500) hT Try.func129 rfl rfl (by kernel_rfl) ?_
  unfold M.impl_mapsBetween at hM
  refine tr_start (ks := [0, 2, 4]) (st' := [(0, .d (.ifc 221 (.agg [.pt (eXFunctor.b a0.opposite_) 0]))), (2, .d (.agg (eXCone.b a1))), (4, .d (.agg (eXCone.b a2)))]) (by kernel_rfl) ?_
  refine tr_sr hT hm [] [0, 8, 10, 2009, 2011] [(0, .d (.ifc 221 (.agg [.pt (eXFunctor.b a0.opposite_) 0]))), (8, .d (.rp 1004 0)), (10, .d (.rp 1005 0)), bxB 2009 (eXCone.b a1), bxB 2011 (eXCone.b a2)] .nil (by kernel_rfl) (by kernel_rfl) ?_
  refine tr_seq ?_
  obtain ⟨v1, hv1, hM⟩ := bind_some' hM
  refine tr_sr hT hm [(4, .call [1012] [] [.ifc 221 (.agg [.pt (eXFunctor.b a0.opposite_) 0]), .sl ([a1, a2] : List XCone).length 0 (([a1, a2] : List XCone).flatMap eXCone.b)] [] (iv v1))] [0, 8, 10, 16, 2009, 2011] [(0, .d (.ifc 221 (.agg [.pt (eXFunctor.b a0.opposite_) 0]))), (8, .d (.rp 1004 0)), (10, .d (.rp 1005 0)), (16, .d (iv v1)), bxB 2009 (eXCone.b a1), bxB 2011 (eXCone.b a2)] (cc (B := [1012]) (ρ := []) (rB := [(1012, .arr 2 [iv a1.Apex, .sl a1.Legs.length 0 (a1.Legs.flatMap eI.b), iv a2.Apex, .sl a2.Legs.length 0 (a2.Legs.flatMap eI.b)] [])]) ok210 (impl_coneCode_c a0 ([a1, a2] : List XCone) _ hv1) (.cons (.same rfl) (.cons (.of1 (.rs (r := 1012) (sz := 2) (cells := [iv a1.Apex, .sl a1.Legs.length 0 (a1.Legs.flatMap eI.b), iv a2.Apex, .sl a2.Legs.length 0 (a2.Legs.flatMap eI.b)]) (refs := []) (memB (by kernel_rfl)) (by kernel_rfl) (.cons .v (.cons (.same rfl rfl) (.cons .v (.cons (.same rfl rfl) .nil)))))) .nil)) (.inr ⟨.v, trivial⟩) .nil) (by kernel_rfl) (by kernel_rfl) ?_
  refine tr_sr hT hm [] [0, 8, 10, 16, 30, 2009, 2011] [(0, .d (.ifc 221 (.agg [.pt (eXFunctor.b a0.opposite_) 0]))), (8, .d (.rp 1004 0)), (10, .d (.rp 1005 0)), (16, .d (iv v1)), (30, .d (bv (v1 != 0))), bxB 2009 (eXCone.b a1), bxB 2011 (eXCone.b a2)] .nil (by kernel_rfl) (by kernel_rfl) ?_
  rcases Bool.eq_false_or_eq_true (v1 != 0) with h2 | h2
  · have hM := ite_true' hM h2
    refine tr_condTe (e := v1 != 0) h2 (by kernel_rfl) ?_
    refine tr_sr hT hm [] [12, 14] [(12, .d (nilv)), (14, .d (iv v1))] .nil (by kernel_rfl) (by kernel_rfl) ?_
    refine tr_ret (q_r (rg_r ?_))
    refine RetG.by (imp_cvS (k := 12) (d' := .fr 1 ([] : List Int).length (([] : List Int).flatMap eI.o)) Sub.nil_fr (by kernel_rfl)) ?_
    obtain rfl := Option.some.inj hM
    exact retg (names := []) .nil (by kernel_rfl)
  · have hM := ite_false' hM h2
    refine tr_condFe (e := v1 != 0) h2 (by kernel_rfl) ?_
    refine tr_skip (q_n ?_)
    obtain ⟨v3, hv3, hM⟩ := bind_some' hM
    refine tr_sr hT hm [(3, .inv 301 [] [] [.agg [.pt (eXFunctor.b a0.opposite_) 0], .agg (eXCone.b a1), .agg (eXCone.b a2)] [] (.fr 1 v3.length (v3.flatMap eI.o)))] [12, 14, 44001] [(12, .d (.rs 22000 0 v3.length)), (14, .d (iv 0)), (44001, .r (.arr 1 (v3.flatMap eI.o) []))] (.cons (by kernel_rfl : methB Try.prog 221 "loop.example/g01083/impl.maps" 301 = true) (cc0 ok301 (impl_cocones_maps_c a0 a1 a2 _ hv3) (by kernel_rfl) .nil)) (by kernel_rfl) (by kernel_rfl) ?_
    refine tr_ret (rg_r ?_)
    obtain rfl := Option.some.inj hM
    exact retg (names := []) (.cons (lenO_flat eI_ok v3) .nil) (by kernel_rfl)

theorem ok57 : CallOk Try.prog 57 := callOk_of Try.func57 (by kernel_rfl) (by kernel_rfl)
theorem impl_CoconeMaps_c (a0 : XFunctor) (a1 : XCone) (a2 : XCone) (r : (List Int) × Int) (hM : M.impl_CoconeMaps a0 a1 a2 = some r) :
    FnC Try.prog 57 [] [.agg (eXFunctor.b a0), .agg (eXCone.b a1), .agg (eXCone.b a2)] [] (.tup [.fr 1 r.1.length (r.1.flatMap eI.o), iv r.2]) := by
  refine fnc_startG (N := 16) (np := 500) hT Try.func57 rfl rfl (by kernel_rfl) ?_
  unfold M.impl_CoconeMaps at hM
  refine tr_start (ks := [0, 2, 4]) (st' := [(0, .d (.agg (eXFunctor.b a0))), (2, .d (.agg (eXCone.b a1))), (4, .d (.agg (eXCone.b a2)))]) (by kernel_rfl) ?_
  refine tr_sr hT hm [] [6, 8, 10, 2007, 2009, 2011] [(6, .d (.rp 1003 0)), (8, .d (.rp 1004 0)), (10, .d (.rp 1005 0)), bxB 2007 (eXFunctor.b a0), bxB 2009 (eXCone.b a1), bxB 2011 (eXCone.b a2)] .nil (by kernel_rfl) (by kernel_rfl) ?_
  refine tr_seq ?_
  obtain ⟨v1, hv1, hM⟩ := bind_some' hM
  refine tr_sr hT hm [(0, .call [1003] [] [.pt (eXFunctor.b a0) 0] [] (bv v1))] [6, 8, 10, 18, 2007, 2009, 2011] [(6, .d (.rp 1003 0)), (8, .d (.rp 1004 0)), (10, .d (.rp 1005 0)), (18, .d (bv (!v1))), bxB 2007 (eXFunctor.b a0), bxB 2009 (eXCone.b a1), bxB 2011 (eXCone.b a2)] (cc (B := [1003]) (ρ := []) (rB := [(1003, .arr 1 [iv a0.Source.Objects, .sl a0.Source.From.length 0 (a0.Source.From.flatMap eI.b), .sl a0.Source.To.length 0 (a0.Source.To.flatMap eI.b), .sl a0.Source.Identity.length 0 (a0.Source.Identity.flatMap eI.b), .sl a0.Source.Composites.length 0 (a0.Source.Composites.flatMap (eS eI).b), iv a0.Target.Objects, .sl a0.Target.From.length 0 (a0.Target.From.flatMap eI.b), .sl a0.Target.To.length 0 (a0.Target.To.flatMap eI.b), .sl a0.Target.Identity.length 0 (a0.Target.Identity.flatMap eI.b), .sl a0.Target.Composites.length 0 (a0.Target.Composites.flatMap (eS eI).b), .sl a0.Objects.length 0 (a0.Objects.flatMap eI.b), .sl a0.Arrows.length 0 (a0.Arrows.flatMap eI.b)] [])]) ok81 (impl_Functor_isFunctor_c a0 _ hv1) (.cons (.of1 (.rp (r := 1003) (sz := 1) (cells := [iv a0.Source.Objects, .sl a0.Source.From.length 0 (a0.Source.From.flatMap eI.b), .sl a0.Source.To.length 0 (a0.Source.To.flatMap eI.b), .sl a0.Source.Identity.length 0 (a0.Source.Identity.flatMap eI.b), .sl a0.Source.Composites.length 0 (a0.Source.Composites.flatMap (eS eI).b), iv a0.Target.Objects, .sl a0.Target.From.length 0 (a0.Target.From.flatMap eI.b), .sl a0.Target.To.length 0 (a0.Target.To.flatMap eI.b), .sl a0.Target.Identity.length 0 (a0.Target.Identity.flatMap eI.b), .sl a0.Target.Composites.length 0 (a0.Target.Composites.flatMap (eS eI).b), .sl a0.Objects.length 0 (a0.Objects.flatMap eI.b), .sl a0.Arrows.length 0 (a0.Arrows.flatMap eI.b)]) (refs := []) (memB (by kernel_rfl)) (by kernel_rfl) (.cons .v (.cons (.same rfl rfl) (.cons (.same rfl rfl) (.cons (.same rfl rfl) (.cons (.same rfl rfl) (.cons .v (.cons (.same rfl rfl) (.cons (.same rfl rfl) (.cons (.same rfl rfl) (.cons (.same rfl rfl) (.cons (.same rfl rfl) (.cons (.same rfl rfl) .nil)))))))))))))) .nil) (.inr ⟨.v, trivial⟩) .nil) (by kernel_rfl) (by kernel_rfl) ?_
  rcases Bool.eq_false_or_eq_true v1 with h2 | h2
  · have hM := ite_true' hM h2
    refine tr_condFe (e := !v1) (congrArg not h2) (by kernel_rfl) ?_
    refine tr_skip (q_n ?_)
    refine Tr.by (imp_freeze (B := [1003]) (cv := [(3, .pt (eXFunctor.b a0) 0)]) (.cons (by kernel_rfl) (.of1 (.rp (r := 1003) (sz := 1) (cells := [iv a0.Source.Objects, .sl a0.Source.From.length 0 (a0.Source.From.flatMap eI.b), .sl a0.Source.To.length 0 (a0.Source.To.flatMap eI.b), .sl a0.Source.Identity.length 0 (a0.Source.Identity.flatMap eI.b), .sl a0.Source.Composites.length 0 (a0.Source.Composites.flatMap (eS eI).b), iv a0.Target.Objects, .sl a0.Target.From.length 0 (a0.Target.From.flatMap eI.b), .sl a0.Target.To.length 0 (a0.Target.To.flatMap eI.b), .sl a0.Target.Identity.length 0 (a0.Target.Identity.flatMap eI.b), .sl a0.Target.Composites.length 0 (a0.Target.Composites.flatMap (eS eI).b), .sl a0.Objects.length 0 (a0.Objects.flatMap eI.b), .sl a0.Arrows.length 0 (a0.Arrows.flatMap eI.b)]) (refs := []) (memB (by kernel_rfl)) (by kernel_rfl) (.cons .v (.cons (.same rfl rfl) (.cons (.same rfl rfl) (.cons (.same rfl rfl) (.cons (.same rfl rfl) (.cons .v (.cons (.same rfl rfl) (.cons (.same rfl rfl) (.cons (.same rfl rfl) (.cons (.same rfl rfl) (.cons (.same rfl rfl) (.cons (.same rfl rfl) .nil)))))))))))))) .nil)) ?_
    obtain ⟨v3, hv3, hM⟩ := bind_some' hM
    obtain ⟨v4, hv4, hM⟩ := bind_some' hM
    refine tr_sr hT hm [(0, .call [] [] [.pt (eXFunctor.b a0) 0] [] (.ifc 221 (.agg [.pt (eXFunctor.b v3) 0]))), (3, .call [] [] [.ifc 221 (.agg [.pt (eXFunctor.b v3) 0]), .agg (eXCone.b a1), .agg (eXCone.b a2)] [] (.tup [.fr 1 v4.1.length (v4.1.flatMap eI.o), iv v4.2]))] [12, 14, 30001] [(12, .d (.rs 15000 0 v4.1.length)), (14, .d (iv v4.2)), (30001, .r (.arr 1 (v4.1.flatMap eI.o) []))] (cc0 ok83 (impl_coconesOf_c a0 _ hv3) (by kernel_rfl) (cc0 ok129 (impl_mapsBetween_c (⟨v3⟩ : Xcocones) a1 a2 _ hv4) (by kernel_rfl) .nil)) (by kernel_rfl) (by kernel_rfl) ?_
    refine tr_ret (rg_r ?_)
    obtain rfl := Option.some.inj hM
    exact retg (names := []) (.cons (lenO_flat eI_ok v4.1) .nil) (by kernel_rfl)
  · have hM := ite_false' hM h2
    refine tr_condTe (e := !v1) (congrArg not h2) (by kernel_rfl) ?_
    refine tr_sr hT hm [] [12, 14] [(12, .d (nilv)), (14, .d (iv 1))] .nil (by kernel_rfl) (by kernel_rfl) ?_
    refine tr_ret (q_r (rg_r ?_))
    refine RetG.by (imp_cvS (k := 12) (d' := .fr 1 ([] : List Int).length (([] : List Int).flatMap eI.o)) Sub.nil_fr (by kernel_rfl)) ?_
    obtain rfl := Option.some.inj hM
    exact retg (names := []) .nil (by kernel_rfl)

theorem ok58 : CallOk Try.prog 58 := callOk_of Try.func58 (by kernel_rfl) (by kernel_rfl)
theorem laws_markCone_c (a0 : XCone) (a1 : Int) (r : Int × XCone) (hM : M.laws_markCone a0 a1 = some r) :
    FnC Try.prog 58 [(101, .arr 1 (a0.Legs.flatMap eI.o) [])] [.agg [iv a0.Apex, .rs 101 0 a0.Legs.length], iv a1] [(101, .arr 1 (r.2.Legs.flatMap eI.o) [])] (iv r.1) := by
  refine fnc_startG (N := 10) (np := 500) hT Try.func58 rfl rfl (by kernel_rfl) ?_
  unfold M.laws_markCone at hM
  refine tr_start (ks := [0, 2, 203]) (st' := [(0, .d (.agg (rsC 100 (eXCone.o a0)))), (2, .d (iv a1)), (203, .r (.arr 1 (a0.Legs.flatMap eI.o) []))]) (by kernel_rfl) ?_
  refine tr_sr hT hm [] [2, 4, 203, 2005] [(2, .d (iv a1)), (4, .d (.rp 1002 0)), (203, .r (.arr 1 (a0.Legs.flatMap eI.o) [])), bxO 2005 100 (eXCone.o a0)] .nil (by kernel_rfl) (by kernel_rfl) ?_
  obtain ⟨v1, hv1, hM⟩ := bind_some' hM
  refine tr_sr hT hm [(3, .call [] [(0, 101)] [.rs 0 0 a0.Legs.length, iv a1] [(0, .arr 1 (v1.2.flatMap eI.o) [])] (iv v1.1))] [2, 203] [(2, .d (iv v1.1)), (203, .r (.arr 1 (v1.2.flatMap eI.o) []))] (cc (B := []) (ρ := [(0, 101)]) (rB := []) ok37 (laws_markInt64S_c a0.Legs a1 _ hv1) (.cons (.pass (.rs rfl)) (.cons (.same rfl) .nil)) (.inl rfl) .nil) (by kernel_rfl) (by kernel_rfl) ?_
  refine tr_sr hT hm [] [8, 203] [(8, .d (iv v1.1)), (203, .r (.arr 1 (v1.2.flatMap eI.o) []))] .nil (by kernel_rfl) (by kernel_rfl) ?_
  refine tr_ret (rg_r ?_)
  obtain rfl := Option.some.inj hM
  exact retg (names := [101]) .nil (by kernel_rfl)

end Go.Proofs.Ytiikkfdehbcfaaa.Wz23
