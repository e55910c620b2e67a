/- Walks. Printed by wip/gen. -/
import Derived.Test.YtiikkfdehbcfaaaGxz37W0
namespace Go.Proofs.Ytiikkfdehbcfaaa.Wz37
open Go.Gx Go.Proofs.Ytiikkfdehbcfaaa.WvB Go.Proofs.Ytiikkfdehbcfaaa.WyT Go.Proofs.Ytiikkfdehbcfaaa.WyP Go.Proofs.Ytiikkfdehbcfaaa.WyN Go.Proofs.Ytiikkfdehbcfaaa.WzC Go.Proofs.Ytiikkfdehbcfaaa.WvI Go.Proofs.Ytiikkfdehbcfaaa.WzU

theorem ok214 : CallOk Try.prog 214 := callOk_of Try.func214 (by kernel_rfl) (by kernel_rfl)
theorem spec_l09Arrows_c (a0 : XFunctor) (a1 : XFunctor) (a2 : List (List Int)) (r : (List (List Int))) (hM : M.spec_l09Arrows a0 a1 a2 = some r) :
    FnC Try.prog 214 [] [.agg (eXFunctor.b a0), .agg (eXFunctor.b a1), .sl a2.length 0 (a2.flatMap (eS eI).b)] [] (.fr 1 r.length (r.flatMap (eS eI).o)) := by
  refine fnc_startG (N := 111) (np := 500) hT Try.func214 rfl rfl (by kernel_rfl) ?_
  unfold M.spec_l09Arrows at hM
  refine tr_start (ks := [0, 2, 4]) (st' := [(0, .d (.agg (eXFunctor.b a0))), (2, .d (.agg (eXFunctor.b a1))), (4, .d (.sl a2.length 0 (a2.flatMap (eS eI).b)))]) (by kernel_rfl) ?_
  refine tr_sr hT hm [] [4, 6, 8, 2007, 2009] [(4, .d (.sl a2.length 0 (a2.flatMap (eS eI).b))), (6, .d (.rp 1003 0)), (8, .d (.rp 1004 0)), bxB 2007 (eXFunctor.b a0), bxB 2009 (eXFunctor.b a1)] .nil (by kernel_rfl) (by kernel_rfl) ?_
  refine tr_sr hT hm [] [4, 6, 8, 14, 2007, 2009, 2033] [(4, .d (.sl a2.length 0 (a2.flatMap (eS eI).b))), (6, .d (.rp 1003 0)), (8, .d (.rp 1004 0)), (14, .d (.rs 1016 0 (([] : List (List Int)).length))), bxB 2007 (eXFunctor.b a0), bxB 2009 (eXFunctor.b a1), (2033, .r (.arr 1 (([] : List (List Int)).flatMap (eS eI).o) []))] .nil (by kernel_rfl) (by kernel_rfl) ?_
  refine tr_seq ?_
  refine tr_sr hT hm [] [4, 6, 8, 14, 16, 2007, 2009, 2033] [(4, .d (.sl a2.length 0 (a2.flatMap (eS eI).b))), (6, .d (.rp 1003 0)), (8, .d (.rp 1004 0)), (14, .d (.rs 1016 0 (([] : List (List Int)).length))), (16, .d (iv 0)), bxB 2007 (eXFunctor.b a0), bxB 2009 (eXFunctor.b a1), (2033, .r (.arr 1 (([] : List (List Int)).flatMap (eS eI).o) []))] .nil (by kernel_rfl) (by kernel_rfl) ?_
  refine tr_block ?_
  refine tr_iterS (fun (s1 : (List (List Int)) × Int) => [(4, .d (.sl a2.length 0 (a2.flatMap (eS eI).b))), (6, .d (.rp 1003 0)), (8, .d (.rp 1004 0)), (14, .d (.rs 1016 0 s1.1.length)), (16, .d (iv s1.2)), bxB 2007 (eXFunctor.b a0), bxB 2009 (eXFunctor.b a1), (2033, .r (.arr 1 (s1.1.flatMap (eS eI).o) []))]) (([] : List (List Int)), 0) [4, 6, 8, 14, 16, 2007, 2009, 2033] (by kernel_rfl) hM ?_
  intro n4 next2 ih3 s1 hM
  refine tr_seq ?_
  refine tr_sr hT hm [] [4, 6, 8, 14, 16, 40, 2007, 2009, 2033] [(4, .d (.sl a2.length 0 (a2.flatMap (eS eI).b))), (6, .d (.rp 1003 0)), (8, .d (.rp 1004 0)), (14, .d (.rs 1016 0 s1.1.length)), (16, .d (iv s1.2)), (40, .d (bv (decide (s1.2 < (a2.length : Int))))), bxB 2007 (eXFunctor.b a0), bxB 2009 (eXFunctor.b a1), (2033, .r (.arr 1 (s1.1.flatMap (eS eI).o) []))] .nil (by kernel_rfl) (by kernel_rfl) ?_
  rcases Bool.eq_false_or_eq_true (decide (s1.2 < (a2.length : Int))) with h5 | h5
  · have hM := ite_true' hM h5
    refine tr_condTe (e := decide (s1.2 < (a2.length : Int))) h5 (by kernel_rfl) ?_
    refine tr_skip (q_n ?_)
    refine tr_seq ?_
    refine tr_block ?_
    refine tr_sr hT hm [] [4, 6, 8, 14, 16, 18, 2007, 2009, 2033] [(4, .d (.sl a2.length 0 (a2.flatMap (eS eI).b))), (6, .d (.rp 1003 0)), (8, .d (.rp 1004 0)), (14, .d (.rs 1016 0 s1.1.length)), (16, .d (iv s1.2)), (18, .d (iv 0)), bxB 2007 (eXFunctor.b a0), bxB 2009 (eXFunctor.b a1), (2033, .r (.arr 1 (s1.1.flatMap (eS eI).o) []))] .nil (by kernel_rfl) (by kernel_rfl) ?_
    refine tr_block ?_
    refine tr_iterS (fun (s6 : (List (List Int)) × Int) => [(4, .d (.sl a2.length 0 (a2.flatMap (eS eI).b))), (6, .d (.rp 1003 0)), (8, .d (.rp 1004 0)), (14, .d (.rs 1016 0 s6.1.length)), (16, .d (iv s1.2)), (18, .d (iv s6.2)), bxB 2007 (eXFunctor.b a0), bxB 2009 (eXFunctor.b a1), (2033, .r (.arr 1 (s6.1.flatMap (eS eI).o) []))]) (s1.1, 0) [4, 6, 8, 14, 16, 18, 2007, 2009, 2033] (by kernel_rfl) hM ?_
    intro n9 next7 ih8 s6 hM
    refine tr_seq ?_
    refine tr_sr hT hm [] [4, 6, 8, 14, 16, 18, 52, 2007, 2009, 2033] [(4, .d (.sl a2.length 0 (a2.flatMap (eS eI).b))), (6, .d (.rp 1003 0)), (8, .d (.rp 1004 0)), (14, .d (.rs 1016 0 s6.1.length)), (16, .d (iv s1.2)), (18, .d (iv s6.2)), (52, .d (bv (decide (s6.2 < (a2.length : Int))))), bxB 2007 (eXFunctor.b a0), bxB 2009 (eXFunctor.b a1), (2033, .r (.arr 1 (s6.1.flatMap (eS eI).o) []))] .nil (by kernel_rfl) (by kernel_rfl) ?_
    rcases Bool.eq_false_or_eq_true (decide (s6.2 < (a2.length : Int))) with h10 | h10
    · have hM := ite_true' hM h10
      refine tr_condTe (e := decide (s6.2 < (a2.length : Int))) h10 (by kernel_rfl) ?_
      refine tr_skip (q_n ?_)
      refine tr_seq ?_
      refine tr_block ?_
      obtain ⟨y11, hy11, hM⟩ := bind_some' hM
      have hy11' := idx_some hy11
      obtain ⟨y12, hy12, hM⟩ := bind_some' hM
      have hy12' := idx_some hy12
      refine tr_sr hT hm [(3, .val (.sl y11.length 0 (y11.flatMap eI.b))), (7, .val (.sl y12.length 0 (y12.flatMap eI.b)))] [4, 6, 8, 14, 16, 18, 20, 22, 2007, 2009, 2033] [(4, .d (.sl a2.length 0 (a2.flatMap (eS eI).b))), (6, .d (.rp 1003 0)), (8, .d (.rp 1004 0)), (14, .d (.rs 1016 0 s6.1.length)), (16, .d (iv s1.2)), (18, .d (iv s6.2)), (20, .d (.sl y11.length 0 (y11.flatMap eI.b))), (22, .d (.sl y12.length 0 (y12.flatMap eI.b))), bxB 2007 (eXFunctor.b a0), bxB 2009 (eXFunctor.b a1), (2033, .r (.arr 1 (s6.1.flatMap (eS eI).o) []))] (.cons hy11'.1 (.cons hy11'.2.1 (.cons (at_b0 (eS_ok eI_ok) hy11'.2.2 (d := .sl y11.length 0 (y11.flatMap eI.b)) (by kernel_rfl)) (.cons hy12'.1 (.cons hy12'.2.1 (.cons (at_b0 (eS_ok eI_ok) hy12'.2.2 (d := .sl y12.length 0 (y12.flatMap eI.b)) (by kernel_rfl)) .nil)))))) (by kernel_rfl) (by kernel_rfl) ?_
      obtain ⟨y13, hy13, hM⟩ := bind_some' hM
      have hy13' := idx_some hy13
      obtain ⟨y14, hy14, hM⟩ := bind_some' hM
      have hy14' := idx_some hy14
      obtain ⟨v15, hv15, hM⟩ := bind_some' hM
      obtain ⟨y16, hy16, hM⟩ := bind_some' hM
      have hy16' := idx_some hy16
      obtain ⟨y17, hy17, hM⟩ := bind_some' hM
      have hy17' := idx_some hy17
      obtain ⟨v18, hv18, hM⟩ := bind_some' hM
      refine tr_sr hT hm [(4, .val (iv y13)), (7, .val (iv y14)), (8, .call [] [] [.agg (eXCategory.b a0.Source), iv y13, iv y14] [] (.fr 1 v15.length (v15.flatMap eI.o))), (13, .val (iv y16)), (16, .val (iv y17)), (17, .call [] [] [.agg (eXCategory.b a1.Source), iv y16, iv y17] [] (.fr 1 v18.length (v18.flatMap eI.o)))] [4, 6, 8, 14, 16, 18, 20, 22, 24, 26, 2007, 2009, 2033, 94001, 112001] [(4, .d (.sl a2.length 0 (a2.flatMap (eS eI).b))), (6, .d (.rp 1003 0)), (8, .d (.rp 1004 0)), (14, .d (.rs 1016 0 s6.1.length)), (16, .d (iv s1.2)), (18, .d (iv s6.2)), (20, .d (.sl y11.length 0 (y11.flatMap eI.b))), (22, .d (.sl y12.length 0 (y12.flatMap eI.b))), (24, .d (.rs 47000 0 v15.length)), (26, .d (.rs 56000 0 v18.length)), bxB 2007 (eXFunctor.b a0), bxB 2009 (eXFunctor.b a1), (2033, .r (.arr 1 (s6.1.flatMap (eS eI).o) [])), (94001, .r (.arr 1 (v15.flatMap eI.o) [])), (112001, .r (.arr 1 (v18.flatMap eI.o) []))] (.cons hy13'.1 (.cons hy13'.2.1 (.cons (at_b0 eI_ok hy13'.2.2 (d := iv y13) (by kernel_rfl)) (.cons hy14'.1 (.cons hy14'.2.1 (.cons (at_b0 eI_ok hy14'.2.2 (d := iv y14) (by kernel_rfl)) (cc0 ok192 (spec_l02Hom_c a0.Source y13 y14 _ hv15) (by kernel_rfl) (.cons hy16'.1 (.cons hy16'.2.1 (.cons (at_b0 eI_ok hy16'.2.2 (d := iv y16) (by kernel_rfl)) (.cons hy17'.1 (.cons hy17'.2.1 (.cons (at_b0 eI_ok hy17'.2.2 (d := iv y17) (by kernel_rfl)) (cc0 ok192 (spec_l02Hom_c a1.Source y16 y17 _ hv18) (by kernel_rfl) .nil)))))))))))))) (by kernel_rfl) (by kernel_rfl) ?_
      refine tr_sr hT hm [] [4, 6, 8, 14, 16, 18, 20, 22, 24, 26, 28, 2007, 2009, 2033, 94001, 112001] [(4, .d (.sl a2.length 0 (a2.flatMap (eS eI).b))), (6, .d (.rp 1003 0)), (8, .d (.rp 1004 0)), (14, .d (.rs 1016 0 s6.1.length)), (16, .d (iv s1.2)), (18, .d (iv s6.2)), (20, .d (.sl y11.length 0 (y11.flatMap eI.b))), (22, .d (.sl y12.length 0 (y12.flatMap eI.b))), (24, .d (.rs 47000 0 v15.length)), (26, .d (.rs 56000 0 v18.length)), (28, .d (iv 0)), bxB 2007 (eXFunctor.b a0), bxB 2009 (eXFunctor.b a1), (2033, .r (.arr 1 (s6.1.flatMap (eS eI).o) [])), (94001, .r (.arr 1 (v15.flatMap eI.o) [])), (112001, .r (.arr 1 (v18.flatMap eI.o) []))] .nil (by kernel_rfl) (by kernel_rfl) ?_
      refine tr_block ?_
      refine tr_iterS (fun (s19 : (List (List Int)) × Int) => [(4, .d (.sl a2.length 0 (a2.flatMap (eS eI).b))), (6, .d (.rp 1003 0)), (8, .d (.rp 1004 0)), (14, .d (.rs 1016 0 s19.1.length)), (16, .d (iv s1.2)), (18, .d (iv s6.2)), (20, .d (.sl y11.length 0 (y11.flatMap eI.b))), (22, .d (.sl y12.length 0 (y12.flatMap eI.b))), (24, .d (.rs 47000 0 v15.length)), (26, .d (.rs 56000 0 v18.length)), (28, .d (iv s19.2)), bxB 2007 (eXFunctor.b a0), bxB 2009 (eXFunctor.b a1), (2033, .r (.arr 1 (s19.1.flatMap (eS eI).o) [])), (94001, .r (.arr 1 (v15.flatMap eI.o) [])), (112001, .r (.arr 1 (v18.flatMap eI.o) []))]) (s6.1, 0) [4, 6, 8, 14, 16, 18, 20, 22, 24, 26, 28, 2007, 2009, 2033, 94001, 112001] (by kernel_rfl) hM ?_
      intro n22 next20 ih21 s19 hM
      refine tr_seq ?_
      refine tr_sr hT hm [] [4, 6, 8, 14, 16, 18, 20, 22, 24, 26, 28, 116, 2007, 2009, 2033, 94001, 112001] [(4, .d (.sl a2.length 0 (a2.flatMap (eS eI).b))), (6, .d (.rp 1003 0)), (8, .d (.rp 1004 0)), (14, .d (.rs 1016 0 s19.1.length)), (16, .d (iv s1.2)), (18, .d (iv s6.2)), (20, .d (.sl y11.length 0 (y11.flatMap eI.b))), (22, .d (.sl y12.length 0 (y12.flatMap eI.b))), (24, .d (.rs 47000 0 v15.length)), (26, .d (.rs 56000 0 v18.length)), (28, .d (iv s19.2)), (116, .d (bv (decide (s19.2 < (v15.length : Int))))), bxB 2007 (eXFunctor.b a0), bxB 2009 (eXFunctor.b a1), (2033, .r (.arr 1 (s19.1.flatMap (eS eI).o) [])), (94001, .r (.arr 1 (v15.flatMap eI.o) [])), (112001, .r (.arr 1 (v18.flatMap eI.o) []))] .nil (by kernel_rfl) (by kernel_rfl) ?_
      rcases Bool.eq_false_or_eq_true (decide (s19.2 < (v15.length : Int))) with h23 | h23
      · have hM := ite_true' hM h23
        refine tr_condTe (e := decide (s19.2 < (v15.length : Int))) h23 (by kernel_rfl) ?_
        refine tr_skip (q_n ?_)
        refine tr_seq ?_
        refine tr_block ?_
        refine tr_sr hT hm [] [4, 6, 8, 14, 16, 18, 20, 22, 24, 26, 28, 30, 2007, 2009, 2033, 94001, 112001] [(4, .d (.sl a2.length 0 (a2.flatMap (eS eI).b))), (6, .d (.rp 1003 0)), (8, .d (.rp 1004 0)), (14, .d (.rs 1016 0 s19.1.length)), (16, .d (iv s1.2)), (18, .d (iv s6.2)), (20, .d (.sl y11.length 0 (y11.flatMap eI.b))), (22, .d (.sl y12.length 0 (y12.flatMap eI.b))), (24, .d (.rs 47000 0 v15.length)), (26, .d (.rs 56000 0 v18.length)), (28, .d (iv s19.2)), (30, .d (iv 0)), bxB 2007 (eXFunctor.b a0), bxB 2009 (eXFunctor.b a1), (2033, .r (.arr 1 (s19.1.flatMap (eS eI).o) [])), (94001, .r (.arr 1 (v15.flatMap eI.o) [])), (112001, .r (.arr 1 (v18.flatMap eI.o) []))] .nil (by kernel_rfl) (by kernel_rfl) ?_
        refine tr_block ?_
        refine tr_iterS (fun (s24 : (List (List Int)) × Int) => [(4, .d (.sl a2.length 0 (a2.flatMap (eS eI).b))), (6, .d (.rp 1003 0)), (8, .d (.rp 1004 0)), (14, .d (.rs 1016 0 s24.1.length)), (16, .d (iv s1.2)), (18, .d (iv s6.2)), (20, .d (.sl y11.length 0 (y11.flatMap eI.b))), (22, .d (.sl y12.length 0 (y12.flatMap eI.b))), (24, .d (.rs 47000 0 v15.length)), (26, .d (.rs 56000 0 v18.length)), (28, .d (iv s19.2)), (30, .d (iv s24.2)), bxB 2007 (eXFunctor.b a0), bxB 2009 (eXFunctor.b a1), (2033, .r (.arr 1 (s24.1.flatMap (eS eI).o) [])), (94001, .r (.arr 1 (v15.flatMap eI.o) [])), (112001, .r (.arr 1 (v18.flatMap eI.o) []))]) (s19.1, 0) [4, 6, 8, 14, 16, 18, 20, 22, 24, 26, 28, 30, 2007, 2009, 2033, 94001, 112001] (by kernel_rfl) hM ?_
        intro n27 next25 ih26 s24 hM
        refine tr_seq ?_
        refine tr_sr hT hm [] [4, 6, 8, 14, 16, 18, 20, 22, 24, 26, 28, 30, 128, 2007, 2009, 2033, 94001, 112001] [(4, .d (.sl a2.length 0 (a2.flatMap (eS eI).b))), (6, .d (.rp 1003 0)), (8, .d (.rp 1004 0)), (14, .d (.rs 1016 0 s24.1.length)), (16, .d (iv s1.2)), (18, .d (iv s6.2)), (20, .d (.sl y11.length 0 (y11.flatMap eI.b))), (22, .d (.sl y12.length 0 (y12.flatMap eI.b))), (24, .d (.rs 47000 0 v15.length)), (26, .d (.rs 56000 0 v18.length)), (28, .d (iv s19.2)), (30, .d (iv s24.2)), (128, .d (bv (decide (s24.2 < (v18.length : Int))))), bxB 2007 (eXFunctor.b a0), bxB 2009 (eXFunctor.b a1), (2033, .r (.arr 1 (s24.1.flatMap (eS eI).o) [])), (94001, .r (.arr 1 (v15.flatMap eI.o) [])), (112001, .r (.arr 1 (v18.flatMap eI.o) []))] .nil (by kernel_rfl) (by kernel_rfl) ?_
        rcases Bool.eq_false_or_eq_true (decide (s24.2 < (v18.length : Int))) with h28 | h28
        · have hM := ite_true' hM h28
          refine tr_condTe (e := decide (s24.2 < (v18.length : Int))) h28 (by kernel_rfl) ?_
          refine tr_skip (q_n ?_)
          refine tr_seq ?_
          refine tr_block ?_
          obtain ⟨y29, hy29, hM⟩ := bind_some' hM
          have hy29' := idx_some hy29
          obtain ⟨y30, hy30, hM⟩ := bind_some' hM
          have hy30' := idx_some hy30
          obtain ⟨y31, hy31, hM⟩ := bind_some' hM
          have hy31' := idx_some hy31
          obtain ⟨v32, hv32, hM⟩ := bind_some' hM
          obtain ⟨y33, hy33, hM⟩ := bind_some' hM
          have hy33' := idx_some hy33
          obtain ⟨y34, hy34, hM⟩ := bind_some' hM
          have hy34' := idx_some hy34
          obtain ⟨y35, hy35, hM⟩ := bind_some' hM
          have hy35' := idx_some hy35
          obtain ⟨v36, hv36, hM⟩ := bind_some' hM
          refine tr_sr hT hm [(7, .val (iv y29)), (9, .val (iv y30)), (12, .val (iv y31)), (13, .call [] [] [.agg (eXCategory.b a0.Target), iv y30, iv y31] [] (iv v32)), (18, .val (iv y33)), (24, .val (iv y34)), (26, .val (iv y35)), (27, .call [] [] [.agg (eXCategory.b a0.Target), iv y33, iv y35] [] (iv v36))] [4, 6, 8, 14, 16, 18, 20, 22, 24, 26, 28, 30, 190, 2007, 2009, 2033, 94001, 112001] [(4, .d (.sl a2.length 0 (a2.flatMap (eS eI).b))), (6, .d (.rp 1003 0)), (8, .d (.rp 1004 0)), (14, .d (.rs 1016 0 s24.1.length)), (16, .d (iv s1.2)), (18, .d (iv s6.2)), (20, .d (.sl y11.length 0 (y11.flatMap eI.b))), (22, .d (.sl y12.length 0 (y12.flatMap eI.b))), (24, .d (.rs 47000 0 v15.length)), (26, .d (.rs 56000 0 v18.length)), (28, .d (iv s19.2)), (30, .d (iv s24.2)), (190, .d (bv (v32 == v36))), bxB 2007 (eXFunctor.b a0), bxB 2009 (eXFunctor.b a1), (2033, .r (.arr 1 (s24.1.flatMap (eS eI).o) [])), (94001, .r (.arr 1 (v15.flatMap eI.o) [])), (112001, .r (.arr 1 (v18.flatMap eI.o) []))] (.cons hy29'.1 (.cons hy29'.2.1 (.cons (at_o0 eI_ok hy29'.2.2 (d := iv y29) (by kernel_rfl)) (.cons hy30'.1 (.cons hy30'.2.1 (.cons (at_b0 eI_ok hy30'.2.2 (d := iv y30) (by kernel_rfl)) (.cons hy31'.1 (.cons hy31'.2.1 (.cons (at_b0 eI_ok hy31'.2.2 (d := iv y31) (by kernel_rfl)) (cc0 ok113 (spec_l02Then_c a0.Target y30 y31 _ hv32) (by kernel_rfl) (.cons hy33'.1 (.cons hy33'.2.1 (.cons (at_b0 eI_ok hy33'.2.2 (d := iv y33) (by kernel_rfl)) (.cons hy34'.1 (.cons hy34'.2.1 (.cons (at_o0 eI_ok hy34'.2.2 (d := iv y34) (by kernel_rfl)) (.cons hy35'.1 (.cons hy35'.2.1 (.cons (at_b0 eI_ok hy35'.2.2 (d := iv y35) (by kernel_rfl)) (cc0 ok113 (spec_l02Then_c a0.Target y33 y35 _ hv36) (by kernel_rfl) .nil)))))))))))))))))))) (by kernel_rfl) (by kernel_rfl) ?_
          rcases Bool.eq_false_or_eq_true (v32 == v36) with h37 | h37
          · have hM := ite_true' hM h37
            refine tr_condTe (e := v32 == v36) h37 (by kernel_rfl) ?_
            obtain ⟨h38, hM⟩ := chk_some hM
            refine tr_r hT hm [(6, .val (iv y29)), (10, .val (iv y34)), (13, .app true)] [4, 6, 8, 14, 16, 18, 20, 22, 24, 26, 28, 30, 2007, 2009, 2215, 2219, 94001, 112001] [(4, .d (.sl a2.length 0 (a2.flatMap (eS eI).b))), (6, .d (.rp 1003 0)), (8, .d (.rp 1004 0)), (14, .d (.rs 1109 0 (s24.1.length + 1))), (16, .d (iv s1.2)), (18, .d (iv s6.2)), (20, .d (.sl y11.length 0 (y11.flatMap eI.b))), (22, .d (.sl y12.length 0 (y12.flatMap eI.b))), (24, .d (.rs 47000 0 v15.length)), (26, .d (.rs 56000 0 v18.length)), (28, .d (iv s19.2)), (30, .d (iv s24.2)), bxB 2007 (eXFunctor.b a0), bxB 2009 (eXFunctor.b a1), (2215, .r (.arr 1 (([s1.2, s6.2, y29, y34] : List Int).flatMap eI.o) [])), (2219, .r (.arr 1 (s24.1.flatMap (eS eI).o ++ [.rs 1107 0 (([s1.2, s6.2, y29, y34] : List Int).length)]) [1107])), (94001, .r (.arr 1 (v15.flatMap eI.o) [])), (112001, .r (.arr 1 (v18.flatMap eI.o) []))] (.cons hy29'.1 (.cons hy29'.2.1 (.cons (at_o0 eI_ok hy29'.2.2 (d := iv y29) (by kernel_rfl)) (.cons hy34'.1 (.cons hy34'.2.1 (.cons (at_o0 eI_ok hy34'.2.2 (d := iv y34) (by kernel_rfl)) (.cons (lenO_flat (eS_ok eI_ok) s24.1) (.cons (by kernel_rfl : ([.rs 1107 0 (([s1.2, s6.2, y29, y34] : List Int).length)] : List D).length = 1 * 1) (.cons h38 .nil))))))))) (by kernel_rfl) (by kernel_rfl) (b_n (q_n ?_))
            refine Tr.by (imp_demE (r := 1109) (q := 1107) (sz := 1) (n := (([s1.2, s6.2, y29, y34] : List Int).length)) (j := 0) (pre := s24.1.flatMap (eS eI).o) (l := [.rs 1107 0 (([s1.2, s6.2, y29, y34] : List Int).length)]) (refs := [1107]) (refs' := []) (menO_flat (eS_ok eI_ok) _) (lenO_flat eI_ok ([s1.2, s6.2, y29, y34] : List Int)) (by kernel_rfl) (by kernel_rfl) (by kernel_rfl) (by kernel_rfl) (by kernel_rfl)) ?_
            refine Tr.by (imp_cvE (r := 1109) (sz := 1) (refs := []) (flat_snoc (eS eI).o s24.1 [s1.2, s6.2, y29, y34]) (menO_flat (eS_ok eI_ok) _) (by kernel_rfl)) ?_
            refine Tr.by (imp_cvD (k := 14) (congrArg (D.rs 1109 0) ((len_snoc s24.1 [s1.2, s6.2, y29, y34]) : s24.1.length + 1 = (s24.1 ++ [[s1.2, s6.2, y29, y34]]).length)) (by kernel_rfl)) ?_
            refine tr_r hT hm [] [4, 6, 8, 14, 16, 18, 20, 22, 24, 26, 28, 30, 2007, 2009, 2219, 94001, 112001] [(4, .d (.sl a2.length 0 (a2.flatMap (eS eI).b))), (6, .d (.rp 1003 0)), (8, .d (.rp 1004 0)), (14, .d (.rs 1109 0 ((s24.1 ++ [[s1.2, s6.2, y29, y34]]).length))), (16, .d (iv s1.2)), (18, .d (iv s6.2)), (20, .d (.sl y11.length 0 (y11.flatMap eI.b))), (22, .d (.sl y12.length 0 (y12.flatMap eI.b))), (24, .d (.rs 47000 0 v15.length)), (26, .d (.rs 56000 0 v18.length)), (28, .d (iv s19.2)), (30, .d (iv (IntKind.i64.wrap (s24.2 + 1)))), bxB 2007 (eXFunctor.b a0), bxB 2009 (eXFunctor.b a1), (2219, .r (.arr 1 ((s24.1 ++ [[s1.2, s6.2, y29, y34]]).flatMap (eS eI).o) [])), (94001, .r (.arr 1 (v15.flatMap eI.o) [])), (112001, .r (.arr 1 (v18.flatMap eI.o) []))] .nil (by kernel_rfl) (by kernel_rfl) (l_n ?_)
            refine TrL.by (imp_sel (ks := [4, 6, 8, 14, 16, 18, 20, 22, 24, 26, 28, 30, 2007, 2009, 2219, 94001, 112001]) (st' := [(4, .d (.sl a2.length 0 (a2.flatMap (eS eI).b))), (6, .d (.rp 1003 0)), (8, .d (.rp 1004 0)), (14, .d (.rs 1109 0 ((s24.1 ++ [[s1.2, s6.2, y29, y34]]).length))), (16, .d (iv s1.2)), (18, .d (iv s6.2)), (20, .d (.sl y11.length 0 (y11.flatMap eI.b))), (22, .d (.sl y12.length 0 (y12.flatMap eI.b))), (24, .d (.rs 47000 0 v15.length)), (26, .d (.rs 56000 0 v18.length)), (28, .d (iv s19.2)), (30, .d (iv (IntKind.i64.wrap (s24.2 + 1)))), bxB 2007 (eXFunctor.b a0), bxB 2009 (eXFunctor.b a1), (2219, .r (.arr 1 ((s24.1 ++ [[s1.2, s6.2, y29, y34]]).flatMap (eS eI).o) [])), (94001, .r (.arr 1 (v15.flatMap eI.o) [])), (112001, .r (.arr 1 (v18.flatMap eI.o) []))]) (by kernel_rfl)) ?_
            refine TrL.by (imp_rename (r := 1109) (q := 1016) (by kernel_rfl) (Nat.le_of_ble_eq_true rfl)) ?_
            exact trl_start (ks := [4, 6, 8, 14, 16, 18, 20, 22, 24, 26, 28, 30, 2007, 2009, 2033, 94001, 112001]) (by kernel_rfl) (ih26 (s24.1 ++ [[s1.2, s6.2, y29, y34]], IntKind.i64.wrap (s24.2 + 1)) hM)
          · have hM := ite_false' hM h37
            refine tr_condFe (e := v32 == v36) h37 (by kernel_rfl) ?_
            refine tr_skip (b_n (q_n ?_))
            refine tr_r hT hm [] [4, 6, 8, 14, 16, 18, 20, 22, 24, 26, 28, 30, 2007, 2009, 2033, 94001, 112001] [(4, .d (.sl a2.length 0 (a2.flatMap (eS eI).b))), (6, .d (.rp 1003 0)), (8, .d (.rp 1004 0)), (14, .d (.rs 1016 0 s24.1.length)), (16, .d (iv s1.2)), (18, .d (iv s6.2)), (20, .d (.sl y11.length 0 (y11.flatMap eI.b))), (22, .d (.sl y12.length 0 (y12.flatMap eI.b))), (24, .d (.rs 47000 0 v15.length)), (26, .d (.rs 56000 0 v18.length)), (28, .d (iv s19.2)), (30, .d (iv (IntKind.i64.wrap (s24.2 + 1)))), bxB 2007 (eXFunctor.b a0), bxB 2009 (eXFunctor.b a1), (2033, .r (.arr 1 (s24.1.flatMap (eS eI).o) [])), (94001, .r (.arr 1 (v15.flatMap eI.o) [])), (112001, .r (.arr 1 (v18.flatMap eI.o) []))] .nil (by kernel_rfl) (by kernel_rfl) (l_n ?_)
            exact trl_start (ks := [4, 6, 8, 14, 16, 18, 20, 22, 24, 26, 28, 30, 2007, 2009, 2033, 94001, 112001]) (by kernel_rfl) (ih26 (s24.1, IntKind.i64.wrap (s24.2 + 1)) hM)
        · have hM := ite_false' hM h28
          refine tr_condFe (e := decide (s24.2 < (v18.length : Int))) h28 (by kernel_rfl) ?_
          refine tr_exit (q_x (l_x (b_h (b_n (q_n ?_)))))
          refine tr_r hT hm [] [4, 6, 8, 14, 16, 18, 20, 22, 24, 26, 28, 2007, 2009, 2033, 94001, 112001] [(4, .d (.sl a2.length 0 (a2.flatMap (eS eI).b))), (6, .d (.rp 1003 0)), (8, .d (.rp 1004 0)), (14, .d (.rs 1016 0 s24.1.length)), (16, .d (iv s1.2)), (18, .d (iv s6.2)), (20, .d (.sl y11.length 0 (y11.flatMap eI.b))), (22, .d (.sl y12.length 0 (y12.flatMap eI.b))), (24, .d (.rs 47000 0 v15.length)), (26, .d (.rs 56000 0 v18.length)), (28, .d (iv (IntKind.i64.wrap (s19.2 + 1)))), bxB 2007 (eXFunctor.b a0), bxB 2009 (eXFunctor.b a1), (2033, .r (.arr 1 (s24.1.flatMap (eS eI).o) [])), (94001, .r (.arr 1 (v15.flatMap eI.o) [])), (112001, .r (.arr 1 (v18.flatMap eI.o) []))] .nil (by kernel_rfl) (by kernel_rfl) (l_n ?_)
          exact trl_start (ks := [4, 6, 8, 14, 16, 18, 20, 22, 24, 26, 28, 2007, 2009, 2033, 94001, 112001]) (by kernel_rfl) (ih21 (s24.1, IntKind.i64.wrap (s19.2 + 1)) hM)
      · have hM := ite_false' hM h23
        refine tr_condFe (e := decide (s19.2 < (v15.length : Int))) h23 (by kernel_rfl) ?_
        refine tr_exit (q_x (l_x (b_h (b_n (q_n ?_)))))
        refine tr_r hT hm [] [4, 6, 8, 14, 16, 18, 2007, 2009, 2033] [(4, .d (.sl a2.length 0 (a2.flatMap (eS eI).b))), (6, .d (.rp 1003 0)), (8, .d (.rp 1004 0)), (14, .d (.rs 1016 0 s19.1.length)), (16, .d (iv s1.2)), (18, .d (iv (IntKind.i64.wrap (s6.2 + 1)))), bxB 2007 (eXFunctor.b a0), bxB 2009 (eXFunctor.b a1), (2033, .r (.arr 1 (s19.1.flatMap (eS eI).o) []))] .nil (by kernel_rfl) (by kernel_rfl) (l_n ?_)
        exact trl_start (ks := [4, 6, 8, 14, 16, 18, 2007, 2009, 2033]) (by kernel_rfl) (ih8 (s19.1, IntKind.i64.wrap (s6.2 + 1)) hM)
    · have hM := ite_false' hM h10
      refine tr_condFe (e := decide (s6.2 < (a2.length : Int))) h10 (by kernel_rfl) ?_
      refine tr_exit (q_x (l_x (b_h (b_n (q_n ?_)))))
      refine tr_r hT hm [] [4, 6, 8, 14, 16, 2007, 2009, 2033] [(4, .d (.sl a2.length 0 (a2.flatMap (eS eI).b))), (6, .d (.rp 1003 0)), (8, .d (.rp 1004 0)), (14, .d (.rs 1016 0 s6.1.length)), (16, .d (iv (IntKind.i64.wrap (s1.2 + 1)))), bxB 2007 (eXFunctor.b a0), bxB 2009 (eXFunctor.b a1), (2033, .r (.arr 1 (s6.1.flatMap (eS eI).o) []))] .nil (by kernel_rfl) (by kernel_rfl) (l_n ?_)
      exact trl_start (ks := [4, 6, 8, 14, 16, 2007, 2009, 2033]) (by kernel_rfl) (ih3 (s6.1, IntKind.i64.wrap (s1.2 + 1)) hM)
  · have hM := ite_false' hM h5
    refine tr_condFe (e := decide (s1.2 < (a2.length : Int))) h5 (by kernel_rfl) ?_
    refine tr_exit (q_x (l_x (b_h (q_n ?_))))
    refine tr_sr hT hm [] [12, 2033] [(12, .d (.rs 1016 0 s1.1.length)), (2033, .r (.arr 1 (s1.1.flatMap (eS eI).o) []))] .nil (by kernel_rfl) (by kernel_rfl) ?_
    refine tr_ret (rg_r ?_)
    obtain rfl := Option.some.inj hM
    exact retg (names := []) (.cons (lenO_flat (eS_ok eI_ok) s1.1) .nil) (by kernel_rfl)

theorem ok132 : CallOk Try.prog 132 := callOk_of Try.func132 (by kernel_rfl) (by kernel_rfl)
theorem spec_l09Final_c (a0 : XFunctor) (r : Bool) (hM : M.spec_l09Final a0 = some r) :
    FnC Try.prog 132 [] [.agg (eXFunctor.b a0)] [] (bv r) := by
  refine fnc_startG (N := 70) (np := 500) hT Try.func132 rfl rfl (by kernel_rfl) ?_
  unfold M.spec_l09Final at hM
  refine tr_start (ks := [0]) (st' := [(0, .d (.agg (eXFunctor.b a0)))]) (by kernel_rfl) ?_
  refine tr_sr hT hm [] [2, 2003] [(2, .d (.rp 1001 0)), bxB 2003 (eXFunctor.b a0)] .nil (by kernel_rfl) (by kernel_rfl) ?_
  refine tr_seq ?_
  refine tr_sr hT hm [] [2, 6, 2003] [(2, .d (.rp 1001 0)), (6, .d (iv 0)), bxB 2003 (eXFunctor.b a0)] .nil (by kernel_rfl) (by kernel_rfl) ?_
  refine tr_block ?_
  refine tr_iterS (fun (s1 : Int) => [(2, .d (.rp 1001 0)), (6, .d (iv s1)), bxB 2003 (eXFunctor.b a0)]) 0 [2, 6, 2003] (by kernel_rfl) hM ?_
  intro n4 next2 ih3 s1 hM
  refine tr_seq ?_
  refine tr_sr hT hm [] [2, 6, 30, 2003] [(2, .d (.rp 1001 0)), (6, .d (iv s1)), (30, .d (bv (decide (s1 < a0.Target.Objects)))), bxB 2003 (eXFunctor.b a0)] .nil (by kernel_rfl) (by kernel_rfl) ?_
  rcases Bool.eq_false_or_eq_true (decide (s1 < a0.Target.Objects)) with h5 | h5
  · have hM := ite_true' hM h5
    refine tr_condTe (e := decide (s1 < a0.Target.Objects)) h5 (by kernel_rfl) ?_
    refine tr_skip (q_n ?_)
    refine tr_seq ?_
    refine tr_block ?_
    obtain ⟨v6, hv6, hM⟩ := bind_some' hM
    refine tr_sr hT hm [(3, .call [] [] [.agg (eXCategory.b a0.Target), iv s1] [] (.agg (eXFunctor.o v6)))] [2, 6, 8, 2003, 2009, 46003, 46005, 46007, 46009, 46013, 46015, 46017, 46019, 46021, 46023] ([(2, .d (.rp 1001 0)), (6, .d (iv s1)), (8, .d (.rp 1004 0)), bxB 2003 (eXFunctor.b a0), bxO 2009 23000 (eXFunctor.o v6)] ++ rsS 23000 (eXFunctor.o v6)) (cc0 ok212 (spec_l09Point_c a0.Target s1 _ hv6) (by kernel_rfl) (.cons (Nat.le_of_ble_eq_true (n := 12) (m := 12) rfl) .nil)) (by kernel_rfl) (by kernel_rfl) ?_
    obtain ⟨v7, hv7, hM⟩ := bind_some' hM
    refine tr_sr hT hm [(2, .call (rsR 23000 (eXFunctor.o v6)) [] [.agg (eXFunctor.b v6), .agg (eXFunctor.b a0)] [] (.fr 1 v7.length (v7.flatMap (eS eI).o)))] [2, 6, 8, 10, 2003, 2009, 46003, 46005, 46007, 46009, 46013, 46015, 46017, 46019, 46021, 46023, 52001] ([(2, .d (.rp 1001 0)), (6, .d (iv s1)), (8, .d (.rp 1004 0)), (10, .d (.rs 26000 0 v7.length)), bxB 2003 (eXFunctor.b a0), bxO 2009 23000 (eXFunctor.o v6)] ++ rsS 23000 (eXFunctor.o v6) ++ [(52001, .r (.arr 1 (v7.flatMap (eS eI).o) []))]) (cc (B := (rsR 23000 (eXFunctor.o v6))) (ρ := []) (rB := (rsP 23000 (eXFunctor.o v6))) ok213 (spec_l09Objects_c v6 a0 _ hv7) (.cons (bor_rs eXFunctor_r (q := 23000) (x := v6) (by kernel_rfl) (by kernel_rfl)) (.cons (.same rfl) .nil)) (.inr ⟨(.fr (nb_flat (eS_nb eI_nb) _)), trivial⟩) .nil) (by kernel_rfl) (by kernel_rfl) ?_
    obtain ⟨v8, hv8, hM⟩ := bind_some' hM
    refine tr_sr hT hm [(3, .call (rsR 23000 (eXFunctor.o v6) ++ [26000]) [] [.agg (eXFunctor.b v6), .agg (eXFunctor.b a0), .sl v7.length 0 (v7.flatMap (eS eI).b)] [] (.fr 1 v8.length (v8.flatMap (eS eI).o)))] [2, 6, 10, 12, 2003, 52001, 60001] [(2, .d (.rp 1001 0)), (6, .d (iv s1)), (10, .d (.rs 26000 0 v7.length)), (12, .d (.rs 30000 0 v8.length)), bxB 2003 (eXFunctor.b a0), (52001, .r (.arr 1 (v7.flatMap (eS eI).o) [])), (60001, .r (.arr 1 (v8.flatMap (eS eI).o) []))] (cc (B := (rsR 23000 (eXFunctor.o v6) ++ [26000])) (ρ := []) (rB := (rsP 23000 (eXFunctor.o v6) ++ [(26000, .arr 1 (v7.flatMap (eS eI).o) [])])) ok214 (spec_l09Arrows_c v6 a0 v7 _ hv8) (.cons (bor_rs eXFunctor_r (q := 23000) (x := v6) (by kernel_rfl) (by kernel_rfl)) (.cons (.same rfl) (.cons (.of1 (.rs (r := 26000) (sz := 1) (refs := []) (memB (by kernel_rfl)) (by kernel_rfl) (bor_flat (eS_ok eI_ok) _ _ _))) .nil))) (.inr ⟨(.fr (nb_flat (eS_nb eI_nb) _)), trivial⟩) .nil) (by kernel_rfl) (by kernel_rfl) ?_
    refine tr_sr hT hm [] [2, 6, 10, 12, 14, 2003, 2059, 52001, 60001] [(2, .d (.rp 1001 0)), (6, .d (iv s1)), (10, .d (.rs 26000 0 v7.length)), (12, .d (.rs 30000 0 v8.length)), (14, .d (.rs 1029 0 (([] : List (List Int)).length))), bxB 2003 (eXFunctor.b a0), (2059, .r (.arr 1 (([] : List (List Int)).flatMap (eS eI).o) [])), (52001, .r (.arr 1 (v7.flatMap (eS eI).o) [])), (60001, .r (.arr 1 (v8.flatMap (eS eI).o) []))] .nil (by kernel_rfl) (by kernel_rfl) ?_
    refine tr_seq ?_
    refine tr_sr hT hm [] [2, 6, 10, 12, 14, 16, 2003, 2059, 52001, 60001] [(2, .d (.rp 1001 0)), (6, .d (iv s1)), (10, .d (.rs 26000 0 v7.length)), (12, .d (.rs 30000 0 v8.length)), (14, .d (.rs 1029 0 (([] : List (List Int)).length))), (16, .d (iv 0)), bxB 2003 (eXFunctor.b a0), (2059, .r (.arr 1 (([] : List (List Int)).flatMap (eS eI).o) [])), (52001, .r (.arr 1 (v7.flatMap (eS eI).o) [])), (60001, .r (.arr 1 (v8.flatMap (eS eI).o) []))] .nil (by kernel_rfl) (by kernel_rfl) ?_
    refine tr_block ?_
    refine tr_iterS (fun (s9 : (List (List Int)) × Int) => [(2, .d (.rp 1001 0)), (6, .d (iv s1)), (10, .d (.rs 26000 0 v7.length)), (12, .d (.rs 30000 0 v8.length)), (14, .d (.rs 1029 0 s9.1.length)), (16, .d (iv s9.2)), bxB 2003 (eXFunctor.b a0), (2059, .r (.arr 1 (s9.1.flatMap (eS eI).o) [])), (52001, .r (.arr 1 (v7.flatMap (eS eI).o) [])), (60001, .r (.arr 1 (v8.flatMap (eS eI).o) []))]) (([] : List (List Int)), 0) [2, 6, 10, 12, 14, 16, 2003, 2059, 52001, 60001] (by kernel_rfl) hM ?_
    intro n12 next10 ih11 s9 hM
    refine tr_seq ?_
    refine tr_sr hT hm [] [2, 6, 10, 12, 14, 16, 66, 2003, 2059, 52001, 60001] [(2, .d (.rp 1001 0)), (6, .d (iv s1)), (10, .d (.rs 26000 0 v7.length)), (12, .d (.rs 30000 0 v8.length)), (14, .d (.rs 1029 0 s9.1.length)), (16, .d (iv s9.2)), (66, .d (bv (decide (s9.2 < (v8.length : Int))))), bxB 2003 (eXFunctor.b a0), (2059, .r (.arr 1 (s9.1.flatMap (eS eI).o) [])), (52001, .r (.arr 1 (v7.flatMap (eS eI).o) [])), (60001, .r (.arr 1 (v8.flatMap (eS eI).o) []))] .nil (by kernel_rfl) (by kernel_rfl) ?_
    rcases Bool.eq_false_or_eq_true (decide (s9.2 < (v8.length : Int))) with h13 | h13
    · have hM := ite_true' hM h13
      refine tr_condTe (e := decide (s9.2 < (v8.length : Int))) h13 (by kernel_rfl) ?_
      refine tr_skip (q_n ?_)
      refine tr_seq ?_
      refine tr_block ?_
      obtain ⟨y14, hy14, hM⟩ := bind_some' hM
      have hy14' := idx_some hy14
      refine Tr.by (imp_rowOut (r := 30000) (q := 700144) (i := s9.2) (xs := v8) (e := eI) (eS_ok eI_ok) hy14'.2.2 (by kernel_rfl) (by kernel_rfl)) ?_
      obtain ⟨y15, hy15, hM⟩ := bind_some' hM
      have hy15' := idx_some hy15
      obtain ⟨y16, hy16, hM⟩ := bind_some' hM
      have hy16' := idx_some hy16
      obtain ⟨h17, hM⟩ := chk_some hM
      refine tr_r hT hm [(4, .val (.rs 700144 0 y14.length)), (6, .val (iv y15)), (10, .val (.rs 700144 0 y14.length)), (12, .val (iv y16)), (15, .app true)] [2, 6, 10, 12, 14, 16, 2003, 2099, 2103, 52001, 60001, 1400289] [(2, .d (.rp 1001 0)), (6, .d (iv s1)), (10, .d (.rs 26000 0 v7.length)), (12, .d (.rs 30000 0 v8.length)), (14, .d (.rs 1051 0 (s9.1.length + 1))), (16, .d (iv s9.2)), bxB 2003 (eXFunctor.b a0), (2099, .r (.arr 1 (([y15, y16] : List Int).flatMap eI.o) [])), (2103, .r (.arr 1 (s9.1.flatMap (eS eI).o ++ [.rs 1049 0 (([y15, y16] : List Int).length)]) [1049])), (52001, .r (.arr 1 (v7.flatMap (eS eI).o) [])), (60001, .r (.arr 1 ((v8.flatMap (eS eI).o).set (0 + s9.2.toNat * 1) (.rs 700144 0 y14.length)) [700144])), (1400289, .r (.arr 1 (y14.flatMap eI.o) []))] (.cons hy14'.1 (.cons hy14'.2.1 (.cons (set_at (d := .rs 700144 0 y14.length) (lt_flat (eS_ok eI_ok) (by kernel_rfl) hy14'.2.2)) (.cons hy15'.1 (.cons hy15'.2.1 (.cons (at_o0 eI_ok hy15'.2.2 (d := iv y15) (by kernel_rfl)) (.cons hy14'.1 (.cons hy14'.2.1 (.cons (set_at (d := .rs 700144 0 y14.length) (lt_flat (eS_ok eI_ok) (by kernel_rfl) hy14'.2.2)) (.cons hy16'.1 (.cons hy16'.2.1 (.cons (at_o0 eI_ok hy16'.2.2 (d := iv y16) (by kernel_rfl)) (.cons (lenO_flat (eS_ok eI_ok) s9.1) (.cons (by kernel_rfl : ([.rs 1049 0 (([y15, y16] : List Int).length)] : List D).length = 1 * 1) (.cons h17 .nil))))))))))))))) (by kernel_rfl) (by kernel_rfl) (b_n (q_n ?_))
      refine Tr.by (imp_demE (r := 1051) (q := 1049) (sz := 1) (n := (([y15, y16] : List Int).length)) (j := 0) (pre := s9.1.flatMap (eS eI).o) (l := [.rs 1049 0 (([y15, y16] : List Int).length)]) (refs := [1049]) (refs' := []) (menO_flat (eS_ok eI_ok) _) (lenO_flat eI_ok ([y15, y16] : List Int)) (by kernel_rfl) (by kernel_rfl) (by kernel_rfl) (by kernel_rfl) (by kernel_rfl)) ?_
      refine Tr.by (imp_cvE (r := 1051) (sz := 1) (refs := []) (flat_snoc (eS eI).o s9.1 [y15, y16]) (menO_flat (eS_ok eI_ok) _) (by kernel_rfl)) ?_
      refine Tr.by (imp_cvD (k := 14) (congrArg (D.rs 1051 0) ((len_snoc s9.1 [y15, y16]) : s9.1.length + 1 = (s9.1 ++ [[y15, y16]]).length)) (by kernel_rfl)) ?_
      refine Tr.by (imp_rowSame (r := 30000) (q := 700144) (n := y14.length) (i := s9.2) (xs := v8) (e := eI) (x := y14) eI_ok hy14'.2.2 rfl (by kernel_rfl) (by kernel_rfl) (by kernel_rfl)) ?_
      refine tr_r hT hm [] [2, 6, 10, 12, 14, 16, 2003, 2103, 52001, 60001] [(2, .d (.rp 1001 0)), (6, .d (iv s1)), (10, .d (.rs 26000 0 v7.length)), (12, .d (.rs 30000 0 v8.length)), (14, .d (.rs 1051 0 ((s9.1 ++ [[y15, y16]]).length))), (16, .d (iv (IntKind.i64.wrap (s9.2 + 1)))), bxB 2003 (eXFunctor.b a0), (2103, .r (.arr 1 ((s9.1 ++ [[y15, y16]]).flatMap (eS eI).o) [])), (52001, .r (.arr 1 (v7.flatMap (eS eI).o) [])), (60001, .r (.arr 1 (v8.flatMap (eS eI).o) []))] .nil (by kernel_rfl) (by kernel_rfl) (l_n ?_)
      refine TrL.by (imp_sel (ks := [2, 6, 10, 12, 14, 16, 2003, 2103, 52001, 60001]) (st' := [(2, .d (.rp 1001 0)), (6, .d (iv s1)), (10, .d (.rs 26000 0 v7.length)), (12, .d (.rs 30000 0 v8.length)), (14, .d (.rs 1051 0 ((s9.1 ++ [[y15, y16]]).length))), (16, .d (iv (IntKind.i64.wrap (s9.2 + 1)))), bxB 2003 (eXFunctor.b a0), (2103, .r (.arr 1 ((s9.1 ++ [[y15, y16]]).flatMap (eS eI).o) [])), (52001, .r (.arr 1 (v7.flatMap (eS eI).o) [])), (60001, .r (.arr 1 (v8.flatMap (eS eI).o) []))]) (by kernel_rfl)) ?_
      refine TrL.by (imp_rename (r := 1051) (q := 1029) (by kernel_rfl) (Nat.le_of_ble_eq_true rfl)) ?_
      exact trl_start (ks := [2, 6, 10, 12, 14, 16, 2003, 2059, 52001, 60001]) (by kernel_rfl) (ih11 (s9.1 ++ [[y15, y16]], IntKind.i64.wrap (s9.2 + 1)) hM)
    · have hM := ite_false' hM h13
      refine tr_condFe (e := decide (s9.2 < (v8.length : Int))) h13 (by kernel_rfl) ?_
      refine tr_exit (q_x (l_x (b_h (q_n ?_))))
      obtain ⟨v18, hv18, hM⟩ := bind_some' hM
      refine tr_sr hT hm [(3, .call [1029] [] [iv (v7.length : Int), .sl s9.1.length 0 (s9.1.flatMap (eS eI).b)] [] (.fr 1 v18.length (v18.flatMap eI.o)))] [2, 6, 10, 18, 2003, 52001, 114001] [(2, .d (.rp 1001 0)), (6, .d (iv s1)), (10, .d (.rs 26000 0 v7.length)), (18, .d (.rs 57000 0 v18.length)), bxB 2003 (eXFunctor.b a0), (52001, .r (.arr 1 (v7.flatMap (eS eI).o) [])), (114001, .r (.arr 1 (v18.flatMap eI.o) []))] (cc (B := [1029]) (ρ := []) (rB := [(1029, .arr 1 (s9.1.flatMap (eS eI).o) [])]) ok215 (spec_l01Join_c (v7.length : Int) s9.1 _ hv18) (.cons (.same rfl) (.cons (.of1 (.rs (r := 1029) (sz := 1) (refs := []) (memB (by kernel_rfl)) (by kernel_rfl) (bor_flat (eS_ok eI_ok) _ _ _))) .nil)) (.inr ⟨(.fr (nb_flat eI_nb _)), trivial⟩) .nil) (by kernel_rfl) (by kernel_rfl) ?_
      refine tr_seq ?_
      refine tr_sr hT hm [] [2, 6, 10, 18, 20, 2003, 52001, 114001] [(2, .d (.rp 1001 0)), (6, .d (iv s1)), (10, .d (.rs 26000 0 v7.length)), (18, .d (.rs 57000 0 v18.length)), (20, .d (iv 0)), bxB 2003 (eXFunctor.b a0), (52001, .r (.arr 1 (v7.flatMap (eS eI).o) [])), (114001, .r (.arr 1 (v18.flatMap eI.o) []))] .nil (by kernel_rfl) (by kernel_rfl) ?_
      refine tr_block ?_
      refine tr_iterS (fun (s19 : Int) => [(2, .d (.rp 1001 0)), (6, .d (iv s1)), (10, .d (.rs 26000 0 v7.length)), (18, .d (.rs 57000 0 v18.length)), (20, .d (iv s19)), bxB 2003 (eXFunctor.b a0), (52001, .r (.arr 1 (v7.flatMap (eS eI).o) [])), (114001, .r (.arr 1 (v18.flatMap eI.o) []))]) 0 [2, 6, 10, 18, 20, 2003, 52001, 114001] (by kernel_rfl) hM ?_
      intro n22 next20 ih21 s19 hM
      refine tr_seq ?_
      refine tr_sr hT hm [] [2, 6, 10, 18, 20, 118, 2003, 52001, 114001] [(2, .d (.rp 1001 0)), (6, .d (iv s1)), (10, .d (.rs 26000 0 v7.length)), (18, .d (.rs 57000 0 v18.length)), (20, .d (iv s19)), (118, .d (bv (decide (s19 < (v18.length : Int))))), bxB 2003 (eXFunctor.b a0), (52001, .r (.arr 1 (v7.flatMap (eS eI).o) [])), (114001, .r (.arr 1 (v18.flatMap eI.o) []))] .nil (by kernel_rfl) (by kernel_rfl) ?_
      rcases Bool.eq_false_or_eq_true (decide (s19 < (v18.length : Int))) with h23 | h23
      · have hM := ite_true' hM h23
        refine tr_condTe (e := decide (s19 < (v18.length : Int))) h23 (by kernel_rfl) ?_
        refine tr_skip (q_n ?_)
        refine tr_seq ?_
        refine tr_block ?_
        obtain ⟨y24, hy24, hM⟩ := bind_some' hM
        have hy24' := idx_some hy24
        refine tr_sr hT hm [(3, .val (iv y24))] [2, 6, 10, 18, 20, 132, 2003, 52001, 114001] [(2, .d (.rp 1001 0)), (6, .d (iv s1)), (10, .d (.rs 26000 0 v7.length)), (18, .d (.rs 57000 0 v18.length)), (20, .d (iv s19)), (132, .d (bv (y24 != 0))), bxB 2003 (eXFunctor.b a0), (52001, .r (.arr 1 (v7.flatMap (eS eI).o) [])), (114001, .r (.arr 1 (v18.flatMap eI.o) []))] (.cons hy24'.1 (.cons hy24'.2.1 (.cons (at_o0 eI_ok hy24'.2.2 (d := iv y24) (by kernel_rfl)) .nil))) (by kernel_rfl) (by kernel_rfl) ?_
        rcases Bool.eq_false_or_eq_true (y24 != 0) with h25 | h25
        · have hM := ite_true' hM h25
          refine tr_condTe (e := y24 != 0) h25 (by kernel_rfl) ?_
          refine tr_sr hT hm [] [4] [(4, .d (bv false))] .nil (by kernel_rfl) (by kernel_rfl) ?_
          refine tr_ret (b_r (q_r (l_r (b_r (q_r (b_r (q_r (l_r (b_r (q_r (rg_r ?_)))))))))))
          obtain rfl := Option.some.inj hM
          exact retg (names := []) .nil (by kernel_rfl)
        · have hM := ite_false' hM h25
          refine tr_condFe (e := y24 != 0) h25 (by kernel_rfl) ?_
          refine tr_skip (b_n (q_n ?_))
          refine tr_r hT hm [] [2, 6, 10, 18, 20, 2003, 52001, 114001] [(2, .d (.rp 1001 0)), (6, .d (iv s1)), (10, .d (.rs 26000 0 v7.length)), (18, .d (.rs 57000 0 v18.length)), (20, .d (iv (IntKind.i64.wrap (s19 + 1)))), bxB 2003 (eXFunctor.b a0), (52001, .r (.arr 1 (v7.flatMap (eS eI).o) [])), (114001, .r (.arr 1 (v18.flatMap eI.o) []))] .nil (by kernel_rfl) (by kernel_rfl) (l_n ?_)
          exact trl_start (ks := [2, 6, 10, 18, 20, 2003, 52001, 114001]) (by kernel_rfl) (ih21 (IntKind.i64.wrap (s19 + 1)) hM)
      · have hM := ite_false' hM h23
        refine tr_condFe (e := decide (s19 < (v18.length : Int))) h23 (by kernel_rfl) ?_
        refine tr_exit (q_x (l_x (b_h (q_n ?_))))
        refine tr_sr hT hm [] [2, 6, 138, 2003] [(2, .d (.rp 1001 0)), (6, .d (iv s1)), (138, .d (bv ((v7.length : Int) == 0))), bxB 2003 (eXFunctor.b a0)] .nil (by kernel_rfl) (by kernel_rfl) ?_
        rcases Bool.eq_false_or_eq_true ((v7.length : Int) == 0) with h26 | h26
        · have hM := ite_true' hM h26
          refine tr_condTe (e := (v7.length : Int) == 0) h26 (by kernel_rfl) ?_
          refine tr_sr hT hm [] [4] [(4, .d (bv false))] .nil (by kernel_rfl) (by kernel_rfl) ?_
          refine tr_ret (b_r (q_r (l_r (b_r (q_r (rg_r ?_))))))
          obtain rfl := Option.some.inj hM
          exact retg (names := []) .nil (by kernel_rfl)
        · have hM := ite_false' hM h26
          refine tr_condFe (e := (v7.length : Int) == 0) h26 (by kernel_rfl) ?_
          refine tr_skip (b_n (q_n ?_))
          refine tr_r hT hm [] [2, 6, 2003] [(2, .d (.rp 1001 0)), (6, .d (iv (IntKind.i64.wrap (s1 + 1)))), bxB 2003 (eXFunctor.b a0)] .nil (by kernel_rfl) (by kernel_rfl) (l_n ?_)
          exact trl_start (ks := [2, 6, 2003]) (by kernel_rfl) (ih3 (IntKind.i64.wrap (s1 + 1)) hM)
  · have hM := ite_false' hM h5
    refine tr_condFe (e := decide (s1 < a0.Target.Objects)) h5 (by kernel_rfl) ?_
    refine tr_exit (q_x (l_x (b_h (q_n ?_))))
    refine tr_sr hT hm [] [4] [(4, .d (bv true))] .nil (by kernel_rfl) (by kernel_rfl) ?_
    refine tr_ret (rg_r ?_)
    obtain rfl := Option.some.inj hM
    exact retg (names := []) .nil (by kernel_rfl)

theorem ok61 : CallOk Try.prog 61 := callOk_of Try.func61 (by kernel_rfl) (by kernel_rfl)
theorem spec_IsInitial_c (a0 : XFunctor) (r : Bool × Int) (hM : M.spec_IsInitial a0 = some r) :
    FnC Try.prog 61 [] [.agg (eXFunctor.b a0)] [] (.tup [bv r.1, iv r.2]) := by
  refine fnc_startG (N := 10) (np := 500) hT Try.func61 rfl rfl (by kernel_rfl) ?_
  unfold M.spec_IsInitial at hM
  refine tr_start (ks := [0]) (st' := [(0, .d (.agg (eXFunctor.b a0)))]) (by kernel_rfl) ?_
  refine tr_sr hT hm [] [2, 2003] [(2, .d (.rp 1001 0)), bxB 2003 (eXFunctor.b a0)] .nil (by kernel_rfl) (by kernel_rfl) ?_
  refine tr_seq ?_
  obtain ⟨v1, hv1, hM⟩ := bind_some' hM
  refine tr_sr hT hm [(1, .call [] [] [.agg (eXFunctor.b a0)] [] (bv v1))] [2, 12, 2003] [(2, .d (.rp 1001 0)), (12, .d (bv (!v1))), bxB 2003 (eXFunctor.b a0)] (cc0 ok78 (spec_l06Is_c a0 _ hv1) (by kernel_rfl) .nil) (by kernel_rfl) (by kernel_rfl) ?_
  rcases Bool.eq_false_or_eq_true v1 with h2 | h2
  · have hM := ite_true' hM h2
    refine tr_condFe (e := !v1) (congrArg not h2) (by kernel_rfl) ?_
    refine tr_skip (q_n ?_)
    obtain ⟨v3, hv3, hM⟩ := bind_some' hM
    obtain ⟨v4, hv4, hM⟩ := bind_some' hM
    refine tr_sr hT hm [(1, .call [] [] [.agg (eXFunctor.b a0)] [] (.agg (eXFunctor.o v3))), (2, .call (rsR 10000 (eXFunctor.o v3)) [] [.agg (eXFunctor.b v3)] [] (bv v4))] [4, 6] [(4, .d (bv v4)), (6, .d (iv 0))] (cc0 ok80 (spec_l06Op_c a0 _ hv3) (by kernel_rfl) (cc (B := (rsR 10000 (eXFunctor.o v3))) (ρ := []) (rB := (rsP 10000 (eXFunctor.o v3))) ok132 (spec_l09Final_c v3 _ hv4) (.cons (bor_rs eXFunctor_r (q := 10000) (x := v3) (by kernel_rfl) (by kernel_rfl)) .nil) (.inr ⟨.v, trivial⟩) .nil)) (by kernel_rfl) (by kernel_rfl) ?_
    refine tr_ret (rg_r ?_)
    obtain rfl := Option.some.inj hM
    exact retg (names := []) .nil (by kernel_rfl)
  · have hM := ite_false' hM h2
    refine tr_condTe (e := !v1) (congrArg not h2) (by kernel_rfl) ?_
    refine tr_sr hT hm [] [4, 6] [(4, .d (bv false)), (6, .d (iv 1))] .nil (by kernel_rfl) (by kernel_rfl) ?_
    refine tr_ret (q_r (rg_r ?_))
    obtain rfl := Option.some.inj hM
    exact retg (names := []) .nil (by kernel_rfl)

theorem ok274 : CallOk Try.prog 274 := callOk_of Try.func274 (by kernel_rfl) (by kernel_rfl)
theorem slices_Index_impl_pair_int64_impl_pair_int64_c (a0 : List Ximpl_pair_int64) (a1 : Ximpl_pair_int64) (r : Int) (hM : M.slices_Index_impl_pair_int64_impl_pair_int64 a0 a1 = some r) :
    FnC Try.prog 274 [] [.sl a0.length 0 (a0.flatMap eXimpl_pair_int64.b), .agg (eXimpl_pair_int64.b a1)] [] (iv r) := by
  refine fnc_startG (N := 19) (np := 500) hT Try.func274 rfl rfl (by kernel_rfl) ?_
  unfold M.slices_Index_impl_pair_int64_impl_pair_int64 at hM
  refine tr_start (ks := [0, 2]) (st' := [(0, .d (.sl a0.length 0 (a0.flatMap eXimpl_pair_int64.b))), (2, .d (.agg (eXimpl_pair_int64.b a1)))]) (by kernel_rfl) ?_
  refine tr_sr hT hm [] [0, 6, 2007] [(0, .d (.sl a0.length 0 (a0.flatMap eXimpl_pair_int64.b))), (6, .d (.rp 1003 0)), bxB 2007 (eXimpl_pair_int64.b a1)] .nil (by kernel_rfl) (by kernel_rfl) ?_
  refine tr_seq ?_
  refine tr_sr hT hm [] [0, 6, 14, 16, 2007] [(0, .d (.sl a0.length 0 (a0.flatMap eXimpl_pair_int64.b))), (6, .d (.rp 1003 0)), (14, .d (iv (a0.length : Int))), (16, .d (iv 0)), bxB 2007 (eXimpl_pair_int64.b a1)] .nil (by kernel_rfl) (by kernel_rfl) ?_
  refine tr_block ?_
  refine tr_iterS (fun (s1 : Int) => [(0, .d (.sl a0.length 0 (a0.flatMap eXimpl_pair_int64.b))), (6, .d (.rp 1003 0)), (14, .d (iv (a0.length : Int))), (16, .d (iv s1)), bxB 2007 (eXimpl_pair_int64.b a1)]) 0 [0, 6, 14, 16, 2007] (by kernel_rfl) hM ?_
  intro n4 next2 ih3 s1 hM
  refine tr_sr hT hm [] [0, 6, 14, 16, 18, 2007] [(0, .d (.sl a0.length 0 (a0.flatMap eXimpl_pair_int64.b))), (6, .d (.rp 1003 0)), (14, .d (iv (a0.length : Int))), (16, .d (iv s1)), (18, .d (bv (decide (s1 < (a0.length : Int))))), bxB 2007 (eXimpl_pair_int64.b a1)] .nil (by kernel_rfl) (by kernel_rfl) ?_
  refine tr_seq ?_
  rcases Bool.eq_false_or_eq_true (decide (s1 < (a0.length : Int))) with h5 | h5
  · have hM := ite_true' hM h5
    refine tr_condTe (e := decide (s1 < (a0.length : Int))) h5 (by kernel_rfl) ?_
    refine tr_skip (q_n ?_)
    refine tr_seq ?_
    refine tr_block ?_
    refine tr_sr hT hm [] [0, 6, 10, 14, 16, 2007] [(0, .d (.sl a0.length 0 (a0.flatMap eXimpl_pair_int64.b))), (6, .d (.rp 1003 0)), (10, .d (iv s1)), (14, .d (iv (a0.length : Int))), (16, .d (iv s1)), bxB 2007 (eXimpl_pair_int64.b a1)] .nil (by kernel_rfl) (by kernel_rfl) ?_
    obtain ⟨y6, hy6, hM⟩ := bind_some' hM
    have hy6' := idx_some hy6
    refine tr_sr hT hm [(4, .val (.agg [iv y6.first_, iv y6.second_]))] [0, 6, 10, 14, 16, 32, 2007] [(0, .d (.sl a0.length 0 (a0.flatMap eXimpl_pair_int64.b))), (6, .d (.rp 1003 0)), (10, .d (iv s1)), (14, .d (iv (a0.length : Int))), (16, .d (iv s1)), (32, .d (bv (((a1.first_ == y6.first_) && (a1.second_ == y6.second_)) == true))), bxB 2007 (eXimpl_pair_int64.b a1)] (.cons hy6'.1 (.cons hy6'.2.1 (.cons (sub_b eXimpl_pair_int64_ok hy6'.2.2) (.cons (by kernel_rfl : Try.prog.stoodInHeld 267 = false) (.cons (by kernel_rfl : Try.prog.eqGuardType Try.prog.depth 267 = false) .nil))))) (by kernel_rfl) (by kernel_rfl) ?_
    rcases Bool.eq_false_or_eq_true (((a1.first_ == y6.first_) && (a1.second_ == y6.second_)) == true) with h7 | h7
    · have hM := ite_true' hM h7
      refine tr_condTe (e := ((a1.first_ == y6.first_) && (a1.second_ == y6.second_)) == true) h7 (by kernel_rfl) ?_
      refine tr_sr hT hm [] [8] [(8, .d (iv s1))] .nil (by kernel_rfl) (by kernel_rfl) ?_
      refine tr_ret (b_r (q_r (l_r (b_r (q_r (rg_r ?_))))))
      obtain rfl := Option.some.inj hM
      exact retg (names := []) .nil (by kernel_rfl)
    · have hM := ite_false' hM h7
      refine tr_condFe (e := ((a1.first_ == y6.first_) && (a1.second_ == y6.second_)) == true) h7 (by kernel_rfl) ?_
      refine tr_skip (b_n (q_n ?_))
      refine tr_r hT hm [] [0, 6, 14, 16, 2007] [(0, .d (.sl a0.length 0 (a0.flatMap eXimpl_pair_int64.b))), (6, .d (.rp 1003 0)), (14, .d (iv (a0.length : Int))), (16, .d (iv (IntKind.i64.wrap (s1 + 1)))), bxB 2007 (eXimpl_pair_int64.b a1)] .nil (by kernel_rfl) (by kernel_rfl) (l_n ?_)
      exact trl_start (ks := [0, 6, 14, 16, 2007]) (by kernel_rfl) (ih3 (IntKind.i64.wrap (s1 + 1)) hM)
  · have hM := ite_false' hM h5
    refine tr_condFe (e := decide (s1 < (a0.length : Int))) h5 (by kernel_rfl) ?_
    refine tr_exit (q_x (l_x (b_h (q_n ?_))))
    refine tr_sr hT hm [] [8] [(8, .d (iv (-1)))] .nil (by kernel_rfl) (by kernel_rfl) ?_
    refine tr_ret (rg_r ?_)
    obtain rfl := Option.some.inj hM
    exact retg (names := []) .nil (by kernel_rfl)

theorem ok220 : CallOk Try.prog 220 := callOk_of Try.func220 (by kernel_rfl) (by kernel_rfl)
theorem impl_index_impl_pair_int64_c (a0 : List Ximpl_pair_int64) (a1 : Ximpl_pair_int64) (r : Int) (hM : M.impl_index_impl_pair_int64 a0 a1 = some r) :
    FnC Try.prog 220 [] [.sl a0.length 0 (a0.flatMap eXimpl_pair_int64.b), .agg (eXimpl_pair_int64.b a1)] [] (iv r) := by
  refine fnc_startG (N := 8) (np := 500) hT Try.func220 rfl rfl (by kernel_rfl) ?_
  unfold M.impl_index_impl_pair_int64 at hM
  refine tr_start (ks := [0, 2]) (st' := [(0, .d (.sl a0.length 0 (a0.flatMap eXimpl_pair_int64.b))), (2, .d (.agg (eXimpl_pair_int64.b a1)))]) (by kernel_rfl) ?_
  refine tr_sr hT hm [] [0, 6, 2007] [(0, .d (.sl a0.length 0 (a0.flatMap eXimpl_pair_int64.b))), (6, .d (.rp 1003 0)), bxB 2007 (eXimpl_pair_int64.b a1)] .nil (by kernel_rfl) (by kernel_rfl) ?_
  obtain ⟨v1, hv1, hM⟩ := bind_some' hM
  refine tr_sr hT hm [(2, .call [] [] [.sl a0.length 0 (a0.flatMap eXimpl_pair_int64.b), .agg (eXimpl_pair_int64.b a1)] [] (iv v1))] [8] [(8, .d (iv v1))] (cc0 ok274 (slices_Index_impl_pair_int64_impl_pair_int64_c a0 a1 _ hv1) (by kernel_rfl) .nil) (by kernel_rfl) (by kernel_rfl) ?_
  refine tr_ret (rg_r ?_)
  obtain rfl := Option.some.inj hM
  exact retg (names := []) .nil (by kernel_rfl)

theorem ok134 : CallOk Try.prog 134 := callOk_of Try.func134 (by kernel_rfl) (by kernel_rfl)
theorem impl_Functor_isFinal_c (a0 : XFunctor) (r : Bool) (hM : M.impl_Functor_isFinal a0 = some r) :
    FnC Try.prog 134 [] [.pt (eXFunctor.b a0) 0] [] (bv r) := by
  refine fnc_startG (N := 107) (np := 500) hT Try.func134 rfl rfl (by kernel_rfl) ?_
  unfold M.impl_Functor_isFinal at hM
  refine tr_start (ks := [0]) (st' := [(0, .d (.pt (eXFunctor.b a0) 0))]) (by kernel_rfl) ?_
  refine tr_sr hT hm [] [0] [(0, .d (.pt (eXFunctor.b a0) 0))] .nil (by kernel_rfl) (by kernel_rfl) ?_
  refine tr_sr hT hm [] [0, 6, 8] [(0, .d (.pt (eXFunctor.b a0) 0)), (6, .d (.pt (eXFunctor.b a0) 0)), (8, .d (.pt (eXFunctor.b a0) 5))] .nil (by kernel_rfl) (by kernel_rfl) ?_
  refine tr_seq ?_
  refine tr_sr hT hm [] [0, 6, 8, 10] [(0, .d (.pt (eXFunctor.b a0) 0)), (6, .d (.pt (eXFunctor.b a0) 0)), (8, .d (.pt (eXFunctor.b a0) 5)), (10, .d (iv 0))] .nil (by kernel_rfl) (by kernel_rfl) ?_
  refine tr_block ?_
  refine tr_iterS (fun (s1 : Int) => [(0, .d (.pt (eXFunctor.b a0) 0)), (6, .d (.pt (eXFunctor.b a0) 0)), (8, .d (.pt (eXFunctor.b a0) 5)), (10, .d (iv s1))]) 0 [0, 6, 8, 10] (by kernel_rfl) hM ?_
  intro n4 next2 ih3 s1 hM
  refine tr_seq ?_
  refine tr_sr hT hm [] [0, 6, 8, 10, 54] [(0, .d (.pt (eXFunctor.b a0) 0)), (6, .d (.pt (eXFunctor.b a0) 0)), (8, .d (.pt (eXFunctor.b a0) 5)), (10, .d (iv s1)), (54, .d (bv (decide (s1 < a0.Target.Objects))))] .nil (by kernel_rfl) (by kernel_rfl) ?_
  rcases Bool.eq_false_or_eq_true (decide (s1 < a0.Target.Objects)) with h5 | h5
  · have hM := ite_true' hM h5
    refine tr_condTe (e := decide (s1 < a0.Target.Objects)) h5 (by kernel_rfl) ?_
    refine tr_skip (q_n ?_)
    refine tr_seq ?_
    refine tr_block ?_
    refine tr_sr hT hm [] [0, 6, 8, 10, 12, 2061] [(0, .d (.pt (eXFunctor.b a0) 0)), (6, .d (.pt (eXFunctor.b a0) 0)), (8, .d (.pt (eXFunctor.b a0) 5)), (10, .d (iv s1)), (12, .d (.rs 1030 0 (([] : List Ximpl_pair_int64).length))), (2061, .r (.arr 2 (([] : List Ximpl_pair_int64).flatMap eXimpl_pair_int64.o) []))] .nil (by kernel_rfl) (by kernel_rfl) ?_
    refine tr_seq ?_
    refine tr_sr hT hm [] [0, 6, 8, 10, 12, 68, 70, 72, 2061] [(0, .d (.pt (eXFunctor.b a0) 0)), (6, .d (.pt (eXFunctor.b a0) 0)), (8, .d (.pt (eXFunctor.b a0) 5)), (10, .d (iv s1)), (12, .d (.rs 1030 0 (([] : List Ximpl_pair_int64).length))), (68, .d (.sl a0.Objects.length 0 (a0.Objects.flatMap eI.b))), (70, .d (iv (a0.Objects.length : Int))), (72, .d (iv 0)), (2061, .r (.arr 2 (([] : List Ximpl_pair_int64).flatMap eXimpl_pair_int64.o) []))] .nil (by kernel_rfl) (by kernel_rfl) ?_
    refine tr_block ?_
    refine tr_iterS (fun (s6 : (List Ximpl_pair_int64) × Int) => [(0, .d (.pt (eXFunctor.b a0) 0)), (6, .d (.pt (eXFunctor.b a0) 0)), (8, .d (.pt (eXFunctor.b a0) 5)), (10, .d (iv s1)), (12, .d (.rs 1030 0 s6.1.length)), (68, .d (.sl a0.Objects.length 0 (a0.Objects.flatMap eI.b))), (70, .d (iv (a0.Objects.length : Int))), (72, .d (iv s6.2)), (2061, .r (.arr 2 (s6.1.flatMap eXimpl_pair_int64.o) []))]) (([] : List Ximpl_pair_int64), 0) [0, 6, 8, 10, 12, 68, 70, 72, 2061] (by kernel_rfl) hM ?_
    intro n9 next7 ih8 s6 hM
    refine tr_sr hT hm [] [0, 6, 8, 10, 12, 68, 70, 72, 74, 2061] [(0, .d (.pt (eXFunctor.b a0) 0)), (6, .d (.pt (eXFunctor.b a0) 0)), (8, .d (.pt (eXFunctor.b a0) 5)), (10, .d (iv s1)), (12, .d (.rs 1030 0 s6.1.length)), (68, .d (.sl a0.Objects.length 0 (a0.Objects.flatMap eI.b))), (70, .d (iv (a0.Objects.length : Int))), (72, .d (iv s6.2)), (74, .d (bv (decide (s6.2 < (a0.Objects.length : Int))))), (2061, .r (.arr 2 (s6.1.flatMap eXimpl_pair_int64.o) []))] .nil (by kernel_rfl) (by kernel_rfl) ?_
    refine tr_seq ?_
    rcases Bool.eq_false_or_eq_true (decide (s6.2 < (a0.Objects.length : Int))) with h10 | h10
    · have hM := ite_true' hM h10
      refine tr_condTe (e := decide (s6.2 < (a0.Objects.length : Int))) h10 (by kernel_rfl) ?_
      refine tr_skip (q_n ?_)
      refine tr_seq ?_
      refine tr_block ?_
      obtain ⟨y11, hy11, hM⟩ := bind_some' hM
      have hy11' := idx_some hy11
      refine tr_sr hT hm [(2, .val (iv y11))] [0, 6, 8, 10, 12, 14, 16, 68, 70, 72, 2061] [(0, .d (.pt (eXFunctor.b a0) 0)), (6, .d (.pt (eXFunctor.b a0) 0)), (8, .d (.pt (eXFunctor.b a0) 5)), (10, .d (iv s1)), (12, .d (.rs 1030 0 s6.1.length)), (14, .d (iv s6.2)), (16, .d (iv y11)), (68, .d (.sl a0.Objects.length 0 (a0.Objects.flatMap eI.b))), (70, .d (iv (a0.Objects.length : Int))), (72, .d (iv s6.2)), (2061, .r (.arr 2 (s6.1.flatMap eXimpl_pair_int64.o) []))] (.cons hy11'.1 (.cons hy11'.2.1 (.cons (at_b0 eI_ok hy11'.2.2 (d := iv y11) (by kernel_rfl)) .nil))) (by kernel_rfl) (by kernel_rfl) ?_
      obtain ⟨v12, hv12, hM⟩ := bind_some' hM
      refine tr_sr hT hm [(3, .call [] [] [.pt (eXCategory.b a0.Target) 0, iv s1, iv y11] [] (.fr 1 v12.length (v12.flatMap eI.o)))] [0, 6, 8, 10, 12, 14, 68, 70, 72, 88, 90, 92, 2061, 92001] [(0, .d (.pt (eXFunctor.b a0) 0)), (6, .d (.pt (eXFunctor.b a0) 0)), (8, .d (.pt (eXFunctor.b a0) 5)), (10, .d (iv s1)), (12, .d (.rs 1030 0 s6.1.length)), (14, .d (iv s6.2)), (68, .d (.sl a0.Objects.length 0 (a0.Objects.flatMap eI.b))), (70, .d (iv (a0.Objects.length : Int))), (72, .d (iv s6.2)), (88, .d (.rs 46000 0 v12.length)), (90, .d (iv (v12.length : Int))), (92, .d (iv 0)), (2061, .r (.arr 2 (s6.1.flatMap eXimpl_pair_int64.o) [])), (92001, .r (.arr 1 (v12.flatMap eI.o) []))] (cc (B := []) (ρ := []) (rB := []) ok202 (impl_Category_hom_c a0.Target s1 y11 _ hv12) (.cons (.pass (.ptk (ds := eXFunctor.b a0) (ds' := eXCategory.b a0.Target) (off := 5) (n := 5) (by kernel_rfl) (by kernel_rfl) (by kernel_rfl))) (.cons (.same rfl) (.cons (.same rfl) .nil))) (.inl rfl) .nil) (by kernel_rfl) (by kernel_rfl) ?_
      refine tr_block ?_
      refine tr_iterS (fun (s13 : (List Ximpl_pair_int64) × Int) => [(0, .d (.pt (eXFunctor.b a0) 0)), (6, .d (.pt (eXFunctor.b a0) 0)), (8, .d (.pt (eXFunctor.b a0) 5)), (10, .d (iv s1)), (12, .d (.rs 1030 0 s13.1.length)), (14, .d (iv s6.2)), (68, .d (.sl a0.Objects.length 0 (a0.Objects.flatMap eI.b))), (70, .d (iv (a0.Objects.length : Int))), (72, .d (iv s6.2)), (88, .d (.rs 46000 0 v12.length)), (90, .d (iv (v12.length : Int))), (92, .d (iv s13.2)), (2061, .r (.arr 2 (s13.1.flatMap eXimpl_pair_int64.o) [])), (92001, .r (.arr 1 (v12.flatMap eI.o) []))]) (s6.1, 0) [0, 6, 8, 10, 12, 14, 68, 70, 72, 88, 90, 92, 2061, 92001] (by kernel_rfl) hM ?_
      intro n16 next14 ih15 s13 hM
      refine tr_sr hT hm [] [0, 6, 8, 10, 12, 14, 68, 70, 72, 88, 90, 92, 94, 2061, 92001] [(0, .d (.pt (eXFunctor.b a0) 0)), (6, .d (.pt (eXFunctor.b a0) 0)), (8, .d (.pt (eXFunctor.b a0) 5)), (10, .d (iv s1)), (12, .d (.rs 1030 0 s13.1.length)), (14, .d (iv s6.2)), (68, .d (.sl a0.Objects.length 0 (a0.Objects.flatMap eI.b))), (70, .d (iv (a0.Objects.length : Int))), (72, .d (iv s6.2)), (88, .d (.rs 46000 0 v12.length)), (90, .d (iv (v12.length : Int))), (92, .d (iv s13.2)), (94, .d (bv (decide (s13.2 < (v12.length : Int))))), (2061, .r (.arr 2 (s13.1.flatMap eXimpl_pair_int64.o) [])), (92001, .r (.arr 1 (v12.flatMap eI.o) []))] .nil (by kernel_rfl) (by kernel_rfl) ?_
      refine tr_seq ?_
      rcases Bool.eq_false_or_eq_true (decide (s13.2 < (v12.length : Int))) with h17 | h17
      · have hM := ite_true' hM h17
        refine tr_condTe (e := decide (s13.2 < (v12.length : Int))) h17 (by kernel_rfl) ?_
        refine tr_skip (q_n ?_)
        refine tr_seq ?_
        refine tr_block ?_
        obtain ⟨y18, hy18, hM⟩ := bind_some' hM
        have hy18' := idx_some hy18
        refine tr_sr hT hm [(1, .val (iv y18))] [0, 6, 8, 10, 12, 14, 20, 68, 70, 72, 88, 90, 92, 2061, 92001] [(0, .d (.pt (eXFunctor.b a0) 0)), (6, .d (.pt (eXFunctor.b a0) 0)), (8, .d (.pt (eXFunctor.b a0) 5)), (10, .d (iv s1)), (12, .d (.rs 1030 0 s13.1.length)), (14, .d (iv s6.2)), (20, .d (iv y18)), (68, .d (.sl a0.Objects.length 0 (a0.Objects.flatMap eI.b))), (70, .d (iv (a0.Objects.length : Int))), (72, .d (iv s6.2)), (88, .d (.rs 46000 0 v12.length)), (90, .d (iv (v12.length : Int))), (92, .d (iv s13.2)), (2061, .r (.arr 2 (s13.1.flatMap eXimpl_pair_int64.o) [])), (92001, .r (.arr 1 (v12.flatMap eI.o) []))] (.cons hy18'.1 (.cons hy18'.2.1 (.cons (at_o0 eI_ok hy18'.2.2 (d := iv y18) (by kernel_rfl)) .nil))) (by kernel_rfl) (by kernel_rfl) ?_
        obtain ⟨h19, hM⟩ := chk_some hM
        refine tr_r hT hm [(5, .app true)] [0, 6, 8, 10, 12, 14, 68, 70, 72, 88, 90, 92, 2111, 92001] [(0, .d (.pt (eXFunctor.b a0) 0)), (6, .d (.pt (eXFunctor.b a0) 0)), (8, .d (.pt (eXFunctor.b a0) 5)), (10, .d (iv s1)), (12, .d (.rs 1055 0 (s13.1.length + (([(⟨s6.2, y18⟩ : Ximpl_pair_int64)] : List Ximpl_pair_int64).length)))), (14, .d (iv s6.2)), (68, .d (.sl a0.Objects.length 0 (a0.Objects.flatMap eI.b))), (70, .d (iv (a0.Objects.length : Int))), (72, .d (iv s6.2)), (88, .d (.rs 46000 0 v12.length)), (90, .d (iv (v12.length : Int))), (92, .d (iv s13.2)), (2111, .r (.arr 2 (s13.1.flatMap eXimpl_pair_int64.o ++ ([(⟨s6.2, y18⟩ : Ximpl_pair_int64)] : List Ximpl_pair_int64).flatMap eXimpl_pair_int64.o) [])), (92001, .r (.arr 1 (v12.flatMap eI.o) []))] (.cons (lenO_flat eXimpl_pair_int64_ok s13.1) (.cons (lenO_flat eXimpl_pair_int64_ok ([(⟨s6.2, y18⟩ : Ximpl_pair_int64)] : List Ximpl_pair_int64)) (.cons h19 .nil))) (by kernel_rfl) (by kernel_rfl) (b_n (q_n ?_))
        refine Tr.by (imp_cvE (r := 1055) (sz := 2) (refs := []) (flat_app eXimpl_pair_int64.o s13.1 ([(⟨s6.2, y18⟩ : Ximpl_pair_int64)] : List Ximpl_pair_int64)) (menO_flat eXimpl_pair_int64_ok _) (by kernel_rfl)) ?_
        refine Tr.by (imp_cvD (k := 12) (congrArg (D.rs 1055 0) ((len_app s13.1 ([(⟨s6.2, y18⟩ : Ximpl_pair_int64)] : List Ximpl_pair_int64)) : s13.1.length + (([(⟨s6.2, y18⟩ : Ximpl_pair_int64)] : List Ximpl_pair_int64).length) = (s13.1 ++ ([(⟨s6.2, y18⟩ : Ximpl_pair_int64)] : List Ximpl_pair_int64)).length)) (by kernel_rfl)) ?_
        refine tr_r hT hm [] [0, 6, 8, 10, 12, 14, 68, 70, 72, 88, 90, 92, 2111, 92001] [(0, .d (.pt (eXFunctor.b a0) 0)), (6, .d (.pt (eXFunctor.b a0) 0)), (8, .d (.pt (eXFunctor.b a0) 5)), (10, .d (iv s1)), (12, .d (.rs 1055 0 ((s13.1 ++ ([(⟨s6.2, y18⟩ : Ximpl_pair_int64)] : List Ximpl_pair_int64)).length))), (14, .d (iv s6.2)), (68, .d (.sl a0.Objects.length 0 (a0.Objects.flatMap eI.b))), (70, .d (iv (a0.Objects.length : Int))), (72, .d (iv s6.2)), (88, .d (.rs 46000 0 v12.length)), (90, .d (iv (v12.length : Int))), (92, .d (iv (IntKind.i64.wrap (s13.2 + 1)))), (2111, .r (.arr 2 ((s13.1 ++ ([(⟨s6.2, y18⟩ : Ximpl_pair_int64)] : List Ximpl_pair_int64)).flatMap eXimpl_pair_int64.o) [])), (92001, .r (.arr 1 (v12.flatMap eI.o) []))] .nil (by kernel_rfl) (by kernel_rfl) (l_n ?_)
        refine TrL.by (imp_sel (ks := [0, 6, 8, 10, 12, 14, 68, 70, 72, 88, 90, 92, 2111, 92001]) (st' := [(0, .d (.pt (eXFunctor.b a0) 0)), (6, .d (.pt (eXFunctor.b a0) 0)), (8, .d (.pt (eXFunctor.b a0) 5)), (10, .d (iv s1)), (12, .d (.rs 1055 0 ((s13.1 ++ ([(⟨s6.2, y18⟩ : Ximpl_pair_int64)] : List Ximpl_pair_int64)).length))), (14, .d (iv s6.2)), (68, .d (.sl a0.Objects.length 0 (a0.Objects.flatMap eI.b))), (70, .d (iv (a0.Objects.length : Int))), (72, .d (iv s6.2)), (88, .d (.rs 46000 0 v12.length)), (90, .d (iv (v12.length : Int))), (92, .d (iv (IntKind.i64.wrap (s13.2 + 1)))), (2111, .r (.arr 2 ((s13.1 ++ ([(⟨s6.2, y18⟩ : Ximpl_pair_int64)] : List Ximpl_pair_int64)).flatMap eXimpl_pair_int64.o) [])), (92001, .r (.arr 1 (v12.flatMap eI.o) []))]) (by kernel_rfl)) ?_
        refine TrL.by (imp_rename (r := 1055) (q := 1030) (by kernel_rfl) (Nat.le_of_ble_eq_true rfl)) ?_
        exact trl_start (ks := [0, 6, 8, 10, 12, 14, 68, 70, 72, 88, 90, 92, 2061, 92001]) (by kernel_rfl) (ih15 (s13.1 ++ ([(⟨s6.2, y18⟩ : Ximpl_pair_int64)] : List Ximpl_pair_int64), IntKind.i64.wrap (s13.2 + 1)) hM)
      · have hM := ite_false' hM h17
        refine tr_condFe (e := decide (s13.2 < (v12.length : Int))) h17 (by kernel_rfl) ?_
        refine tr_exit (q_x (l_x (b_h (b_n (q_n ?_)))))
        refine tr_r hT hm [] [0, 6, 8, 10, 12, 68, 70, 72, 2061] [(0, .d (.pt (eXFunctor.b a0) 0)), (6, .d (.pt (eXFunctor.b a0) 0)), (8, .d (.pt (eXFunctor.b a0) 5)), (10, .d (iv s1)), (12, .d (.rs 1030 0 s13.1.length)), (68, .d (.sl a0.Objects.length 0 (a0.Objects.flatMap eI.b))), (70, .d (iv (a0.Objects.length : Int))), (72, .d (iv (IntKind.i64.wrap (s6.2 + 1)))), (2061, .r (.arr 2 (s13.1.flatMap eXimpl_pair_int64.o) []))] .nil (by kernel_rfl) (by kernel_rfl) (l_n ?_)
        exact trl_start (ks := [0, 6, 8, 10, 12, 68, 70, 72, 2061]) (by kernel_rfl) (ih8 (s13.1, IntKind.i64.wrap (s6.2 + 1)) hM)
    · have hM := ite_false' hM h10
      refine tr_condFe (e := decide (s6.2 < (a0.Objects.length : Int))) h10 (by kernel_rfl) ?_
      refine tr_exit (q_x (l_x (b_h (q_n ?_))))
      obtain ⟨v20, hv20, hM⟩ := bind_some' hM
      refine tr_sr hT hm [(2, .call [] [] [iv (s6.1.length : Int)] [] (.fr 1 v20.length (v20.flatMap eI.o)))] [0, 6, 8, 10, 12, 22, 2061, 124001] [(0, .d (.pt (eXFunctor.b a0) 0)), (6, .d (.pt (eXFunctor.b a0) 0)), (8, .d (.pt (eXFunctor.b a0) 5)), (10, .d (iv s1)), (12, .d (.rs 1030 0 s6.1.length)), (22, .d (.rs 62000 0 v20.length)), (2061, .r (.arr 2 (s6.1.flatMap eXimpl_pair_int64.o) [])), (124001, .r (.arr 1 (v20.flatMap eI.o) []))] (cc0 ok217 (impl_joinerOf_c (s6.1.length : Int) _ hv20) (by kernel_rfl) .nil) (by kernel_rfl) (by kernel_rfl) ?_
      refine tr_seq ?_
      refine tr_sr hT hm [] [0, 6, 8, 10, 12, 22, 122, 124, 126, 2061, 124001] [(0, .d (.pt (eXFunctor.b a0) 0)), (6, .d (.pt (eXFunctor.b a0) 0)), (8, .d (.pt (eXFunctor.b a0) 5)), (10, .d (iv s1)), (12, .d (.rs 1030 0 s6.1.length)), (22, .d (.rs 62000 0 v20.length)), (122, .d (.rs 1030 0 s6.1.length)), (124, .d (iv (s6.1.length : Int))), (126, .d (iv 0)), (2061, .r (.arr 2 (s6.1.flatMap eXimpl_pair_int64.o) [])), (124001, .r (.arr 1 (v20.flatMap eI.o) []))] .nil (by kernel_rfl) (by kernel_rfl) ?_
      refine Tr.by (imp_freeze (B := [1030]) (cv := [(6, .sl s6.1.length 0 (s6.1.flatMap eXimpl_pair_int64.b)), (61, .sl s6.1.length 0 (s6.1.flatMap eXimpl_pair_int64.b))]) (.cons (by kernel_rfl) (.of1 (.rs (r := 1030) (sz := 2) (refs := []) (memB (by kernel_rfl)) (by kernel_rfl) (bor_flat eXimpl_pair_int64_ok _ _ _))) (.cons (by kernel_rfl) (.of1 (.rs (r := 1030) (sz := 2) (refs := []) (memB (by kernel_rfl)) (by kernel_rfl) (bor_flat eXimpl_pair_int64_ok _ _ _))) .nil))) ?_
      refine tr_block ?_
      refine tr_iterS (fun (s21 : (List Int) × Int) => [(0, .d (.pt (eXFunctor.b a0) 0)), (6, .d (.pt (eXFunctor.b a0) 0)), (8, .d (.pt (eXFunctor.b a0) 5)), (10, .d (iv s1)), (12, .d (.sl s6.1.length 0 (s6.1.flatMap eXimpl_pair_int64.b))), (22, .d (.rs 62000 0 s21.1.length)), (122, .d (.sl s6.1.length 0 (s6.1.flatMap eXimpl_pair_int64.b))), (124, .d (iv (s6.1.length : Int))), (126, .d (iv s21.2)), (124001, .r (.arr 1 (s21.1.flatMap eI.o) []))]) (v20, 0) [0, 6, 8, 10, 12, 22, 122, 124, 126, 124001] (by kernel_rfl) hM ?_
      intro n24 next22 ih23 s21 hM
      refine tr_sr hT hm [] [0, 6, 8, 10, 12, 22, 122, 124, 126, 128, 124001] [(0, .d (.pt (eXFunctor.b a0) 0)), (6, .d (.pt (eXFunctor.b a0) 0)), (8, .d (.pt (eXFunctor.b a0) 5)), (10, .d (iv s1)), (12, .d (.sl s6.1.length 0 (s6.1.flatMap eXimpl_pair_int64.b))), (22, .d (.rs 62000 0 s21.1.length)), (122, .d (.sl s6.1.length 0 (s6.1.flatMap eXimpl_pair_int64.b))), (124, .d (iv (s6.1.length : Int))), (126, .d (iv s21.2)), (128, .d (bv (decide (s21.2 < (s6.1.length : Int))))), (124001, .r (.arr 1 (s21.1.flatMap eI.o) []))] .nil (by kernel_rfl) (by kernel_rfl) ?_
      refine tr_seq ?_
      rcases Bool.eq_false_or_eq_true (decide (s21.2 < (s6.1.length : Int))) with h25 | h25
      · have hM := ite_true' hM h25
        refine tr_condTe (e := decide (s21.2 < (s6.1.length : Int))) h25 (by kernel_rfl) ?_
        refine tr_skip (q_n ?_)
        refine tr_seq ?_
        refine tr_block ?_
        obtain ⟨y26, hy26, hM⟩ := bind_some' hM
        have hy26' := idx_some hy26
        refine tr_sr hT hm [(2, .val (.agg [iv y26.first_, iv y26.second_]))] [0, 6, 8, 10, 12, 22, 24, 26, 122, 124, 126, 2027, 124001] [(0, .d (.pt (eXFunctor.b a0) 0)), (6, .d (.pt (eXFunctor.b a0) 0)), (8, .d (.pt (eXFunctor.b a0) 5)), (10, .d (iv s1)), (12, .d (.sl s6.1.length 0 (s6.1.flatMap eXimpl_pair_int64.b))), (22, .d (.rs 62000 0 s21.1.length)), (24, .d (iv s21.2)), (26, .d (.rp 1013 0)), (122, .d (.sl s6.1.length 0 (s6.1.flatMap eXimpl_pair_int64.b))), (124, .d (iv (s6.1.length : Int))), (126, .d (iv s21.2)), bxB 2027 (eXimpl_pair_int64.b y26), (124001, .r (.arr 1 (s21.1.flatMap eI.o) []))] (.cons hy26'.1 (.cons hy26'.2.1 (.cons (sub_b eXimpl_pair_int64_ok hy26'.2.2) (.cons (Nat.le_of_ble_eq_true (n := 2) (m := 2) rfl) .nil)))) (by kernel_rfl) (by kernel_rfl) ?_
        obtain ⟨v27, hv27, hM⟩ := bind_some' hM
        refine tr_sr hT hm [(3, .call [] [] [.pt (eXCategory.b a0.Source) 0, iv y26.first_] [] (.fr 1 v27.length (v27.flatMap eI.o)))] [0, 6, 8, 10, 12, 22, 24, 26, 122, 124, 126, 142, 144, 146, 2027, 124001, 146001] [(0, .d (.pt (eXFunctor.b a0) 0)), (6, .d (.pt (eXFunctor.b a0) 0)), (8, .d (.pt (eXFunctor.b a0) 5)), (10, .d (iv s1)), (12, .d (.sl s6.1.length 0 (s6.1.flatMap eXimpl_pair_int64.b))), (22, .d (.rs 62000 0 s21.1.length)), (24, .d (iv s21.2)), (26, .d (.rp 1013 0)), (122, .d (.sl s6.1.length 0 (s6.1.flatMap eXimpl_pair_int64.b))), (124, .d (iv (s6.1.length : Int))), (126, .d (iv s21.2)), (142, .d (.rs 73000 0 v27.length)), (144, .d (iv (v27.length : Int))), (146, .d (iv 0)), bxB 2027 (eXimpl_pair_int64.b y26), (124001, .r (.arr 1 (s21.1.flatMap eI.o) [])), (146001, .r (.arr 1 (v27.flatMap eI.o) []))] (cc (B := []) (ρ := []) (rB := []) ok218 (impl_Category_outOf_c a0.Source y26.first_ _ hv27) (.cons (.pass (.ptk (ds := eXFunctor.b a0) (ds' := eXCategory.b a0.Source) (off := 0) (n := 5) (by kernel_rfl) (by kernel_rfl) (by kernel_rfl))) (.cons (.same rfl) .nil)) (.inl rfl) .nil) (by kernel_rfl) (by kernel_rfl) ?_
        refine tr_block ?_
        refine tr_iterS (fun (s28 : (List Int) × Int) => [(0, .d (.pt (eXFunctor.b a0) 0)), (6, .d (.pt (eXFunctor.b a0) 0)), (8, .d (.pt (eXFunctor.b a0) 5)), (10, .d (iv s1)), (12, .d (.sl s6.1.length 0 (s6.1.flatMap eXimpl_pair_int64.b))), (22, .d (.rs 62000 0 s28.1.length)), (24, .d (iv s21.2)), (26, .d (.rp 1013 0)), (122, .d (.sl s6.1.length 0 (s6.1.flatMap eXimpl_pair_int64.b))), (124, .d (iv (s6.1.length : Int))), (126, .d (iv s21.2)), (142, .d (.rs 73000 0 v27.length)), (144, .d (iv (v27.length : Int))), (146, .d (iv s28.2)), bxB 2027 (eXimpl_pair_int64.b y26), (124001, .r (.arr 1 (s28.1.flatMap eI.o) [])), (146001, .r (.arr 1 (v27.flatMap eI.o) []))]) (s21.1, 0) [0, 6, 8, 10, 12, 22, 24, 26, 122, 124, 126, 142, 144, 146, 2027, 124001, 146001] (by kernel_rfl) hM ?_
        intro n31 next29 ih30 s28 hM
        refine tr_sr hT hm [] [0, 6, 8, 10, 12, 22, 24, 26, 122, 124, 126, 142, 144, 146, 148, 2027, 124001, 146001] [(0, .d (.pt (eXFunctor.b a0) 0)), (6, .d (.pt (eXFunctor.b a0) 0)), (8, .d (.pt (eXFunctor.b a0) 5)), (10, .d (iv s1)), (12, .d (.sl s6.1.length 0 (s6.1.flatMap eXimpl_pair_int64.b))), (22, .d (.rs 62000 0 s28.1.length)), (24, .d (iv s21.2)), (26, .d (.rp 1013 0)), (122, .d (.sl s6.1.length 0 (s6.1.flatMap eXimpl_pair_int64.b))), (124, .d (iv (s6.1.length : Int))), (126, .d (iv s21.2)), (142, .d (.rs 73000 0 v27.length)), (144, .d (iv (v27.length : Int))), (146, .d (iv s28.2)), (148, .d (bv (decide (s28.2 < (v27.length : Int))))), bxB 2027 (eXimpl_pair_int64.b y26), (124001, .r (.arr 1 (s28.1.flatMap eI.o) [])), (146001, .r (.arr 1 (v27.flatMap eI.o) []))] .nil (by kernel_rfl) (by kernel_rfl) ?_
        refine tr_seq ?_
        rcases Bool.eq_false_or_eq_true (decide (s28.2 < (v27.length : Int))) with h32 | h32
        · have hM := ite_true' hM h32
          refine tr_condTe (e := decide (s28.2 < (v27.length : Int))) h32 (by kernel_rfl) ?_
          refine tr_skip (q_n ?_)
          refine tr_seq ?_
          refine tr_block ?_
          obtain ⟨y33, hy33, hM⟩ := bind_some' hM
          have hy33' := idx_some hy33
          refine tr_sr hT hm [(1, .val (iv y33))] [0, 6, 8, 10, 12, 22, 24, 26, 30, 122, 124, 126, 142, 144, 146, 2027, 124001, 146001] [(0, .d (.pt (eXFunctor.b a0) 0)), (6, .d (.pt (eXFunctor.b a0) 0)), (8, .d (.pt (eXFunctor.b a0) 5)), (10, .d (iv s1)), (12, .d (.sl s6.1.length 0 (s6.1.flatMap eXimpl_pair_int64.b))), (22, .d (.rs 62000 0 s28.1.length)), (24, .d (iv s21.2)), (26, .d (.rp 1013 0)), (30, .d (iv y33)), (122, .d (.sl s6.1.length 0 (s6.1.flatMap eXimpl_pair_int64.b))), (124, .d (iv (s6.1.length : Int))), (126, .d (iv s21.2)), (142, .d (.rs 73000 0 v27.length)), (144, .d (iv (v27.length : Int))), (146, .d (iv s28.2)), bxB 2027 (eXimpl_pair_int64.b y26), (124001, .r (.arr 1 (s28.1.flatMap eI.o) [])), (146001, .r (.arr 1 (v27.flatMap eI.o) []))] (.cons hy33'.1 (.cons hy33'.2.1 (.cons (at_o0 eI_ok hy33'.2.2 (d := iv y33) (by kernel_rfl)) .nil))) (by kernel_rfl) (by kernel_rfl) ?_
          obtain ⟨y34, hy34, hM⟩ := bind_some' hM
          have hy34' := idx_some hy34
          obtain ⟨y35, hy35, hM⟩ := bind_some' hM
          have hy35' := idx_some hy35
          obtain ⟨v36, hv36, hM⟩ := bind_some' hM
          obtain ⟨v37, hv37, hM⟩ := bind_some' hM
          obtain ⟨v38, hv38, hM⟩ := bind_some' hM
          refine tr_r hT hm [(9, .val (iv y34)), (19, .val (iv y35)), (20, .call [] [] [.pt (eXCategory.b a0.Target) 0, iv y26.second_, iv y35] [] (iv v36)), (22, .call [] [] [.sl s6.1.length 0 (s6.1.flatMap eXimpl_pair_int64.b), .agg [iv y34, iv v36]] [] (iv v37)), (23, .call [] [(0, 62000)] [.rs 0 0 s28.1.length, iv s21.2, iv v37] [(0, .arr 1 (v38.2.flatMap eI.o) [])] (bv v38.1))] [0, 6, 8, 10, 12, 22, 24, 26, 122, 124, 126, 142, 144, 146, 2027, 124001, 146001] [(0, .d (.pt (eXFunctor.b a0) 0)), (6, .d (.pt (eXFunctor.b a0) 0)), (8, .d (.pt (eXFunctor.b a0) 5)), (10, .d (iv s1)), (12, .d (.sl s6.1.length 0 (s6.1.flatMap eXimpl_pair_int64.b))), (22, .d (.rs 62000 0 s28.1.length)), (24, .d (iv s21.2)), (26, .d (.rp 1013 0)), (122, .d (.sl s6.1.length 0 (s6.1.flatMap eXimpl_pair_int64.b))), (124, .d (iv (s6.1.length : Int))), (126, .d (iv s21.2)), (142, .d (.rs 73000 0 v27.length)), (144, .d (iv (v27.length : Int))), (146, .d (iv s28.2)), bxB 2027 (eXimpl_pair_int64.b y26), (124001, .r (.arr 1 (v38.2.flatMap eI.o) [])), (146001, .r (.arr 1 (v27.flatMap eI.o) []))] (.cons hy34'.1 (.cons hy34'.2.1 (.cons (at_b0 eI_ok hy34'.2.2 (d := iv y34) (by kernel_rfl)) (.cons hy35'.1 (.cons hy35'.2.1 (.cons (at_b0 eI_ok hy35'.2.2 (d := iv y35) (by kernel_rfl)) (cc (B := []) (ρ := []) (rB := []) ok163 (impl_Category_then_c a0.Target y26.second_ y35 _ hv36) (.cons (.pass (.ptk (ds := eXFunctor.b a0) (ds' := eXCategory.b a0.Target) (off := 5) (n := 5) (by kernel_rfl) (by kernel_rfl) (by kernel_rfl))) (.cons (.same rfl) (.cons (.same rfl) .nil))) (.inl rfl) (cc0 ok220 (impl_index_impl_pair_int64_c s6.1 (⟨y34, v36⟩ : Ximpl_pair_int64) _ hv37) (by kernel_rfl) (cc (B := []) (ρ := [(0, 62000)]) (rB := []) ok219 (impl_joiner_join_c s28.1 s21.2 v37 _ hv38) (.cons (.pass (.rs rfl)) (.cons (.same rfl) (.cons (.same rfl) .nil))) (.inl rfl) .nil))))))))) (by kernel_rfl) (by kernel_rfl) (b_n (q_n ?_))
          refine Tr.by (imp_cvD (k := 22) (congrArg (D.rs 62000 0) ((M.len_impl_joiner_join hv38) : s28.1.length = v38.2.length)) (by kernel_rfl)) ?_
          refine tr_r hT hm [] [0, 6, 8, 10, 12, 22, 24, 26, 122, 124, 126, 142, 144, 146, 2027, 124001, 146001] [(0, .d (.pt (eXFunctor.b a0) 0)), (6, .d (.pt (eXFunctor.b a0) 0)), (8, .d (.pt (eXFunctor.b a0) 5)), (10, .d (iv s1)), (12, .d (.sl s6.1.length 0 (s6.1.flatMap eXimpl_pair_int64.b))), (22, .d (.rs 62000 0 v38.2.length)), (24, .d (iv s21.2)), (26, .d (.rp 1013 0)), (122, .d (.sl s6.1.length 0 (s6.1.flatMap eXimpl_pair_int64.b))), (124, .d (iv (s6.1.length : Int))), (126, .d (iv s21.2)), (142, .d (.rs 73000 0 v27.length)), (144, .d (iv (v27.length : Int))), (146, .d (iv (IntKind.i64.wrap (s28.2 + 1)))), bxB 2027 (eXimpl_pair_int64.b y26), (124001, .r (.arr 1 (v38.2.flatMap eI.o) [])), (146001, .r (.arr 1 (v27.flatMap eI.o) []))] .nil (by kernel_rfl) (by kernel_rfl) (l_n ?_)
          exact trl_start (ks := [0, 6, 8, 10, 12, 22, 24, 26, 122, 124, 126, 142, 144, 146, 2027, 124001, 146001]) (by kernel_rfl) (ih30 (v38.2, IntKind.i64.wrap (s28.2 + 1)) hM)
        · have hM := ite_false' hM h32
          refine tr_condFe (e := decide (s28.2 < (v27.length : Int))) h32 (by kernel_rfl) ?_
          refine tr_exit (q_x (l_x (b_h (b_n (q_n ?_)))))
          refine tr_r hT hm [] [0, 6, 8, 10, 12, 22, 122, 124, 126, 124001] [(0, .d (.pt (eXFunctor.b a0) 0)), (6, .d (.pt (eXFunctor.b a0) 0)), (8, .d (.pt (eXFunctor.b a0) 5)), (10, .d (iv s1)), (12, .d (.sl s6.1.length 0 (s6.1.flatMap eXimpl_pair_int64.b))), (22, .d (.rs 62000 0 s28.1.length)), (122, .d (.sl s6.1.length 0 (s6.1.flatMap eXimpl_pair_int64.b))), (124, .d (iv (s6.1.length : Int))), (126, .d (iv (IntKind.i64.wrap (s21.2 + 1)))), (124001, .r (.arr 1 (s28.1.flatMap eI.o) []))] .nil (by kernel_rfl) (by kernel_rfl) (l_n ?_)
          exact trl_start (ks := [0, 6, 8, 10, 12, 22, 122, 124, 126, 124001]) (by kernel_rfl) (ih23 (s28.1, IntKind.i64.wrap (s21.2 + 1)) hM)
      · have hM := ite_false' hM h25
        refine tr_condFe (e := decide (s21.2 < (s6.1.length : Int))) h25 (by kernel_rfl) ?_
        refine tr_exit (q_x (l_x (b_h (q_n ?_))))
        obtain ⟨v39, hv39, hM⟩ := bind_some' hM
        obtain ⟨v40, hv40, hM⟩ := bind_some' hM
        refine tr_sr hT hm [(1, .call [] [(0, 62000)] [.rs 0 0 s21.1.length] [(0, .arr 1 (v39.2.flatMap eI.o) [])] (.fr 1 v39.1.length (v39.1.flatMap eI.o))), (2, .call [106000] [] [.sl v39.1.length 0 (v39.1.flatMap eI.b)] [] (iv v40))] [0, 6, 8, 10, 212] [(0, .d (.pt (eXFunctor.b a0) 0)), (6, .d (.pt (eXFunctor.b a0) 0)), (8, .d (.pt (eXFunctor.b a0) 5)), (10, .d (iv s1)), (212, .d (bv (v40 != 1)))] (cc (B := []) (ρ := [(0, 62000)]) (rB := []) ok221 (impl_joiner_partition_c s21.1 _ hv39) (.cons (.pass (.rs rfl)) .nil) (.inl rfl) (cc (B := [106000]) (ρ := []) (rB := [(106000, .arr 1 (v39.1.flatMap eI.o) [])]) ok222 (impl_partition_classes_c v39.1 _ hv40) (.cons (.of1 (.rs (r := 106000) (sz := 1) (refs := []) (memB (by kernel_rfl)) (by kernel_rfl) (bor_flat eI_ok _ _ _))) .nil) (.inr ⟨.v, trivial⟩) .nil)) (by kernel_rfl) (by kernel_rfl) ?_
        rcases Bool.eq_false_or_eq_true (v40 != 1) with h41 | h41
        · have hM := ite_true' hM h41
          refine tr_condTe (e := v40 != 1) h41 (by kernel_rfl) ?_
          refine tr_sr hT hm [] [4] [(4, .d (bv false))] .nil (by kernel_rfl) (by kernel_rfl) ?_
          refine tr_ret (b_r (q_r (l_r (b_r (q_r (rg_r ?_))))))
          obtain rfl := Option.some.inj hM
          exact retg (names := []) .nil (by kernel_rfl)
        · have hM := ite_false' hM h41
          refine tr_condFe (e := v40 != 1) h41 (by kernel_rfl) ?_
          refine tr_skip (b_n (q_n ?_))
          refine tr_r hT hm [] [0, 6, 8, 10] [(0, .d (.pt (eXFunctor.b a0) 0)), (6, .d (.pt (eXFunctor.b a0) 0)), (8, .d (.pt (eXFunctor.b a0) 5)), (10, .d (iv (IntKind.i64.wrap (s1 + 1))))] .nil (by kernel_rfl) (by kernel_rfl) (l_n ?_)
          exact trl_start (ks := [0, 6, 8, 10]) (by kernel_rfl) (ih3 (IntKind.i64.wrap (s1 + 1)) hM)
  · have hM := ite_false' hM h5
    refine tr_condFe (e := decide (s1 < a0.Target.Objects)) h5 (by kernel_rfl) ?_
    refine tr_exit (q_x (l_x (b_h (q_n ?_))))
    refine tr_sr hT hm [] [4] [(4, .d (bv true))] .nil (by kernel_rfl) (by kernel_rfl) ?_
    refine tr_ret (rg_r ?_)
    obtain rfl := Option.some.inj hM
    exact retg (names := []) .nil (by kernel_rfl)

theorem ok62 : CallOk Try.prog 62 := callOk_of Try.func62 (by kernel_rfl) (by kernel_rfl)
theorem impl_IsInitial_c (a0 : XFunctor) (r : Bool × Int) (hM : M.impl_IsInitial a0 = some r) :
    FnC Try.prog 62 [] [.agg (eXFunctor.b a0)] [] (.tup [bv r.1, iv r.2]) := by
  refine fnc_startG (N := 9) (np := 500) hT Try.func62 rfl rfl (by kernel_rfl) ?_
  unfold M.impl_IsInitial at hM
  refine tr_start (ks := [0]) (st' := [(0, .d (.agg (eXFunctor.b a0)))]) (by kernel_rfl) ?_
  refine tr_sr hT hm [] [2, 2003] [(2, .d (.rp 1001 0)), bxB 2003 (eXFunctor.b a0)] .nil (by kernel_rfl) (by kernel_rfl) ?_
  refine tr_seq ?_
  obtain ⟨v1, hv1, hM⟩ := bind_some' hM
  refine tr_sr hT hm [(0, .call [1001] [] [.pt (eXFunctor.b a0) 0] [] (bv v1))] [2, 12, 2003] [(2, .d (.rp 1001 0)), (12, .d (bv (!v1))), bxB 2003 (eXFunctor.b a0)] (cc (B := [1001]) (ρ := []) (rB := [(1001, .arr 1 [iv a0.Source.Objects, .sl a0.Source.From.length 0 (a0.Source.From.flatMap eI.b), .sl a0.Source.To.length 0 (a0.Source.To.flatMap eI.b), .sl a0.Source.Identity.length 0 (a0.Source.Identity.flatMap eI.b), .sl a0.Source.Composites.length 0 (a0.Source.Composites.flatMap (eS eI).b), iv a0.Target.Objects, .sl a0.Target.From.length 0 (a0.Target.From.flatMap eI.b), .sl a0.Target.To.length 0 (a0.Target.To.flatMap eI.b), .sl a0.Target.Identity.length 0 (a0.Target.Identity.flatMap eI.b), .sl a0.Target.Composites.length 0 (a0.Target.Composites.flatMap (eS eI).b), .sl a0.Objects.length 0 (a0.Objects.flatMap eI.b), .sl a0.Arrows.length 0 (a0.Arrows.flatMap eI.b)] [])]) ok81 (impl_Functor_isFunctor_c a0 _ hv1) (.cons (.of1 (.rp (r := 1001) (sz := 1) (cells := [iv a0.Source.Objects, .sl a0.Source.From.length 0 (a0.Source.From.flatMap eI.b), .sl a0.Source.To.length 0 (a0.Source.To.flatMap eI.b), .sl a0.Source.Identity.length 0 (a0.Source.Identity.flatMap eI.b), .sl a0.Source.Composites.length 0 (a0.Source.Composites.flatMap (eS eI).b), iv a0.Target.Objects, .sl a0.Target.From.length 0 (a0.Target.From.flatMap eI.b), .sl a0.Target.To.length 0 (a0.Target.To.flatMap eI.b), .sl a0.Target.Identity.length 0 (a0.Target.Identity.flatMap eI.b), .sl a0.Target.Composites.length 0 (a0.Target.Composites.flatMap (eS eI).b), .sl a0.Objects.length 0 (a0.Objects.flatMap eI.b), .sl a0.Arrows.length 0 (a0.Arrows.flatMap eI.b)]) (refs := []) (memB (by kernel_rfl)) (by kernel_rfl) (.cons .v (.cons (.same rfl rfl) (.cons (.same rfl rfl) (.cons (.same rfl rfl) (.cons (.same rfl rfl) (.cons .v (.cons (.same rfl rfl) (.cons (.same rfl rfl) (.cons (.same rfl rfl) (.cons (.same rfl rfl) (.cons (.same rfl rfl) (.cons (.same rfl rfl) .nil)))))))))))))) .nil) (.inr ⟨.v, trivial⟩) .nil) (by kernel_rfl) (by kernel_rfl) ?_
  rcases Bool.eq_false_or_eq_true v1 with h2 | h2
  · have hM := ite_true' hM h2
    refine tr_condFe (e := !v1) (congrArg not h2) (by kernel_rfl) ?_
    refine tr_skip (q_n ?_)
    obtain ⟨v3, hv3, hM⟩ := bind_some' hM
    refine tr_sr hT hm [(0, .call [1001] [] [.pt (eXFunctor.b a0) 0] [] (.agg (eXFunctor.o v3)))] [8, 2009, 18003, 18005, 18007, 18009, 18013, 18015, 18017, 18019, 18021, 18023] ([(8, .d (.rp 1004 0)), bxO 2009 9000 (eXFunctor.o v3)] ++ rsS 9000 (eXFunctor.o v3)) (cc (B := [1001]) (ρ := []) (rB := [(1001, .arr 1 [iv a0.Source.Objects, .sl a0.Source.From.length 0 (a0.Source.From.flatMap eI.b), .sl a0.Source.To.length 0 (a0.Source.To.flatMap eI.b), .sl a0.Source.Identity.length 0 (a0.Source.Identity.flatMap eI.b), .sl a0.Source.Composites.length 0 (a0.Source.Composites.flatMap (eS eI).b), iv a0.Target.Objects, .sl a0.Target.From.length 0 (a0.Target.From.flatMap eI.b), .sl a0.Target.To.length 0 (a0.Target.To.flatMap eI.b), .sl a0.Target.Identity.length 0 (a0.Target.Identity.flatMap eI.b), .sl a0.Target.Composites.length 0 (a0.Target.Composites.flatMap (eS eI).b), .sl a0.Objects.length 0 (a0.Objects.flatMap eI.b), .sl a0.Arrows.length 0 (a0.Arrows.flatMap eI.b)] [])]) ok133 (impl_Functor_opposite_c a0 _ hv3) (.cons (.of1 (.rp (r := 1001) (sz := 1) (cells := [iv a0.Source.Objects, .sl a0.Source.From.length 0 (a0.Source.From.flatMap eI.b), .sl a0.Source.To.length 0 (a0.Source.To.flatMap eI.b), .sl a0.Source.Identity.length 0 (a0.Source.Identity.flatMap eI.b), .sl a0.Source.Composites.length 0 (a0.Source.Composites.flatMap (eS eI).b), iv a0.Target.Objects, .sl a0.Target.From.length 0 (a0.Target.From.flatMap eI.b), .sl a0.Target.To.length 0 (a0.Target.To.flatMap eI.b), .sl a0.Target.Identity.length 0 (a0.Target.Identity.flatMap eI.b), .sl a0.Target.Composites.length 0 (a0.Target.Composites.flatMap (eS eI).b), .sl a0.Objects.length 0 (a0.Objects.flatMap eI.b), .sl a0.Arrows.length 0 (a0.Arrows.flatMap eI.b)]) (refs := []) (memB (by kernel_rfl)) (by kernel_rfl) (.cons .v (.cons (.same rfl rfl) (.cons (.same rfl rfl) (.cons (.same rfl rfl) (.cons (.same rfl rfl) (.cons .v (.cons (.same rfl rfl) (.cons (.same rfl rfl) (.cons (.same rfl rfl) (.cons (.same rfl rfl) (.cons (.same rfl rfl) (.cons (.same rfl rfl) .nil)))))))))))))) .nil) (.inr ⟨(.agg (eXFunctor_nb _)), trivial⟩) (.cons (Nat.le_of_ble_eq_true (n := 12) (m := 12) rfl) .nil)) (by kernel_rfl) (by kernel_rfl) ?_
    obtain ⟨v4, hv4, hM⟩ := bind_some' hM
    refine tr_sr hT hm [(0, .call ([1004] ++ rsR 9000 (eXFunctor.o v3)) [] [.pt (eXFunctor.b v3) 0] [] (bv v4))] [4, 6] [(4, .d (bv v4)), (6, .d (iv 0))] (cc (B := ([1004] ++ rsR 9000 (eXFunctor.o v3))) (ρ := []) (rB := ([(1004, .arr 1 [iv v3.Source.Objects, .rs 9001 0 v3.Source.From.length, .rs 9002 0 v3.Source.To.length, .rs 9003 0 v3.Source.Identity.length, .rs 9004 0 v3.Source.Composites.length, iv v3.Target.Objects, .rs 9006 0 v3.Target.From.length, .rs 9007 0 v3.Target.To.length, .rs 9008 0 v3.Target.Identity.length, .rs 9009 0 v3.Target.Composites.length, .rs 9010 0 v3.Objects.length, .rs 9011 0 v3.Arrows.length] [9001, 9002, 9003, 9004, 9006, 9007, 9008, 9009, 9010, 9011])] ++ rsP 9000 (eXFunctor.o v3))) ok134 (impl_Functor_isFinal_c v3 _ hv4) (.cons (.of1 (.rp (r := 1004) (sz := 1) (cells := [iv v3.Source.Objects, .rs 9001 0 v3.Source.From.length, .rs 9002 0 v3.Source.To.length, .rs 9003 0 v3.Source.Identity.length, .rs 9004 0 v3.Source.Composites.length, iv v3.Target.Objects, .rs 9006 0 v3.Target.From.length, .rs 9007 0 v3.Target.To.length, .rs 9008 0 v3.Target.Identity.length, .rs 9009 0 v3.Target.Composites.length, .rs 9010 0 v3.Objects.length, .rs 9011 0 v3.Arrows.length]) (refs := [9001, 9002, 9003, 9004, 9006, 9007, 9008, 9009, 9010, 9011]) (memB (by kernel_rfl)) (by kernel_rfl) (.cons .v (.cons (.rs (r := 9001) (sz := 1) (refs := []) (memB (by kernel_rfl)) (by kernel_rfl) (bor_flat eI_ok _ _ _)) (.cons (.rs (r := 9002) (sz := 1) (refs := []) (memB (by kernel_rfl)) (by kernel_rfl) (bor_flat eI_ok _ _ _)) (.cons (.rs (r := 9003) (sz := 1) (refs := []) (memB (by kernel_rfl)) (by kernel_rfl) (bor_flat eI_ok _ _ _)) (.cons (.rs (r := 9004) (sz := 1) (refs := []) (memB (by kernel_rfl)) (by kernel_rfl) (bor_flat (eS_ok eI_ok) _ _ _)) (.cons .v (.cons (.rs (r := 9006) (sz := 1) (refs := []) (memB (by kernel_rfl)) (by kernel_rfl) (bor_flat eI_ok _ _ _)) (.cons (.rs (r := 9007) (sz := 1) (refs := []) (memB (by kernel_rfl)) (by kernel_rfl) (bor_flat eI_ok _ _ _)) (.cons (.rs (r := 9008) (sz := 1) (refs := []) (memB (by kernel_rfl)) (by kernel_rfl) (bor_flat eI_ok _ _ _)) (.cons (.rs (r := 9009) (sz := 1) (refs := []) (memB (by kernel_rfl)) (by kernel_rfl) (bor_flat (eS_ok eI_ok) _ _ _)) (.cons (.rs (r := 9010) (sz := 1) (refs := []) (memB (by kernel_rfl)) (by kernel_rfl) (bor_flat eI_ok _ _ _)) (.cons (.rs (r := 9011) (sz := 1) (refs := []) (memB (by kernel_rfl)) (by kernel_rfl) (bor_flat eI_ok _ _ _)) .nil)))))))))))))) .nil) (.inr ⟨.v, trivial⟩) .nil) (by kernel_rfl) (by kernel_rfl) ?_
    refine tr_ret (rg_r ?_)
    obtain rfl := Option.some.inj hM
    exact retg (names := []) .nil (by kernel_rfl)
  · have hM := ite_false' hM h2
    refine tr_condTe (e := !v1) (congrArg not h2) (by kernel_rfl) ?_
    refine tr_sr hT hm [] [4, 6] [(4, .d (bv false)), (6, .d (iv 1))] .nil (by kernel_rfl) (by kernel_rfl) ?_
    refine tr_ret (q_r (rg_r ?_))
    obtain rfl := Option.some.inj hM
    exact retg (names := []) .nil (by kernel_rfl)

theorem laws_FnExactIsInitial_c (a0 : XFunctor) (r : Bool) (hM : M.laws_FnExactIsInitial a0 = some r) :
    FnC Try.prog 11 [] [.agg (eXFunctor.b a0)] [] (bv r) := by
  refine fnc_startG (N := 40) (np := 500) hT Try.func11 rfl rfl (by kernel_rfl) ?_
  unfold M.laws_FnExactIsInitial at hM
  refine tr_start (ks := [0]) (st' := [(0, .d (.agg (eXFunctor.b a0)))]) (by kernel_rfl) ?_
  refine tr_sr hT hm [] [2, 2003] [(2, .d (.rp 1001 0)), bxB 2003 (eXFunctor.b a0)] .nil (by kernel_rfl) (by kernel_rfl) ?_
  refine tr_sr hT hm [] [2, 6, 2003] [(2, .d (.rp 1001 0)), (6, .d (iv 1048576)), bxB 2003 (eXFunctor.b a0)] .nil (by kernel_rfl) (by kernel_rfl) ?_
  obtain ⟨v1, hv1, hM⟩ := bind_some' hM
  refine tr_sr hT hm [(2, .call [] [] [.agg (eXFunctor.b a0), iv 1048576] [] (iv v1))] [2, 6, 2003] [(2, .d (.rp 1001 0)), (6, .d (iv v1)), bxB 2003 (eXFunctor.b a0)] (cc0 ok15 (laws_szFunctor_c a0 1048576 _ hv1) (by kernel_rfl) .nil) (by kernel_rfl) (by kernel_rfl) ?_
  refine tr_seq ?_
  refine tr_sr hT hm [] [2, 26, 2003] [(2, .d (.rp 1001 0)), (26, .d (bv (decide (v1 < 0)))), bxB 2003 (eXFunctor.b a0)] .nil (by kernel_rfl) (by kernel_rfl) ?_
  rcases Bool.eq_false_or_eq_true (decide (v1 < 0)) with h2 | h2
  · have hM := ite_true' hM h2
    refine tr_condTe (e := decide (v1 < 0)) h2 (by kernel_rfl) ?_
    refine tr_sr hT hm [] [4] [(4, .d (bv true))] .nil (by kernel_rfl) (by kernel_rfl) ?_
    refine tr_ret (q_r (rg_r ?_))
    obtain rfl := Option.some.inj hM
    exact retg (names := []) .nil (by kernel_rfl)
  · have hM := ite_false' hM h2
    refine tr_condFe (e := decide (v1 < 0)) h2 (by kernel_rfl) ?_
    refine tr_skip (q_n ?_)
    obtain ⟨v3, hv3, hM⟩ := bind_some' hM
    obtain ⟨v4, hv4, hM⟩ := bind_some' hM
    refine tr_sr hT hm [(1, .call [] [] [.agg (eXFunctor.b a0)] [] (.agg (eXFunctor.o v3))), (2, .call (rsR 18000 (eXFunctor.o v3)) [] [.agg (eXFunctor.b v3)] [] (.tup [bv v4.1, iv v4.2]))] [2, 8, 10, 2003] [(2, .d (.rp 1001 0)), (8, .d (bv v4.1)), (10, .d (iv v4.2)), bxB 2003 (eXFunctor.b a0)] (cc0 ok18 (laws_toFunctor_c a0 _ hv3) (by kernel_rfl) (cc (B := (rsR 18000 (eXFunctor.o v3))) (ρ := []) (rB := (rsP 18000 (eXFunctor.o v3))) ok61 (spec_IsInitial_c v3 _ hv4) (.cons (bor_rs eXFunctor_r (q := 18000) (x := v3) (by kernel_rfl) (by kernel_rfl)) .nil) (.inr ⟨(nobor_tup (.cons .v (.cons .v .nil))), trivial⟩) .nil)) (by kernel_rfl) (by kernel_rfl) ?_
    refine tr_sr hT hm [(1, .call [] [] [.agg (eXFunctor.b a0)] [] (.agg (eXFunctor.o v3)))] [2, 8, 10, 12, 2003, 2013, 46003, 46005, 46007, 46009, 46013, 46015, 46017, 46019, 46021, 46023] ([(2, .d (.rp 1001 0)), (8, .d (bv v4.1)), (10, .d (iv v4.2)), (12, .d (.rp 1006 0)), bxB 2003 (eXFunctor.b a0), bxO 2013 23000 (eXFunctor.o v3)] ++ rsS 23000 (eXFunctor.o v3)) (cc0 ok18 (laws_toFunctor_c a0 _ hv3) (by kernel_rfl) (.cons (Nat.le_of_ble_eq_true (n := 12) (m := 12) rfl) .nil)) (by kernel_rfl) (by kernel_rfl) ?_
    obtain ⟨v5, hv5, hM⟩ := bind_some' hM
    refine tr_sr hT hm [(1, .call (rsR 23000 (eXFunctor.o v3)) [] [.agg (eXFunctor.b v3)] [] (.tup [bv v5.1, iv v5.2]))] [2, 8, 10, 12, 14, 16, 2003, 2013, 46003, 46005, 46007, 46009, 46013, 46015, 46017, 46019, 46021, 46023] ([(2, .d (.rp 1001 0)), (8, .d (bv v4.1)), (10, .d (iv v4.2)), (12, .d (.rp 1006 0)), (14, .d (bv v5.1)), (16, .d (iv v5.2)), bxB 2003 (eXFunctor.b a0), bxO 2013 23000 (eXFunctor.o v3)] ++ rsS 23000 (eXFunctor.o v3)) (cc (B := (rsR 23000 (eXFunctor.o v3))) (ρ := []) (rB := (rsP 23000 (eXFunctor.o v3))) ok62 (impl_IsInitial_c v3 _ hv5) (.cons (bor_rs eXFunctor_r (q := 23000) (x := v3) (by kernel_rfl) (by kernel_rfl)) .nil) (.inr ⟨(nobor_tup (.cons .v (.cons .v .nil))), trivial⟩) .nil) (by kernel_rfl) (by kernel_rfl) ?_
    refine tr_seq ?_
    rcases Bool.eq_false_or_eq_true ((v5.1 == v4.1) == false) with h6 | h6
    · have hM := ite_true' hM h6
      refine tr_sr hT hm [(3, .val (bv true))] [2, 12, 68, 2003, 2013, 46003, 46005, 46007, 46009, 46013, 46015, 46017, 46019, 46021, 46023] ([(2, .d (.rp 1001 0)), (12, .d (.rp 1006 0)), (68, .d (bv true)), bxB 2003 (eXFunctor.b a0), bxO 2013 23000 (eXFunctor.o v3)] ++ rsS 23000 (eXFunctor.o v3)) (.cons (congrArg (fun b => bv b) h6) .nil) (by kernel_rfl) (by kernel_rfl) ?_
      refine tr_condT (by kernel_rfl) ?_
      refine tr_sr hT hm [] [4] [(4, .d (bv false))] .nil (by kernel_rfl) (by kernel_rfl) ?_
      refine tr_ret (q_r (rg_r ?_))
      obtain rfl := Option.some.inj hM
      exact retg (names := []) .nil (by kernel_rfl)
    · have hM := ite_false' hM h6
      refine tr_sr hT hm [(3, .val (bv false))] [2, 12, 68, 2003, 2013, 46003, 46005, 46007, 46009, 46013, 46015, 46017, 46019, 46021, 46023] ([(2, .d (.rp 1001 0)), (12, .d (.rp 1006 0)), (68, .d (bv (v5.2 != v4.2))), bxB 2003 (eXFunctor.b a0), bxO 2013 23000 (eXFunctor.o v3)] ++ rsS 23000 (eXFunctor.o v3)) (.cons (congrArg (fun b => bv b) h6) .nil) (by kernel_rfl) (by kernel_rfl) ?_
      rcases Bool.eq_false_or_eq_true (v5.2 != v4.2) with h7 | h7
      · have hM := ite_true' hM h7
        refine tr_condTe (e := v5.2 != v4.2) h7 (by kernel_rfl) ?_
        refine tr_sr hT hm [] [4] [(4, .d (bv false))] .nil (by kernel_rfl) (by kernel_rfl) ?_
        refine tr_ret (q_r (rg_r ?_))
        obtain rfl := Option.some.inj hM
        exact retg (names := []) .nil (by kernel_rfl)
      · have hM := ite_false' hM h7
        refine tr_condFe (e := v5.2 != v4.2) h7 (by kernel_rfl) ?_
        refine tr_skip (q_n ?_)
        refine tr_seq ?_
        obtain ⟨v8, hv8, hM⟩ := bind_some' hM
        refine tr_sr hT hm [(2, .call [] [] [.agg (eXFunctor.b a0)] [] (.agg (eXFunctor.o v3))), (3, .call (rsR 23000 (eXFunctor.o v3) ++ rsR 39000 (eXFunctor.o v3)) [] [.agg (eXFunctor.b v3), .agg (eXFunctor.b v3)] [] (bv v8))] [78] [(78, .d (bv (!v8)))] (cc0 ok18 (laws_toFunctor_c a0 _ hv3) (by kernel_rfl) (cc (B := (rsR 23000 (eXFunctor.o v3) ++ rsR 39000 (eXFunctor.o v3))) (ρ := []) (rB := (rsP 23000 (eXFunctor.o v3) ++ rsP 39000 (eXFunctor.o v3))) ok21 (laws_eqFunctor_c v3 v3 _ hv8) (.cons (bor_rs eXFunctor_r (q := 23000) (x := v3) (by kernel_rfl) (by kernel_rfl)) (.cons (bor_rs eXFunctor_r (q := 39000) (x := v3) (by kernel_rfl) (by kernel_rfl)) .nil)) (.inr ⟨.v, trivial⟩) .nil)) (by kernel_rfl) (by kernel_rfl) ?_
        rcases Bool.eq_false_or_eq_true v8 with h9 | h9
        · have hM := ite_true' hM h9
          refine tr_condFe (e := !v8) (congrArg not h9) (by kernel_rfl) ?_
          refine tr_skip (q_n ?_)
          refine tr_sr hT hm [] [4] [(4, .d (bv true))] .nil (by kernel_rfl) (by kernel_rfl) ?_
          refine tr_ret (rg_r ?_)
          obtain rfl := Option.some.inj hM
          exact retg (names := []) .nil (by kernel_rfl)
        · have hM := ite_false' hM h9
          refine tr_condTe (e := !v8) (congrArg not h9) (by kernel_rfl) ?_
          refine tr_sr hT hm [] [4] [(4, .d (bv false))] .nil (by kernel_rfl) (by kernel_rfl) ?_
          refine tr_ret (q_r (rg_r ?_))
          obtain rfl := Option.some.inj hM
          exact retg (names := []) .nil (by kernel_rfl)

end Go.Proofs.Ytiikkfdehbcfaaa.Wz37
