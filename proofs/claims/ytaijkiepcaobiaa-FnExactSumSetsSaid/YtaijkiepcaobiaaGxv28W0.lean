/- Walks. Printed by wip/gen. -/
import Derived.Test.YtaijkiepcaobiaaGxv28W
namespace Go.Proofs.Ytaijkiepcaobiaa.Wv28
open Go.Gx Go.Proofs.Ytaijkiepcaobiaa.WvB Go.Proofs.Ytaijkiepcaobiaa.WvS Go.Proofs.Ytaijkiepcaobiaa.WvQ Go.Proofs.Ytaijkiepcaobiaa.WvI

theorem ok95 : CallOk Try.prog 95 := callOk_of Try.func95 (by kernel_rfl) (by kernel_rfl)
theorem spec_l21Two_c (a0 : XSetFunctor) (a1 : XSetFunctor) (r : Int) (hM : M.spec_l21Two a0 a1 = some r) :
    FnC Try.prog 95 [] [.agg (eXSetFunctor.b a0), .agg (eXSetFunctor.b a1)] [] (iv r) := by
  refine fnc_startG (N := 21) (np := 500) hT Try.func95 rfl rfl (by kernel_rfl) ?_
  unfold M.spec_l21Two at hM
  refine tr_start (ks := [0, 2]) (st' := [(0, .d (.agg (eXSetFunctor.b a0))), (2, .d (.agg (eXSetFunctor.b a1)))]) (by kernel_rfl) ?_
  refine tr_sr hT hm [] [4, 6, 2005, 2007] [(4, .d (.rp 1002 0)), (6, .d (.rp 1003 0)), bxB 2005 (eXSetFunctor.b a0), bxB 2007 (eXSetFunctor.b a1)] .nil (by kernel_rfl) (by kernel_rfl) ?_
  refine tr_seq ?_
  refine tr_block ?_
  obtain ⟨v1, hv1, hM⟩ := bind_some' hM
  rcases Bool.eq_false_or_eq_true v1 with h2 | h2
  · have hM := ite_true' hM h2
    obtain ⟨v3, hv3, hM⟩ := bind_some' hM
    refine tr_sr hT hm [(1, .call [] [] [.agg (eXSetFunctor.b a0)] [] (bv v1)), (3, .val (bv false)), (5, .call [] [] [.agg (eXSetFunctor.b a1)] [] (bv v3))] [4, 6, 10, 2005, 2007] [(4, .d (.rp 1002 0)), (6, .d (.rp 1003 0)), (10, .d (bv (!v3))), bxB 2005 (eXSetFunctor.b a0), bxB 2007 (eXSetFunctor.b a1)] (cc0 ok144 (spec_l19Is_c a0 _ hv1) (by kernel_rfl) (.cons (congrArg (fun b => bv b) (congrArg not h2)) (cc0 ok144 (spec_l19Is_c a1 _ hv3) (by kernel_rfl) .nil))) (by kernel_rfl) (by kernel_rfl) ?_
    rcases Bool.eq_false_or_eq_true v3 with h4 | h4
    · have hM := ite_true' hM h4
      refine tr_condFe (e := !v3) (congrArg not h4) (by kernel_rfl) ?_
      obtain ⟨v5, hv5, hM⟩ := bind_some' hM
      refine tr_sr hT hm [(4, .call [] [] [.agg (eXCategory.b a0.Shape), .agg (eXCategory.b a1.Shape)] [] (bv v5))] [28] [(28, .d (bv (!v5)))] (cc0 ok66 (spec_l02Same_c a0.Shape a1.Shape _ hv5) (by kernel_rfl) .nil) (by kernel_rfl) (by kernel_rfl) ?_
      rcases Bool.eq_false_or_eq_true v5 with h6 | h6
      · have hM := ite_true' hM h6
        refine tr_condFe (e := !v5) (congrArg not h6) (by kernel_rfl) ?_
        refine tr_skip (b_n (q_n ?_))
        refine tr_sr hT hm [] [8] [(8, .d (iv 0))] .nil (by kernel_rfl) (by kernel_rfl) ?_
        refine tr_ret (rg_r ?_)
        obtain rfl := Option.some.inj hM
        exact retg (names := []) .nil (by kernel_rfl)
      · have hM := ite_false' hM h6
        refine tr_condTe (e := !v5) (congrArg not h6) (by kernel_rfl) ?_
        refine tr_sr hT hm [] [8] [(8, .d (iv 5))] .nil (by kernel_rfl) (by kernel_rfl) ?_
        refine tr_ret (b_r (q_r (rg_r ?_)))
        obtain rfl := Option.some.inj hM
        exact retg (names := []) .nil (by kernel_rfl)
    · have hM := ite_false' hM h4
      refine tr_condTe (e := !v3) (congrArg not h4) (by kernel_rfl) ?_
      refine tr_sr hT hm [] [8] [(8, .d (iv 1))] .nil (by kernel_rfl) (by kernel_rfl) ?_
      refine tr_ret (b_r (q_r (rg_r ?_)))
      obtain rfl := Option.some.inj hM
      exact retg (names := []) .nil (by kernel_rfl)
  · have hM := ite_false' hM h2
    refine tr_sr hT hm [(1, .call [] [] [.agg (eXSetFunctor.b a0)] [] (bv v1)), (3, .val (bv true))] [4, 6, 10, 2005, 2007] [(4, .d (.rp 1002 0)), (6, .d (.rp 1003 0)), (10, .d (bv true)), bxB 2005 (eXSetFunctor.b a0), bxB 2007 (eXSetFunctor.b a1)] (cc0 ok144 (spec_l19Is_c a0 _ hv1) (by kernel_rfl) (.cons (congrArg (fun b => bv b) (congrArg not h2)) .nil)) (by kernel_rfl) (by kernel_rfl) ?_
    refine tr_condT (by kernel_rfl) ?_
    refine tr_sr hT hm [] [8] [(8, .d (iv 1))] .nil (by kernel_rfl) (by kernel_rfl) ?_
    refine tr_ret (b_r (q_r (rg_r ?_)))
    obtain rfl := Option.some.inj hM
    exact retg (names := []) .nil (by kernel_rfl)

theorem ok96 : CallOk Try.prog 96 := callOk_of Try.func96 (by kernel_rfl) (by kernel_rfl)
theorem spec_l21Sum_c (a0 : XSetFunctor) (a1 : XSetFunctor) (r : XSetFunctor × (List (List Int)) × (List (List Int))) (hM : M.spec_l21Sum a0 a1 = some r) :
    FnC Try.prog 96 [] [.agg (eXSetFunctor.b a0), .agg (eXSetFunctor.b a1)] [] (.tup [.agg (eXSetFunctor.o r.1), .fr 1 r.2.1.length (r.2.1.flatMap (eS eI).o), .fr 1 r.2.2.length (r.2.2.flatMap (eS eI).o)]) := by
  refine fnc_startG (N := 145) (np := 500) hT Try.func96 rfl rfl (by kernel_rfl) ?_
  unfold M.spec_l21Sum at hM
  refine tr_start (ks := [0, 2]) (st' := [(0, .d (.agg (eXSetFunctor.b a0))), (2, .d (.agg (eXSetFunctor.b a1)))]) (by kernel_rfl) ?_
  refine tr_sr hT hm [] [4, 6, 8, 2005, 2007, 2009] [(4, .d (.rp 1002 0)), (6, .d (.rp 1003 0)), (8, .d (.rp 1004 0)), bxB 2005 (eXSetFunctor.b a0), bxB 2007 (eXSetFunctor.b a1), (2009, .r (.arr 1 [iv 0, nilv, nilv, nilv, nilv, nilv, nilv] []))] .nil (by kernel_rfl) (by kernel_rfl) ?_
  obtain ⟨v1, hv1, hM⟩ := bind_some' hM
  refine tr_sr hT hm [(2, .call [] [] [.agg (eXCategory.b a0.Shape)] [] (.agg (eXCategory.o v1)))] [4, 6, 8, 14, 16, 18, 2005, 2007, 2009, 2015, 2047, 2049, 46003, 46005, 46007, 46009] ([(4, .d (.rp 1002 0)), (6, .d (.rp 1003 0)), (8, .d (.rp 1004 0)), (14, .d (.rp 1007 0)), (16, .d (.rs 1023 0 (([] : List (List Int)).length))), (18, .d (.rs 1024 0 (([] : List (List Int)).length))), bxB 2005 (eXSetFunctor.b a0), bxB 2007 (eXSetFunctor.b a1), (2009, .r (.arr 1 [iv 0, nilv, nilv, nilv, nilv, nilv, nilv] [])), (2015, .r (.arr 1 [iv v1.Objects, .rs 23001 0 v1.From.length, .rs 23002 0 v1.To.length, .rs 23003 0 v1.Identity.length, .rs 23004 0 v1.Composites.length, nilv, nilv] [23001, 23002, 23003, 23004])), (2047, .r (.arr 1 (([] : List (List Int)).flatMap (eS eI).o) [])), (2049, .r (.arr 1 (([] : List (List Int)).flatMap (eS eI).o) []))] ++ rsS 23000 (eXCategory.o v1)) (cc0 ok126 (spec_l02Own_c a0.Shape _ hv1) (by kernel_rfl) (.cons (Nat.le_of_ble_eq_true (n := 7) (m := 7) rfl) .nil)) (by kernel_rfl) (by kernel_rfl) ?_
  refine tr_seq ?_
  refine tr_sr hT hm [] [4, 6, 8, 14, 16, 18, 20, 2005, 2007, 2009, 2015, 2047, 2049, 46003, 46005, 46007, 46009] ([(4, .d (.rp 1002 0)), (6, .d (.rp 1003 0)), (8, .d (.rp 1004 0)), (14, .d (.rp 1007 0)), (16, .d (.rs 1023 0 (([] : List (List Int)).length))), (18, .d (.rs 1024 0 (([] : List (List Int)).length))), (20, .d (iv 0)), bxB 2005 (eXSetFunctor.b a0), bxB 2007 (eXSetFunctor.b a1), (2009, .r (.arr 1 [iv 0, nilv, nilv, nilv, nilv, nilv, nilv] [])), (2015, .r (.arr 1 [iv v1.Objects, .rs 23001 0 v1.From.length, .rs 23002 0 v1.To.length, .rs 23003 0 v1.Identity.length, .rs 23004 0 v1.Composites.length, nilv, nilv] [23001, 23002, 23003, 23004])), (2047, .r (.arr 1 (([] : List (List Int)).flatMap (eS eI).o) [])), (2049, .r (.arr 1 (([] : List (List Int)).flatMap (eS eI).o) []))] ++ rsS 23000 (eXCategory.o v1)) .nil (by kernel_rfl) (by kernel_rfl) ?_
  refine tr_block ?_
  refine Tr.by (imp_cvB (r := 1007) (sz := 1) (cells := [iv v1.Objects, .rs 23001 0 v1.From.length, .rs 23002 0 v1.To.length, .rs 23003 0 v1.Identity.length, .rs 23004 0 v1.Composites.length, nilv, nilv]) (cells' := [iv v1.Objects, .rs 23001 0 v1.From.length, .rs 23002 0 v1.To.length, .rs 23003 0 v1.Identity.length, .rs 23004 0 v1.Composites.length, .fr 1 ([] : List Int).length (([] : List Int).flatMap eI.o), nilv]) (refs := [23001, 23002, 23003, 23004]) (refs' := [23001, 23002, 23003, 23004]) (.cons (.refl _) (.cons (.refl _) (.cons (.refl _) (.cons (.refl _) (.cons (.refl _) (.cons Sub.nil_fr (.cons (.refl _) .nil))))))) (by kernel_rfl) (by kernel_rfl) (by kernel_rfl)) ?_
  refine tr_iterS (fun (s2 : (List (List Int)) × (List (List Int)) × (List Int) × Int) => ([(4, .d (.rp 1002 0)), (6, .d (.rp 1003 0)), (8, .d (.rp 1004 0)), (14, .d (.rp 1007 0)), (16, .d (.rs 1023 0 s2.1.length)), (18, .d (.rs 1024 0 s2.2.1.length)), (20, .d (iv s2.2.2.2)), bxB 2005 (eXSetFunctor.b a0), bxB 2007 (eXSetFunctor.b a1), (2009, .r (.arr 1 [iv 0, nilv, nilv, nilv, nilv, nilv, nilv] [])), (2015, .r (.arr 1 [iv v1.Objects, .rs 23001 0 v1.From.length, .rs 23002 0 v1.To.length, .rs 23003 0 v1.Identity.length, .rs 23004 0 v1.Composites.length, .fr 1 s2.2.2.1.length (s2.2.2.1.flatMap eI.o), nilv] [23001, 23002, 23003, 23004])), (2047, .r (.arr 1 (s2.1.flatMap (eS eI).o) [])), (2049, .r (.arr 1 (s2.2.1.flatMap (eS eI).o) []))] ++ rsS 23000 (eXCategory.o v1))) (([] : List (List Int)), ([] : List (List Int)), ([] : List Int), 0) [4, 6, 8, 14, 16, 18, 20, 2005, 2007, 2009, 2015, 2047, 2049, 46003, 46005, 46007, 46009] (by kernel_rfl) hM ?_
  intro n5 next3 ih4 s2 hM
  refine tr_seq ?_
  refine tr_sr hT hm [] [4, 6, 8, 14, 16, 18, 20, 58, 2005, 2007, 2009, 2015, 2047, 2049, 46003, 46005, 46007, 46009] ([(4, .d (.rp 1002 0)), (6, .d (.rp 1003 0)), (8, .d (.rp 1004 0)), (14, .d (.rp 1007 0)), (16, .d (.rs 1023 0 s2.1.length)), (18, .d (.rs 1024 0 s2.2.1.length)), (20, .d (iv s2.2.2.2)), (58, .d (bv (decide (s2.2.2.2 < (a0.Sizes.length : Int))))), bxB 2005 (eXSetFunctor.b a0), bxB 2007 (eXSetFunctor.b a1), (2009, .r (.arr 1 [iv 0, nilv, nilv, nilv, nilv, nilv, nilv] [])), (2015, .r (.arr 1 [iv v1.Objects, .rs 23001 0 v1.From.length, .rs 23002 0 v1.To.length, .rs 23003 0 v1.Identity.length, .rs 23004 0 v1.Composites.length, .fr 1 s2.2.2.1.length (s2.2.2.1.flatMap eI.o), nilv] [23001, 23002, 23003, 23004])), (2047, .r (.arr 1 (s2.1.flatMap (eS eI).o) [])), (2049, .r (.arr 1 (s2.2.1.flatMap (eS eI).o) []))] ++ rsS 23000 (eXCategory.o v1)) .nil (by kernel_rfl) (by kernel_rfl) ?_
  rcases Bool.eq_false_or_eq_true (decide (s2.2.2.2 < (a0.Sizes.length : Int))) with h6 | h6
  · have hM := ite_true' hM h6
    refine tr_condTe (e := decide (s2.2.2.2 < (a0.Sizes.length : Int))) h6 (by kernel_rfl) ?_
    refine tr_skip (q_n ?_)
    refine tr_seq ?_
    refine tr_block ?_
    refine tr_sr hT hm [] [4, 6, 8, 14, 16, 18, 20, 22, 24, 2005, 2007, 2009, 2015, 2047, 2049, 2065, 2067, 46003, 46005, 46007, 46009] ([(4, .d (.rp 1002 0)), (6, .d (.rp 1003 0)), (8, .d (.rp 1004 0)), (14, .d (.rp 1007 0)), (16, .d (.rs 1023 0 s2.1.length)), (18, .d (.rs 1024 0 s2.2.1.length)), (20, .d (iv s2.2.2.2)), (22, .d (.rs 1032 0 (([] : List Int).length))), (24, .d (.rs 1033 0 (([] : List Int).length))), bxB 2005 (eXSetFunctor.b a0), bxB 2007 (eXSetFunctor.b a1), (2009, .r (.arr 1 [iv 0, nilv, nilv, nilv, nilv, nilv, nilv] [])), (2015, .r (.arr 1 [iv v1.Objects, .rs 23001 0 v1.From.length, .rs 23002 0 v1.To.length, .rs 23003 0 v1.Identity.length, .rs 23004 0 v1.Composites.length, .fr 1 s2.2.2.1.length (s2.2.2.1.flatMap eI.o), nilv] [23001, 23002, 23003, 23004])), (2047, .r (.arr 1 (s2.1.flatMap (eS eI).o) [])), (2049, .r (.arr 1 (s2.2.1.flatMap (eS eI).o) [])), (2065, .r (.arr 1 (([] : List Int).flatMap eI.o) [])), (2067, .r (.arr 1 (([] : List Int).flatMap eI.o) []))] ++ rsS 23000 (eXCategory.o v1)) .nil (by kernel_rfl) (by kernel_rfl) ?_
    refine tr_seq ?_
    refine tr_sr hT hm [] [4, 6, 8, 14, 16, 18, 20, 22, 24, 26, 2005, 2007, 2009, 2015, 2047, 2049, 2065, 2067, 46003, 46005, 46007, 46009] ([(4, .d (.rp 1002 0)), (6, .d (.rp 1003 0)), (8, .d (.rp 1004 0)), (14, .d (.rp 1007 0)), (16, .d (.rs 1023 0 s2.1.length)), (18, .d (.rs 1024 0 s2.2.1.length)), (20, .d (iv s2.2.2.2)), (22, .d (.rs 1032 0 (([] : List Int).length))), (24, .d (.rs 1033 0 (([] : List Int).length))), (26, .d (iv 0)), bxB 2005 (eXSetFunctor.b a0), bxB 2007 (eXSetFunctor.b a1), (2009, .r (.arr 1 [iv 0, nilv, nilv, nilv, nilv, nilv, nilv] [])), (2015, .r (.arr 1 [iv v1.Objects, .rs 23001 0 v1.From.length, .rs 23002 0 v1.To.length, .rs 23003 0 v1.Identity.length, .rs 23004 0 v1.Composites.length, .fr 1 s2.2.2.1.length (s2.2.2.1.flatMap eI.o), nilv] [23001, 23002, 23003, 23004])), (2047, .r (.arr 1 (s2.1.flatMap (eS eI).o) [])), (2049, .r (.arr 1 (s2.2.1.flatMap (eS eI).o) [])), (2065, .r (.arr 1 (([] : List Int).flatMap eI.o) [])), (2067, .r (.arr 1 (([] : List Int).flatMap eI.o) []))] ++ rsS 23000 (eXCategory.o v1)) .nil (by kernel_rfl) (by kernel_rfl) ?_
    refine tr_block ?_
    refine tr_iterS (fun (s7 : (List Int) × Int) => ([(4, .d (.rp 1002 0)), (6, .d (.rp 1003 0)), (8, .d (.rp 1004 0)), (14, .d (.rp 1007 0)), (16, .d (.rs 1023 0 s2.1.length)), (18, .d (.rs 1024 0 s2.2.1.length)), (20, .d (iv s2.2.2.2)), (22, .d (.rs 1032 0 s7.1.length)), (24, .d (.rs 1033 0 (([] : List Int).length))), (26, .d (iv s7.2)), bxB 2005 (eXSetFunctor.b a0), bxB 2007 (eXSetFunctor.b a1), (2009, .r (.arr 1 [iv 0, nilv, nilv, nilv, nilv, nilv, nilv] [])), (2015, .r (.arr 1 [iv v1.Objects, .rs 23001 0 v1.From.length, .rs 23002 0 v1.To.length, .rs 23003 0 v1.Identity.length, .rs 23004 0 v1.Composites.length, .fr 1 s2.2.2.1.length (s2.2.2.1.flatMap eI.o), nilv] [23001, 23002, 23003, 23004])), (2047, .r (.arr 1 (s2.1.flatMap (eS eI).o) [])), (2049, .r (.arr 1 (s2.2.1.flatMap (eS eI).o) [])), (2065, .r (.arr 1 (s7.1.flatMap eI.o) [])), (2067, .r (.arr 1 (([] : List Int).flatMap eI.o) []))] ++ rsS 23000 (eXCategory.o v1))) (([] : List Int), 0) [4, 6, 8, 14, 16, 18, 20, 22, 24, 26, 2005, 2007, 2009, 2015, 2047, 2049, 2065, 2067, 46003, 46005, 46007, 46009] (by kernel_rfl) hM ?_
    intro n10 next8 ih9 s7 hM
    refine tr_seq ?_
    obtain ⟨y11, hy11, hM⟩ := bind_some' hM
    have hy11' := idx_some hy11
    refine tr_sr hT hm [(5, .val (iv y11))] [4, 6, 8, 14, 16, 18, 20, 22, 24, 26, 80, 2005, 2007, 2009, 2015, 2047, 2049, 2065, 2067, 46003, 46005, 46007, 46009] ([(4, .d (.rp 1002 0)), (6, .d (.rp 1003 0)), (8, .d (.rp 1004 0)), (14, .d (.rp 1007 0)), (16, .d (.rs 1023 0 s2.1.length)), (18, .d (.rs 1024 0 s2.2.1.length)), (20, .d (iv s2.2.2.2)), (22, .d (.rs 1032 0 s7.1.length)), (24, .d (.rs 1033 0 (([] : List Int).length))), (26, .d (iv s7.2)), (80, .d (bv (decide (s7.2 < y11)))), bxB 2005 (eXSetFunctor.b a0), bxB 2007 (eXSetFunctor.b a1), (2009, .r (.arr 1 [iv 0, nilv, nilv, nilv, nilv, nilv, nilv] [])), (2015, .r (.arr 1 [iv v1.Objects, .rs 23001 0 v1.From.length, .rs 23002 0 v1.To.length, .rs 23003 0 v1.Identity.length, .rs 23004 0 v1.Composites.length, .fr 1 s2.2.2.1.length (s2.2.2.1.flatMap eI.o), nilv] [23001, 23002, 23003, 23004])), (2047, .r (.arr 1 (s2.1.flatMap (eS eI).o) [])), (2049, .r (.arr 1 (s2.2.1.flatMap (eS eI).o) [])), (2065, .r (.arr 1 (s7.1.flatMap eI.o) [])), (2067, .r (.arr 1 (([] : List Int).flatMap eI.o) []))] ++ rsS 23000 (eXCategory.o v1)) (.cons hy11'.1 (.cons hy11'.2.1 (.cons (at_b0 eI_ok hy11'.2.2 (d := iv y11) (by kernel_rfl)) .nil))) (by kernel_rfl) (by kernel_rfl) ?_
    rcases Bool.eq_false_or_eq_true (decide (s7.2 < y11)) with h12 | h12
    · have hM := ite_true' hM h12
      refine tr_condTe (e := decide (s7.2 < y11)) h12 (by kernel_rfl) ?_
      refine tr_skip (q_n ?_)
      refine tr_seq ?_
      refine tr_block ?_
      obtain ⟨h13, hM⟩ := chk_some hM
      refine tr_r hT hm [(3, .app true)] [4, 6, 8, 14, 16, 18, 20, 22, 24, 26, 2005, 2007, 2009, 2015, 2047, 2049, 2067, 2093, 46003, 46005, 46007, 46009] ([(4, .d (.rp 1002 0)), (6, .d (.rp 1003 0)), (8, .d (.rp 1004 0)), (14, .d (.rp 1007 0)), (16, .d (.rs 1023 0 s2.1.length)), (18, .d (.rs 1024 0 s2.2.1.length)), (20, .d (iv s2.2.2.2)), (22, .d (.rs 1046 0 (s7.1.length + (([s7.2] : List Int).length)))), (24, .d (.rs 1033 0 (([] : List Int).length))), (26, .d (iv s7.2)), bxB 2005 (eXSetFunctor.b a0), bxB 2007 (eXSetFunctor.b a1), (2009, .r (.arr 1 [iv 0, nilv, nilv, nilv, nilv, nilv, nilv] [])), (2015, .r (.arr 1 [iv v1.Objects, .rs 23001 0 v1.From.length, .rs 23002 0 v1.To.length, .rs 23003 0 v1.Identity.length, .rs 23004 0 v1.Composites.length, .fr 1 s2.2.2.1.length (s2.2.2.1.flatMap eI.o), nilv] [23001, 23002, 23003, 23004])), (2047, .r (.arr 1 (s2.1.flatMap (eS eI).o) [])), (2049, .r (.arr 1 (s2.2.1.flatMap (eS eI).o) [])), (2067, .r (.arr 1 (([] : List Int).flatMap eI.o) [])), (2093, .r (.arr 1 (s7.1.flatMap eI.o ++ ([s7.2] : List Int).flatMap eI.o) []))] ++ rsS 23000 (eXCategory.o v1)) (.cons (lenO_flat eI_ok s7.1) (.cons (lenO_flat eI_ok ([s7.2] : List Int)) (.cons h13 .nil))) (by kernel_rfl) (by kernel_rfl) (b_n (q_n ?_))
      refine Tr.by (imp_cvE (r := 1046) (sz := 1) (refs := []) (flat_app eI.o s7.1 ([s7.2] : List Int)) (menO_flat eI_ok _) (by kernel_rfl)) ?_
      refine Tr.by (imp_cvD (k := 22) (congrArg (D.rs 1046 0) ((len_app s7.1 ([s7.2] : List Int)) : s7.1.length + (([s7.2] : List Int).length) = (s7.1 ++ ([s7.2] : List Int)).length)) (by kernel_rfl)) ?_
      refine tr_r hT hm [] [4, 6, 8, 14, 16, 18, 20, 22, 24, 26, 2005, 2007, 2009, 2015, 2047, 2049, 2067, 2093, 46003, 46005, 46007, 46009] ([(4, .d (.rp 1002 0)), (6, .d (.rp 1003 0)), (8, .d (.rp 1004 0)), (14, .d (.rp 1007 0)), (16, .d (.rs 1023 0 s2.1.length)), (18, .d (.rs 1024 0 s2.2.1.length)), (20, .d (iv s2.2.2.2)), (22, .d (.rs 1046 0 ((s7.1 ++ ([s7.2] : List Int)).length))), (24, .d (.rs 1033 0 (([] : List Int).length))), (26, .d (iv (IntKind.i64.wrap (s7.2 + 1)))), bxB 2005 (eXSetFunctor.b a0), bxB 2007 (eXSetFunctor.b a1), (2009, .r (.arr 1 [iv 0, nilv, nilv, nilv, nilv, nilv, nilv] [])), (2015, .r (.arr 1 [iv v1.Objects, .rs 23001 0 v1.From.length, .rs 23002 0 v1.To.length, .rs 23003 0 v1.Identity.length, .rs 23004 0 v1.Composites.length, .fr 1 s2.2.2.1.length (s2.2.2.1.flatMap eI.o), nilv] [23001, 23002, 23003, 23004])), (2047, .r (.arr 1 (s2.1.flatMap (eS eI).o) [])), (2049, .r (.arr 1 (s2.2.1.flatMap (eS eI).o) [])), (2067, .r (.arr 1 (([] : List Int).flatMap eI.o) [])), (2093, .r (.arr 1 ((s7.1 ++ ([s7.2] : List Int)).flatMap eI.o) []))] ++ rsS 23000 (eXCategory.o v1)) .nil (by kernel_rfl) (by kernel_rfl) (l_n ?_)
      refine TrL.by (imp_sel (ks := [4, 6, 8, 14, 16, 18, 20, 22, 24, 26, 2005, 2007, 2009, 2015, 2047, 2049, 2067, 2093, 46003, 46005, 46007, 46009]) (st' := ([(4, .d (.rp 1002 0)), (6, .d (.rp 1003 0)), (8, .d (.rp 1004 0)), (14, .d (.rp 1007 0)), (16, .d (.rs 1023 0 s2.1.length)), (18, .d (.rs 1024 0 s2.2.1.length)), (20, .d (iv s2.2.2.2)), (22, .d (.rs 1046 0 ((s7.1 ++ ([s7.2] : List Int)).length))), (24, .d (.rs 1033 0 (([] : List Int).length))), (26, .d (iv (IntKind.i64.wrap (s7.2 + 1)))), bxB 2005 (eXSetFunctor.b a0), bxB 2007 (eXSetFunctor.b a1), (2009, .r (.arr 1 [iv 0, nilv, nilv, nilv, nilv, nilv, nilv] [])), (2015, .r (.arr 1 [iv v1.Objects, .rs 23001 0 v1.From.length, .rs 23002 0 v1.To.length, .rs 23003 0 v1.Identity.length, .rs 23004 0 v1.Composites.length, .fr 1 s2.2.2.1.length (s2.2.2.1.flatMap eI.o), nilv] [23001, 23002, 23003, 23004])), (2047, .r (.arr 1 (s2.1.flatMap (eS eI).o) [])), (2049, .r (.arr 1 (s2.2.1.flatMap (eS eI).o) [])), (2067, .r (.arr 1 (([] : List Int).flatMap eI.o) [])), (2093, .r (.arr 1 ((s7.1 ++ ([s7.2] : List Int)).flatMap eI.o) []))] ++ rsS 23000 (eXCategory.o v1))) (by kernel_rfl)) ?_
      refine TrL.by (imp_rename (r := 1046) (q := 1032) (by kernel_rfl) (Nat.le_of_ble_eq_true rfl)) ?_
      exact trl_start (ks := [4, 6, 8, 14, 16, 18, 20, 22, 24, 26, 2005, 2007, 2009, 2015, 2047, 2049, 2065, 2067, 46003, 46005, 46007, 46009]) (by kernel_rfl) (ih9 (s7.1 ++ ([s7.2] : List Int), IntKind.i64.wrap (s7.2 + 1)) hM)
    · have hM := ite_false' hM h12
      refine tr_condFe (e := decide (s7.2 < y11)) h12 (by kernel_rfl) ?_
      refine tr_exit (q_x (l_x (b_h (q_n ?_))))
      refine tr_seq ?_
      refine tr_sr hT hm [] [4, 6, 8, 14, 16, 18, 20, 22, 24, 28, 2005, 2007, 2009, 2015, 2047, 2049, 2065, 2067, 46003, 46005, 46007, 46009] ([(4, .d (.rp 1002 0)), (6, .d (.rp 1003 0)), (8, .d (.rp 1004 0)), (14, .d (.rp 1007 0)), (16, .d (.rs 1023 0 s2.1.length)), (18, .d (.rs 1024 0 s2.2.1.length)), (20, .d (iv s2.2.2.2)), (22, .d (.rs 1032 0 s7.1.length)), (24, .d (.rs 1033 0 (([] : List Int).length))), (28, .d (iv 0)), bxB 2005 (eXSetFunctor.b a0), bxB 2007 (eXSetFunctor.b a1), (2009, .r (.arr 1 [iv 0, nilv, nilv, nilv, nilv, nilv, nilv] [])), (2015, .r (.arr 1 [iv v1.Objects, .rs 23001 0 v1.From.length, .rs 23002 0 v1.To.length, .rs 23003 0 v1.Identity.length, .rs 23004 0 v1.Composites.length, .fr 1 s2.2.2.1.length (s2.2.2.1.flatMap eI.o), nilv] [23001, 23002, 23003, 23004])), (2047, .r (.arr 1 (s2.1.flatMap (eS eI).o) [])), (2049, .r (.arr 1 (s2.2.1.flatMap (eS eI).o) [])), (2065, .r (.arr 1 (s7.1.flatMap eI.o) [])), (2067, .r (.arr 1 (([] : List Int).flatMap eI.o) []))] ++ rsS 23000 (eXCategory.o v1)) .nil (by kernel_rfl) (by kernel_rfl) ?_
      refine tr_block ?_
      refine tr_iterS (fun (s14 : (List Int) × Int) => ([(4, .d (.rp 1002 0)), (6, .d (.rp 1003 0)), (8, .d (.rp 1004 0)), (14, .d (.rp 1007 0)), (16, .d (.rs 1023 0 s2.1.length)), (18, .d (.rs 1024 0 s2.2.1.length)), (20, .d (iv s2.2.2.2)), (22, .d (.rs 1032 0 s7.1.length)), (24, .d (.rs 1033 0 s14.1.length)), (28, .d (iv s14.2)), bxB 2005 (eXSetFunctor.b a0), bxB 2007 (eXSetFunctor.b a1), (2009, .r (.arr 1 [iv 0, nilv, nilv, nilv, nilv, nilv, nilv] [])), (2015, .r (.arr 1 [iv v1.Objects, .rs 23001 0 v1.From.length, .rs 23002 0 v1.To.length, .rs 23003 0 v1.Identity.length, .rs 23004 0 v1.Composites.length, .fr 1 s2.2.2.1.length (s2.2.2.1.flatMap eI.o), nilv] [23001, 23002, 23003, 23004])), (2047, .r (.arr 1 (s2.1.flatMap (eS eI).o) [])), (2049, .r (.arr 1 (s2.2.1.flatMap (eS eI).o) [])), (2065, .r (.arr 1 (s7.1.flatMap eI.o) [])), (2067, .r (.arr 1 (s14.1.flatMap eI.o) []))] ++ rsS 23000 (eXCategory.o v1))) (([] : List Int), 0) [4, 6, 8, 14, 16, 18, 20, 22, 24, 28, 2005, 2007, 2009, 2015, 2047, 2049, 2065, 2067, 46003, 46005, 46007, 46009] (by kernel_rfl) hM ?_
      intro n17 next15 ih16 s14 hM
      refine tr_seq ?_
      obtain ⟨y18, hy18, hM⟩ := bind_some' hM
      have hy18' := idx_some hy18
      refine tr_sr hT hm [(5, .val (iv y18))] [4, 6, 8, 14, 16, 18, 20, 22, 24, 28, 106, 2005, 2007, 2009, 2015, 2047, 2049, 2065, 2067, 46003, 46005, 46007, 46009] ([(4, .d (.rp 1002 0)), (6, .d (.rp 1003 0)), (8, .d (.rp 1004 0)), (14, .d (.rp 1007 0)), (16, .d (.rs 1023 0 s2.1.length)), (18, .d (.rs 1024 0 s2.2.1.length)), (20, .d (iv s2.2.2.2)), (22, .d (.rs 1032 0 s7.1.length)), (24, .d (.rs 1033 0 s14.1.length)), (28, .d (iv s14.2)), (106, .d (bv (decide (s14.2 < y18)))), bxB 2005 (eXSetFunctor.b a0), bxB 2007 (eXSetFunctor.b a1), (2009, .r (.arr 1 [iv 0, nilv, nilv, nilv, nilv, nilv, nilv] [])), (2015, .r (.arr 1 [iv v1.Objects, .rs 23001 0 v1.From.length, .rs 23002 0 v1.To.length, .rs 23003 0 v1.Identity.length, .rs 23004 0 v1.Composites.length, .fr 1 s2.2.2.1.length (s2.2.2.1.flatMap eI.o), nilv] [23001, 23002, 23003, 23004])), (2047, .r (.arr 1 (s2.1.flatMap (eS eI).o) [])), (2049, .r (.arr 1 (s2.2.1.flatMap (eS eI).o) [])), (2065, .r (.arr 1 (s7.1.flatMap eI.o) [])), (2067, .r (.arr 1 (s14.1.flatMap eI.o) []))] ++ rsS 23000 (eXCategory.o v1)) (.cons hy18'.1 (.cons hy18'.2.1 (.cons (at_b0 eI_ok hy18'.2.2 (d := iv y18) (by kernel_rfl)) .nil))) (by kernel_rfl) (by kernel_rfl) ?_
      rcases Bool.eq_false_or_eq_true (decide (s14.2 < y18)) with h19 | h19
      · have hM := ite_true' hM h19
        refine tr_condTe (e := decide (s14.2 < y18)) h19 (by kernel_rfl) ?_
        refine tr_skip (q_n ?_)
        refine tr_seq ?_
        refine tr_block ?_
        obtain ⟨h20, hM⟩ := chk_some hM
        refine tr_r hT hm [(5, .val (iv y11)), (9, .app true)] [4, 6, 8, 14, 16, 18, 20, 22, 24, 28, 2005, 2007, 2009, 2015, 2047, 2049, 2065, 2131, 46003, 46005, 46007, 46009] ([(4, .d (.rp 1002 0)), (6, .d (.rp 1003 0)), (8, .d (.rp 1004 0)), (14, .d (.rp 1007 0)), (16, .d (.rs 1023 0 s2.1.length)), (18, .d (.rs 1024 0 s2.2.1.length)), (20, .d (iv s2.2.2.2)), (22, .d (.rs 1032 0 s7.1.length)), (24, .d (.rs 1065 0 (s14.1.length + (([IntKind.i64.wrap (y11 + s14.2)] : List Int).length)))), (28, .d (iv s14.2)), bxB 2005 (eXSetFunctor.b a0), bxB 2007 (eXSetFunctor.b a1), (2009, .r (.arr 1 [iv 0, nilv, nilv, nilv, nilv, nilv, nilv] [])), (2015, .r (.arr 1 [iv v1.Objects, .rs 23001 0 v1.From.length, .rs 23002 0 v1.To.length, .rs 23003 0 v1.Identity.length, .rs 23004 0 v1.Composites.length, .fr 1 s2.2.2.1.length (s2.2.2.1.flatMap eI.o), nilv] [23001, 23002, 23003, 23004])), (2047, .r (.arr 1 (s2.1.flatMap (eS eI).o) [])), (2049, .r (.arr 1 (s2.2.1.flatMap (eS eI).o) [])), (2065, .r (.arr 1 (s7.1.flatMap eI.o) [])), (2131, .r (.arr 1 (s14.1.flatMap eI.o ++ ([IntKind.i64.wrap (y11 + s14.2)] : List Int).flatMap eI.o) []))] ++ rsS 23000 (eXCategory.o v1)) (.cons hy11'.1 (.cons hy11'.2.1 (.cons (at_b0 eI_ok hy11'.2.2 (d := iv y11) (by kernel_rfl)) (.cons (lenO_flat eI_ok s14.1) (.cons (lenO_flat eI_ok ([IntKind.i64.wrap (y11 + s14.2)] : List Int)) (.cons h20 .nil)))))) (by kernel_rfl) (by kernel_rfl) (b_n (q_n ?_))
        refine Tr.by (imp_cvE (r := 1065) (sz := 1) (refs := []) (flat_app eI.o s14.1 ([IntKind.i64.wrap (y11 + s14.2)] : List Int)) (menO_flat eI_ok _) (by kernel_rfl)) ?_
        refine Tr.by (imp_cvD (k := 24) (congrArg (D.rs 1065 0) ((len_app s14.1 ([IntKind.i64.wrap (y11 + s14.2)] : List Int)) : s14.1.length + (([IntKind.i64.wrap (y11 + s14.2)] : List Int).length) = (s14.1 ++ ([IntKind.i64.wrap (y11 + s14.2)] : List Int)).length)) (by kernel_rfl)) ?_
        refine tr_r hT hm [] [4, 6, 8, 14, 16, 18, 20, 22, 24, 28, 2005, 2007, 2009, 2015, 2047, 2049, 2065, 2131, 46003, 46005, 46007, 46009] ([(4, .d (.rp 1002 0)), (6, .d (.rp 1003 0)), (8, .d (.rp 1004 0)), (14, .d (.rp 1007 0)), (16, .d (.rs 1023 0 s2.1.length)), (18, .d (.rs 1024 0 s2.2.1.length)), (20, .d (iv s2.2.2.2)), (22, .d (.rs 1032 0 s7.1.length)), (24, .d (.rs 1065 0 ((s14.1 ++ ([IntKind.i64.wrap (y11 + s14.2)] : List Int)).length))), (28, .d (iv (IntKind.i64.wrap (s14.2 + 1)))), bxB 2005 (eXSetFunctor.b a0), bxB 2007 (eXSetFunctor.b a1), (2009, .r (.arr 1 [iv 0, nilv, nilv, nilv, nilv, nilv, nilv] [])), (2015, .r (.arr 1 [iv v1.Objects, .rs 23001 0 v1.From.length, .rs 23002 0 v1.To.length, .rs 23003 0 v1.Identity.length, .rs 23004 0 v1.Composites.length, .fr 1 s2.2.2.1.length (s2.2.2.1.flatMap eI.o), nilv] [23001, 23002, 23003, 23004])), (2047, .r (.arr 1 (s2.1.flatMap (eS eI).o) [])), (2049, .r (.arr 1 (s2.2.1.flatMap (eS eI).o) [])), (2065, .r (.arr 1 (s7.1.flatMap eI.o) [])), (2131, .r (.arr 1 ((s14.1 ++ ([IntKind.i64.wrap (y11 + s14.2)] : List Int)).flatMap eI.o) []))] ++ rsS 23000 (eXCategory.o v1)) .nil (by kernel_rfl) (by kernel_rfl) (l_n ?_)
        refine TrL.by (imp_sel (ks := [4, 6, 8, 14, 16, 18, 20, 22, 24, 28, 2005, 2007, 2009, 2015, 2047, 2049, 2065, 2131, 46003, 46005, 46007, 46009]) (st' := ([(4, .d (.rp 1002 0)), (6, .d (.rp 1003 0)), (8, .d (.rp 1004 0)), (14, .d (.rp 1007 0)), (16, .d (.rs 1023 0 s2.1.length)), (18, .d (.rs 1024 0 s2.2.1.length)), (20, .d (iv s2.2.2.2)), (22, .d (.rs 1032 0 s7.1.length)), (24, .d (.rs 1065 0 ((s14.1 ++ ([IntKind.i64.wrap (y11 + s14.2)] : List Int)).length))), (28, .d (iv (IntKind.i64.wrap (s14.2 + 1)))), bxB 2005 (eXSetFunctor.b a0), bxB 2007 (eXSetFunctor.b a1), (2009, .r (.arr 1 [iv 0, nilv, nilv, nilv, nilv, nilv, nilv] [])), (2015, .r (.arr 1 [iv v1.Objects, .rs 23001 0 v1.From.length, .rs 23002 0 v1.To.length, .rs 23003 0 v1.Identity.length, .rs 23004 0 v1.Composites.length, .fr 1 s2.2.2.1.length (s2.2.2.1.flatMap eI.o), nilv] [23001, 23002, 23003, 23004])), (2047, .r (.arr 1 (s2.1.flatMap (eS eI).o) [])), (2049, .r (.arr 1 (s2.2.1.flatMap (eS eI).o) [])), (2065, .r (.arr 1 (s7.1.flatMap eI.o) [])), (2131, .r (.arr 1 ((s14.1 ++ ([IntKind.i64.wrap (y11 + s14.2)] : List Int)).flatMap eI.o) []))] ++ rsS 23000 (eXCategory.o v1))) (by kernel_rfl)) ?_
        refine TrL.by (imp_rename (r := 1065) (q := 1033) (by kernel_rfl) (Nat.le_of_ble_eq_true rfl)) ?_
        exact trl_start (ks := [4, 6, 8, 14, 16, 18, 20, 22, 24, 28, 2005, 2007, 2009, 2015, 2047, 2049, 2065, 2067, 46003, 46005, 46007, 46009]) (by kernel_rfl) (ih16 (s14.1 ++ ([IntKind.i64.wrap (y11 + s14.2)] : List Int), IntKind.i64.wrap (s14.2 + 1)) hM)
      · have hM := ite_false' hM h19
        refine tr_condFe (e := decide (s14.2 < y18)) h19 (by kernel_rfl) ?_
        refine tr_exit (q_x (l_x (b_h (q_n ?_))))
        refine Tr.by (imp_promote (r := 1007) (i := 5) (q := 700026) (sz := 1) (sz' := 1) (n := s2.2.2.1.length) (cells := [iv v1.Objects, .rs 23001 0 v1.From.length, .rs 23002 0 v1.To.length, .rs 23003 0 v1.Identity.length, .rs 23004 0 v1.Composites.length, .fr 1 s2.2.2.1.length (s2.2.2.1.flatMap eI.o), nilv]) (ds := s2.2.2.1.flatMap eI.o) (refs := [23001, 23002, 23003, 23004]) (by kernel_rfl) (by kernel_rfl) (by kernel_rfl)) ?_
        obtain ⟨h21, hM⟩ := chk_some hM
        refine tr_sr hT hm [(6, .val (iv y11)), (11, .val (iv y18)), (14, .app true)] [4, 6, 8, 14, 16, 18, 20, 22, 24, 2005, 2007, 2009, 2015, 2047, 2049, 2065, 2067, 2161, 46003, 46005, 46007, 46009] ([(4, .d (.rp 1002 0)), (6, .d (.rp 1003 0)), (8, .d (.rp 1004 0)), (14, .d (.rp 1007 0)), (16, .d (.rs 1023 0 s2.1.length)), (18, .d (.rs 1024 0 s2.2.1.length)), (20, .d (iv s2.2.2.2)), (22, .d (.rs 1032 0 s7.1.length)), (24, .d (.rs 1033 0 s14.1.length)), bxB 2005 (eXSetFunctor.b a0), bxB 2007 (eXSetFunctor.b a1), (2009, .r (.arr 1 [iv 0, nilv, nilv, nilv, nilv, nilv, nilv] [])), (2015, .r (.arr 1 [iv v1.Objects, .rs 23001 0 v1.From.length, .rs 23002 0 v1.To.length, .rs 23003 0 v1.Identity.length, .rs 23004 0 v1.Composites.length, .rs 1080 0 (s2.2.2.1.length + (([IntKind.i64.wrap (y11 + y18)] : List Int).length)), nilv] [700026, 23001, 23002, 23003, 23004, 1080])), (2047, .r (.arr 1 (s2.1.flatMap (eS eI).o) [])), (2049, .r (.arr 1 (s2.2.1.flatMap (eS eI).o) [])), (2065, .r (.arr 1 (s7.1.flatMap eI.o) [])), (2067, .r (.arr 1 (s14.1.flatMap eI.o) [])), (2161, .r (.arr 1 (s2.2.2.1.flatMap eI.o ++ ([IntKind.i64.wrap (y11 + y18)] : List Int).flatMap eI.o) []))] ++ rsS 23000 (eXCategory.o v1)) (.cons hy11'.1 (.cons hy11'.2.1 (.cons (at_b0 eI_ok hy11'.2.2 (d := iv y11) (by kernel_rfl)) (.cons hy18'.1 (.cons hy18'.2.1 (.cons (at_b0 eI_ok hy18'.2.2 (d := iv y18) (by kernel_rfl)) (.cons (lenO_flat eI_ok s2.2.2.1) (.cons (lenO_flat eI_ok ([IntKind.i64.wrap (y11 + y18)] : List Int)) (.cons h21 (.cons (Nat.le_of_ble_eq_true (n := 6) (m := 7) rfl) .nil)))))))))) (by kernel_rfl) (by kernel_rfl) ?_
        refine Tr.by (imp_cvE (r := 1080) (sz := 1) (refs := []) (flat_app eI.o s2.2.2.1 ([IntKind.i64.wrap (y11 + y18)] : List Int)) (menO_flat eI_ok _) (by kernel_rfl)) ?_
        refine Tr.by (imp_cvB (r := 1007) (sz := 1) (cells := [iv v1.Objects, .rs 23001 0 v1.From.length, .rs 23002 0 v1.To.length, .rs 23003 0 v1.Identity.length, .rs 23004 0 v1.Composites.length, .rs 1080 0 (s2.2.2.1.length + (([IntKind.i64.wrap (y11 + y18)] : List Int).length)), nilv]) (cells' := [iv v1.Objects, .rs 23001 0 v1.From.length, .rs 23002 0 v1.To.length, .rs 23003 0 v1.Identity.length, .rs 23004 0 v1.Composites.length, .rs 1080 0 ((s2.2.2.1 ++ ([IntKind.i64.wrap (y11 + y18)] : List Int)).length), nilv]) (refs := [700026, 23001, 23002, 23003, 23004, 1080]) (refs' := [700026, 23001, 23002, 23003, 23004, 1080]) (.cons (.refl _) (.cons (.refl _) (.cons (.refl _) (.cons (.refl _) (.cons (.refl _) (.cons (Sub.of_eq (congrArg (D.rs 1080 0) ((len_app s2.2.2.1 ([IntKind.i64.wrap (y11 + y18)] : List Int)) : s2.2.2.1.length + (([IntKind.i64.wrap (y11 + y18)] : List Int).length) = (s2.2.2.1 ++ ([IntKind.i64.wrap (y11 + y18)] : List Int)).length))) (.cons (.refl _) .nil))))))) (by kernel_rfl) (by kernel_rfl) (by kernel_rfl)) ?_
        obtain ⟨h22, hM⟩ := chk_some hM
        refine tr_sr hT hm [(3, .app true)] [4, 6, 8, 14, 16, 18, 20, 24, 2005, 2007, 2009, 2015, 2049, 2065, 2067, 2161, 2171, 46003, 46005, 46007, 46009] ([(4, .d (.rp 1002 0)), (6, .d (.rp 1003 0)), (8, .d (.rp 1004 0)), (14, .d (.rp 1007 0)), (16, .d (.rs 1085 0 (s2.1.length + 1))), (18, .d (.rs 1024 0 s2.2.1.length)), (20, .d (iv s2.2.2.2)), (24, .d (.rs 1033 0 s14.1.length)), bxB 2005 (eXSetFunctor.b a0), bxB 2007 (eXSetFunctor.b a1), (2009, .r (.arr 1 [iv 0, nilv, nilv, nilv, nilv, nilv, nilv] [])), (2015, .r (.arr 1 [iv v1.Objects, .rs 23001 0 v1.From.length, .rs 23002 0 v1.To.length, .rs 23003 0 v1.Identity.length, .rs 23004 0 v1.Composites.length, .rs 1080 0 ((s2.2.2.1 ++ ([IntKind.i64.wrap (y11 + y18)] : List Int)).length), nilv] [700026, 23001, 23002, 23003, 23004, 1080])), (2049, .r (.arr 1 (s2.2.1.flatMap (eS eI).o) [])), (2065, .r (.arr 1 (s7.1.flatMap eI.o) [])), (2067, .r (.arr 1 (s14.1.flatMap eI.o) [])), (2161, .r (.arr 1 ((s2.2.2.1 ++ ([IntKind.i64.wrap (y11 + y18)] : List Int)).flatMap eI.o) [])), (2171, .r (.arr 1 (s2.1.flatMap (eS eI).o ++ [.rs 1032 0 s7.1.length]) [1032]))] ++ rsS 23000 (eXCategory.o v1)) (.cons (lenO_flat (eS_ok eI_ok) s2.1) (.cons (by kernel_rfl : ([.rs 1032 0 s7.1.length] : List D).length = 1 * 1) (.cons h22 .nil))) (by kernel_rfl) (by kernel_rfl) ?_
        refine Tr.by (imp_demE (r := 1085) (q := 1032) (sz := 1) (n := s7.1.length) (j := 0) (pre := s2.1.flatMap (eS eI).o) (l := [.rs 1032 0 s7.1.length]) (refs := [1032]) (refs' := []) (menO_flat (eS_ok eI_ok) _) (lenO_flat eI_ok s7.1) (by kernel_rfl) (by kernel_rfl) (by kernel_rfl) (by kernel_rfl) (by kernel_rfl)) ?_
        refine Tr.by (imp_cvE (r := 1085) (sz := 1) (refs := []) (flat_snoc (eS eI).o s2.1 s7.1) (menO_flat (eS_ok eI_ok) _) (by kernel_rfl)) ?_
        refine Tr.by (imp_cvD (k := 16) (congrArg (D.rs 1085 0) ((len_snoc s2.1 s7.1) : s2.1.length + 1 = (s2.1 ++ [s7.1]).length)) (by kernel_rfl)) ?_
        obtain ⟨h23, hM⟩ := chk_some hM
        refine tr_r hT hm [(3, .app true)] [4, 6, 8, 14, 16, 18, 20, 2005, 2007, 2009, 2015, 2067, 2161, 2171, 2179, 46003, 46005, 46007, 46009] ([(4, .d (.rp 1002 0)), (6, .d (.rp 1003 0)), (8, .d (.rp 1004 0)), (14, .d (.rp 1007 0)), (16, .d (.rs 1085 0 ((s2.1 ++ [s7.1]).length))), (18, .d (.rs 1089 0 (s2.2.1.length + 1))), (20, .d (iv s2.2.2.2)), bxB 2005 (eXSetFunctor.b a0), bxB 2007 (eXSetFunctor.b a1), (2009, .r (.arr 1 [iv 0, nilv, nilv, nilv, nilv, nilv, nilv] [])), (2015, .r (.arr 1 [iv v1.Objects, .rs 23001 0 v1.From.length, .rs 23002 0 v1.To.length, .rs 23003 0 v1.Identity.length, .rs 23004 0 v1.Composites.length, .rs 1080 0 ((s2.2.2.1 ++ ([IntKind.i64.wrap (y11 + y18)] : List Int)).length), nilv] [700026, 23001, 23002, 23003, 23004, 1080])), (2067, .r (.arr 1 (s14.1.flatMap eI.o) [])), (2161, .r (.arr 1 ((s2.2.2.1 ++ ([IntKind.i64.wrap (y11 + y18)] : List Int)).flatMap eI.o) [])), (2171, .r (.arr 1 ((s2.1 ++ [s7.1]).flatMap (eS eI).o) [])), (2179, .r (.arr 1 (s2.2.1.flatMap (eS eI).o ++ [.rs 1033 0 s14.1.length]) [1033]))] ++ rsS 23000 (eXCategory.o v1)) (.cons (lenO_flat (eS_ok eI_ok) s2.2.1) (.cons (by kernel_rfl : ([.rs 1033 0 s14.1.length] : List D).length = 1 * 1) (.cons h23 .nil))) (by kernel_rfl) (by kernel_rfl) (b_n (q_n ?_))
        refine Tr.by (imp_demE (r := 1089) (q := 1033) (sz := 1) (n := s14.1.length) (j := 0) (pre := s2.2.1.flatMap (eS eI).o) (l := [.rs 1033 0 s14.1.length]) (refs := [1033]) (refs' := []) (menO_flat (eS_ok eI_ok) _) (lenO_flat eI_ok s14.1) (by kernel_rfl) (by kernel_rfl) (by kernel_rfl) (by kernel_rfl) (by kernel_rfl)) ?_
        refine Tr.by (imp_cvE (r := 1089) (sz := 1) (refs := []) (flat_snoc (eS eI).o s2.2.1 s14.1) (menO_flat (eS_ok eI_ok) _) (by kernel_rfl)) ?_
        refine Tr.by (imp_cvD (k := 18) (congrArg (D.rs 1089 0) ((len_snoc s2.2.1 s14.1) : s2.2.1.length + 1 = (s2.2.1 ++ [s14.1]).length)) (by kernel_rfl)) ?_
        refine tr_r hT hm [] [4, 6, 8, 14, 16, 18, 20, 2005, 2007, 2009, 2015, 2161, 2171, 2179, 46003, 46005, 46007, 46009] ([(4, .d (.rp 1002 0)), (6, .d (.rp 1003 0)), (8, .d (.rp 1004 0)), (14, .d (.rp 1007 0)), (16, .d (.rs 1085 0 ((s2.1 ++ [s7.1]).length))), (18, .d (.rs 1089 0 ((s2.2.1 ++ [s14.1]).length))), (20, .d (iv (IntKind.i64.wrap (s2.2.2.2 + 1)))), bxB 2005 (eXSetFunctor.b a0), bxB 2007 (eXSetFunctor.b a1), (2009, .r (.arr 1 [iv 0, nilv, nilv, nilv, nilv, nilv, nilv] [])), (2015, .r (.arr 1 [iv v1.Objects, .rs 23001 0 v1.From.length, .rs 23002 0 v1.To.length, .rs 23003 0 v1.Identity.length, .rs 23004 0 v1.Composites.length, .rs 1080 0 ((s2.2.2.1 ++ ([IntKind.i64.wrap (y11 + y18)] : List Int)).length), nilv] [700026, 23001, 23002, 23003, 23004, 1080])), (2161, .r (.arr 1 ((s2.2.2.1 ++ ([IntKind.i64.wrap (y11 + y18)] : List Int)).flatMap eI.o) [])), (2171, .r (.arr 1 ((s2.1 ++ [s7.1]).flatMap (eS eI).o) [])), (2179, .r (.arr 1 ((s2.2.1 ++ [s14.1]).flatMap (eS eI).o) []))] ++ rsS 23000 (eXCategory.o v1)) .nil (by kernel_rfl) (by kernel_rfl) (l_n ?_)
        refine TrL.by (imp_dem (r := 1007) (q := 1080) (sz := 1) (n := ((s2.2.2.1 ++ ([IntKind.i64.wrap (y11 + y18)] : List Int)).length)) (j := 5) (pre := []) (l := [iv v1.Objects, .rs 23001 0 v1.From.length, .rs 23002 0 v1.To.length, .rs 23003 0 v1.Identity.length, .rs 23004 0 v1.Composites.length, .rs 1080 0 ((s2.2.2.1 ++ ([IntKind.i64.wrap (y11 + y18)] : List Int)).length), nilv]) (post := []) (refs := [700026, 23001, 23002, 23003, 23004, 1080]) (refs' := [700026, 23001, 23002, 23003, 23004]) rfl rfl (lenO_flat eI_ok (s2.2.2.1 ++ ([IntKind.i64.wrap (y11 + y18)] : List Int))) (by kernel_rfl) (by kernel_rfl) (by kernel_rfl) (by kernel_rfl) (by kernel_rfl)) ?_
        refine TrL.by (imp_cvB (r := 1007) (sz := 1) (cells := [iv v1.Objects, .rs 23001 0 v1.From.length, .rs 23002 0 v1.To.length, .rs 23003 0 v1.Identity.length, .rs 23004 0 v1.Composites.length, .fr 1 (s2.2.2.1 ++ ([IntKind.i64.wrap (y11 + y18)] : List Int)).length ((s2.2.2.1 ++ ([IntKind.i64.wrap (y11 + y18)] : List Int)).flatMap eI.o), nilv]) (cells' := [iv v1.Objects, .rs 23001 0 v1.From.length, .rs 23002 0 v1.To.length, .rs 23003 0 v1.Identity.length, .rs 23004 0 v1.Composites.length, .fr 1 (s2.2.2.1 ++ ([IntKind.i64.wrap (y11 + y18)] : List Int)).length ((s2.2.2.1 ++ ([IntKind.i64.wrap (y11 + y18)] : List Int)).flatMap eI.o), nilv]) (refs := [700026, 23001, 23002, 23003, 23004]) (refs' := [23001, 23002, 23003, 23004]) (.cons (.refl _) (.cons (.refl _) (.cons (.refl _) (.cons (.refl _) (.cons (.refl _) (.cons (.refl _) (.cons (.refl _) .nil))))))) (by kernel_rfl) (by kernel_rfl) (by kernel_rfl)) ?_
        refine TrL.by (imp_sel (ks := [4, 6, 8, 14, 16, 18, 20, 2005, 2007, 2009, 2015, 2171, 2179, 46003, 46005, 46007, 46009]) (st' := ([(4, .d (.rp 1002 0)), (6, .d (.rp 1003 0)), (8, .d (.rp 1004 0)), (14, .d (.rp 1007 0)), (16, .d (.rs 1085 0 ((s2.1 ++ [s7.1]).length))), (18, .d (.rs 1089 0 ((s2.2.1 ++ [s14.1]).length))), (20, .d (iv (IntKind.i64.wrap (s2.2.2.2 + 1)))), bxB 2005 (eXSetFunctor.b a0), bxB 2007 (eXSetFunctor.b a1), (2009, .r (.arr 1 [iv 0, nilv, nilv, nilv, nilv, nilv, nilv] [])), (2015, .r (.arr 1 [iv v1.Objects, .rs 23001 0 v1.From.length, .rs 23002 0 v1.To.length, .rs 23003 0 v1.Identity.length, .rs 23004 0 v1.Composites.length, .fr 1 (s2.2.2.1 ++ ([IntKind.i64.wrap (y11 + y18)] : List Int)).length ((s2.2.2.1 ++ ([IntKind.i64.wrap (y11 + y18)] : List Int)).flatMap eI.o), nilv] [23001, 23002, 23003, 23004])), (2171, .r (.arr 1 ((s2.1 ++ [s7.1]).flatMap (eS eI).o) [])), (2179, .r (.arr 1 ((s2.2.1 ++ [s14.1]).flatMap (eS eI).o) []))] ++ rsS 23000 (eXCategory.o v1))) (by kernel_rfl)) ?_
        refine TrL.by (imp_rename (r := 1085) (q := 1023) (by kernel_rfl) (Nat.le_of_ble_eq_true rfl)) ?_
        refine TrL.by (imp_rename (r := 1089) (q := 1024) (by kernel_rfl) (Nat.le_of_ble_eq_true rfl)) ?_
        exact trl_start (ks := [4, 6, 8, 14, 16, 18, 20, 2005, 2007, 2009, 2015, 2047, 2049, 46003, 46005, 46007, 46009]) (by kernel_rfl) (ih4 (s2.1 ++ [s7.1], s2.2.1 ++ [s14.1], s2.2.2.1 ++ ([IntKind.i64.wrap (y11 + y18)] : List Int), IntKind.i64.wrap (s2.2.2.2 + 1)) hM)
  · have hM := ite_false' hM h6
    refine tr_condFe (e := decide (s2.2.2.2 < (a0.Sizes.length : Int))) h6 (by kernel_rfl) ?_
    refine tr_exit (q_x (l_x (b_h (q_n ?_))))
    refine tr_seq ?_
    refine tr_sr hT hm [] [4, 6, 8, 14, 16, 18, 30, 2005, 2007, 2009, 2015, 2047, 2049, 46003, 46005, 46007, 46009] ([(4, .d (.rp 1002 0)), (6, .d (.rp 1003 0)), (8, .d (.rp 1004 0)), (14, .d (.rp 1007 0)), (16, .d (.rs 1023 0 s2.1.length)), (18, .d (.rs 1024 0 s2.2.1.length)), (30, .d (iv 0)), bxB 2005 (eXSetFunctor.b a0), bxB 2007 (eXSetFunctor.b a1), (2009, .r (.arr 1 [iv 0, nilv, nilv, nilv, nilv, nilv, nilv] [])), (2015, .r (.arr 1 [iv v1.Objects, .rs 23001 0 v1.From.length, .rs 23002 0 v1.To.length, .rs 23003 0 v1.Identity.length, .rs 23004 0 v1.Composites.length, .fr 1 s2.2.2.1.length (s2.2.2.1.flatMap eI.o), nilv] [23001, 23002, 23003, 23004])), (2047, .r (.arr 1 (s2.1.flatMap (eS eI).o) [])), (2049, .r (.arr 1 (s2.2.1.flatMap (eS eI).o) []))] ++ rsS 23000 (eXCategory.o v1)) .nil (by kernel_rfl) (by kernel_rfl) ?_
    refine tr_block ?_
    refine Tr.by (imp_cvB (r := 1007) (sz := 1) (cells := [iv v1.Objects, .rs 23001 0 v1.From.length, .rs 23002 0 v1.To.length, .rs 23003 0 v1.Identity.length, .rs 23004 0 v1.Composites.length, .fr 1 s2.2.2.1.length (s2.2.2.1.flatMap eI.o), nilv]) (cells' := [iv v1.Objects, .rs 23001 0 v1.From.length, .rs 23002 0 v1.To.length, .rs 23003 0 v1.Identity.length, .rs 23004 0 v1.Composites.length, .fr 1 s2.2.2.1.length (s2.2.2.1.flatMap eI.o), .fr 1 ([] : List (List Int)).length (([] : List (List Int)).flatMap (eS eI).o)]) (refs := [23001, 23002, 23003, 23004]) (refs' := [23001, 23002, 23003, 23004]) (.cons (.refl _) (.cons (.refl _) (.cons (.refl _) (.cons (.refl _) (.cons (.refl _) (.cons (.refl _) (.cons Sub.nil_fr .nil))))))) (by kernel_rfl) (by kernel_rfl) (by kernel_rfl)) ?_
    refine tr_iterS (fun (s24 : (List (List Int)) × Int) => ([(4, .d (.rp 1002 0)), (6, .d (.rp 1003 0)), (8, .d (.rp 1004 0)), (14, .d (.rp 1007 0)), (16, .d (.rs 1023 0 s2.1.length)), (18, .d (.rs 1024 0 s2.2.1.length)), (30, .d (iv s24.2)), bxB 2005 (eXSetFunctor.b a0), bxB 2007 (eXSetFunctor.b a1), (2009, .r (.arr 1 [iv 0, nilv, nilv, nilv, nilv, nilv, nilv] [])), (2015, .r (.arr 1 [iv v1.Objects, .rs 23001 0 v1.From.length, .rs 23002 0 v1.To.length, .rs 23003 0 v1.Identity.length, .rs 23004 0 v1.Composites.length, .fr 1 s2.2.2.1.length (s2.2.2.1.flatMap eI.o), .fr 1 s24.1.length (s24.1.flatMap (eS eI).o)] [23001, 23002, 23003, 23004])), (2047, .r (.arr 1 (s2.1.flatMap (eS eI).o) [])), (2049, .r (.arr 1 (s2.2.1.flatMap (eS eI).o) []))] ++ rsS 23000 (eXCategory.o v1))) (([] : List (List Int)), 0) [4, 6, 8, 14, 16, 18, 30, 2005, 2007, 2009, 2015, 2047, 2049, 46003, 46005, 46007, 46009] (by kernel_rfl) hM ?_
    intro n27 next25 ih26 s24 hM
    refine tr_seq ?_
    refine tr_sr hT hm [] [4, 6, 8, 14, 16, 18, 30, 188, 2005, 2007, 2009, 2015, 2047, 2049, 46003, 46005, 46007, 46009] ([(4, .d (.rp 1002 0)), (6, .d (.rp 1003 0)), (8, .d (.rp 1004 0)), (14, .d (.rp 1007 0)), (16, .d (.rs 1023 0 s2.1.length)), (18, .d (.rs 1024 0 s2.2.1.length)), (30, .d (iv s24.2)), (188, .d (bv (decide (s24.2 < (a0.Actions.length : Int))))), bxB 2005 (eXSetFunctor.b a0), bxB 2007 (eXSetFunctor.b a1), (2009, .r (.arr 1 [iv 0, nilv, nilv, nilv, nilv, nilv, nilv] [])), (2015, .r (.arr 1 [iv v1.Objects, .rs 23001 0 v1.From.length, .rs 23002 0 v1.To.length, .rs 23003 0 v1.Identity.length, .rs 23004 0 v1.Composites.length, .fr 1 s2.2.2.1.length (s2.2.2.1.flatMap eI.o), .fr 1 s24.1.length (s24.1.flatMap (eS eI).o)] [23001, 23002, 23003, 23004])), (2047, .r (.arr 1 (s2.1.flatMap (eS eI).o) [])), (2049, .r (.arr 1 (s2.2.1.flatMap (eS eI).o) []))] ++ rsS 23000 (eXCategory.o v1)) .nil (by kernel_rfl) (by kernel_rfl) ?_
    rcases Bool.eq_false_or_eq_true (decide (s24.2 < (a0.Actions.length : Int))) with h28 | h28
    · have hM := ite_true' hM h28
      refine tr_condTe (e := decide (s24.2 < (a0.Actions.length : Int))) h28 (by kernel_rfl) ?_
      refine tr_skip (q_n ?_)
      refine tr_seq ?_
      refine tr_block ?_
      obtain ⟨y29, hy29, hM⟩ := bind_some' hM
      have hy29' := idx_some hy29
      obtain ⟨y30, hy30, hM⟩ := bind_some' hM
      have hy30' := idx_some hy30
      obtain ⟨v31, hv31, hM⟩ := bind_some' hM
      refine tr_sr hT hm [(5, .val (iv y29)), (10, .val (.sl y30.length 0 (y30.flatMap eI.b))), (11, .call [] [] [.sl y30.length 0 (y30.flatMap eI.b)] [] (.fr 1 v31.length (v31.flatMap eI.o)))] [4, 6, 8, 14, 16, 18, 30, 32, 34, 2005, 2007, 2009, 2015, 2047, 2049, 46003, 46005, 46007, 46009, 220001] ([(4, .d (.rp 1002 0)), (6, .d (.rp 1003 0)), (8, .d (.rp 1004 0)), (14, .d (.rp 1007 0)), (16, .d (.rs 1023 0 s2.1.length)), (18, .d (.rs 1024 0 s2.2.1.length)), (30, .d (iv s24.2)), (32, .d (iv y29)), (34, .d (.rs 110000 0 v31.length)), bxB 2005 (eXSetFunctor.b a0), bxB 2007 (eXSetFunctor.b a1), (2009, .r (.arr 1 [iv 0, nilv, nilv, nilv, nilv, nilv, nilv] [])), (2015, .r (.arr 1 [iv v1.Objects, .rs 23001 0 v1.From.length, .rs 23002 0 v1.To.length, .rs 23003 0 v1.Identity.length, .rs 23004 0 v1.Composites.length, .fr 1 s2.2.2.1.length (s2.2.2.1.flatMap eI.o), .fr 1 s24.1.length (s24.1.flatMap (eS eI).o)] [23001, 23002, 23003, 23004])), (2047, .r (.arr 1 (s2.1.flatMap (eS eI).o) [])), (2049, .r (.arr 1 (s2.2.1.flatMap (eS eI).o) []))] ++ rsS 23000 (eXCategory.o v1) ++ [(220001, .r (.arr 1 (v31.flatMap eI.o) []))]) (.cons hy29'.1 (.cons hy29'.2.1 (.cons (at_b0 eI_ok hy29'.2.2 (d := iv y29) (by kernel_rfl)) (.cons hy30'.1 (.cons hy30'.2.1 (.cons (at_b0 (eS_ok eI_ok) hy30'.2.2 (d := .sl y30.length 0 (y30.flatMap eI.b)) (by kernel_rfl)) (cc0 ok127 (spec_l01Own_c y30 _ hv31) (by kernel_rfl) .nil))))))) (by kernel_rfl) (by kernel_rfl) ?_
      refine tr_seq ?_
      refine tr_sr hT hm [] [4, 6, 8, 14, 16, 18, 30, 32, 34, 36, 2005, 2007, 2009, 2015, 2047, 2049, 46003, 46005, 46007, 46009, 220001] ([(4, .d (.rp 1002 0)), (6, .d (.rp 1003 0)), (8, .d (.rp 1004 0)), (14, .d (.rp 1007 0)), (16, .d (.rs 1023 0 s2.1.length)), (18, .d (.rs 1024 0 s2.2.1.length)), (30, .d (iv s24.2)), (32, .d (iv y29)), (34, .d (.rs 110000 0 v31.length)), (36, .d (iv 0)), bxB 2005 (eXSetFunctor.b a0), bxB 2007 (eXSetFunctor.b a1), (2009, .r (.arr 1 [iv 0, nilv, nilv, nilv, nilv, nilv, nilv] [])), (2015, .r (.arr 1 [iv v1.Objects, .rs 23001 0 v1.From.length, .rs 23002 0 v1.To.length, .rs 23003 0 v1.Identity.length, .rs 23004 0 v1.Composites.length, .fr 1 s2.2.2.1.length (s2.2.2.1.flatMap eI.o), .fr 1 s24.1.length (s24.1.flatMap (eS eI).o)] [23001, 23002, 23003, 23004])), (2047, .r (.arr 1 (s2.1.flatMap (eS eI).o) [])), (2049, .r (.arr 1 (s2.2.1.flatMap (eS eI).o) []))] ++ rsS 23000 (eXCategory.o v1) ++ [(220001, .r (.arr 1 (v31.flatMap eI.o) []))]) .nil (by kernel_rfl) (by kernel_rfl) ?_
      refine tr_block ?_
      refine tr_iterS (fun (s32 : (List Int) × Int) => ([(4, .d (.rp 1002 0)), (6, .d (.rp 1003 0)), (8, .d (.rp 1004 0)), (14, .d (.rp 1007 0)), (16, .d (.rs 1023 0 s2.1.length)), (18, .d (.rs 1024 0 s2.2.1.length)), (30, .d (iv s24.2)), (32, .d (iv y29)), (34, .d (.rs 110000 0 s32.1.length)), (36, .d (iv s32.2)), bxB 2005 (eXSetFunctor.b a0), bxB 2007 (eXSetFunctor.b a1), (2009, .r (.arr 1 [iv 0, nilv, nilv, nilv, nilv, nilv, nilv] [])), (2015, .r (.arr 1 [iv v1.Objects, .rs 23001 0 v1.From.length, .rs 23002 0 v1.To.length, .rs 23003 0 v1.Identity.length, .rs 23004 0 v1.Composites.length, .fr 1 s2.2.2.1.length (s2.2.2.1.flatMap eI.o), .fr 1 s24.1.length (s24.1.flatMap (eS eI).o)] [23001, 23002, 23003, 23004])), (2047, .r (.arr 1 (s2.1.flatMap (eS eI).o) [])), (2049, .r (.arr 1 (s2.2.1.flatMap (eS eI).o) []))] ++ rsS 23000 (eXCategory.o v1) ++ [(220001, .r (.arr 1 (s32.1.flatMap eI.o) []))])) (v31, 0) [4, 6, 8, 14, 16, 18, 30, 32, 34, 36, 2005, 2007, 2009, 2015, 2047, 2049, 46003, 46005, 46007, 46009, 220001] (by kernel_rfl) hM ?_
      intro n35 next33 ih34 s32 hM
      refine tr_seq ?_
      obtain ⟨y36, hy36, hM⟩ := bind_some' hM
      have hy36' := idx_some hy36
      refine tr_sr hT hm [(5, .val (.sl y36.length 0 (y36.flatMap eI.b)))] [4, 6, 8, 14, 16, 18, 30, 32, 34, 36, 232, 2005, 2007, 2009, 2015, 2047, 2049, 46003, 46005, 46007, 46009, 220001] ([(4, .d (.rp 1002 0)), (6, .d (.rp 1003 0)), (8, .d (.rp 1004 0)), (14, .d (.rp 1007 0)), (16, .d (.rs 1023 0 s2.1.length)), (18, .d (.rs 1024 0 s2.2.1.length)), (30, .d (iv s24.2)), (32, .d (iv y29)), (34, .d (.rs 110000 0 s32.1.length)), (36, .d (iv s32.2)), (232, .d (bv (decide (s32.2 < (y36.length : Int))))), bxB 2005 (eXSetFunctor.b a0), bxB 2007 (eXSetFunctor.b a1), (2009, .r (.arr 1 [iv 0, nilv, nilv, nilv, nilv, nilv, nilv] [])), (2015, .r (.arr 1 [iv v1.Objects, .rs 23001 0 v1.From.length, .rs 23002 0 v1.To.length, .rs 23003 0 v1.Identity.length, .rs 23004 0 v1.Composites.length, .fr 1 s2.2.2.1.length (s2.2.2.1.flatMap eI.o), .fr 1 s24.1.length (s24.1.flatMap (eS eI).o)] [23001, 23002, 23003, 23004])), (2047, .r (.arr 1 (s2.1.flatMap (eS eI).o) [])), (2049, .r (.arr 1 (s2.2.1.flatMap (eS eI).o) []))] ++ rsS 23000 (eXCategory.o v1) ++ [(220001, .r (.arr 1 (s32.1.flatMap eI.o) []))]) (.cons hy36'.1 (.cons hy36'.2.1 (.cons (at_b0 (eS_ok eI_ok) hy36'.2.2 (d := .sl y36.length 0 (y36.flatMap eI.b)) (by kernel_rfl)) .nil))) (by kernel_rfl) (by kernel_rfl) ?_
      rcases Bool.eq_false_or_eq_true (decide (s32.2 < (y36.length : Int))) with h37 | h37
      · have hM := ite_true' hM h37
        refine tr_condTe (e := decide (s32.2 < (y36.length : Int))) h37 (by kernel_rfl) ?_
        refine tr_skip (q_n ?_)
        refine tr_seq ?_
        refine tr_block ?_
        obtain ⟨y38, hy38, hM⟩ := bind_some' hM
        have hy38' := idx_some hy38
        obtain ⟨y39, hy39, hM⟩ := bind_some' hM
        have hy39' := idx_some hy39
        obtain ⟨h40, hM⟩ := chk_some hM
        refine tr_r hT hm [(5, .val (iv y38)), (10, .val (.sl y36.length 0 (y36.flatMap eI.b))), (13, .val (iv y39)), (16, .app true)] [4, 6, 8, 14, 16, 18, 30, 32, 34, 36, 2005, 2007, 2009, 2015, 2047, 2049, 2271, 46003, 46005, 46007, 46009] ([(4, .d (.rp 1002 0)), (6, .d (.rp 1003 0)), (8, .d (.rp 1004 0)), (14, .d (.rp 1007 0)), (16, .d (.rs 1023 0 s2.1.length)), (18, .d (.rs 1024 0 s2.2.1.length)), (30, .d (iv s24.2)), (32, .d (iv y29)), (34, .d (.rs 1135 0 (s32.1.length + (([IntKind.i64.wrap (y38 + y39)] : List Int).length)))), (36, .d (iv s32.2)), bxB 2005 (eXSetFunctor.b a0), bxB 2007 (eXSetFunctor.b a1), (2009, .r (.arr 1 [iv 0, nilv, nilv, nilv, nilv, nilv, nilv] [])), (2015, .r (.arr 1 [iv v1.Objects, .rs 23001 0 v1.From.length, .rs 23002 0 v1.To.length, .rs 23003 0 v1.Identity.length, .rs 23004 0 v1.Composites.length, .fr 1 s2.2.2.1.length (s2.2.2.1.flatMap eI.o), .fr 1 s24.1.length (s24.1.flatMap (eS eI).o)] [23001, 23002, 23003, 23004])), (2047, .r (.arr 1 (s2.1.flatMap (eS eI).o) [])), (2049, .r (.arr 1 (s2.2.1.flatMap (eS eI).o) [])), (2271, .r (.arr 1 (s32.1.flatMap eI.o ++ ([IntKind.i64.wrap (y38 + y39)] : List Int).flatMap eI.o) []))] ++ rsS 23000 (eXCategory.o v1)) (.cons hy38'.1 (.cons hy38'.2.1 (.cons (at_b0 eI_ok hy38'.2.2 (d := iv y38) (by kernel_rfl)) (.cons hy36'.1 (.cons hy36'.2.1 (.cons (at_b0 (eS_ok eI_ok) hy36'.2.2 (d := .sl y36.length 0 (y36.flatMap eI.b)) (by kernel_rfl)) (.cons hy39'.1 (.cons hy39'.2.1 (.cons (at_b0 eI_ok hy39'.2.2 (d := iv y39) (by kernel_rfl)) (.cons (lenO_flat eI_ok s32.1) (.cons (lenO_flat eI_ok ([IntKind.i64.wrap (y38 + y39)] : List Int)) (.cons h40 .nil)))))))))))) (by kernel_rfl) (by kernel_rfl) (b_n (q_n ?_))
        refine Tr.by (imp_cvE (r := 1135) (sz := 1) (refs := []) (flat_app eI.o s32.1 ([IntKind.i64.wrap (y38 + y39)] : List Int)) (menO_flat eI_ok _) (by kernel_rfl)) ?_
        refine Tr.by (imp_cvD (k := 34) (congrArg (D.rs 1135 0) ((len_app s32.1 ([IntKind.i64.wrap (y38 + y39)] : List Int)) : s32.1.length + (([IntKind.i64.wrap (y38 + y39)] : List Int).length) = (s32.1 ++ ([IntKind.i64.wrap (y38 + y39)] : List Int)).length)) (by kernel_rfl)) ?_
        refine tr_r hT hm [] [4, 6, 8, 14, 16, 18, 30, 32, 34, 36, 2005, 2007, 2009, 2015, 2047, 2049, 2271, 46003, 46005, 46007, 46009] ([(4, .d (.rp 1002 0)), (6, .d (.rp 1003 0)), (8, .d (.rp 1004 0)), (14, .d (.rp 1007 0)), (16, .d (.rs 1023 0 s2.1.length)), (18, .d (.rs 1024 0 s2.2.1.length)), (30, .d (iv s24.2)), (32, .d (iv y29)), (34, .d (.rs 1135 0 ((s32.1 ++ ([IntKind.i64.wrap (y38 + y39)] : List Int)).length))), (36, .d (iv (IntKind.i64.wrap (s32.2 + 1)))), bxB 2005 (eXSetFunctor.b a0), bxB 2007 (eXSetFunctor.b a1), (2009, .r (.arr 1 [iv 0, nilv, nilv, nilv, nilv, nilv, nilv] [])), (2015, .r (.arr 1 [iv v1.Objects, .rs 23001 0 v1.From.length, .rs 23002 0 v1.To.length, .rs 23003 0 v1.Identity.length, .rs 23004 0 v1.Composites.length, .fr 1 s2.2.2.1.length (s2.2.2.1.flatMap eI.o), .fr 1 s24.1.length (s24.1.flatMap (eS eI).o)] [23001, 23002, 23003, 23004])), (2047, .r (.arr 1 (s2.1.flatMap (eS eI).o) [])), (2049, .r (.arr 1 (s2.2.1.flatMap (eS eI).o) [])), (2271, .r (.arr 1 ((s32.1 ++ ([IntKind.i64.wrap (y38 + y39)] : List Int)).flatMap eI.o) []))] ++ rsS 23000 (eXCategory.o v1)) .nil (by kernel_rfl) (by kernel_rfl) (l_n ?_)
        refine TrL.by (imp_sel (ks := [4, 6, 8, 14, 16, 18, 30, 32, 34, 36, 2005, 2007, 2009, 2015, 2047, 2049, 2271, 46003, 46005, 46007, 46009]) (st' := ([(4, .d (.rp 1002 0)), (6, .d (.rp 1003 0)), (8, .d (.rp 1004 0)), (14, .d (.rp 1007 0)), (16, .d (.rs 1023 0 s2.1.length)), (18, .d (.rs 1024 0 s2.2.1.length)), (30, .d (iv s24.2)), (32, .d (iv y29)), (34, .d (.rs 1135 0 ((s32.1 ++ ([IntKind.i64.wrap (y38 + y39)] : List Int)).length))), (36, .d (iv (IntKind.i64.wrap (s32.2 + 1)))), bxB 2005 (eXSetFunctor.b a0), bxB 2007 (eXSetFunctor.b a1), (2009, .r (.arr 1 [iv 0, nilv, nilv, nilv, nilv, nilv, nilv] [])), (2015, .r (.arr 1 [iv v1.Objects, .rs 23001 0 v1.From.length, .rs 23002 0 v1.To.length, .rs 23003 0 v1.Identity.length, .rs 23004 0 v1.Composites.length, .fr 1 s2.2.2.1.length (s2.2.2.1.flatMap eI.o), .fr 1 s24.1.length (s24.1.flatMap (eS eI).o)] [23001, 23002, 23003, 23004])), (2047, .r (.arr 1 (s2.1.flatMap (eS eI).o) [])), (2049, .r (.arr 1 (s2.2.1.flatMap (eS eI).o) [])), (2271, .r (.arr 1 ((s32.1 ++ ([IntKind.i64.wrap (y38 + y39)] : List Int)).flatMap eI.o) []))] ++ rsS 23000 (eXCategory.o v1))) (by kernel_rfl)) ?_
        refine TrL.by (imp_rename (r := 1135) (q := 110000) (by kernel_rfl) (Nat.le_of_ble_eq_true rfl)) ?_
        exact trl_start (ks := [4, 6, 8, 14, 16, 18, 30, 32, 34, 36, 2005, 2007, 2009, 2015, 2047, 2049, 46003, 46005, 46007, 46009, 220001]) (by kernel_rfl) (ih34 (s32.1 ++ ([IntKind.i64.wrap (y38 + y39)] : List Int), IntKind.i64.wrap (s32.2 + 1)) hM)
      · have hM := ite_false' hM h37
        refine tr_condFe (e := decide (s32.2 < (y36.length : Int))) h37 (by kernel_rfl) ?_
        refine tr_exit (q_x (l_x (b_h (q_n ?_))))
        refine Tr.by (imp_promote (r := 1007) (i := 6) (q := 700034) (sz := 1) (sz' := 1) (n := s24.1.length) (cells := [iv v1.Objects, .rs 23001 0 v1.From.length, .rs 23002 0 v1.To.length, .rs 23003 0 v1.Identity.length, .rs 23004 0 v1.Composites.length, .fr 1 s2.2.2.1.length (s2.2.2.1.flatMap eI.o), .fr 1 s24.1.length (s24.1.flatMap (eS eI).o)]) (ds := s24.1.flatMap (eS eI).o) (refs := [23001, 23002, 23003, 23004]) (by kernel_rfl) (by kernel_rfl) (by kernel_rfl)) ?_
        obtain ⟨h41, hM⟩ := chk_some hM
        refine tr_r hT hm [(4, .app true)] [4, 6, 8, 14, 16, 18, 30, 2005, 2007, 2009, 2015, 2047, 2049, 2281, 46003, 46005, 46007, 46009, 220001] ([(4, .d (.rp 1002 0)), (6, .d (.rp 1003 0)), (8, .d (.rp 1004 0)), (14, .d (.rp 1007 0)), (16, .d (.rs 1023 0 s2.1.length)), (18, .d (.rs 1024 0 s2.2.1.length)), (30, .d (iv s24.2)), bxB 2005 (eXSetFunctor.b a0), bxB 2007 (eXSetFunctor.b a1), (2009, .r (.arr 1 [iv 0, nilv, nilv, nilv, nilv, nilv, nilv] [])), (2015, .r (.arr 1 [iv v1.Objects, .rs 23001 0 v1.From.length, .rs 23002 0 v1.To.length, .rs 23003 0 v1.Identity.length, .rs 23004 0 v1.Composites.length, .fr 1 s2.2.2.1.length (s2.2.2.1.flatMap eI.o), .rs 1140 0 (s24.1.length + 1)] [700034, 23001, 23002, 23003, 23004, 1140])), (2047, .r (.arr 1 (s2.1.flatMap (eS eI).o) [])), (2049, .r (.arr 1 (s2.2.1.flatMap (eS eI).o) [])), (2281, .r (.arr 1 (s24.1.flatMap (eS eI).o ++ [.rs 110000 0 s32.1.length]) [110000]))] ++ rsS 23000 (eXCategory.o v1) ++ [(220001, .r (.arr 1 (s32.1.flatMap eI.o) []))]) (.cons (lenO_flat (eS_ok eI_ok) s24.1) (.cons (by kernel_rfl : ([.rs 110000 0 s32.1.length] : List D).length = 1 * 1) (.cons h41 (.cons (Nat.le_of_ble_eq_true (n := 7) (m := 7) rfl) .nil)))) (by kernel_rfl) (by kernel_rfl) (b_n (q_n ?_))
        refine Tr.by (imp_demE (r := 1140) (q := 110000) (sz := 1) (n := s32.1.length) (j := 0) (pre := s24.1.flatMap (eS eI).o) (l := [.rs 110000 0 s32.1.length]) (refs := [110000]) (refs' := []) (menO_flat (eS_ok eI_ok) _) (lenO_flat eI_ok s32.1) (by kernel_rfl) (by kernel_rfl) (by kernel_rfl) (by kernel_rfl) (by kernel_rfl)) ?_
        refine Tr.by (imp_cvE (r := 1140) (sz := 1) (refs := []) (flat_snoc (eS eI).o s24.1 s32.1) (menO_flat (eS_ok eI_ok) _) (by kernel_rfl)) ?_
        refine Tr.by (imp_cvB (r := 1007) (sz := 1) (cells := [iv v1.Objects, .rs 23001 0 v1.From.length, .rs 23002 0 v1.To.length, .rs 23003 0 v1.Identity.length, .rs 23004 0 v1.Composites.length, .fr 1 s2.2.2.1.length (s2.2.2.1.flatMap eI.o), .rs 1140 0 (s24.1.length + 1)]) (cells' := [iv v1.Objects, .rs 23001 0 v1.From.length, .rs 23002 0 v1.To.length, .rs 23003 0 v1.Identity.length, .rs 23004 0 v1.Composites.length, .fr 1 s2.2.2.1.length (s2.2.2.1.flatMap eI.o), .rs 1140 0 ((s24.1 ++ [s32.1]).length)]) (refs := [700034, 23001, 23002, 23003, 23004, 1140]) (refs' := [700034, 23001, 23002, 23003, 23004, 1140]) (.cons (.refl _) (.cons (.refl _) (.cons (.refl _) (.cons (.refl _) (.cons (.refl _) (.cons (.refl _) (.cons (Sub.of_eq (congrArg (D.rs 1140 0) ((len_snoc s24.1 s32.1) : s24.1.length + 1 = (s24.1 ++ [s32.1]).length))) .nil))))))) (by kernel_rfl) (by kernel_rfl) (by kernel_rfl)) ?_
        refine tr_r hT hm [] [4, 6, 8, 14, 16, 18, 30, 2005, 2007, 2009, 2015, 2047, 2049, 2281, 46003, 46005, 46007, 46009] ([(4, .d (.rp 1002 0)), (6, .d (.rp 1003 0)), (8, .d (.rp 1004 0)), (14, .d (.rp 1007 0)), (16, .d (.rs 1023 0 s2.1.length)), (18, .d (.rs 1024 0 s2.2.1.length)), (30, .d (iv (IntKind.i64.wrap (s24.2 + 1)))), bxB 2005 (eXSetFunctor.b a0), bxB 2007 (eXSetFunctor.b a1), (2009, .r (.arr 1 [iv 0, nilv, nilv, nilv, nilv, nilv, nilv] [])), (2015, .r (.arr 1 [iv v1.Objects, .rs 23001 0 v1.From.length, .rs 23002 0 v1.To.length, .rs 23003 0 v1.Identity.length, .rs 23004 0 v1.Composites.length, .fr 1 s2.2.2.1.length (s2.2.2.1.flatMap eI.o), .rs 1140 0 ((s24.1 ++ [s32.1]).length)] [700034, 23001, 23002, 23003, 23004, 1140])), (2047, .r (.arr 1 (s2.1.flatMap (eS eI).o) [])), (2049, .r (.arr 1 (s2.2.1.flatMap (eS eI).o) [])), (2281, .r (.arr 1 ((s24.1 ++ [s32.1]).flatMap (eS eI).o) []))] ++ rsS 23000 (eXCategory.o v1)) .nil (by kernel_rfl) (by kernel_rfl) (l_n ?_)
        refine TrL.by (imp_dem (r := 1007) (q := 1140) (sz := 1) (n := ((s24.1 ++ [s32.1]).length)) (j := 6) (pre := []) (l := [iv v1.Objects, .rs 23001 0 v1.From.length, .rs 23002 0 v1.To.length, .rs 23003 0 v1.Identity.length, .rs 23004 0 v1.Composites.length, .fr 1 s2.2.2.1.length (s2.2.2.1.flatMap eI.o), .rs 1140 0 ((s24.1 ++ [s32.1]).length)]) (post := []) (refs := [700034, 23001, 23002, 23003, 23004, 1140]) (refs' := [700034, 23001, 23002, 23003, 23004]) rfl rfl (lenO_flat (eS_ok eI_ok) (s24.1 ++ [s32.1])) (by kernel_rfl) (by kernel_rfl) (by kernel_rfl) (by kernel_rfl) (by kernel_rfl)) ?_
        refine TrL.by (imp_cvB (r := 1007) (sz := 1) (cells := [iv v1.Objects, .rs 23001 0 v1.From.length, .rs 23002 0 v1.To.length, .rs 23003 0 v1.Identity.length, .rs 23004 0 v1.Composites.length, .fr 1 s2.2.2.1.length (s2.2.2.1.flatMap eI.o), .fr 1 (s24.1 ++ [s32.1]).length ((s24.1 ++ [s32.1]).flatMap (eS eI).o)]) (cells' := [iv v1.Objects, .rs 23001 0 v1.From.length, .rs 23002 0 v1.To.length, .rs 23003 0 v1.Identity.length, .rs 23004 0 v1.Composites.length, .fr 1 s2.2.2.1.length (s2.2.2.1.flatMap eI.o), .fr 1 (s24.1 ++ [s32.1]).length ((s24.1 ++ [s32.1]).flatMap (eS eI).o)]) (refs := [700034, 23001, 23002, 23003, 23004]) (refs' := [23001, 23002, 23003, 23004]) (.cons (.refl _) (.cons (.refl _) (.cons (.refl _) (.cons (.refl _) (.cons (.refl _) (.cons (.refl _) (.cons (.refl _) .nil))))))) (by kernel_rfl) (by kernel_rfl) (by kernel_rfl)) ?_
        exact trl_start (ks := [4, 6, 8, 14, 16, 18, 30, 2005, 2007, 2009, 2015, 2047, 2049, 46003, 46005, 46007, 46009]) (by kernel_rfl) (ih26 (s24.1 ++ [s32.1], IntKind.i64.wrap (s24.2 + 1)) hM)
    · have hM := ite_false' hM h28
      refine tr_condFe (e := decide (s24.2 < (a0.Actions.length : Int))) h28 (by kernel_rfl) ?_
      refine tr_exit (q_x (l_x (b_h (q_n ?_))))
      refine Tr.by (imp_promote (r := 1007) (i := 5) (q := 700035) (sz := 1) (sz' := 1) (n := s2.2.2.1.length) (cells := [iv v1.Objects, .rs 23001 0 v1.From.length, .rs 23002 0 v1.To.length, .rs 23003 0 v1.Identity.length, .rs 23004 0 v1.Composites.length, .fr 1 s2.2.2.1.length (s2.2.2.1.flatMap eI.o), .fr 1 s24.1.length (s24.1.flatMap (eS eI).o)]) (ds := s2.2.2.1.flatMap eI.o) (refs := [23001, 23002, 23003, 23004]) (by kernel_rfl) (by kernel_rfl) (by kernel_rfl)) ?_
      refine Tr.by (imp_promote (r := 1007) (i := 6) (q := 700036) (sz := 1) (sz' := 1) (n := s24.1.length) (cells := [iv v1.Objects, .rs 23001 0 v1.From.length, .rs 23002 0 v1.To.length, .rs 23003 0 v1.Identity.length, .rs 23004 0 v1.Composites.length, .rs 700035 0 s2.2.2.1.length, .fr 1 s24.1.length (s24.1.flatMap (eS eI).o)]) (ds := s24.1.flatMap (eS eI).o) (refs := [700035, 23001, 23002, 23003, 23004]) (by kernel_rfl) (by kernel_rfl) (by kernel_rfl)) ?_
      refine tr_sr hT hm [] [8, 10, 12, 2009, 2047, 2049, 46003, 46005, 46007, 46009, 1400071, 1400073] ([(8, .d (.rp 1004 0)), (10, .d (.rs 1023 0 s2.1.length)), (12, .d (.rs 1024 0 s2.2.1.length)), (2009, .r (.arr 1 [iv v1.Objects, .rs 23001 0 v1.From.length, .rs 23002 0 v1.To.length, .rs 23003 0 v1.Identity.length, .rs 23004 0 v1.Composites.length, .rs 700035 0 s2.2.2.1.length, .rs 700036 0 s24.1.length] [23001, 23002, 23003, 23004, 700035, 700036])), (2047, .r (.arr 1 (s2.1.flatMap (eS eI).o) [])), (2049, .r (.arr 1 (s2.2.1.flatMap (eS eI).o) []))] ++ rsS 23000 (eXCategory.o v1) ++ [(1400071, .r (.arr 1 (s2.2.2.1.flatMap eI.o) [])), (1400073, .r (.arr 1 (s24.1.flatMap (eS eI).o) []))]) (.cons (Nat.le_of_ble_eq_true (n := 7) (m := 7) rfl) .nil) (by kernel_rfl) (by kernel_rfl) ?_
      refine tr_ret (rg_r ?_)
      obtain rfl := Option.some.inj hM
      exact retg (names := []) (.cons (lenO_flat eI_ok v1.From) (.cons (lenO_flat eI_ok v1.To) (.cons (lenO_flat eI_ok v1.Identity) (.cons (lenO_flat (eS_ok eI_ok) v1.Composites) (.cons (lenO_flat eI_ok s2.2.2.1) (.cons (lenO_flat (eS_ok eI_ok) s24.1) (.cons (lenO_flat (eS_ok eI_ok) s2.1) (.cons (lenO_flat (eS_ok eI_ok) s2.2.1) .nil)))))))) (by kernel_rfl)

theorem ok97 : CallOk Try.prog 97 := callOk_of Try.func97 (by kernel_rfl) (by kernel_rfl)
theorem spec_l21Made_c (a0 : XSetFunctor) (r : Int) (hM : M.spec_l21Made a0 = some r) :
    FnC Try.prog 97 [] [.agg (eXSetFunctor.b a0)] [] (iv r) := by
  refine fnc_startG (N := 17) (np := 500) hT Try.func97 rfl rfl (by kernel_rfl) ?_
  unfold M.spec_l21Made at hM
  refine tr_start (ks := [0]) (st' := [(0, .d (.agg (eXSetFunctor.b a0)))]) (by kernel_rfl) ?_
  refine tr_sr hT hm [] [2, 2003] [(2, .d (.rp 1001 0)), bxB 2003 (eXSetFunctor.b a0)] .nil (by kernel_rfl) (by kernel_rfl) ?_
  refine tr_seq ?_
  refine tr_sr hT hm [] [2, 6, 2003] [(2, .d (.rp 1001 0)), (6, .d (iv 0)), bxB 2003 (eXSetFunctor.b a0)] .nil (by kernel_rfl) (by kernel_rfl) ?_
  refine tr_block ?_
  refine tr_iterS (fun (s1 : Int) => [(2, .d (.rp 1001 0)), (6, .d (iv s1)), bxB 2003 (eXSetFunctor.b a0)]) 0 [2, 6, 2003] (by kernel_rfl) hM ?_
  intro n4 next2 ih3 s1 hM
  refine tr_seq ?_
  refine tr_sr hT hm [] [2, 6, 16, 2003] [(2, .d (.rp 1001 0)), (6, .d (iv s1)), (16, .d (bv (decide (s1 < (a0.Sizes.length : Int))))), bxB 2003 (eXSetFunctor.b a0)] .nil (by kernel_rfl) (by kernel_rfl) ?_
  rcases Bool.eq_false_or_eq_true (decide (s1 < (a0.Sizes.length : Int))) with h5 | h5
  · have hM := ite_true' hM h5
    refine tr_condTe (e := decide (s1 < (a0.Sizes.length : Int))) h5 (by kernel_rfl) ?_
    refine tr_skip (q_n ?_)
    refine tr_seq ?_
    refine tr_block ?_
    obtain ⟨y6, hy6, hM⟩ := bind_some' hM
    have hy6' := idx_some hy6
    refine tr_sr hT hm [(4, .val (iv y6))] [2, 6, 32, 2003] [(2, .d (.rp 1001 0)), (6, .d (iv s1)), (32, .d (bv (decide (y6 > 16)))), bxB 2003 (eXSetFunctor.b a0)] (.cons hy6'.1 (.cons hy6'.2.1 (.cons (at_b0 eI_ok hy6'.2.2 (d := iv y6) (by kernel_rfl)) .nil))) (by kernel_rfl) (by kernel_rfl) ?_
    rcases Bool.eq_false_or_eq_true (decide (y6 > 16)) with h7 | h7
    · have hM := ite_true' hM h7
      refine tr_condTe (e := decide (y6 > 16)) h7 (by kernel_rfl) ?_
      refine tr_sr hT hm [] [4] [(4, .d (iv 3))] .nil (by kernel_rfl) (by kernel_rfl) ?_
      refine tr_ret (b_r (q_r (l_r (b_r (q_r (rg_r ?_))))))
      obtain rfl := Option.some.inj hM
      exact retg (names := []) .nil (by kernel_rfl)
    · have hM := ite_false' hM h7
      refine tr_condFe (e := decide (y6 > 16)) h7 (by kernel_rfl) ?_
      refine tr_skip (b_n (q_n ?_))
      refine tr_r hT hm [] [2, 6, 2003] [(2, .d (.rp 1001 0)), (6, .d (iv (IntKind.i64.wrap (s1 + 1)))), bxB 2003 (eXSetFunctor.b a0)] .nil (by kernel_rfl) (by kernel_rfl) (l_n ?_)
      exact trl_start (ks := [2, 6, 2003]) (by kernel_rfl) (ih3 (IntKind.i64.wrap (s1 + 1)) hM)
  · have hM := ite_false' hM h5
    refine tr_condFe (e := decide (s1 < (a0.Sizes.length : Int))) h5 (by kernel_rfl) ?_
    refine tr_exit (q_x (l_x (b_h (q_n ?_))))
    refine tr_sr hT hm [] [4] [(4, .d (iv 0))] .nil (by kernel_rfl) (by kernel_rfl) ?_
    refine tr_ret (rg_r ?_)
    obtain rfl := Option.some.inj hM
    exact retg (names := []) .nil (by kernel_rfl)

theorem ok100 : CallOk Try.prog 100 := callOk_of Try.func100 (by kernel_rfl) (by kernel_rfl)
theorem impl_fitting_c (a0 : List Int) (r : Bool) (hM : M.impl_fitting a0 = some r) :
    FnC Try.prog 100 [] [.sl a0.length 0 (a0.flatMap eI.b)] [] (bv r) := by
  refine fnc_startG (N := 5) (np := 500) hT Try.func100 rfl rfl (by kernel_rfl) ?_
  unfold M.impl_fitting at hM
  refine tr_start (ks := [0]) (st' := [(0, .d (.sl a0.length 0 (a0.flatMap eI.b)))]) (by kernel_rfl) ?_
  refine tr_sr hT hm [] [0] [(0, .d (.sl a0.length 0 (a0.flatMap eI.b)))] .nil (by kernel_rfl) (by kernel_rfl) ?_
  obtain ⟨v1, hv1, hM⟩ := bind_some' hM
  refine tr_sr hT hm [(1, .call [] [] [.sl a0.length 0 (a0.flatMap eI.b), iv 17] [] (bv v1))] [4] [(4, .d (bv v1))] (cc0 ok148 (impl_within_c a0 17 _ hv1) (by kernel_rfl) .nil) (by kernel_rfl) (by kernel_rfl) ?_
  refine tr_ret (rg_r ?_)
  obtain rfl := Option.some.inj hM
  exact retg (names := []) .nil (by kernel_rfl)

theorem ok145 : CallOk Try.prog 145 := callOk_of Try.func145 (by kernel_rfl) (by kernel_rfl)
theorem impl_areSetFunctors_c (a0 : List XSetFunctor) (r : Bool) (hM : M.impl_areSetFunctors a0 = some r) :
    FnC Try.prog 145 [] [.sl a0.length 0 (a0.flatMap (eP eXSetFunctor).b)] [] (bv r) := by
  refine fnc_startG (N := 15) (np := 500) hT Try.func145 rfl rfl (by kernel_rfl) ?_
  unfold M.impl_areSetFunctors at hM
  refine tr_start (ks := [0]) (st' := [(0, .d (.sl a0.length 0 (a0.flatMap (eP eXSetFunctor).b)))]) (by kernel_rfl) ?_
  refine tr_sr hT hm [] [0] [(0, .d (.sl a0.length 0 (a0.flatMap (eP eXSetFunctor).b)))] .nil (by kernel_rfl) (by kernel_rfl) ?_
  refine tr_seq ?_
  refine tr_sr hT hm [] [10, 12, 14] [(10, .d (.sl a0.length 0 (a0.flatMap (eP eXSetFunctor).b))), (12, .d (iv (a0.length : Int))), (14, .d (iv 0))] .nil (by kernel_rfl) (by kernel_rfl) ?_
  refine tr_block ?_
  refine tr_iterS (fun (s1 : Int) => [(10, .d (.sl a0.length 0 (a0.flatMap (eP eXSetFunctor).b))), (12, .d (iv (a0.length : Int))), (14, .d (iv s1))]) 0 [10, 12, 14] (by kernel_rfl) hM ?_
  intro n4 next2 ih3 s1 hM
  refine tr_sr hT hm [] [10, 12, 14, 16] [(10, .d (.sl a0.length 0 (a0.flatMap (eP eXSetFunctor).b))), (12, .d (iv (a0.length : Int))), (14, .d (iv s1)), (16, .d (bv (decide (s1 < (a0.length : Int)))))] .nil (by kernel_rfl) (by kernel_rfl) ?_
  refine tr_seq ?_
  rcases Bool.eq_false_or_eq_true (decide (s1 < (a0.length : Int))) with h5 | h5
  · have hM := ite_true' hM h5
    refine tr_condTe (e := decide (s1 < (a0.length : Int))) h5 (by kernel_rfl) ?_
    refine tr_skip (q_n ?_)
    refine tr_seq ?_
    refine tr_block ?_
    obtain ⟨y6, hy6, hM⟩ := bind_some' hM
    have hy6' := idx_some hy6
    refine tr_sr hT hm [(1, .val (.pt (eXSetFunctor.b y6) 0))] [8, 10, 12, 14] [(8, .d (.pt (eXSetFunctor.b y6) 0)), (10, .d (.sl a0.length 0 (a0.flatMap (eP eXSetFunctor).b))), (12, .d (iv (a0.length : Int))), (14, .d (iv s1))] (.cons hy6'.1 (.cons hy6'.2.1 (.cons (at_b0 (eP_ok (e := eXSetFunctor)) hy6'.2.2 (d := .pt (eXSetFunctor.b y6) 0) (by kernel_rfl)) .nil))) (by kernel_rfl) (by kernel_rfl) ?_
    obtain ⟨v7, hv7, hM⟩ := bind_some' hM
    refine tr_sr hT hm [(1, .call [] [] [.pt (eXSetFunctor.b y6) 0] [] (bv v7))] [10, 12, 14, 26] [(10, .d (.sl a0.length 0 (a0.flatMap (eP eXSetFunctor).b))), (12, .d (iv (a0.length : Int))), (14, .d (iv s1)), (26, .d (bv (!v7)))] (cc0 ok168 (impl_SetFunctor_isSetFunctor_c y6 _ hv7) (by kernel_rfl) .nil) (by kernel_rfl) (by kernel_rfl) ?_
    rcases Bool.eq_false_or_eq_true v7 with h8 | h8
    · have hM := ite_true' hM h8
      refine tr_condFe (e := !v7) (congrArg not h8) (by kernel_rfl) ?_
      refine tr_skip (b_n (q_n ?_))
      refine tr_r hT hm [] [10, 12, 14] [(10, .d (.sl a0.length 0 (a0.flatMap (eP eXSetFunctor).b))), (12, .d (iv (a0.length : Int))), (14, .d (iv (IntKind.i64.wrap (s1 + 1))))] .nil (by kernel_rfl) (by kernel_rfl) (l_n ?_)
      exact trl_start (ks := [10, 12, 14]) (by kernel_rfl) (ih3 (IntKind.i64.wrap (s1 + 1)) hM)
    · have hM := ite_false' hM h8
      refine tr_condTe (e := !v7) (congrArg not h8) (by kernel_rfl) ?_
      refine tr_sr hT hm [] [4] [(4, .d (bv false))] .nil (by kernel_rfl) (by kernel_rfl) ?_
      refine tr_ret (b_r (q_r (l_r (b_r (q_r (rg_r ?_))))))
      obtain rfl := Option.some.inj hM
      exact retg (names := []) .nil (by kernel_rfl)
  · have hM := ite_false' hM h5
    refine tr_condFe (e := decide (s1 < (a0.length : Int))) h5 (by kernel_rfl) ?_
    refine tr_exit (q_x (l_x (b_h (q_n ?_))))
    refine tr_sr hT hm [] [4] [(4, .d (bv true))] .nil (by kernel_rfl) (by kernel_rfl) ?_
    refine tr_ret (rg_r ?_)
    obtain rfl := Option.some.inj hM
    exact retg (names := []) .nil (by kernel_rfl)

theorem ok98 : CallOk Try.prog 98 := callOk_of Try.func98 (by kernel_rfl) (by kernel_rfl)
theorem impl_setsCode_c (a0 : XSetFunctor) (a1 : XSetFunctor) (r : Int) (hM : M.impl_setsCode a0 a1 = some r) :
    FnC Try.prog 98 [] [.pt (eXSetFunctor.b a0) 0, .pt (eXSetFunctor.b a1) 0] [] (iv r) := by
  refine fnc_startG (N := 18) (np := 500) hT Try.func98 rfl rfl (by kernel_rfl) ?_
  unfold M.impl_setsCode at hM
  refine tr_start (ks := [0, 2]) (st' := [(0, .d (.pt (eXSetFunctor.b a0) 0)), (2, .d (.pt (eXSetFunctor.b a1) 0))]) (by kernel_rfl) ?_
  refine tr_sr hT hm [] [0, 2] [(0, .d (.pt (eXSetFunctor.b a0) 0)), (2, .d (.pt (eXSetFunctor.b a1) 0))] .nil (by kernel_rfl) (by kernel_rfl) ?_
  refine tr_seq ?_
  obtain ⟨v1, hv1, hM⟩ := bind_some' hM
  refine tr_sr hT hm [(3, .call [1007] [] [.sl ([a0, a1] : List XSetFunctor).length 0 (([a0, a1] : List XSetFunctor).flatMap (eP eXSetFunctor).b)] [] (bv v1))] [0, 2, 18] [(0, .d (.pt (eXSetFunctor.b a0) 0)), (2, .d (.pt (eXSetFunctor.b a1) 0)), (18, .d (bv (!v1)))] (cc (B := [1007]) (ρ := []) (rB := [(1007, .arr 1 [.pt (eXSetFunctor.b a0) 0, .pt (eXSetFunctor.b a1) 0] [])]) ok145 (impl_areSetFunctors_c ([a0, a1] : List XSetFunctor) _ hv1) (.cons (.of1 (.rs (r := 1007) (sz := 1) (cells := [.pt (eXSetFunctor.b a0) 0, .pt (eXSetFunctor.b a1) 0]) (refs := []) (memB (by kernel_rfl)) (by kernel_rfl) (.cons (.same rfl rfl) (.cons (.same rfl rfl) .nil)))) .nil) (.inr ⟨.v, trivial⟩) .nil) (by kernel_rfl) (by kernel_rfl) ?_
  rcases Bool.eq_false_or_eq_true v1 with h2 | h2
  · have hM := ite_true' hM h2
    refine tr_condFe (e := !v1) (congrArg not h2) (by kernel_rfl) ?_
    refine tr_skip (q_n ?_)
    refine tr_seq ?_
    obtain ⟨v3, hv3, hM⟩ := bind_some' hM
    refine tr_sr hT hm [(6, .call [] [] [.pt (eXCategory.b a0.Shape) 0, .pt (eXCategory.b a1.Shape) 0] [] (bv v3))] [34] [(34, .d (bv (!v3)))] (cc (B := []) (ρ := []) (rB := []) ok70 (impl_sameCategory_c a0.Shape a1.Shape _ hv3) (.cons (.pass (.ptk (ds := eXSetFunctor.b a0) (ds' := eXCategory.b a0.Shape) (off := 0) (n := 5) (by kernel_rfl) (by kernel_rfl) (by kernel_rfl))) (.cons (.pass (.ptk (ds := eXSetFunctor.b a1) (ds' := eXCategory.b a1.Shape) (off := 0) (n := 5) (by kernel_rfl) (by kernel_rfl) (by kernel_rfl))) .nil)) (.inl rfl) .nil) (by kernel_rfl) (by kernel_rfl) ?_
    rcases Bool.eq_false_or_eq_true v3 with h4 | h4
    · have hM := ite_true' hM h4
      refine tr_condFe (e := !v3) (congrArg not h4) (by kernel_rfl) ?_
      refine tr_skip (q_n ?_)
      refine tr_sr hT hm [] [8] [(8, .d (iv 0))] .nil (by kernel_rfl) (by kernel_rfl) ?_
      refine tr_ret (rg_r ?_)
      obtain rfl := Option.some.inj hM
      exact retg (names := []) .nil (by kernel_rfl)
    · have hM := ite_false' hM h4
      refine tr_condTe (e := !v3) (congrArg not h4) (by kernel_rfl) ?_
      refine tr_sr hT hm [] [8] [(8, .d (iv 5))] .nil (by kernel_rfl) (by kernel_rfl) ?_
      refine tr_ret (q_r (rg_r ?_))
      obtain rfl := Option.some.inj hM
      exact retg (names := []) .nil (by kernel_rfl)
  · have hM := ite_false' hM h2
    refine tr_condTe (e := !v1) (congrArg not h2) (by kernel_rfl) ?_
    refine tr_sr hT hm [] [8] [(8, .d (iv 1))] .nil (by kernel_rfl) (by kernel_rfl) ?_
    refine tr_ret (q_r (rg_r ?_))
    obtain rfl := Option.some.inj hM
    exact retg (names := []) .nil (by kernel_rfl)

theorem ok147 : CallOk Try.prog 147 := callOk_of Try.func147 (by kernel_rfl) (by kernel_rfl)
theorem impl_shifted_c (a0 : List Int) (a1 : Int) (r : (List Int)) (hM : M.impl_shifted a0 a1 = some r) :
    FnC Try.prog 147 [] [.sl a0.length 0 (a0.flatMap eI.b), iv a1] [] (.fr 1 r.length (r.flatMap eI.o)) := by
  refine fnc_startG (N := 23) (np := 500) hT Try.func147 rfl rfl (by kernel_rfl) ?_
  unfold M.impl_shifted at hM
  refine tr_start (ks := [0, 2]) (st' := [(0, .d (.sl a0.length 0 (a0.flatMap eI.b))), (2, .d (iv a1))]) (by kernel_rfl) ?_
  refine tr_sr hT hm [] [0, 2] [(0, .d (.sl a0.length 0 (a0.flatMap eI.b))), (2, .d (iv a1))] .nil (by kernel_rfl) (by kernel_rfl) ?_
  refine tr_sr hT hm [] [0, 2, 10, 2017] [(0, .d (.sl a0.length 0 (a0.flatMap eI.b))), (2, .d (iv a1)), (10, .d (.rs 1008 0 (([] : List Int).length))), (2017, .r (.arr 1 (([] : List Int).flatMap eI.o) []))] .nil (by kernel_rfl) (by kernel_rfl) ?_
  refine tr_seq ?_
  refine tr_sr hT hm [] [2, 10, 18, 20, 22, 2017] [(2, .d (iv a1)), (10, .d (.rs 1008 0 (([] : List Int).length))), (18, .d (.sl a0.length 0 (a0.flatMap eI.b))), (20, .d (iv (a0.length : Int))), (22, .d (iv 0)), (2017, .r (.arr 1 (([] : List Int).flatMap eI.o) []))] .nil (by kernel_rfl) (by kernel_rfl) ?_
  refine tr_block ?_
  refine tr_iterS (fun (s1 : (List Int) × Int) => [(2, .d (iv a1)), (10, .d (.rs 1008 0 s1.1.length)), (18, .d (.sl a0.length 0 (a0.flatMap eI.b))), (20, .d (iv (a0.length : Int))), (22, .d (iv s1.2)), (2017, .r (.arr 1 (s1.1.flatMap eI.o) []))]) (([] : List Int), 0) [2, 10, 18, 20, 22, 2017] (by kernel_rfl) hM ?_
  intro n4 next2 ih3 s1 hM
  refine tr_sr hT hm [] [2, 10, 18, 20, 22, 24, 2017] [(2, .d (iv a1)), (10, .d (.rs 1008 0 s1.1.length)), (18, .d (.sl a0.length 0 (a0.flatMap eI.b))), (20, .d (iv (a0.length : Int))), (22, .d (iv s1.2)), (24, .d (bv (decide (s1.2 < (a0.length : Int))))), (2017, .r (.arr 1 (s1.1.flatMap eI.o) []))] .nil (by kernel_rfl) (by kernel_rfl) ?_
  refine tr_seq ?_
  rcases Bool.eq_false_or_eq_true (decide (s1.2 < (a0.length : Int))) with h5 | h5
  · have hM := ite_true' hM h5
    refine tr_condTe (e := decide (s1.2 < (a0.length : Int))) h5 (by kernel_rfl) ?_
    refine tr_skip (q_n ?_)
    refine tr_seq ?_
    refine tr_block ?_
    obtain ⟨y6, hy6, hM⟩ := bind_some' hM
    have hy6' := idx_some hy6
    refine tr_sr hT hm [(1, .val (iv y6))] [2, 10, 14, 18, 20, 22, 2017] [(2, .d (iv a1)), (10, .d (.rs 1008 0 s1.1.length)), (14, .d (iv y6)), (18, .d (.sl a0.length 0 (a0.flatMap eI.b))), (20, .d (iv (a0.length : Int))), (22, .d (iv s1.2)), (2017, .r (.arr 1 (s1.1.flatMap eI.o) []))] (.cons hy6'.1 (.cons hy6'.2.1 (.cons (at_b0 eI_ok hy6'.2.2 (d := iv y6) (by kernel_rfl)) .nil))) (by kernel_rfl) (by kernel_rfl) ?_
    obtain ⟨h7, hM⟩ := chk_some hM
    refine tr_r hT hm [(5, .app true)] [2, 10, 18, 20, 22, 2041] [(2, .d (iv a1)), (10, .d (.rs 1020 0 (s1.1.length + (([IntKind.i64.wrap (y6 + a1)] : List Int).length)))), (18, .d (.sl a0.length 0 (a0.flatMap eI.b))), (20, .d (iv (a0.length : Int))), (22, .d (iv s1.2)), (2041, .r (.arr 1 (s1.1.flatMap eI.o ++ ([IntKind.i64.wrap (y6 + a1)] : List Int).flatMap eI.o) []))] (.cons (lenO_flat eI_ok s1.1) (.cons (lenO_flat eI_ok ([IntKind.i64.wrap (y6 + a1)] : List Int)) (.cons h7 .nil))) (by kernel_rfl) (by kernel_rfl) (b_n (q_n ?_))
    refine Tr.by (imp_cvE (r := 1020) (sz := 1) (refs := []) (flat_app eI.o s1.1 ([IntKind.i64.wrap (y6 + a1)] : List Int)) (menO_flat eI_ok _) (by kernel_rfl)) ?_
    refine Tr.by (imp_cvD (k := 10) (congrArg (D.rs 1020 0) ((len_app s1.1 ([IntKind.i64.wrap (y6 + a1)] : List Int)) : s1.1.length + (([IntKind.i64.wrap (y6 + a1)] : List Int).length) = (s1.1 ++ ([IntKind.i64.wrap (y6 + a1)] : List Int)).length)) (by kernel_rfl)) ?_
    refine tr_r hT hm [] [2, 10, 18, 20, 22, 2041] [(2, .d (iv a1)), (10, .d (.rs 1020 0 ((s1.1 ++ ([IntKind.i64.wrap (y6 + a1)] : List Int)).length))), (18, .d (.sl a0.length 0 (a0.flatMap eI.b))), (20, .d (iv (a0.length : Int))), (22, .d (iv (IntKind.i64.wrap (s1.2 + 1)))), (2041, .r (.arr 1 ((s1.1 ++ ([IntKind.i64.wrap (y6 + a1)] : List Int)).flatMap eI.o) []))] .nil (by kernel_rfl) (by kernel_rfl) (l_n ?_)
    refine TrL.by (imp_sel (ks := [2, 10, 18, 20, 22, 2041]) (st' := [(2, .d (iv a1)), (10, .d (.rs 1020 0 ((s1.1 ++ ([IntKind.i64.wrap (y6 + a1)] : List Int)).length))), (18, .d (.sl a0.length 0 (a0.flatMap eI.b))), (20, .d (iv (a0.length : Int))), (22, .d (iv (IntKind.i64.wrap (s1.2 + 1)))), (2041, .r (.arr 1 ((s1.1 ++ ([IntKind.i64.wrap (y6 + a1)] : List Int)).flatMap eI.o) []))]) (by kernel_rfl)) ?_
    refine TrL.by (imp_rename (r := 1020) (q := 1008) (by kernel_rfl) (Nat.le_of_ble_eq_true rfl)) ?_
    exact trl_start (ks := [2, 10, 18, 20, 22, 2017]) (by kernel_rfl) (ih3 (s1.1 ++ ([IntKind.i64.wrap (y6 + a1)] : List Int), IntKind.i64.wrap (s1.2 + 1)) hM)
  · have hM := ite_false' hM h5
    refine tr_condFe (e := decide (s1.2 < (a0.length : Int))) h5 (by kernel_rfl) ?_
    refine tr_exit (q_x (l_x (b_h (q_n ?_))))
    refine tr_sr hT hm [] [8, 2017] [(8, .d (.rs 1008 0 s1.1.length)), (2017, .r (.arr 1 (s1.1.flatMap eI.o) []))] .nil (by kernel_rfl) (by kernel_rfl) ?_
    refine tr_ret (rg_r ?_)
    obtain rfl := Option.some.inj hM
    exact retg (names := []) (.cons (lenO_flat eI_ok s1.1) .nil) (by kernel_rfl)

end Go.Proofs.Ytaijkiepcaobiaa.Wv28
