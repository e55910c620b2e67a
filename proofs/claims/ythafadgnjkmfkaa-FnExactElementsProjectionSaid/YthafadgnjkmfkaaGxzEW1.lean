/- Walks. Printed by wip/gen. -/
import Derived.Test.YthafadgnjkmfkaaGxEO0
import Derived.Test.YthafadgnjkmfkaaGxzEW0
namespace Go.Proofs.Ythafadgnjkmfkaa.WzE
open Go.Gx Go.Proofs.Ythafadgnjkmfkaa.WvB Go.Proofs.Ythafadgnjkmfkaa.WvS Go.Proofs.Ythafadgnjkmfkaa.WyN Go.Proofs.Ythafadgnjkmfkaa.WvQ Go.Proofs.Ythafadgnjkmfkaa.WyT

theorem ok7 : CallOk Try.prog 7 := callOk_of Try.func7 (by kernel_rfl) (by kernel_rfl)
theorem spec_ElementsProjection_c (a0 : XSetFunctor) (r : XFunctor × Int) (hM : M.spec_ElementsProjection a0 = some r) :
    FnC Try.prog 7 [] [.agg (eXSetFunctor.b a0)] [] (.tup [.agg (eXFunctor.o r.1), iv r.2]) := by
  refine fnc_startG (N := 65) (np := 500) hT Try.func7 rfl rfl (by kernel_rfl) ?_
  unfold M.spec_ElementsProjection at hM
  refine tr_start (ks := [0]) (st' := [(0, .d (.agg (eXSetFunctor.b a0)))]) (by kernel_rfl) ?_
  refine tr_sr hT hm [] [2, 4, 2003, 2005] [(2, .d (.rp 1001 0)), (4, .d (.rp 1002 0)), bxB 2003 (eXSetFunctor.b a0), (2005, .r (.arr 1 [iv 0, nilv, nilv, nilv, nilv, iv 0, nilv, nilv, nilv, nilv, nilv, nilv] []))] .nil (by kernel_rfl) (by kernel_rfl) ?_
  refine tr_seq ?_
  obtain ⟨v1, hv1, hM⟩ := bind_some' hM
  refine tr_sr hT hm [(1, .call [] [] [.agg (eXSetFunctor.b a0)] [] (bv v1))] [2, 4, 24, 2003, 2005] [(2, .d (.rp 1001 0)), (4, .d (.rp 1002 0)), (24, .d (bv (!v1))), bxB 2003 (eXSetFunctor.b a0), (2005, .r (.arr 1 [iv 0, nilv, nilv, nilv, nilv, iv 0, nilv, nilv, nilv, nilv, nilv, nilv] []))] (cc0 ok30 (spec_l19Is_c a0 _ hv1) (by kernel_rfl) .nil) (by kernel_rfl) (by kernel_rfl) ?_
  rcases Bool.eq_false_or_eq_true v1 with h2 | h2
  · have hM := ite_true' hM h2
    refine tr_condFe (e := !v1) (congrArg not h2) (by kernel_rfl) ?_
    refine tr_skip (q_n ?_)
    obtain ⟨v3, hv3, hM⟩ := bind_some' hM
    refine tr_sr hT hm [(1, .call [] [] [.agg (eXSetFunctor.b a0)] [] (.tup [.agg (eXl20Space.o v3.1), bv v3.2]))] [2, 4, 8, 10, 2003, 2005, 2009, 36003, 36005, 36007, 36009] ([(2, .d (.rp 1001 0)), (4, .d (.rp 1002 0)), (8, .d (.rp 1004 0)), (10, .d (bv v3.2)), bxB 2003 (eXSetFunctor.b a0), (2005, .r (.arr 1 [iv 0, nilv, nilv, nilv, nilv, iv 0, nilv, nilv, nilv, nilv, nilv, nilv] [])), (2009, .r (.arr 1 [iv v3.1.c_.Objects, .rs 18001 0 v3.1.c_.From.length, .rs 18002 0 v3.1.c_.To.length, .rs 18003 0 v3.1.c_.Identity.length, .rs 18004 0 v3.1.c_.Composites.length, .sl v3.1.objects_.length 0 (v3.1.objects_.flatMap (eS eI).b), .sl v3.1.arrows_.length 0 (v3.1.arrows_.flatMap (eS eI).b)] [18001, 18002, 18003, 18004]))] ++ rsS 18000 (eXl20Space.o v3.1)) (cc0 ok31 (spec_l20Elements_c a0 _ hv3) (by kernel_rfl) (.cons (Nat.le_of_ble_eq_true (n := 7) (m := 7) rfl) .nil)) (by kernel_rfl) (by kernel_rfl) ?_
    refine tr_seq ?_
    refine tr_sr hT hm [] [2, 4, 8, 40, 2003, 2005, 2009, 36003, 36005, 36007, 36009] ([(2, .d (.rp 1001 0)), (4, .d (.rp 1002 0)), (8, .d (.rp 1004 0)), (40, .d (bv (!v3.2))), bxB 2003 (eXSetFunctor.b a0), (2005, .r (.arr 1 [iv 0, nilv, nilv, nilv, nilv, iv 0, nilv, nilv, nilv, nilv, nilv, nilv] [])), (2009, .r (.arr 1 [iv v3.1.c_.Objects, .rs 18001 0 v3.1.c_.From.length, .rs 18002 0 v3.1.c_.To.length, .rs 18003 0 v3.1.c_.Identity.length, .rs 18004 0 v3.1.c_.Composites.length, .sl v3.1.objects_.length 0 (v3.1.objects_.flatMap (eS eI).b), .sl v3.1.arrows_.length 0 (v3.1.arrows_.flatMap (eS eI).b)] [18001, 18002, 18003, 18004]))] ++ rsS 18000 (eXl20Space.o v3.1)) .nil (by kernel_rfl) (by kernel_rfl) ?_
    rcases Bool.eq_false_or_eq_true v3.2 with h4 | h4
    · have hM := ite_true' hM h4
      refine tr_condFe (e := !v3.2) (congrArg not h4) (by kernel_rfl) ?_
      refine tr_skip (q_n ?_)
      refine tr_sr hT hm [] [2, 4, 8, 12, 14, 2003, 2005, 2009, 2045, 2047, 36003, 36005, 36007, 36009] ([(2, .d (.rp 1001 0)), (4, .d (.rp 1002 0)), (8, .d (.rp 1004 0)), (12, .d (.rs 1022 0 (([] : List Int).length))), (14, .d (.rs 1023 0 (([] : List Int).length))), bxB 2003 (eXSetFunctor.b a0), (2005, .r (.arr 1 [iv 0, nilv, nilv, nilv, nilv, iv 0, nilv, nilv, nilv, nilv, nilv, nilv] [])), (2009, .r (.arr 1 [iv v3.1.c_.Objects, .rs 18001 0 v3.1.c_.From.length, .rs 18002 0 v3.1.c_.To.length, .rs 18003 0 v3.1.c_.Identity.length, .rs 18004 0 v3.1.c_.Composites.length, .sl v3.1.objects_.length 0 (v3.1.objects_.flatMap (eS eI).b), .sl v3.1.arrows_.length 0 (v3.1.arrows_.flatMap (eS eI).b)] [18001, 18002, 18003, 18004])), (2045, .r (.arr 1 (([] : List Int).flatMap eI.o) [])), (2047, .r (.arr 1 (([] : List Int).flatMap eI.o) []))] ++ rsS 18000 (eXl20Space.o v3.1)) .nil (by kernel_rfl) (by kernel_rfl) ?_
      refine tr_seq ?_
      refine tr_sr hT hm [] [2, 4, 8, 12, 14, 16, 2003, 2005, 2009, 2045, 2047, 36003, 36005, 36007, 36009] ([(2, .d (.rp 1001 0)), (4, .d (.rp 1002 0)), (8, .d (.rp 1004 0)), (12, .d (.rs 1022 0 (([] : List Int).length))), (14, .d (.rs 1023 0 (([] : List Int).length))), (16, .d (iv 0)), bxB 2003 (eXSetFunctor.b a0), (2005, .r (.arr 1 [iv 0, nilv, nilv, nilv, nilv, iv 0, nilv, nilv, nilv, nilv, nilv, nilv] [])), (2009, .r (.arr 1 [iv v3.1.c_.Objects, .rs 18001 0 v3.1.c_.From.length, .rs 18002 0 v3.1.c_.To.length, .rs 18003 0 v3.1.c_.Identity.length, .rs 18004 0 v3.1.c_.Composites.length, .sl v3.1.objects_.length 0 (v3.1.objects_.flatMap (eS eI).b), .sl v3.1.arrows_.length 0 (v3.1.arrows_.flatMap (eS eI).b)] [18001, 18002, 18003, 18004])), (2045, .r (.arr 1 (([] : List Int).flatMap eI.o) [])), (2047, .r (.arr 1 (([] : List Int).flatMap eI.o) []))] ++ rsS 18000 (eXl20Space.o v3.1)) .nil (by kernel_rfl) (by kernel_rfl) ?_
      refine tr_block ?_
      refine tr_iterS (fun (s5 : (List Int) × Int) => ([(2, .d (.rp 1001 0)), (4, .d (.rp 1002 0)), (8, .d (.rp 1004 0)), (12, .d (.rs 1022 0 s5.1.length)), (14, .d (.rs 1023 0 (([] : List Int).length))), (16, .d (iv s5.2)), bxB 2003 (eXSetFunctor.b a0), (2005, .r (.arr 1 [iv 0, nilv, nilv, nilv, nilv, iv 0, nilv, nilv, nilv, nilv, nilv, nilv] [])), (2009, .r (.arr 1 [iv v3.1.c_.Objects, .rs 18001 0 v3.1.c_.From.length, .rs 18002 0 v3.1.c_.To.length, .rs 18003 0 v3.1.c_.Identity.length, .rs 18004 0 v3.1.c_.Composites.length, .sl v3.1.objects_.length 0 (v3.1.objects_.flatMap (eS eI).b), .sl v3.1.arrows_.length 0 (v3.1.arrows_.flatMap (eS eI).b)] [18001, 18002, 18003, 18004])), (2045, .r (.arr 1 (s5.1.flatMap eI.o) [])), (2047, .r (.arr 1 (([] : List Int).flatMap eI.o) []))] ++ rsS 18000 (eXl20Space.o v3.1))) (([] : List Int), 0) [2, 4, 8, 12, 14, 16, 2003, 2005, 2009, 2045, 2047, 36003, 36005, 36007, 36009] (by kernel_rfl) hM ?_
      intro n8 next6 ih7 s5 hM
      refine tr_seq ?_
      refine tr_sr hT hm [] [2, 4, 8, 12, 14, 16, 56, 2003, 2005, 2009, 2045, 2047, 36003, 36005, 36007, 36009] ([(2, .d (.rp 1001 0)), (4, .d (.rp 1002 0)), (8, .d (.rp 1004 0)), (12, .d (.rs 1022 0 s5.1.length)), (14, .d (.rs 1023 0 (([] : List Int).length))), (16, .d (iv s5.2)), (56, .d (bv (decide (s5.2 < (v3.1.objects_.length : Int))))), bxB 2003 (eXSetFunctor.b a0), (2005, .r (.arr 1 [iv 0, nilv, nilv, nilv, nilv, iv 0, nilv, nilv, nilv, nilv, nilv, nilv] [])), (2009, .r (.arr 1 [iv v3.1.c_.Objects, .rs 18001 0 v3.1.c_.From.length, .rs 18002 0 v3.1.c_.To.length, .rs 18003 0 v3.1.c_.Identity.length, .rs 18004 0 v3.1.c_.Composites.length, .sl v3.1.objects_.length 0 (v3.1.objects_.flatMap (eS eI).b), .sl v3.1.arrows_.length 0 (v3.1.arrows_.flatMap (eS eI).b)] [18001, 18002, 18003, 18004])), (2045, .r (.arr 1 (s5.1.flatMap eI.o) [])), (2047, .r (.arr 1 (([] : List Int).flatMap eI.o) []))] ++ rsS 18000 (eXl20Space.o v3.1)) .nil (by kernel_rfl) (by kernel_rfl) ?_
      rcases Bool.eq_false_or_eq_true (decide (s5.2 < (v3.1.objects_.length : Int))) with h9 | h9
      · have hM := ite_true' hM h9
        refine tr_condTe (e := decide (s5.2 < (v3.1.objects_.length : Int))) h9 (by kernel_rfl) ?_
        refine tr_skip (q_n ?_)
        refine tr_seq ?_
        refine tr_block ?_
        obtain ⟨y10, hy10, hM⟩ := bind_some' hM
        have hy10' := idx_some hy10
        obtain ⟨y11, hy11, hM⟩ := bind_some' hM
        have hy11' := idx_some hy11
        obtain ⟨h12, hM⟩ := chk_some hM
        refine tr_r hT hm [(5, .val (.sl y10.length 0 (y10.flatMap eI.b))), (7, .val (iv y11)), (9, .app true)] [2, 4, 8, 12, 14, 16, 2003, 2005, 2009, 2047, 2081, 36003, 36005, 36007, 36009] ([(2, .d (.rp 1001 0)), (4, .d (.rp 1002 0)), (8, .d (.rp 1004 0)), (12, .d (.rs 1040 0 (s5.1.length + (([y11] : List Int).length)))), (14, .d (.rs 1023 0 (([] : List Int).length))), (16, .d (iv s5.2)), bxB 2003 (eXSetFunctor.b a0), (2005, .r (.arr 1 [iv 0, nilv, nilv, nilv, nilv, iv 0, nilv, nilv, nilv, nilv, nilv, nilv] [])), (2009, .r (.arr 1 [iv v3.1.c_.Objects, .rs 18001 0 v3.1.c_.From.length, .rs 18002 0 v3.1.c_.To.length, .rs 18003 0 v3.1.c_.Identity.length, .rs 18004 0 v3.1.c_.Composites.length, .sl v3.1.objects_.length 0 (v3.1.objects_.flatMap (eS eI).b), .sl v3.1.arrows_.length 0 (v3.1.arrows_.flatMap (eS eI).b)] [18001, 18002, 18003, 18004])), (2047, .r (.arr 1 (([] : List Int).flatMap eI.o) [])), (2081, .r (.arr 1 (s5.1.flatMap eI.o ++ ([y11] : List Int).flatMap eI.o) []))] ++ rsS 18000 (eXl20Space.o v3.1)) (.cons hy10'.1 (.cons hy10'.2.1 (.cons (at_b0 (eS_ok eI_ok) hy10'.2.2 (d := .sl y10.length 0 (y10.flatMap eI.b)) (by kernel_rfl)) (.cons hy11'.1 (.cons hy11'.2.1 (.cons (at_b0 eI_ok hy11'.2.2 (d := iv y11) (by kernel_rfl)) (.cons (lenO_flat eI_ok s5.1) (.cons (lenO_flat eI_ok ([y11] : List Int)) (.cons h12 .nil))))))))) (by kernel_rfl) (by kernel_rfl) (b_n (q_n ?_))
        refine Tr.by (imp_cvE (r := 1040) (sz := 1) (refs := []) (flat_app eI.o s5.1 ([y11] : List Int)) (menO_flat eI_ok _) (by kernel_rfl)) ?_
        refine Tr.by (imp_cvD (k := 12) (congrArg (D.rs 1040 0) ((len_app s5.1 ([y11] : List Int)) : s5.1.length + (([y11] : List Int).length) = (s5.1 ++ ([y11] : List Int)).length)) (by kernel_rfl)) ?_
        refine tr_r hT hm [] [2, 4, 8, 12, 14, 16, 2003, 2005, 2009, 2047, 2081, 36003, 36005, 36007, 36009] ([(2, .d (.rp 1001 0)), (4, .d (.rp 1002 0)), (8, .d (.rp 1004 0)), (12, .d (.rs 1040 0 ((s5.1 ++ ([y11] : List Int)).length))), (14, .d (.rs 1023 0 (([] : List Int).length))), (16, .d (iv (IntKind.i64.wrap (s5.2 + 1)))), bxB 2003 (eXSetFunctor.b a0), (2005, .r (.arr 1 [iv 0, nilv, nilv, nilv, nilv, iv 0, nilv, nilv, nilv, nilv, nilv, nilv] [])), (2009, .r (.arr 1 [iv v3.1.c_.Objects, .rs 18001 0 v3.1.c_.From.length, .rs 18002 0 v3.1.c_.To.length, .rs 18003 0 v3.1.c_.Identity.length, .rs 18004 0 v3.1.c_.Composites.length, .sl v3.1.objects_.length 0 (v3.1.objects_.flatMap (eS eI).b), .sl v3.1.arrows_.length 0 (v3.1.arrows_.flatMap (eS eI).b)] [18001, 18002, 18003, 18004])), (2047, .r (.arr 1 (([] : List Int).flatMap eI.o) [])), (2081, .r (.arr 1 ((s5.1 ++ ([y11] : List Int)).flatMap eI.o) []))] ++ rsS 18000 (eXl20Space.o v3.1)) .nil (by kernel_rfl) (by kernel_rfl) (l_n ?_)
        refine TrL.by (imp_sel (ks := [2, 4, 8, 12, 14, 16, 2003, 2005, 2009, 2047, 2081, 36003, 36005, 36007, 36009]) (st' := ([(2, .d (.rp 1001 0)), (4, .d (.rp 1002 0)), (8, .d (.rp 1004 0)), (12, .d (.rs 1040 0 ((s5.1 ++ ([y11] : List Int)).length))), (14, .d (.rs 1023 0 (([] : List Int).length))), (16, .d (iv (IntKind.i64.wrap (s5.2 + 1)))), bxB 2003 (eXSetFunctor.b a0), (2005, .r (.arr 1 [iv 0, nilv, nilv, nilv, nilv, iv 0, nilv, nilv, nilv, nilv, nilv, nilv] [])), (2009, .r (.arr 1 [iv v3.1.c_.Objects, .rs 18001 0 v3.1.c_.From.length, .rs 18002 0 v3.1.c_.To.length, .rs 18003 0 v3.1.c_.Identity.length, .rs 18004 0 v3.1.c_.Composites.length, .sl v3.1.objects_.length 0 (v3.1.objects_.flatMap (eS eI).b), .sl v3.1.arrows_.length 0 (v3.1.arrows_.flatMap (eS eI).b)] [18001, 18002, 18003, 18004])), (2047, .r (.arr 1 (([] : List Int).flatMap eI.o) [])), (2081, .r (.arr 1 ((s5.1 ++ ([y11] : List Int)).flatMap eI.o) []))] ++ rsS 18000 (eXl20Space.o v3.1))) (by kernel_rfl)) ?_
        refine TrL.by (imp_rename (r := 1040) (q := 1022) (by kernel_rfl) (Nat.le_of_ble_eq_true rfl)) ?_
        exact trl_start (ks := [2, 4, 8, 12, 14, 16, 2003, 2005, 2009, 2045, 2047, 36003, 36005, 36007, 36009]) (by kernel_rfl) (ih7 (s5.1 ++ ([y11] : List Int), IntKind.i64.wrap (s5.2 + 1)) hM)
      · have hM := ite_false' hM h9
        refine tr_condFe (e := decide (s5.2 < (v3.1.objects_.length : Int))) h9 (by kernel_rfl) ?_
        refine tr_exit (q_x (l_x (b_h (q_n ?_))))
        refine tr_seq ?_
        refine tr_sr hT hm [] [2, 4, 8, 12, 14, 18, 2003, 2005, 2009, 2045, 2047, 36003, 36005, 36007, 36009] ([(2, .d (.rp 1001 0)), (4, .d (.rp 1002 0)), (8, .d (.rp 1004 0)), (12, .d (.rs 1022 0 s5.1.length)), (14, .d (.rs 1023 0 (([] : List Int).length))), (18, .d (iv 0)), bxB 2003 (eXSetFunctor.b a0), (2005, .r (.arr 1 [iv 0, nilv, nilv, nilv, nilv, iv 0, nilv, nilv, nilv, nilv, nilv, nilv] [])), (2009, .r (.arr 1 [iv v3.1.c_.Objects, .rs 18001 0 v3.1.c_.From.length, .rs 18002 0 v3.1.c_.To.length, .rs 18003 0 v3.1.c_.Identity.length, .rs 18004 0 v3.1.c_.Composites.length, .sl v3.1.objects_.length 0 (v3.1.objects_.flatMap (eS eI).b), .sl v3.1.arrows_.length 0 (v3.1.arrows_.flatMap (eS eI).b)] [18001, 18002, 18003, 18004])), (2045, .r (.arr 1 (s5.1.flatMap eI.o) [])), (2047, .r (.arr 1 (([] : List Int).flatMap eI.o) []))] ++ rsS 18000 (eXl20Space.o v3.1)) .nil (by kernel_rfl) (by kernel_rfl) ?_
        refine tr_block ?_
        refine tr_iterS (fun (s13 : (List Int) × Int) => ([(2, .d (.rp 1001 0)), (4, .d (.rp 1002 0)), (8, .d (.rp 1004 0)), (12, .d (.rs 1022 0 s5.1.length)), (14, .d (.rs 1023 0 s13.1.length)), (18, .d (iv s13.2)), bxB 2003 (eXSetFunctor.b a0), (2005, .r (.arr 1 [iv 0, nilv, nilv, nilv, nilv, iv 0, nilv, nilv, nilv, nilv, nilv, nilv] [])), (2009, .r (.arr 1 [iv v3.1.c_.Objects, .rs 18001 0 v3.1.c_.From.length, .rs 18002 0 v3.1.c_.To.length, .rs 18003 0 v3.1.c_.Identity.length, .rs 18004 0 v3.1.c_.Composites.length, .sl v3.1.objects_.length 0 (v3.1.objects_.flatMap (eS eI).b), .sl v3.1.arrows_.length 0 (v3.1.arrows_.flatMap (eS eI).b)] [18001, 18002, 18003, 18004])), (2045, .r (.arr 1 (s5.1.flatMap eI.o) [])), (2047, .r (.arr 1 (s13.1.flatMap eI.o) []))] ++ rsS 18000 (eXl20Space.o v3.1))) (([] : List Int), 0) [2, 4, 8, 12, 14, 18, 2003, 2005, 2009, 2045, 2047, 36003, 36005, 36007, 36009] (by kernel_rfl) hM ?_
        intro n16 next14 ih15 s13 hM
        refine tr_seq ?_
        refine tr_sr hT hm [] [2, 4, 8, 12, 14, 18, 90, 2003, 2005, 2009, 2045, 2047, 36003, 36005, 36007, 36009] ([(2, .d (.rp 1001 0)), (4, .d (.rp 1002 0)), (8, .d (.rp 1004 0)), (12, .d (.rs 1022 0 s5.1.length)), (14, .d (.rs 1023 0 s13.1.length)), (18, .d (iv s13.2)), (90, .d (bv (decide (s13.2 < (v3.1.arrows_.length : Int))))), bxB 2003 (eXSetFunctor.b a0), (2005, .r (.arr 1 [iv 0, nilv, nilv, nilv, nilv, iv 0, nilv, nilv, nilv, nilv, nilv, nilv] [])), (2009, .r (.arr 1 [iv v3.1.c_.Objects, .rs 18001 0 v3.1.c_.From.length, .rs 18002 0 v3.1.c_.To.length, .rs 18003 0 v3.1.c_.Identity.length, .rs 18004 0 v3.1.c_.Composites.length, .sl v3.1.objects_.length 0 (v3.1.objects_.flatMap (eS eI).b), .sl v3.1.arrows_.length 0 (v3.1.arrows_.flatMap (eS eI).b)] [18001, 18002, 18003, 18004])), (2045, .r (.arr 1 (s5.1.flatMap eI.o) [])), (2047, .r (.arr 1 (s13.1.flatMap eI.o) []))] ++ rsS 18000 (eXl20Space.o v3.1)) .nil (by kernel_rfl) (by kernel_rfl) ?_
        rcases Bool.eq_false_or_eq_true (decide (s13.2 < (v3.1.arrows_.length : Int))) with h17 | h17
        · have hM := ite_true' hM h17
          refine tr_condTe (e := decide (s13.2 < (v3.1.arrows_.length : Int))) h17 (by kernel_rfl) ?_
          refine tr_skip (q_n ?_)
          refine tr_seq ?_
          refine tr_block ?_
          obtain ⟨y18, hy18, hM⟩ := bind_some' hM
          have hy18' := idx_some hy18
          obtain ⟨y19, hy19, hM⟩ := bind_some' hM
          have hy19' := idx_some hy19
          obtain ⟨h20, hM⟩ := chk_some hM
          refine tr_r hT hm [(5, .val (.sl y18.length 0 (y18.flatMap eI.b))), (7, .val (iv y19)), (9, .app true)] [2, 4, 8, 12, 14, 18, 2003, 2005, 2009, 2045, 2115, 36003, 36005, 36007, 36009] ([(2, .d (.rp 1001 0)), (4, .d (.rp 1002 0)), (8, .d (.rp 1004 0)), (12, .d (.rs 1022 0 s5.1.length)), (14, .d (.rs 1057 0 (s13.1.length + (([y19] : List Int).length)))), (18, .d (iv s13.2)), bxB 2003 (eXSetFunctor.b a0), (2005, .r (.arr 1 [iv 0, nilv, nilv, nilv, nilv, iv 0, nilv, nilv, nilv, nilv, nilv, nilv] [])), (2009, .r (.arr 1 [iv v3.1.c_.Objects, .rs 18001 0 v3.1.c_.From.length, .rs 18002 0 v3.1.c_.To.length, .rs 18003 0 v3.1.c_.Identity.length, .rs 18004 0 v3.1.c_.Composites.length, .sl v3.1.objects_.length 0 (v3.1.objects_.flatMap (eS eI).b), .sl v3.1.arrows_.length 0 (v3.1.arrows_.flatMap (eS eI).b)] [18001, 18002, 18003, 18004])), (2045, .r (.arr 1 (s5.1.flatMap eI.o) [])), (2115, .r (.arr 1 (s13.1.flatMap eI.o ++ ([y19] : List Int).flatMap eI.o) []))] ++ rsS 18000 (eXl20Space.o v3.1)) (.cons hy18'.1 (.cons hy18'.2.1 (.cons (at_b0 (eS_ok eI_ok) hy18'.2.2 (d := .sl y18.length 0 (y18.flatMap eI.b)) (by kernel_rfl)) (.cons hy19'.1 (.cons hy19'.2.1 (.cons (at_b0 eI_ok hy19'.2.2 (d := iv y19) (by kernel_rfl)) (.cons (lenO_flat eI_ok s13.1) (.cons (lenO_flat eI_ok ([y19] : List Int)) (.cons h20 .nil))))))))) (by kernel_rfl) (by kernel_rfl) (b_n (q_n ?_))
          refine Tr.by (imp_cvE (r := 1057) (sz := 1) (refs := []) (flat_app eI.o s13.1 ([y19] : List Int)) (menO_flat eI_ok _) (by kernel_rfl)) ?_
          refine Tr.by (imp_cvD (k := 14) (congrArg (D.rs 1057 0) ((len_app s13.1 ([y19] : List Int)) : s13.1.length + (([y19] : List Int).length) = (s13.1 ++ ([y19] : List Int)).length)) (by kernel_rfl)) ?_
          refine tr_r hT hm [] [2, 4, 8, 12, 14, 18, 2003, 2005, 2009, 2045, 2115, 36003, 36005, 36007, 36009] ([(2, .d (.rp 1001 0)), (4, .d (.rp 1002 0)), (8, .d (.rp 1004 0)), (12, .d (.rs 1022 0 s5.1.length)), (14, .d (.rs 1057 0 ((s13.1 ++ ([y19] : List Int)).length))), (18, .d (iv (IntKind.i64.wrap (s13.2 + 1)))), bxB 2003 (eXSetFunctor.b a0), (2005, .r (.arr 1 [iv 0, nilv, nilv, nilv, nilv, iv 0, nilv, nilv, nilv, nilv, nilv, nilv] [])), (2009, .r (.arr 1 [iv v3.1.c_.Objects, .rs 18001 0 v3.1.c_.From.length, .rs 18002 0 v3.1.c_.To.length, .rs 18003 0 v3.1.c_.Identity.length, .rs 18004 0 v3.1.c_.Composites.length, .sl v3.1.objects_.length 0 (v3.1.objects_.flatMap (eS eI).b), .sl v3.1.arrows_.length 0 (v3.1.arrows_.flatMap (eS eI).b)] [18001, 18002, 18003, 18004])), (2045, .r (.arr 1 (s5.1.flatMap eI.o) [])), (2115, .r (.arr 1 ((s13.1 ++ ([y19] : List Int)).flatMap eI.o) []))] ++ rsS 18000 (eXl20Space.o v3.1)) .nil (by kernel_rfl) (by kernel_rfl) (l_n ?_)
          refine TrL.by (imp_sel (ks := [2, 4, 8, 12, 14, 18, 2003, 2005, 2009, 2045, 2115, 36003, 36005, 36007, 36009]) (st' := ([(2, .d (.rp 1001 0)), (4, .d (.rp 1002 0)), (8, .d (.rp 1004 0)), (12, .d (.rs 1022 0 s5.1.length)), (14, .d (.rs 1057 0 ((s13.1 ++ ([y19] : List Int)).length))), (18, .d (iv (IntKind.i64.wrap (s13.2 + 1)))), bxB 2003 (eXSetFunctor.b a0), (2005, .r (.arr 1 [iv 0, nilv, nilv, nilv, nilv, iv 0, nilv, nilv, nilv, nilv, nilv, nilv] [])), (2009, .r (.arr 1 [iv v3.1.c_.Objects, .rs 18001 0 v3.1.c_.From.length, .rs 18002 0 v3.1.c_.To.length, .rs 18003 0 v3.1.c_.Identity.length, .rs 18004 0 v3.1.c_.Composites.length, .sl v3.1.objects_.length 0 (v3.1.objects_.flatMap (eS eI).b), .sl v3.1.arrows_.length 0 (v3.1.arrows_.flatMap (eS eI).b)] [18001, 18002, 18003, 18004])), (2045, .r (.arr 1 (s5.1.flatMap eI.o) [])), (2115, .r (.arr 1 ((s13.1 ++ ([y19] : List Int)).flatMap eI.o) []))] ++ rsS 18000 (eXl20Space.o v3.1))) (by kernel_rfl)) ?_
          refine TrL.by (imp_rename (r := 1057) (q := 1023) (by kernel_rfl) (Nat.le_of_ble_eq_true rfl)) ?_
          exact trl_start (ks := [2, 4, 8, 12, 14, 18, 2003, 2005, 2009, 2045, 2047, 36003, 36005, 36007, 36009]) (by kernel_rfl) (ih15 (s13.1 ++ ([y19] : List Int), IntKind.i64.wrap (s13.2 + 1)) hM)
        · have hM := ite_false' hM h17
          refine tr_condFe (e := decide (s13.2 < (v3.1.arrows_.length : Int))) h17 (by kernel_rfl) ?_
          refine tr_exit (q_x (l_x (b_h (q_n ?_))))
          obtain ⟨v21, hv21, hM⟩ := bind_some' hM
          refine tr_sr hT hm [(6, .call (rsR 18000 (eXCategory.o v3.1.c_) ++ [1022, 1023]) [] [.agg (eXCategory.b v3.1.c_), .agg (eXCategory.b a0.Shape), .sl s5.1.length 0 (s5.1.flatMap eI.b), .sl s13.1.length 0 (s13.1.flatMap eI.b)] [] (.agg (eXFunctor.o v21)))] [4, 6, 2005, 132003, 132005, 132007, 132009, 132013, 132015, 132017, 132019, 132021, 132023] ([(4, .d (.rp 1002 0)), (6, .d (iv 0)), bxO 2005 66000 (eXFunctor.o v21)] ++ rsS 66000 (eXFunctor.o v21)) (cc (B := (rsR 18000 (eXCategory.o v3.1.c_) ++ [1022, 1023])) (ρ := []) (rB := (rsP 18000 (eXCategory.o v3.1.c_) ++ [(1022, .arr 1 (s5.1.flatMap eI.o) []), (1023, .arr 1 (s13.1.flatMap eI.o) [])])) ok32 (spec_l06Make_c v3.1.c_ a0.Shape s5.1 s13.1 _ hv21) (.cons (bor_rs eXCategory_r (q := 18000) (x := v3.1.c_) (by kernel_rfl) (by kernel_rfl)) (.cons (.same rfl) (.cons (.of1 (.rs (r := 1022) (sz := 1) (refs := []) (memB (by kernel_rfl)) (by kernel_rfl) (bor_flat eI_ok _ _ _))) (.cons (.of1 (.rs (r := 1023) (sz := 1) (refs := []) (memB (by kernel_rfl)) (by kernel_rfl) (bor_flat eI_ok _ _ _))) .nil)))) (.inr ⟨(.agg (eXFunctor_nb _)), trivial⟩) (.cons (Nat.le_of_ble_eq_true (n := 12) (m := 12) rfl) .nil)) (by kernel_rfl) (by kernel_rfl) ?_
          refine tr_ret (rg_r ?_)
          obtain rfl := Option.some.inj hM
          exact retg (names := []) (.cons (lenO_flat eI_ok v21.Source.From) (.cons (lenO_flat eI_ok v21.Source.To) (.cons (lenO_flat eI_ok v21.Source.Identity) (.cons (lenO_flat (eS_ok eI_ok) v21.Source.Composites) (.cons (lenO_flat eI_ok v21.Target.From) (.cons (lenO_flat eI_ok v21.Target.To) (.cons (lenO_flat eI_ok v21.Target.Identity) (.cons (lenO_flat (eS_ok eI_ok) v21.Target.Composites) (.cons (lenO_flat eI_ok v21.Objects) (.cons (lenO_flat eI_ok v21.Arrows) .nil)))))))))) (by kernel_rfl)
    · have hM := ite_false' hM h4
      refine tr_condTe (e := !v3.2) (congrArg not h4) (by kernel_rfl) ?_
      refine tr_sr hT hm [] [4, 6, 2005] [(4, .d (.rp 1002 0)), (6, .d (iv 3)), (2005, .r (.arr 1 [iv 0, nilv, nilv, nilv, nilv, iv 0, nilv, nilv, nilv, nilv, nilv, nilv] []))] (.cons (Nat.le_of_ble_eq_true (n := 12) (m := 12) rfl) .nil) (by kernel_rfl) (by kernel_rfl) ?_
      refine tr_ret (q_r (rg_r ?_))
      refine RetG.by (imp_cvB (r := 1002) (sz := 1) (cells := [iv 0, nilv, nilv, nilv, nilv, iv 0, nilv, nilv, nilv, nilv, nilv, nilv]) (cells' := [iv 0, .fr 1 ([] : List Int).length (([] : List Int).flatMap eI.o), .fr 1 ([] : List Int).length (([] : List Int).flatMap eI.o), .fr 1 ([] : List Int).length (([] : List Int).flatMap eI.o), .fr 1 ([] : List (List Int)).length (([] : List (List Int)).flatMap (eS eI).o), iv 0, .fr 1 ([] : List Int).length (([] : List Int).flatMap eI.o), .fr 1 ([] : List Int).length (([] : List Int).flatMap eI.o), .fr 1 ([] : List Int).length (([] : List Int).flatMap eI.o), .fr 1 ([] : List (List Int)).length (([] : List (List Int)).flatMap (eS eI).o), .fr 1 ([] : List Int).length (([] : List Int).flatMap eI.o), .fr 1 ([] : List Int).length (([] : List Int).flatMap eI.o)]) (refs := []) (refs' := []) (.cons (.refl _) (.cons Sub.nil_fr (.cons Sub.nil_fr (.cons Sub.nil_fr (.cons Sub.nil_fr (.cons (.refl _) (.cons Sub.nil_fr (.cons Sub.nil_fr (.cons Sub.nil_fr (.cons Sub.nil_fr (.cons Sub.nil_fr (.cons Sub.nil_fr .nil)))))))))))) (by kernel_rfl) (by kernel_rfl) (by kernel_rfl)) ?_
      obtain rfl := Option.some.inj hM
      exact retg (names := []) .nil (by kernel_rfl)
  · have hM := ite_false' hM h2
    refine tr_condTe (e := !v1) (congrArg not h2) (by kernel_rfl) ?_
    refine tr_sr hT hm [] [4, 6, 2005] [(4, .d (.rp 1002 0)), (6, .d (iv 1)), (2005, .r (.arr 1 [iv 0, nilv, nilv, nilv, nilv, iv 0, nilv, nilv, nilv, nilv, nilv, nilv] []))] (.cons (Nat.le_of_ble_eq_true (n := 12) (m := 12) rfl) .nil) (by kernel_rfl) (by kernel_rfl) ?_
    refine tr_ret (q_r (rg_r ?_))
    refine RetG.by (imp_cvB (r := 1002) (sz := 1) (cells := [iv 0, nilv, nilv, nilv, nilv, iv 0, nilv, nilv, nilv, nilv, nilv, nilv]) (cells' := [iv 0, .fr 1 ([] : List Int).length (([] : List Int).flatMap eI.o), .fr 1 ([] : List Int).length (([] : List Int).flatMap eI.o), .fr 1 ([] : List Int).length (([] : List Int).flatMap eI.o), .fr 1 ([] : List (List Int)).length (([] : List (List Int)).flatMap (eS eI).o), iv 0, .fr 1 ([] : List Int).length (([] : List Int).flatMap eI.o), .fr 1 ([] : List Int).length (([] : List Int).flatMap eI.o), .fr 1 ([] : List Int).length (([] : List Int).flatMap eI.o), .fr 1 ([] : List (List Int)).length (([] : List (List Int)).flatMap (eS eI).o), .fr 1 ([] : List Int).length (([] : List Int).flatMap eI.o), .fr 1 ([] : List Int).length (([] : List Int).flatMap eI.o)]) (refs := []) (refs' := []) (.cons (.refl _) (.cons Sub.nil_fr (.cons Sub.nil_fr (.cons Sub.nil_fr (.cons Sub.nil_fr (.cons (.refl _) (.cons Sub.nil_fr (.cons Sub.nil_fr (.cons Sub.nil_fr (.cons Sub.nil_fr (.cons Sub.nil_fr (.cons Sub.nil_fr .nil)))))))))))) (by kernel_rfl) (by kernel_rfl) (by kernel_rfl)) ?_
    obtain rfl := Option.some.inj hM
    exact retg (names := []) .nil (by kernel_rfl)

theorem ok38 : CallOk Try.prog 38 := callOk_of Try.func38 (by kernel_rfl) (by kernel_rfl)
theorem impl_column_c (a0 : List (List Int)) (a1 : Int) (r : (List Int)) (hM : M.impl_column a0 a1 = some r) :
    FnC Try.prog 38 [] [.sl a0.length 0 (a0.flatMap (eS eI).b), iv a1] [] (.fr 1 r.length (r.flatMap eI.o)) := by
  refine fnc_startG (N := 24) (np := 500) hT Try.func38 rfl rfl (by kernel_rfl) ?_
  unfold M.impl_column at hM
  refine tr_start (ks := [0, 2]) (st' := [(0, .d (.sl a0.length 0 (a0.flatMap (eS eI).b))), (2, .d (iv a1))]) (by kernel_rfl) ?_
  refine tr_sr hT hm [] [0, 2] [(0, .d (.sl a0.length 0 (a0.flatMap (eS eI).b))), (2, .d (iv a1))] .nil (by kernel_rfl) (by kernel_rfl) ?_
  refine tr_sr hT hm [] [0, 2, 10, 2017] [(0, .d (.sl a0.length 0 (a0.flatMap (eS eI).b))), (2, .d (iv a1)), (10, .d (.rs 1008 0 (([] : List Int).length))), (2017, .r (.arr 1 (([] : List Int).flatMap eI.o) []))] .nil (by kernel_rfl) (by kernel_rfl) ?_
  refine tr_seq ?_
  refine tr_sr hT hm [] [2, 10, 18, 20, 22, 2017] [(2, .d (iv a1)), (10, .d (.rs 1008 0 (([] : List Int).length))), (18, .d (.sl a0.length 0 (a0.flatMap (eS eI).b))), (20, .d (iv (a0.length : Int))), (22, .d (iv 0)), (2017, .r (.arr 1 (([] : List Int).flatMap eI.o) []))] .nil (by kernel_rfl) (by kernel_rfl) ?_
  refine tr_block ?_
  refine tr_iterS (fun (s1 : (List Int) × Int) => [(2, .d (iv a1)), (10, .d (.rs 1008 0 s1.1.length)), (18, .d (.sl a0.length 0 (a0.flatMap (eS eI).b))), (20, .d (iv (a0.length : Int))), (22, .d (iv s1.2)), (2017, .r (.arr 1 (s1.1.flatMap eI.o) []))]) (([] : List Int), 0) [2, 10, 18, 20, 22, 2017] (by kernel_rfl) hM ?_
  intro n4 next2 ih3 s1 hM
  refine tr_sr hT hm [] [2, 10, 18, 20, 22, 24, 2017] [(2, .d (iv a1)), (10, .d (.rs 1008 0 s1.1.length)), (18, .d (.sl a0.length 0 (a0.flatMap (eS eI).b))), (20, .d (iv (a0.length : Int))), (22, .d (iv s1.2)), (24, .d (bv (decide (s1.2 < (a0.length : Int))))), (2017, .r (.arr 1 (s1.1.flatMap eI.o) []))] .nil (by kernel_rfl) (by kernel_rfl) ?_
  refine tr_seq ?_
  rcases Bool.eq_false_or_eq_true (decide (s1.2 < (a0.length : Int))) with h5 | h5
  · have hM := ite_true' hM h5
    refine tr_condTe (e := decide (s1.2 < (a0.length : Int))) h5 (by kernel_rfl) ?_
    refine tr_skip (q_n ?_)
    refine tr_seq ?_
    refine tr_block ?_
    obtain ⟨y6, hy6, hM⟩ := bind_some' hM
    have hy6' := idx_some hy6
    refine tr_sr hT hm [(1, .val (.sl y6.length 0 (y6.flatMap eI.b)))] [2, 10, 14, 18, 20, 22, 2017] [(2, .d (iv a1)), (10, .d (.rs 1008 0 s1.1.length)), (14, .d (.sl y6.length 0 (y6.flatMap eI.b))), (18, .d (.sl a0.length 0 (a0.flatMap (eS eI).b))), (20, .d (iv (a0.length : Int))), (22, .d (iv s1.2)), (2017, .r (.arr 1 (s1.1.flatMap eI.o) []))] (.cons hy6'.1 (.cons hy6'.2.1 (.cons (at_b0 (eS_ok eI_ok) hy6'.2.2 (d := .sl y6.length 0 (y6.flatMap eI.b)) (by kernel_rfl)) .nil))) (by kernel_rfl) (by kernel_rfl) ?_
    obtain ⟨y7, hy7, hM⟩ := bind_some' hM
    have hy7' := idx_some hy7
    obtain ⟨h8, hM⟩ := chk_some hM
    refine tr_r hT hm [(4, .val (iv y7)), (6, .app true)] [2, 10, 18, 20, 22, 2043] [(2, .d (iv a1)), (10, .d (.rs 1021 0 (s1.1.length + (([y7] : List Int).length)))), (18, .d (.sl a0.length 0 (a0.flatMap (eS eI).b))), (20, .d (iv (a0.length : Int))), (22, .d (iv s1.2)), (2043, .r (.arr 1 (s1.1.flatMap eI.o ++ ([y7] : List Int).flatMap eI.o) []))] (.cons hy7'.1 (.cons hy7'.2.1 (.cons (at_b0 eI_ok hy7'.2.2 (d := iv y7) (by kernel_rfl)) (.cons (lenO_flat eI_ok s1.1) (.cons (lenO_flat eI_ok ([y7] : List Int)) (.cons h8 .nil)))))) (by kernel_rfl) (by kernel_rfl) (b_n (q_n ?_))
    refine Tr.by (imp_cvE (r := 1021) (sz := 1) (refs := []) (flat_app eI.o s1.1 ([y7] : List Int)) (menO_flat eI_ok _) (by kernel_rfl)) ?_
    refine Tr.by (imp_cvD (k := 10) (congrArg (D.rs 1021 0) ((len_app s1.1 ([y7] : List Int)) : s1.1.length + (([y7] : List Int).length) = (s1.1 ++ ([y7] : List Int)).length)) (by kernel_rfl)) ?_
    refine tr_r hT hm [] [2, 10, 18, 20, 22, 2043] [(2, .d (iv a1)), (10, .d (.rs 1021 0 ((s1.1 ++ ([y7] : List Int)).length))), (18, .d (.sl a0.length 0 (a0.flatMap (eS eI).b))), (20, .d (iv (a0.length : Int))), (22, .d (iv (IntKind.i64.wrap (s1.2 + 1)))), (2043, .r (.arr 1 ((s1.1 ++ ([y7] : List Int)).flatMap eI.o) []))] .nil (by kernel_rfl) (by kernel_rfl) (l_n ?_)
    refine TrL.by (imp_sel (ks := [2, 10, 18, 20, 22, 2043]) (st' := [(2, .d (iv a1)), (10, .d (.rs 1021 0 ((s1.1 ++ ([y7] : List Int)).length))), (18, .d (.sl a0.length 0 (a0.flatMap (eS eI).b))), (20, .d (iv (a0.length : Int))), (22, .d (iv (IntKind.i64.wrap (s1.2 + 1)))), (2043, .r (.arr 1 ((s1.1 ++ ([y7] : List Int)).flatMap eI.o) []))]) (by kernel_rfl)) ?_
    refine TrL.by (imp_rename (r := 1021) (q := 1008) (by kernel_rfl) (Nat.le_of_ble_eq_true rfl)) ?_
    exact trl_start (ks := [2, 10, 18, 20, 22, 2017]) (by kernel_rfl) (ih3 (s1.1 ++ ([y7] : List Int), IntKind.i64.wrap (s1.2 + 1)) hM)
  · have hM := ite_false' hM h5
    refine tr_condFe (e := decide (s1.2 < (a0.length : Int))) h5 (by kernel_rfl) ?_
    refine tr_exit (q_x (l_x (b_h (q_n ?_))))
    refine tr_sr hT hm [] [8, 2017] [(8, .d (.rs 1008 0 s1.1.length)), (2017, .r (.arr 1 (s1.1.flatMap eI.o) []))] .nil (by kernel_rfl) (by kernel_rfl) ?_
    refine tr_ret (rg_r ?_)
    obtain rfl := Option.some.inj hM
    exact retg (names := []) (.cons (lenO_flat eI_ok s1.1) .nil) (by kernel_rfl)

theorem ok69 : CallOk Try.prog 69 := callOk_of Try.func69 (by kernel_rfl) (by kernel_rfl)
theorem impl_SetFunctor_elements_c (a0 : XSetFunctor) (r : Int) (hM : M.impl_SetFunctor_elements a0 = some r) :
    FnC Try.prog 69 [] [.pt (eXSetFunctor.b a0) 0] [] (iv r) := by
  refine fnc_startG (N := 20) (np := 500) hT Try.func69 rfl rfl (by kernel_rfl) ?_
  unfold M.impl_SetFunctor_elements at hM
  refine tr_start (ks := [0]) (st' := [(0, .d (.pt (eXSetFunctor.b a0) 0))]) (by kernel_rfl) ?_
  refine tr_sr hT hm [] [0] [(0, .d (.pt (eXSetFunctor.b a0) 0))] .nil (by kernel_rfl) (by kernel_rfl) ?_
  refine tr_sr hT hm [] [0, 6] [(0, .d (.pt (eXSetFunctor.b a0) 0)), (6, .d (iv 0))] .nil (by kernel_rfl) (by kernel_rfl) ?_
  refine tr_seq ?_
  refine tr_sr hT hm [] [6, 18, 20, 22] [(6, .d (iv 0)), (18, .d (.sl a0.Sizes.length 0 (a0.Sizes.flatMap eI.b))), (20, .d (iv (a0.Sizes.length : Int))), (22, .d (iv 0))] .nil (by kernel_rfl) (by kernel_rfl) ?_
  refine tr_block ?_
  refine tr_iterS (fun (s1 : Int × Int) => [(6, .d (iv s1.2)), (18, .d (.sl a0.Sizes.length 0 (a0.Sizes.flatMap eI.b))), (20, .d (iv (a0.Sizes.length : Int))), (22, .d (iv s1.1))]) (0, 0) [6, 18, 20, 22] (by kernel_rfl) hM ?_
  intro n4 next2 ih3 s1 hM
  refine tr_sr hT hm [] [6, 18, 20, 22, 24] [(6, .d (iv s1.2)), (18, .d (.sl a0.Sizes.length 0 (a0.Sizes.flatMap eI.b))), (20, .d (iv (a0.Sizes.length : Int))), (22, .d (iv s1.1)), (24, .d (bv (decide (s1.1 < (a0.Sizes.length : Int)))))] .nil (by kernel_rfl) (by kernel_rfl) ?_
  refine tr_seq ?_
  rcases Bool.eq_false_or_eq_true (decide (s1.1 < (a0.Sizes.length : Int))) with h5 | h5
  · have hM := ite_true' hM h5
    refine tr_condTe (e := decide (s1.1 < (a0.Sizes.length : Int))) h5 (by kernel_rfl) ?_
    refine tr_skip (q_n ?_)
    refine tr_seq ?_
    refine tr_block ?_
    obtain ⟨y6, hy6, hM⟩ := bind_some' hM
    have hy6' := idx_some hy6
    refine tr_sr hT hm [(1, .val (iv y6))] [6, 10, 18, 20, 22] [(6, .d (iv s1.2)), (10, .d (iv y6)), (18, .d (.sl a0.Sizes.length 0 (a0.Sizes.flatMap eI.b))), (20, .d (iv (a0.Sizes.length : Int))), (22, .d (iv s1.1))] (.cons hy6'.1 (.cons hy6'.2.1 (.cons (at_b0 eI_ok hy6'.2.2 (d := iv y6) (by kernel_rfl)) .nil))) (by kernel_rfl) (by kernel_rfl) ?_
    refine tr_r hT hm [] [6, 18, 20, 22] [(6, .d (iv (IntKind.i64.wrap (s1.2 + y6)))), (18, .d (.sl a0.Sizes.length 0 (a0.Sizes.flatMap eI.b))), (20, .d (iv (a0.Sizes.length : Int))), (22, .d (iv s1.1))] .nil (by kernel_rfl) (by kernel_rfl) (b_n (q_n ?_))
    refine tr_r hT hm [] [6, 18, 20, 22] [(6, .d (iv (IntKind.i64.wrap (s1.2 + y6)))), (18, .d (.sl a0.Sizes.length 0 (a0.Sizes.flatMap eI.b))), (20, .d (iv (a0.Sizes.length : Int))), (22, .d (iv (IntKind.i64.wrap (s1.1 + 1))))] .nil (by kernel_rfl) (by kernel_rfl) (l_n ?_)
    exact trl_start (ks := [6, 18, 20, 22]) (by kernel_rfl) (ih3 (IntKind.i64.wrap (s1.1 + 1), IntKind.i64.wrap (s1.2 + y6)) hM)
  · have hM := ite_false' hM h5
    refine tr_condFe (e := decide (s1.1 < (a0.Sizes.length : Int))) h5 (by kernel_rfl) ?_
    refine tr_exit (q_x (l_x (b_h (q_n ?_))))
    refine tr_sr hT hm [] [4] [(4, .d (iv s1.2))] .nil (by kernel_rfl) (by kernel_rfl) ?_
    refine tr_ret (rg_r ?_)
    obtain rfl := Option.some.inj hM
    exact retg (names := []) .nil (by kernel_rfl)

theorem ok70 : CallOk Try.prog 70 := callOk_of Try.func70 (by kernel_rfl) (by kernel_rfl)
theorem impl_SetFunctor_elementPairs_c (a0 : XSetFunctor) (r : (List (List Int))) (hM : M.impl_SetFunctor_elementPairs a0 = some r) :
    FnC Try.prog 70 [] [.pt (eXSetFunctor.b a0) 0] [] (.sl r.length 0 (r.flatMap (eS eI).b)) := by
  refine fnc_startG (N := 31) (np := 500) hT Try.func70 rfl rfl (by kernel_rfl) ?_
  unfold M.impl_SetFunctor_elementPairs at hM
  refine tr_start (ks := [0]) (st' := [(0, .d (.pt (eXSetFunctor.b a0) 0))]) (by kernel_rfl) ?_
  refine tr_sr hT hm [] [0] [(0, .d (.pt (eXSetFunctor.b a0) 0))] .nil (by kernel_rfl) (by kernel_rfl) ?_
  refine tr_sr hT hm [] [0, 6, 2015] [(0, .d (.pt (eXSetFunctor.b a0) 0)), (6, .d (.rs 1007 0 (([] : List (List Int)).length))), (2015, .r (.arr 1 (([] : List (List Int)).flatMap (eS eI).o) []))] .nil (by kernel_rfl) (by kernel_rfl) ?_
  refine tr_seq ?_
  refine tr_sr hT hm [] [6, 22, 24, 26, 2015] [(6, .d (.rs 1007 0 (([] : List (List Int)).length))), (22, .d (.sl a0.Sizes.length 0 (a0.Sizes.flatMap eI.b))), (24, .d (iv (a0.Sizes.length : Int))), (26, .d (iv 0)), (2015, .r (.arr 1 (([] : List (List Int)).flatMap (eS eI).o) []))] .nil (by kernel_rfl) (by kernel_rfl) ?_
  refine tr_block ?_
  refine tr_iterS (fun (s1 : (List (List Int)) × Int) => [(6, .d (.rs 1007 0 s1.1.length)), (22, .d (.sl a0.Sizes.length 0 (a0.Sizes.flatMap eI.b))), (24, .d (iv (a0.Sizes.length : Int))), (26, .d (iv s1.2)), (2015, .r (.arr 1 (s1.1.flatMap (eS eI).o) []))]) (([] : List (List Int)), 0) [6, 22, 24, 26, 2015] (by kernel_rfl) hM ?_
  intro n4 next2 ih3 s1 hM
  refine tr_sr hT hm [] [6, 22, 24, 26, 28, 2015] [(6, .d (.rs 1007 0 s1.1.length)), (22, .d (.sl a0.Sizes.length 0 (a0.Sizes.flatMap eI.b))), (24, .d (iv (a0.Sizes.length : Int))), (26, .d (iv s1.2)), (28, .d (bv (decide (s1.2 < (a0.Sizes.length : Int))))), (2015, .r (.arr 1 (s1.1.flatMap (eS eI).o) []))] .nil (by kernel_rfl) (by kernel_rfl) ?_
  refine tr_seq ?_
  rcases Bool.eq_false_or_eq_true (decide (s1.2 < (a0.Sizes.length : Int))) with h5 | h5
  · have hM := ite_true' hM h5
    refine tr_condTe (e := decide (s1.2 < (a0.Sizes.length : Int))) h5 (by kernel_rfl) ?_
    refine tr_skip (q_n ?_)
    refine tr_seq ?_
    refine tr_block ?_
    obtain ⟨y6, hy6, hM⟩ := bind_some' hM
    have hy6' := idx_some hy6
    refine tr_sr hT hm [(2, .val (iv y6))] [6, 8, 10, 22, 24, 26, 2015] [(6, .d (.rs 1007 0 s1.1.length)), (8, .d (iv s1.2)), (10, .d (iv y6)), (22, .d (.sl a0.Sizes.length 0 (a0.Sizes.flatMap eI.b))), (24, .d (iv (a0.Sizes.length : Int))), (26, .d (iv s1.2)), (2015, .r (.arr 1 (s1.1.flatMap (eS eI).o) []))] (.cons hy6'.1 (.cons hy6'.2.1 (.cons (at_b0 eI_ok hy6'.2.2 (d := iv y6) (by kernel_rfl)) .nil))) (by kernel_rfl) (by kernel_rfl) ?_
    refine tr_sr hT hm [] [6, 8, 10, 12, 22, 24, 26, 2015] [(6, .d (.rs 1007 0 s1.1.length)), (8, .d (iv s1.2)), (10, .d (iv y6)), (12, .d (iv 0)), (22, .d (.sl a0.Sizes.length 0 (a0.Sizes.flatMap eI.b))), (24, .d (iv (a0.Sizes.length : Int))), (26, .d (iv s1.2)), (2015, .r (.arr 1 (s1.1.flatMap (eS eI).o) []))] .nil (by kernel_rfl) (by kernel_rfl) ?_
    refine tr_block ?_
    refine tr_iterS (fun (s7 : (List (List Int)) × Int) => [(6, .d (.rs 1007 0 s7.1.length)), (8, .d (iv s1.2)), (10, .d (iv y6)), (12, .d (iv s7.2)), (22, .d (.sl a0.Sizes.length 0 (a0.Sizes.flatMap eI.b))), (24, .d (iv (a0.Sizes.length : Int))), (26, .d (iv s1.2)), (2015, .r (.arr 1 (s7.1.flatMap (eS eI).o) []))]) (s1.1, 0) [6, 8, 10, 12, 22, 24, 26, 2015] (by kernel_rfl) hM ?_
    intro n10 next8 ih9 s7 hM
    refine tr_seq ?_
    refine tr_sr hT hm [] [6, 8, 10, 12, 22, 24, 26, 40, 2015] [(6, .d (.rs 1007 0 s7.1.length)), (8, .d (iv s1.2)), (10, .d (iv y6)), (12, .d (iv s7.2)), (22, .d (.sl a0.Sizes.length 0 (a0.Sizes.flatMap eI.b))), (24, .d (iv (a0.Sizes.length : Int))), (26, .d (iv s1.2)), (40, .d (bv (decide (s7.2 < y6)))), (2015, .r (.arr 1 (s7.1.flatMap (eS eI).o) []))] .nil (by kernel_rfl) (by kernel_rfl) ?_
    rcases Bool.eq_false_or_eq_true (decide (s7.2 < y6)) with h11 | h11
    · have hM := ite_true' hM h11
      refine tr_condTe (e := decide (s7.2 < y6)) h11 (by kernel_rfl) ?_
      refine tr_skip (q_n ?_)
      refine tr_seq ?_
      refine tr_block ?_
      obtain ⟨h12, hM⟩ := chk_some hM
      refine tr_r hT hm [(5, .app true)] [6, 8, 10, 12, 22, 24, 26, 2053, 2057] [(6, .d (.rs 1028 0 (s7.1.length + 1))), (8, .d (iv s1.2)), (10, .d (iv y6)), (12, .d (iv s7.2)), (22, .d (.sl a0.Sizes.length 0 (a0.Sizes.flatMap eI.b))), (24, .d (iv (a0.Sizes.length : Int))), (26, .d (iv s1.2)), (2053, .r (.arr 1 (([s1.2, s7.2] : List Int).flatMap eI.o) [])), (2057, .r (.arr 1 (s7.1.flatMap (eS eI).o ++ [.rs 1026 0 (([s1.2, s7.2] : List Int).length)]) [1026]))] (.cons (lenO_flat (eS_ok eI_ok) s7.1) (.cons (by kernel_rfl : ([.rs 1026 0 (([s1.2, s7.2] : List Int).length)] : List D).length = 1 * 1) (.cons h12 .nil))) (by kernel_rfl) (by kernel_rfl) (b_n (q_n ?_))
      refine Tr.by (imp_demE (r := 1028) (q := 1026) (sz := 1) (n := (([s1.2, s7.2] : List Int).length)) (j := 0) (pre := s7.1.flatMap (eS eI).o) (l := [.rs 1026 0 (([s1.2, s7.2] : List Int).length)]) (refs := [1026]) (refs' := []) (menO_flat (eS_ok eI_ok) _) (lenO_flat eI_ok ([s1.2, s7.2] : List Int)) (by kernel_rfl) (by kernel_rfl) (by kernel_rfl) (by kernel_rfl) (by kernel_rfl)) ?_
      refine Tr.by (imp_cvE (r := 1028) (sz := 1) (refs := []) (flat_snoc (eS eI).o s7.1 [s1.2, s7.2]) (menO_flat (eS_ok eI_ok) _) (by kernel_rfl)) ?_
      refine Tr.by (imp_cvD (k := 6) (congrArg (D.rs 1028 0) ((len_snoc s7.1 [s1.2, s7.2]) : s7.1.length + 1 = (s7.1 ++ [[s1.2, s7.2]]).length)) (by kernel_rfl)) ?_
      refine tr_r hT hm [] [6, 8, 10, 12, 22, 24, 26, 2057] [(6, .d (.rs 1028 0 ((s7.1 ++ [[s1.2, s7.2]]).length))), (8, .d (iv s1.2)), (10, .d (iv y6)), (12, .d (iv (IntKind.i64.wrap (s7.2 + 1)))), (22, .d (.sl a0.Sizes.length 0 (a0.Sizes.flatMap eI.b))), (24, .d (iv (a0.Sizes.length : Int))), (26, .d (iv s1.2)), (2057, .r (.arr 1 ((s7.1 ++ [[s1.2, s7.2]]).flatMap (eS eI).o) []))] .nil (by kernel_rfl) (by kernel_rfl) (l_n ?_)
      refine TrL.by (imp_sel (ks := [6, 8, 10, 12, 22, 24, 26, 2057]) (st' := [(6, .d (.rs 1028 0 ((s7.1 ++ [[s1.2, s7.2]]).length))), (8, .d (iv s1.2)), (10, .d (iv y6)), (12, .d (iv (IntKind.i64.wrap (s7.2 + 1)))), (22, .d (.sl a0.Sizes.length 0 (a0.Sizes.flatMap eI.b))), (24, .d (iv (a0.Sizes.length : Int))), (26, .d (iv s1.2)), (2057, .r (.arr 1 ((s7.1 ++ [[s1.2, s7.2]]).flatMap (eS eI).o) []))]) (by kernel_rfl)) ?_
      refine TrL.by (imp_rename (r := 1028) (q := 1007) (by kernel_rfl) (Nat.le_of_ble_eq_true rfl)) ?_
      exact trl_start (ks := [6, 8, 10, 12, 22, 24, 26, 2015]) (by kernel_rfl) (ih9 (s7.1 ++ [[s1.2, s7.2]], IntKind.i64.wrap (s7.2 + 1)) hM)
    · have hM := ite_false' hM h11
      refine tr_condFe (e := decide (s7.2 < y6)) h11 (by kernel_rfl) ?_
      refine tr_exit (q_x (l_x (b_h (b_n (q_n ?_)))))
      refine tr_r hT hm [] [6, 22, 24, 26, 2015] [(6, .d (.rs 1007 0 s7.1.length)), (22, .d (.sl a0.Sizes.length 0 (a0.Sizes.flatMap eI.b))), (24, .d (iv (a0.Sizes.length : Int))), (26, .d (iv (IntKind.i64.wrap (s1.2 + 1)))), (2015, .r (.arr 1 (s7.1.flatMap (eS eI).o) []))] .nil (by kernel_rfl) (by kernel_rfl) (l_n ?_)
      exact trl_start (ks := [6, 22, 24, 26, 2015]) (by kernel_rfl) (ih3 (s7.1, IntKind.i64.wrap (s1.2 + 1)) hM)
  · have hM := ite_false' hM h5
    refine tr_condFe (e := decide (s1.2 < (a0.Sizes.length : Int))) h5 (by kernel_rfl) ?_
    refine tr_exit (q_x (l_x (b_h (q_n ?_))))
    refine tr_sr hT hm [] [4, 2015] [(4, .d (.rs 1007 0 s1.1.length)), (2015, .r (.arr 1 (s1.1.flatMap (eS eI).o) []))] .nil (by kernel_rfl) (by kernel_rfl) ?_
    refine tr_ret (rg_r ?_)
    refine RetG.by (imp_freeze (B := [1007]) (cv := [(2, .sl s1.1.length 0 (s1.1.flatMap (eS eI).b))]) (.cons (by kernel_rfl) (.of1 (.rs (r := 1007) (sz := 1) (refs := []) (memB (by kernel_rfl)) (by kernel_rfl) (bor_flat (eS_ok eI_ok) _ _ _))) .nil)) ?_
    obtain rfl := Option.some.inj hM
    exact retg (names := []) .nil (by kernel_rfl)

theorem ok73 : CallOk Try.prog 73 := callOk_of Try.func73 (by kernel_rfl) (by kernel_rfl)
theorem impl_key_c (a0 : List (List Int)) (r : ByteArray) (hM : M.impl_key a0 = some r) :
    FnC Try.prog 73 [] [.sl a0.length 0 (a0.flatMap (eS eI).b)] [] (.v (.string r)) := by
  refine fnc_startG (N := 33) (np := 500) hT Try.func73 rfl rfl (by kernel_rfl) ?_
  unfold M.impl_key at hM
  refine tr_start (ks := [0]) (st' := [(0, .d (.sl a0.length 0 (a0.flatMap (eS eI).b)))]) (by kernel_rfl) ?_
  refine tr_sr hT hm [] [0] [(0, .d (.sl a0.length 0 (a0.flatMap (eS eI).b)))] .nil (by kernel_rfl) (by kernel_rfl) ?_
  refine tr_sr hT hm [] [0, 6, 2017] [(0, .d (.sl a0.length 0 (a0.flatMap (eS eI).b))), (6, .d (.rs 1008 0 (([] : List Int).length))), (2017, .r (.arr 1 (([] : List Int).flatMap eU.o) []))] .nil (by kernel_rfl) (by kernel_rfl) ?_
  refine tr_seq ?_
  refine tr_sr hT hm [] [6, 18, 20, 22, 2017] [(6, .d (.rs 1008 0 (([] : List Int).length))), (18, .d (.sl a0.length 0 (a0.flatMap (eS eI).b))), (20, .d (iv (a0.length : Int))), (22, .d (iv 0)), (2017, .r (.arr 1 (([] : List Int).flatMap eU.o) []))] .nil (by kernel_rfl) (by kernel_rfl) ?_
  refine tr_block ?_
  refine tr_iterS (fun (s1 : (List Int) × Int) => [(6, .d (.rs 1008 0 s1.1.length)), (18, .d (.sl a0.length 0 (a0.flatMap (eS eI).b))), (20, .d (iv (a0.length : Int))), (22, .d (iv s1.2)), (2017, .r (.arr 1 (s1.1.flatMap eU.o) []))]) (([] : List Int), 0) [6, 18, 20, 22, 2017] (by kernel_rfl) hM ?_
  intro n4 next2 ih3 s1 hM
  refine tr_sr hT hm [] [6, 18, 20, 22, 24, 2017] [(6, .d (.rs 1008 0 s1.1.length)), (18, .d (.sl a0.length 0 (a0.flatMap (eS eI).b))), (20, .d (iv (a0.length : Int))), (22, .d (iv s1.2)), (24, .d (bv (decide (s1.2 < (a0.length : Int))))), (2017, .r (.arr 1 (s1.1.flatMap eU.o) []))] .nil (by kernel_rfl) (by kernel_rfl) ?_
  refine tr_seq ?_
  rcases Bool.eq_false_or_eq_true (decide (s1.2 < (a0.length : Int))) with h5 | h5
  · have hM := ite_true' hM h5
    refine tr_condTe (e := decide (s1.2 < (a0.length : Int))) h5 (by kernel_rfl) ?_
    refine tr_skip (q_n ?_)
    refine tr_seq ?_
    refine tr_block ?_
    obtain ⟨y6, hy6, hM⟩ := bind_some' hM
    have hy6' := idx_some hy6
    refine tr_sr hT hm [(1, .val (.sl y6.length 0 (y6.flatMap eI.b)))] [6, 10, 18, 20, 22, 2017] [(6, .d (.rs 1008 0 s1.1.length)), (10, .d (.sl y6.length 0 (y6.flatMap eI.b))), (18, .d (.sl a0.length 0 (a0.flatMap (eS eI).b))), (20, .d (iv (a0.length : Int))), (22, .d (iv s1.2)), (2017, .r (.arr 1 (s1.1.flatMap eU.o) []))] (.cons hy6'.1 (.cons hy6'.2.1 (.cons (at_b0 (eS_ok eI_ok) hy6'.2.2 (d := .sl y6.length 0 (y6.flatMap eI.b)) (by kernel_rfl)) .nil))) (by kernel_rfl) (by kernel_rfl) ?_
    refine tr_seq ?_
    refine tr_sr hT hm [] [6, 18, 20, 22, 30, 32, 34, 2017] [(6, .d (.rs 1008 0 s1.1.length)), (18, .d (.sl a0.length 0 (a0.flatMap (eS eI).b))), (20, .d (iv (a0.length : Int))), (22, .d (iv s1.2)), (30, .d (.sl y6.length 0 (y6.flatMap eI.b))), (32, .d (iv (y6.length : Int))), (34, .d (iv 0)), (2017, .r (.arr 1 (s1.1.flatMap eU.o) []))] .nil (by kernel_rfl) (by kernel_rfl) ?_
    refine tr_block ?_
    refine tr_iterS (fun (s7 : (List Int) × Int) => [(6, .d (.rs 1008 0 s7.1.length)), (18, .d (.sl a0.length 0 (a0.flatMap (eS eI).b))), (20, .d (iv (a0.length : Int))), (22, .d (iv s1.2)), (30, .d (.sl y6.length 0 (y6.flatMap eI.b))), (32, .d (iv (y6.length : Int))), (34, .d (iv s7.2)), (2017, .r (.arr 1 (s7.1.flatMap eU.o) []))]) (s1.1, 0) [6, 18, 20, 22, 30, 32, 34, 2017] (by kernel_rfl) hM ?_
    intro n10 next8 ih9 s7 hM
    refine tr_sr hT hm [] [6, 18, 20, 22, 30, 32, 34, 36, 2017] [(6, .d (.rs 1008 0 s7.1.length)), (18, .d (.sl a0.length 0 (a0.flatMap (eS eI).b))), (20, .d (iv (a0.length : Int))), (22, .d (iv s1.2)), (30, .d (.sl y6.length 0 (y6.flatMap eI.b))), (32, .d (iv (y6.length : Int))), (34, .d (iv s7.2)), (36, .d (bv (decide (s7.2 < (y6.length : Int))))), (2017, .r (.arr 1 (s7.1.flatMap eU.o) []))] .nil (by kernel_rfl) (by kernel_rfl) ?_
    refine tr_seq ?_
    rcases Bool.eq_false_or_eq_true (decide (s7.2 < (y6.length : Int))) with h11 | h11
    · have hM := ite_true' hM h11
      refine tr_condTe (e := decide (s7.2 < (y6.length : Int))) h11 (by kernel_rfl) ?_
      refine tr_skip (q_n ?_)
      refine tr_seq ?_
      refine tr_block ?_
      obtain ⟨y12, hy12, hM⟩ := bind_some' hM
      have hy12' := idx_some hy12
      refine tr_sr hT hm [(1, .val (iv y12))] [6, 14, 18, 20, 22, 30, 32, 34, 2017] [(6, .d (.rs 1008 0 s7.1.length)), (14, .d (iv y12)), (18, .d (.sl a0.length 0 (a0.flatMap (eS eI).b))), (20, .d (iv (a0.length : Int))), (22, .d (iv s1.2)), (30, .d (.sl y6.length 0 (y6.flatMap eI.b))), (32, .d (iv (y6.length : Int))), (34, .d (iv s7.2)), (2017, .r (.arr 1 (s7.1.flatMap eU.o) []))] (.cons hy12'.1 (.cons hy12'.2.1 (.cons (at_b0 eI_ok hy12'.2.2 (d := iv y12) (by kernel_rfl)) .nil))) (by kernel_rfl) (by kernel_rfl) ?_
      obtain ⟨h13, hM⟩ := chk_some hM
      refine tr_r hT hm [(4, .app true)] [6, 18, 20, 22, 30, 32, 34, 2051] [(6, .d (.rs 1025 0 (s7.1.length + (([IntKind.u8.wrap y12] : List Int).length)))), (18, .d (.sl a0.length 0 (a0.flatMap (eS eI).b))), (20, .d (iv (a0.length : Int))), (22, .d (iv s1.2)), (30, .d (.sl y6.length 0 (y6.flatMap eI.b))), (32, .d (iv (y6.length : Int))), (34, .d (iv s7.2)), (2051, .r (.arr 1 (s7.1.flatMap eU.o ++ ([IntKind.u8.wrap y12] : List Int).flatMap eU.o) []))] (.cons (lenO_flat eU_ok s7.1) (.cons (lenO_flat eU_ok ([IntKind.u8.wrap y12] : List Int)) (.cons h13 .nil))) (by kernel_rfl) (by kernel_rfl) (b_n (q_n ?_))
      refine Tr.by (imp_cvE (r := 1025) (sz := 1) (refs := []) (flat_app eU.o s7.1 ([IntKind.u8.wrap y12] : List Int)) (menO_flat eU_ok _) (by kernel_rfl)) ?_
      refine Tr.by (imp_cvD (k := 6) (congrArg (D.rs 1025 0) ((len_app s7.1 ([IntKind.u8.wrap y12] : List Int)) : s7.1.length + (([IntKind.u8.wrap y12] : List Int).length) = (s7.1 ++ ([IntKind.u8.wrap y12] : List Int)).length)) (by kernel_rfl)) ?_
      refine tr_r hT hm [] [6, 18, 20, 22, 30, 32, 34, 2051] [(6, .d (.rs 1025 0 ((s7.1 ++ ([IntKind.u8.wrap y12] : List Int)).length))), (18, .d (.sl a0.length 0 (a0.flatMap (eS eI).b))), (20, .d (iv (a0.length : Int))), (22, .d (iv s1.2)), (30, .d (.sl y6.length 0 (y6.flatMap eI.b))), (32, .d (iv (y6.length : Int))), (34, .d (iv (IntKind.i64.wrap (s7.2 + 1)))), (2051, .r (.arr 1 ((s7.1 ++ ([IntKind.u8.wrap y12] : List Int)).flatMap eU.o) []))] .nil (by kernel_rfl) (by kernel_rfl) (l_n ?_)
      refine TrL.by (imp_sel (ks := [6, 18, 20, 22, 30, 32, 34, 2051]) (st' := [(6, .d (.rs 1025 0 ((s7.1 ++ ([IntKind.u8.wrap y12] : List Int)).length))), (18, .d (.sl a0.length 0 (a0.flatMap (eS eI).b))), (20, .d (iv (a0.length : Int))), (22, .d (iv s1.2)), (30, .d (.sl y6.length 0 (y6.flatMap eI.b))), (32, .d (iv (y6.length : Int))), (34, .d (iv (IntKind.i64.wrap (s7.2 + 1)))), (2051, .r (.arr 1 ((s7.1 ++ ([IntKind.u8.wrap y12] : List Int)).flatMap eU.o) []))]) (by kernel_rfl)) ?_
      refine TrL.by (imp_rename (r := 1025) (q := 1008) (by kernel_rfl) (Nat.le_of_ble_eq_true rfl)) ?_
      exact trl_start (ks := [6, 18, 20, 22, 30, 32, 34, 2017]) (by kernel_rfl) (ih9 (s7.1 ++ ([IntKind.u8.wrap y12] : List Int), IntKind.i64.wrap (s7.2 + 1)) hM)
    · have hM := ite_false' hM h11
      refine tr_condFe (e := decide (s7.2 < (y6.length : Int))) h11 (by kernel_rfl) ?_
      refine tr_exit (q_x (l_x (b_h (q_n ?_))))
      obtain ⟨h14, hM⟩ := chk_some hM
      refine tr_r hT hm [(2, .app true)] [6, 18, 20, 22, 2059] [(6, .d (.rs 1029 0 (s7.1.length + (([255] : List Int).length)))), (18, .d (.sl a0.length 0 (a0.flatMap (eS eI).b))), (20, .d (iv (a0.length : Int))), (22, .d (iv s1.2)), (2059, .r (.arr 1 (s7.1.flatMap eU.o ++ ([255] : List Int).flatMap eU.o) []))] (.cons (lenO_flat eU_ok s7.1) (.cons (lenO_flat eU_ok ([255] : List Int)) (.cons h14 .nil))) (by kernel_rfl) (by kernel_rfl) (b_n (q_n ?_))
      refine Tr.by (imp_cvE (r := 1029) (sz := 1) (refs := []) (flat_app eU.o s7.1 ([255] : List Int)) (menO_flat eU_ok _) (by kernel_rfl)) ?_
      refine Tr.by (imp_cvD (k := 6) (congrArg (D.rs 1029 0) ((len_app s7.1 ([255] : List Int)) : s7.1.length + (([255] : List Int).length) = (s7.1 ++ ([255] : List Int)).length)) (by kernel_rfl)) ?_
      refine tr_r hT hm [] [6, 18, 20, 22, 2059] [(6, .d (.rs 1029 0 ((s7.1 ++ ([255] : List Int)).length))), (18, .d (.sl a0.length 0 (a0.flatMap (eS eI).b))), (20, .d (iv (a0.length : Int))), (22, .d (iv (IntKind.i64.wrap (s1.2 + 1)))), (2059, .r (.arr 1 ((s7.1 ++ ([255] : List Int)).flatMap eU.o) []))] .nil (by kernel_rfl) (by kernel_rfl) (l_n ?_)
      refine TrL.by (imp_sel (ks := [6, 18, 20, 22, 2059]) (st' := [(6, .d (.rs 1029 0 ((s7.1 ++ ([255] : List Int)).length))), (18, .d (.sl a0.length 0 (a0.flatMap (eS eI).b))), (20, .d (iv (a0.length : Int))), (22, .d (iv (IntKind.i64.wrap (s1.2 + 1)))), (2059, .r (.arr 1 ((s7.1 ++ ([255] : List Int)).flatMap eU.o) []))]) (by kernel_rfl)) ?_
      refine TrL.by (imp_rename (r := 1029) (q := 1008) (by kernel_rfl) (Nat.le_of_ble_eq_true rfl)) ?_
      exact trl_start (ks := [6, 18, 20, 22, 2017]) (by kernel_rfl) (ih3 (s7.1 ++ ([255] : List Int), IntKind.i64.wrap (s1.2 + 1)) hM)
  · have hM := ite_false' hM h5
    refine tr_condFe (e := decide (s1.2 < (a0.length : Int))) h5 (by kernel_rfl) ?_
    refine tr_exit (q_x (l_x (b_h (q_n ?_))))
    refine tr_sr hT hm [(1, .val (.v (.string (strI s1.1))))] [4] [(4, .d (.v (.string (strI s1.1))))] (.cons (strOf_c s1.1) .nil) (by kernel_rfl) (by kernel_rfl) ?_
    refine tr_ret (rg_r ?_)
    obtain rfl := Option.some.inj hM
    exact retg (names := []) .nil (by kernel_rfl)

theorem ok72 : CallOk Try.prog 72 := callOk_of Try.func72 (by kernel_rfl) (by kernel_rfl)
theorem impl_places_c (a0 : List (List Int)) (r : (List (ByteArray × Int))) (hM : M.impl_places a0 = some r) :
    FnC Try.prog 72 [] [.sl a0.length 0 (a0.flatMap (eS eI).b)] [] (.bm (mpE kS vI r)) := by
  refine fnc_startG (N := 21) (np := 500) hT Try.func72 rfl rfl (by kernel_rfl) ?_
  unfold M.impl_places at hM
  refine tr_start (ks := [0]) (st' := [(0, .d (.sl a0.length 0 (a0.flatMap (eS eI).b)))]) (by kernel_rfl) ?_
  refine tr_sr hT hm [] [0] [(0, .d (.sl a0.length 0 (a0.flatMap (eS eI).b)))] .nil (by kernel_rfl) (by kernel_rfl) ?_
  refine tr_sr hT hm [] [0, 6, 2013] [(0, .d (.sl a0.length 0 (a0.flatMap (eS eI).b))), (6, .d (.rm 1006)), (2013, .r (.mp (mpE kS vI ([] : List (ByteArray × Int)))))] .nil (by kernel_rfl) (by kernel_rfl) ?_
  refine tr_seq ?_
  refine tr_sr hT hm [] [6, 14, 16, 18, 2013] [(6, .d (.rm 1006)), (14, .d (.sl a0.length 0 (a0.flatMap (eS eI).b))), (16, .d (iv (a0.length : Int))), (18, .d (iv 0)), (2013, .r (.mp (mpE kS vI ([] : List (ByteArray × Int)))))] .nil (by kernel_rfl) (by kernel_rfl) ?_
  refine tr_block ?_
  refine tr_iterS (fun (s1 : (List (ByteArray × Int)) × Int) => [(6, .d (.rm 1006)), (14, .d (.sl a0.length 0 (a0.flatMap (eS eI).b))), (16, .d (iv (a0.length : Int))), (18, .d (iv s1.2)), (2013, .r (.mp (mpE kS vI s1.1)))]) (([] : List (ByteArray × Int)), 0) [6, 14, 16, 18, 2013] (by kernel_rfl) hM ?_
  intro n4 next2 ih3 s1 hM
  refine tr_sr hT hm [] [6, 14, 16, 18, 20, 2013] [(6, .d (.rm 1006)), (14, .d (.sl a0.length 0 (a0.flatMap (eS eI).b))), (16, .d (iv (a0.length : Int))), (18, .d (iv s1.2)), (20, .d (bv (decide (s1.2 < (a0.length : Int))))), (2013, .r (.mp (mpE kS vI s1.1)))] .nil (by kernel_rfl) (by kernel_rfl) ?_
  refine tr_seq ?_
  rcases Bool.eq_false_or_eq_true (decide (s1.2 < (a0.length : Int))) with h5 | h5
  · have hM := ite_true' hM h5
    refine tr_condTe (e := decide (s1.2 < (a0.length : Int))) h5 (by kernel_rfl) ?_
    refine tr_skip (q_n ?_)
    refine tr_seq ?_
    refine tr_block ?_
    obtain ⟨y6, hy6, hM⟩ := bind_some' hM
    have hy6' := idx_some hy6
    refine tr_sr hT hm [(2, .val (.sl y6.length 0 (y6.flatMap eI.b)))] [6, 8, 10, 14, 16, 18, 2013] [(6, .d (.rm 1006)), (8, .d (iv s1.2)), (10, .d (.sl y6.length 0 (y6.flatMap eI.b))), (14, .d (.sl a0.length 0 (a0.flatMap (eS eI).b))), (16, .d (iv (a0.length : Int))), (18, .d (iv s1.2)), (2013, .r (.mp (mpE kS vI s1.1)))] (.cons hy6'.1 (.cons hy6'.2.1 (.cons (at_b0 (eS_ok eI_ok) hy6'.2.2 (d := .sl y6.length 0 (y6.flatMap eI.b)) (by kernel_rfl)) .nil))) (by kernel_rfl) (by kernel_rfl) ?_
    obtain ⟨v7, hv7, hM⟩ := bind_some' hM
    refine tr_r hT hm [(3, .call [1016] [] [.sl ([y6] : List (List Int)).length 0 (([y6] : List (List Int)).flatMap (eS eI).b)] [] (.v (.string v7)))] [6, 14, 16, 18, 2013] [(6, .d (.rm 1006)), (14, .d (.sl a0.length 0 (a0.flatMap (eS eI).b))), (16, .d (iv (a0.length : Int))), (18, .d (iv s1.2)), (2013, .r (.mp (putV kS.d (kS.e v7) (vI s1.2) (mpE kS vI s1.1))))] (cc (B := [1016]) (ρ := []) (rB := [(1016, .arr 1 [.sl y6.length 0 (y6.flatMap eI.b)] [])]) ok73 (impl_key_c ([y6] : List (List Int)) _ hv7) (.cons (.of1 (.rs (r := 1016) (sz := 1) (cells := [.sl y6.length 0 (y6.flatMap eI.b)]) (refs := []) (memB (by kernel_rfl)) (by kernel_rfl) (.cons (.same rfl rfl) .nil))) .nil) (.inr ⟨.v, trivial⟩) (.cons (fnd_some kS vI v7 s1.1) .nil)) (by kernel_rfl) (by kernel_rfl) (b_n (q_n ?_))
    refine Tr.by (imp_cvM (r := 1006) (put_mpE kS vI v7 s1.2 s1.1) (by kernel_rfl)) ?_
    refine tr_r hT hm [] [6, 14, 16, 18, 2013] [(6, .d (.rm 1006)), (14, .d (.sl a0.length 0 (a0.flatMap (eS eI).b))), (16, .d (iv (a0.length : Int))), (18, .d (iv (IntKind.i64.wrap (s1.2 + 1)))), (2013, .r (.mp (mpE kS vI (mput v7 s1.2 s1.1))))] .nil (by kernel_rfl) (by kernel_rfl) (l_n ?_)
    exact trl_start (ks := [6, 14, 16, 18, 2013]) (by kernel_rfl) (ih3 (mput v7 s1.2 s1.1, IntKind.i64.wrap (s1.2 + 1)) hM)
  · have hM := ite_false' hM h5
    refine tr_condFe (e := decide (s1.2 < (a0.length : Int))) h5 (by kernel_rfl) ?_
    refine tr_exit (q_x (l_x (b_h (q_n ?_))))
    refine tr_sr hT hm [] [4, 2013] [(4, .d (.rm 1006)), (2013, .r (.mp (mpE kS vI s1.1)))] .nil (by kernel_rfl) (by kernel_rfl) ?_
    refine tr_ret (rg_r ?_)
    refine RetG.by (imp_freeze (B := [1006]) (cv := [(2, .bm (mpE kS vI s1.1))]) (.cons (by kernel_rfl) (.of1 (.rm (r := 1006) (memB (by kernel_rfl)) (by kernel_rfl))) .nil)) ?_
    obtain rfl := Option.some.inj hM
    exact retg (names := []) .nil (by kernel_rfl)

theorem ok75 : CallOk Try.prog 75 := callOk_of Try.func75 (by kernel_rfl) (by kernel_rfl)
theorem impl_SetFunctor_elementsCategory_1_c (a0 : Int) (a1 : Int) (a2 : Xgrothendieck_q) (a3 : XCategory) (r : Int) (hM : M.impl_SetFunctor_elementsCategory_1 a0 a1 a2 a3 = some r) :
    FnC Try.prog 75 [] [iv a0, iv a1, .pt ((eP eXgrothendieck_q).b a2) 0, .pt ((eP eXCategory).b a3) 0] [] (iv r) := by
  refine fnc_startG (N := 45) (np := 500) hT Try.func75 rfl rfl (by kernel_rfl) ?_
  unfold M.impl_SetFunctor_elementsCategory_1 at hM
  refine tr_start (ks := [0, 2, 4, 6]) (st' := [(0, .d (iv a0)), (2, .d (iv a1)), (4, .d (.pt ((eP eXgrothendieck_q).b a2) 0)), (6, .d (.pt ((eP eXCategory).b a3) 0))]) (by kernel_rfl) ?_
  refine tr_srN hT hm [] [0, 2, 4, 6] [(0, .d (iv a0)), (2, .d (iv a1)), (4, .d (.pt ((eP eXgrothendieck_q).b a2) 0)), (6, .d (.pt ((eP eXCategory).b a3) 0))] .nil (by kernel_rfl) (by kernel_rfl) ?_
  obtain ⟨y1, hy1, hM⟩ := bind_some' hM
  have hy1' := idx_some hy1
  obtain ⟨y2, hy2, hM⟩ := bind_some' hM
  have hy2' := idx_some hy2
  refine tr_srN hT hm [(6, .val (.sl y1.length 0 (y1.flatMap eI.b))), (13, .val (.sl y2.length 0 (y2.flatMap eI.b)))] [4, 6, 14, 16] [(4, .d (.pt ((eP eXgrothendieck_q).b a2) 0)), (6, .d (.pt ((eP eXCategory).b a3) 0)), (14, .d (.sl y1.length 0 (y1.flatMap eI.b))), (16, .d (.sl y2.length 0 (y2.flatMap eI.b)))] (.cons hy1'.1 (.cons hy1'.2.1 (.cons (at_b0 (eS_ok eI_ok) hy1'.2.2 (d := .sl y1.length 0 (y1.flatMap eI.b)) (by kernel_rfl)) (.cons hy2'.1 (.cons hy2'.2.1 (.cons (at_b0 (eS_ok eI_ok) hy2'.2.2 (d := .sl y2.length 0 (y2.flatMap eI.b)) (by kernel_rfl)) .nil)))))) (by kernel_rfl) (by kernel_rfl) ?_
  obtain ⟨y3, hy3, hM⟩ := bind_some' hM
  have hy3' := idx_some hy3
  obtain ⟨y4, hy4, hM⟩ := bind_some' hM
  have hy4' := idx_some hy4
  obtain ⟨y5, hy5, hM⟩ := bind_some' hM
  have hy5' := idx_some hy5
  obtain ⟨y6, hy6, hM⟩ := bind_some' hM
  have hy6' := idx_some hy6
  obtain ⟨v7, hv7, hM⟩ := bind_some' hM
  obtain ⟨v8, hv8, hM⟩ := bind_some' hM
  refine tr_srN hT hm [(6, .val (iv y3)), (9, .val (iv y4)), (13, .val (iv y5)), (16, .val (iv y6)), (17, .call [] [] [.pt (eXCategory.b a3) 0, iv y5, iv y6] [] (iv v7)), (20, .call [1042, 1041] [] [.sl ([[y3, y4, v7]] : List (List Int)).length 0 (([[y3, y4, v7]] : List (List Int)).flatMap (eS eI).b)] [] (.v (.string v8))), (21, .val (iv ((mget v8 a2.arrowAt_).getD 0)))] [12] [(12, .d (iv ((mget v8 a2.arrowAt_).getD 0)))] (.cons hy3'.1 (.cons hy3'.2.1 (.cons (at_b0 eI_ok hy3'.2.2 (d := iv y3) (by kernel_rfl)) (.cons hy4'.1 (.cons hy4'.2.1 (.cons (at_b0 eI_ok hy4'.2.2 (d := iv y4) (by kernel_rfl)) (.cons hy5'.1 (.cons hy5'.2.1 (.cons (at_b0 eI_ok hy5'.2.2 (d := iv y5) (by kernel_rfl)) (.cons hy6'.1 (.cons hy6'.2.1 (.cons (at_b0 eI_ok hy6'.2.2 (d := iv y6) (by kernel_rfl)) (cc0 ok76 (impl_Category_then_c a3 y5 y6 _ hv7) (by kernel_rfl) (cc (B := [1042, 1041]) (ρ := []) (rB := [(1042, .arr 1 [.rs 1041 0 (([y3, y4, v7] : List Int).length)] [1041]), (1041, .arr 1 (([y3, y4, v7] : List Int).flatMap eI.o) [])]) ok73 (impl_key_c ([[y3, y4, v7]] : List (List Int)) _ hv8) (.cons (.of1 (.rs (r := 1042) (sz := 1) (cells := [.rs 1041 0 (([y3, y4, v7] : List Int).length)]) (refs := [1041]) (memB (by kernel_rfl)) (by kernel_rfl) (.cons (.rs (r := 1041) (sz := 1) (refs := []) (memB (by kernel_rfl)) (by kernel_rfl) (bor_flat eI_ok _ _ _)) .nil))) .nil) (.inr ⟨.v, trivial⟩) (.cons (look_one kS vI 0 v8 a2.arrowAt_) (.cons (by kernel_rfl : (Try.prog.info? 2).bind (·.zero) = some (.int .i64 0)) .nil)))))))))))))))) (by kernel_rfl) (by kernel_rfl) ?_
  refine tr_ret (rg_r ?_)
  obtain rfl := Option.some.inj hM
  exact retg (names := []) .nil (by kernel_rfl)

end Go.Proofs.Ythafadgnjkmfkaa.WzE
