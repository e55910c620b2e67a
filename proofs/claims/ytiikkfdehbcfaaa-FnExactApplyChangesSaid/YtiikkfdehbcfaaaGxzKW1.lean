/- Walks. Printed by wip/gen. -/
import Derived.Test.YtiikkfdehbcfaaaGxzKW0
namespace Go.Proofs.Ytiikkfdehbcfaaa.WzK
open Go.Gx Go.Proofs.Ytiikkfdehbcfaaa.WvB Go.Proofs.Ytiikkfdehbcfaaa.WyN Go.Proofs.Ytiikkfdehbcfaaa.WzS Go.Proofs.Ytiikkfdehbcfaaa.WzJ

theorem ok169 : CallOk Try.prog 169 := callOk_of Try.func169 (by kernel_rfl) (by kernel_rfl)
theorem spec_l39Apply_c (a0 : XSchema) (a1 : Xl39Data) (a2 : XChange) (r : Xl39Data × Bool) (hM : M.spec_l39Apply a0 a1 a2 = some r) :
    FnC Try.prog 169 [] [.agg (eXSchema.b a0), .agg (eXl39Data.b a1), .agg (eXChange.b a2)] [] (.tup [.agg (eXl39Data.o r.1), bv r.2]) := by
  refine fnc_startG (N := 147) (np := 500) hT Try.func169 rfl rfl (by kernel_rfl) ?_
  unfold M.spec_l39Apply at hM
  refine tr_start (ks := [0, 2, 4]) (st' := [(0, .d (.agg (eXSchema.b a0))), (2, .d (.agg (eXl39Data.b a1))), (4, .d (.agg (eXChange.b a2)))]) (by kernel_rfl) ?_
  refine tr_sr hT hm [] [6, 8, 10, 12, 2007, 2009, 2011, 2013] [(6, .d (.rp 1003 0)), (8, .d (.rp 1004 0)), (10, .d (.rp 1005 0)), (12, .d (.rp 1006 0)), bxB 2007 (eXSchema.b a0), bxB 2009 (eXl39Data.b a1), bxB 2011 (eXChange.b a2), (2013, .r (.arr 1 [nilv, nilv] []))] .nil (by kernel_rfl) (by kernel_rfl) ?_
  obtain ⟨v1, hv1, hM⟩ := bind_some' hM
  obtain ⟨v2, hv2, hM⟩ := bind_some' hM
  refine tr_sr hT hm [(2, .call [] [] [.sl a1.sizes_.length 0 (a1.sizes_.flatMap eI.b)] [] (.fr 1 v1.length (v1.flatMap eI.o))), (5, .call [] [] [.sl a1.maps_.length 0 (a1.maps_.flatMap (eS eI).b)] [] (.fr 1 v2.length (v2.flatMap (eS eI).o)))] [6, 8, 10, 12, 16, 2007, 2009, 2011, 2013, 2017, 28001, 34001] [(6, .d (.rp 1003 0)), (8, .d (.rp 1004 0)), (10, .d (.rp 1005 0)), (12, .d (.rp 1006 0)), (16, .d (.rp 1008 0)), bxB 2007 (eXSchema.b a0), bxB 2009 (eXl39Data.b a1), bxB 2011 (eXChange.b a2), (2013, .r (.arr 1 [nilv, nilv] [])), (2017, .r (.arr 1 [.rs 14000 0 v1.length, .rs 17000 0 v2.length] [14000, 17000])), (28001, .r (.arr 1 (v1.flatMap eI.o) [])), (34001, .r (.arr 1 (v2.flatMap (eS eI).o) []))] (cc0 ok87 (spec_l01Own_c a1.sizes_ _ hv1) (by kernel_rfl) (cc0 ok88 (spec_l01Own2_c a1.maps_ _ hv2) (by kernel_rfl) (.cons (Nat.le_of_ble_eq_true (n := 2) (m := 2) rfl) .nil))) (by kernel_rfl) (by kernel_rfl) ?_
  refine tr_joinM (fun (_ : Unit) => [(12, .d (.rp 1006 0)), (2013, .r (.arr 1 [nilv, nilv] []))]) hM ?_ ?_
  · intro s3 hM
    refine tr_sr hT hm [] [12, 14, 2013] [(12, .d (.rp 1006 0)), (14, .d (bv false)), (2013, .r (.arr 1 [nilv, nilv] []))] (.cons (Nat.le_of_ble_eq_true (n := 2) (m := 2) rfl) .nil) (by kernel_rfl) (by kernel_rfl) ?_
    refine tr_ret (rg_r ?_)
    refine RetG.by (imp_cvB (r := 1006) (sz := 1) (cells := [nilv, nilv]) (cells' := [.fr 1 ([] : List Int).length (([] : List Int).flatMap eI.o), .fr 1 ([] : List (List Int)).length (([] : List (List Int)).flatMap (eS eI).o)]) (refs := []) (refs' := []) (.cons Sub.nil_fr (.cons Sub.nil_fr .nil)) (by kernel_rfl) (by kernel_rfl) (by kernel_rfl)) ?_
    obtain rfl := Option.some.inj hM
    exact retg (names := []) .nil (by kernel_rfl)
  · intro k4 K5 hM
    refine tr_block ?_
    rcases Bool.eq_false_or_eq_true (a2.Kind == 1) with h6 | h6
    · have hM := ite_true' hM h6
      rcases Bool.eq_false_or_eq_true (a2.Second == 0) with h7 | h7
      · have hM := ite_true' hM h7
        rcases Bool.eq_false_or_eq_true (a2.Third == 0) with h8 | h8
        · have hM := ite_true' hM h8
          obtain ⟨v9, hv9, hM⟩ := bind_some' hM
          rcases Bool.eq_false_or_eq_true v9 with h10 | h10
          · have hM := ite_true' hM h10
            obtain ⟨y11, hy11, hM⟩ := bind_some' hM
            have hy11' := idx_some hy11
            refine tr_sr hT hm [(3, .val (bv true)), (8, .val (bv true)), (13, .val (bv true)), (19, .call [] [] [iv a2.First, iv 0, iv (IntKind.i64.wrap (a0.Nodes - 1))] [] (bv v9)), (21, .val (bv true)), (27, .val (iv y11))] [6, 8, 10, 12, 16, 34, 2007, 2009, 2011, 2013, 2017, 28001, 34001] [(6, .d (.rp 1003 0)), (8, .d (.rp 1004 0)), (10, .d (.rp 1005 0)), (12, .d (.rp 1006 0)), (16, .d (.rp 1008 0)), (34, .d (bv (decide (y11 < 16)))), bxB 2007 (eXSchema.b a0), bxB 2009 (eXl39Data.b a1), bxB 2011 (eXChange.b a2), (2013, .r (.arr 1 [nilv, nilv] [])), (2017, .r (.arr 1 [.rs 14000 0 v1.length, .rs 17000 0 v2.length] [14000, 17000])), (28001, .r (.arr 1 (v1.flatMap eI.o) [])), (34001, .r (.arr 1 (v2.flatMap (eS eI).o) []))] (.cons (congrArg (fun b => bv b) h6) (.cons (congrArg (fun b => bv b) h7) (.cons (congrArg (fun b => bv b) h8) (cc0 ok165 (spec_l01In_c a2.First 0 (IntKind.i64.wrap (a0.Nodes - 1)) _ hv9) (by kernel_rfl) (.cons (congrArg (fun b => bv b) h10) (.cons hy11'.1 (.cons hy11'.2.1 (.cons (at_b0 eI_ok hy11'.2.2 (d := iv y11) (by kernel_rfl)) .nil)))))))) (by kernel_rfl) (by kernel_rfl) ?_
            rcases Bool.eq_false_or_eq_true (decide (y11 < 16)) with h12 | h12
            · have hM := ite_true' hM h12
              refine tr_condTe (e := decide (y11 < 16)) h12 (by kernel_rfl) ?_
              obtain ⟨y13, hy13, hM⟩ := bind_some' hM
              have hy13' := idx_some hy13
              refine tr_sr hT hm [(9, .val (iv y13))] [6, 8, 10, 12, 16, 2007, 2009, 2011, 2013, 2017, 28001, 34001] [(6, .d (.rp 1003 0)), (8, .d (.rp 1004 0)), (10, .d (.rp 1005 0)), (12, .d (.rp 1006 0)), (16, .d (.rp 1008 0)), bxB 2007 (eXSchema.b a0), bxB 2009 (eXl39Data.b a1), bxB 2011 (eXChange.b a2), (2013, .r (.arr 1 [nilv, nilv] [])), (2017, .r (.arr 1 [.rs 14000 0 v1.length, .rs 17000 0 v2.length] [14000, 17000])), (28001, .r (.arr 1 ((v1.flatMap eI.o).take (0 + a2.First.toNat * 1) ++ [iv (IntKind.i64.wrap (y13 + 1))] ++ (v1.flatMap eI.o).drop (0 + a2.First.toNat * 1 + 1)) [])), (34001, .r (.arr 1 (v2.flatMap (eS eI).o) []))] (.cons hy13'.1 (.cons hy13'.2.1 (.cons (at_o0 eI_ok hy13'.2.2 (d := iv y13) (by kernel_rfl)) (.cons hy13'.1 (.cons hy13'.2.1 (.cons (store_le eI_ok hy13'.2.2) .nil)))))) (by kernel_rfl) (by kernel_rfl) ?_
              refine Tr.by (imp_cvE (r := 14000) (sz := 1) (refs := []) (set_flat eI_ok.lenO (y := IntKind.i64.wrap (y13 + 1)) hy13'.2.2) (menO_flat eI_ok _) (by kernel_rfl)) ?_
              refine Tr.by (imp_cvB (r := 1008) (sz := 1) (cells := [.rs 14000 0 v1.length, .rs 17000 0 v2.length]) (cells' := [.rs 14000 0 ((v1.set a2.First.toNat (IntKind.i64.wrap (y13 + 1))).length), .rs 17000 0 v2.length]) (refs := [14000, 17000]) (refs' := [14000, 17000]) (.cons (Sub.of_eq (congrArg (D.rs 14000 0) (List.length_set.symm : v1.length = (v1.set a2.First.toNat (IntKind.i64.wrap (y13 + 1))).length))) (.cons (.refl _) .nil)) (by kernel_rfl) (by kernel_rfl) (by kernel_rfl)) ?_
              refine tr_seq ?_
              refine tr_sr hT hm [] [6, 8, 10, 12, 16, 18, 2007, 2009, 2011, 2013, 2017, 28001, 34001] [(6, .d (.rp 1003 0)), (8, .d (.rp 1004 0)), (10, .d (.rp 1005 0)), (12, .d (.rp 1006 0)), (16, .d (.rp 1008 0)), (18, .d (iv 0)), bxB 2007 (eXSchema.b a0), bxB 2009 (eXl39Data.b a1), bxB 2011 (eXChange.b a2), (2013, .r (.arr 1 [nilv, nilv] [])), (2017, .r (.arr 1 [.rs 14000 0 ((v1.set a2.First.toNat (IntKind.i64.wrap (y13 + 1))).length), .rs 17000 0 v2.length] [14000, 17000])), (28001, .r (.arr 1 ((v1.set a2.First.toNat (IntKind.i64.wrap (y13 + 1))).flatMap eI.o) [])), (34001, .r (.arr 1 (v2.flatMap (eS eI).o) []))] .nil (by kernel_rfl) (by kernel_rfl) ?_
              refine tr_block ?_
              refine tr_iterS (fun (s14 : (List (List Int)) × Int) => [(6, .d (.rp 1003 0)), (8, .d (.rp 1004 0)), (10, .d (.rp 1005 0)), (12, .d (.rp 1006 0)), (16, .d (.rp 1008 0)), (18, .d (iv s14.2)), bxB 2007 (eXSchema.b a0), bxB 2009 (eXl39Data.b a1), bxB 2011 (eXChange.b a2), (2013, .r (.arr 1 [nilv, nilv] [])), (2017, .r (.arr 1 [.rs 14000 0 ((v1.set a2.First.toNat (IntKind.i64.wrap (y13 + 1))).length), .rs 17000 0 s14.1.length] [14000, 17000])), (28001, .r (.arr 1 ((v1.set a2.First.toNat (IntKind.i64.wrap (y13 + 1))).flatMap eI.o) [])), (34001, .r (.arr 1 (s14.1.flatMap (eS eI).o) []))]) (v2, 0) [6, 8, 10, 12, 16, 18, 2007, 2009, 2011, 2013, 2017, 28001, 34001] (by kernel_rfl) hM ?_
              intro n17 next15 ih16 s14 hM
              refine tr_seq ?_
              refine tr_sr hT hm [] [6, 8, 10, 12, 16, 18, 128, 2007, 2009, 2011, 2013, 2017, 28001, 34001] [(6, .d (.rp 1003 0)), (8, .d (.rp 1004 0)), (10, .d (.rp 1005 0)), (12, .d (.rp 1006 0)), (16, .d (.rp 1008 0)), (18, .d (iv s14.2)), (128, .d (bv (decide (s14.2 < (a0.From.length : Int))))), bxB 2007 (eXSchema.b a0), bxB 2009 (eXl39Data.b a1), bxB 2011 (eXChange.b a2), (2013, .r (.arr 1 [nilv, nilv] [])), (2017, .r (.arr 1 [.rs 14000 0 ((v1.set a2.First.toNat (IntKind.i64.wrap (y13 + 1))).length), .rs 17000 0 s14.1.length] [14000, 17000])), (28001, .r (.arr 1 ((v1.set a2.First.toNat (IntKind.i64.wrap (y13 + 1))).flatMap eI.o) [])), (34001, .r (.arr 1 (s14.1.flatMap (eS eI).o) []))] .nil (by kernel_rfl) (by kernel_rfl) ?_
              rcases Bool.eq_false_or_eq_true (decide (s14.2 < (a0.From.length : Int))) with h18 | h18
              · have hM := ite_true' hM h18
                refine tr_condTe (e := decide (s14.2 < (a0.From.length : Int))) h18 (by kernel_rfl) ?_
                refine tr_skip (q_n ?_)
                refine tr_seq ?_
                refine tr_block ?_
                obtain ⟨y19, hy19, hM⟩ := bind_some' hM
                have hy19' := idx_some hy19
                refine tr_sr hT hm [(4, .val (iv y19))] [6, 8, 10, 12, 16, 18, 148, 2007, 2009, 2011, 2013, 2017, 28001, 34001] [(6, .d (.rp 1003 0)), (8, .d (.rp 1004 0)), (10, .d (.rp 1005 0)), (12, .d (.rp 1006 0)), (16, .d (.rp 1008 0)), (18, .d (iv s14.2)), (148, .d (bv (y19 == a2.First))), bxB 2007 (eXSchema.b a0), bxB 2009 (eXl39Data.b a1), bxB 2011 (eXChange.b a2), (2013, .r (.arr 1 [nilv, nilv] [])), (2017, .r (.arr 1 [.rs 14000 0 ((v1.set a2.First.toNat (IntKind.i64.wrap (y13 + 1))).length), .rs 17000 0 s14.1.length] [14000, 17000])), (28001, .r (.arr 1 ((v1.set a2.First.toNat (IntKind.i64.wrap (y13 + 1))).flatMap eI.o) [])), (34001, .r (.arr 1 (s14.1.flatMap (eS eI).o) []))] (.cons hy19'.1 (.cons hy19'.2.1 (.cons (at_b0 eI_ok hy19'.2.2 (d := iv y19) (by kernel_rfl)) .nil))) (by kernel_rfl) (by kernel_rfl) ?_
                rcases Bool.eq_false_or_eq_true (y19 == a2.First) with h20 | h20
                · have hM := ite_true' hM h20
                  refine tr_condTe (e := y19 == a2.First) h20 (by kernel_rfl) ?_
                  obtain ⟨y21, hy21, hM⟩ := bind_some' hM
                  have hy21' := idx_some hy21
                  obtain ⟨v22, hv22, hM⟩ := bind_some' hM
                  obtain ⟨h23, hM⟩ := chk_some hM
                  obtain ⟨y24, hy24, hM⟩ := bind_some' hM
                  have hy24' := idx_some hy24
                  refine tr_r hT hm [(7, .val (.sl y21.length 0 (y21.flatMap eI.b))), (8, .call [] [] [.sl y21.length 0 (y21.flatMap eI.b)] [] (.fr 1 v22.length (v22.flatMap eI.o))), (10, .app true)] [6, 8, 10, 12, 16, 18, 2007, 2009, 2011, 2013, 2017, 2171, 28001, 34001] [(6, .d (.rp 1003 0)), (8, .d (.rp 1004 0)), (10, .d (.rp 1005 0)), (12, .d (.rp 1006 0)), (16, .d (.rp 1008 0)), (18, .d (iv s14.2)), bxB 2007 (eXSchema.b a0), bxB 2009 (eXl39Data.b a1), bxB 2011 (eXChange.b a2), (2013, .r (.arr 1 [nilv, nilv] [])), (2017, .r (.arr 1 [.rs 14000 0 ((v1.set a2.First.toNat (IntKind.i64.wrap (y13 + 1))).length), .rs 17000 0 s14.1.length] [14000, 17000])), (2171, .r (.arr 1 (v22.flatMap eI.o ++ ([(-1)] : List Int).flatMap eI.o) [])), (28001, .r (.arr 1 ((v1.set a2.First.toNat (IntKind.i64.wrap (y13 + 1))).flatMap eI.o) [])), (34001, .r (.arr 1 ((s14.1.flatMap (eS eI).o).take (0 + s14.2.toNat * 1) ++ [.rs 1085 0 (v22.length + (([(-1)] : List Int).length))] ++ (s14.1.flatMap (eS eI).o).drop (0 + s14.2.toNat * 1 + 1)) [1085]))] (.cons hy21'.1 (.cons hy21'.2.1 (.cons (at_b0 (eS_ok eI_ok) hy21'.2.2 (d := .sl y21.length 0 (y21.flatMap eI.b)) (by kernel_rfl)) (cc0 ok87 (spec_l01Own_c y21 _ hv22) (by kernel_rfl) (.cons (lenO_flat eI_ok v22) (.cons (lenO_flat eI_ok ([(-1)] : List Int)) (.cons h23 (.cons hy24'.1 (.cons hy24'.2.1 (.cons (store_le (eS_ok eI_ok) hy24'.2.2) .nil)))))))))) (by kernel_rfl) (by kernel_rfl) (b_n (q_n ?_))
                  refine Tr.by (imp_cvE (r := 1085) (sz := 1) (refs := []) (flat_app eI.o v22 ([(-1)] : List Int)) (menO_flat eI_ok _) (by kernel_rfl)) ?_
                  refine Tr.by (imp_dem (r := 17000) (q := 1085) (sz := 1) (n := (v22.length + (([(-1)] : List Int).length))) (j := 0) (pre := (s14.1.flatMap (eS eI).o).take (0 + s14.2.toNat * 1)) (l := [.rs 1085 0 (v22.length + (([(-1)] : List Int).length))]) (post := (s14.1.flatMap (eS eI).o).drop (0 + s14.2.toNat * 1 + 1)) (refs := [1085]) (refs' := []) (menO_take (eS_ok eI_ok) _ _) (menO_drop (eS_ok eI_ok) _ _) (lenO_of eI_ok (v22 ++ ([(-1)] : List Int)) ((len_app v22 ([(-1)] : List Int))).symm) (by kernel_rfl) (by kernel_rfl) (by kernel_rfl) (by kernel_rfl) (by kernel_rfl)) ?_
                  refine Tr.by (imp_cvE (r := 17000) (sz := 1) (refs := []) (set_flatF eI_ok (y := (v22 ++ ([(-1)] : List Int))) hy24'.2.2 ((len_app v22 ([(-1)] : List Int))).symm) (menO_flat (eS_ok eI_ok) _) (by kernel_rfl)) ?_
                  refine Tr.by (imp_cvB (r := 1008) (sz := 1) (cells := [.rs 14000 0 ((v1.set a2.First.toNat (IntKind.i64.wrap (y13 + 1))).length), .rs 17000 0 s14.1.length]) (cells' := [.rs 14000 0 ((v1.set a2.First.toNat (IntKind.i64.wrap (y13 + 1))).length), .rs 17000 0 ((s14.1.set s14.2.toNat (v22 ++ ([(-1)] : List Int))).length)]) (refs := [14000, 17000]) (refs' := [14000, 17000]) (.cons (.refl _) (.cons (Sub.of_eq (congrArg (D.rs 17000 0) (List.length_set.symm : s14.1.length = (s14.1.set s14.2.toNat (v22 ++ ([(-1)] : List Int))).length))) .nil)) (by kernel_rfl) (by kernel_rfl) (by kernel_rfl)) ?_
                  refine tr_r hT hm [] [6, 8, 10, 12, 16, 18, 2007, 2009, 2011, 2013, 2017, 28001, 34001] [(6, .d (.rp 1003 0)), (8, .d (.rp 1004 0)), (10, .d (.rp 1005 0)), (12, .d (.rp 1006 0)), (16, .d (.rp 1008 0)), (18, .d (iv (IntKind.i64.wrap (s14.2 + 1)))), bxB 2007 (eXSchema.b a0), bxB 2009 (eXl39Data.b a1), bxB 2011 (eXChange.b a2), (2013, .r (.arr 1 [nilv, nilv] [])), (2017, .r (.arr 1 [.rs 14000 0 ((v1.set a2.First.toNat (IntKind.i64.wrap (y13 + 1))).length), .rs 17000 0 ((s14.1.set s14.2.toNat (v22 ++ ([(-1)] : List Int))).length)] [14000, 17000])), (28001, .r (.arr 1 ((v1.set a2.First.toNat (IntKind.i64.wrap (y13 + 1))).flatMap eI.o) [])), (34001, .r (.arr 1 ((s14.1.set s14.2.toNat (v22 ++ ([(-1)] : List Int))).flatMap (eS eI).o) []))] .nil (by kernel_rfl) (by kernel_rfl) (l_n ?_)
                  exact trl_start (ks := [6, 8, 10, 12, 16, 18, 2007, 2009, 2011, 2013, 2017, 28001, 34001]) (by kernel_rfl) (ih16 (s14.1.set s14.2.toNat (v22 ++ ([(-1)] : List Int)), IntKind.i64.wrap (s14.2 + 1)) hM)
                · have hM := ite_false' hM h20
                  refine tr_condFe (e := y19 == a2.First) h20 (by kernel_rfl) ?_
                  refine tr_skip (b_n (q_n ?_))
                  refine tr_r hT hm [] [6, 8, 10, 12, 16, 18, 2007, 2009, 2011, 2013, 2017, 28001, 34001] [(6, .d (.rp 1003 0)), (8, .d (.rp 1004 0)), (10, .d (.rp 1005 0)), (12, .d (.rp 1006 0)), (16, .d (.rp 1008 0)), (18, .d (iv (IntKind.i64.wrap (s14.2 + 1)))), bxB 2007 (eXSchema.b a0), bxB 2009 (eXl39Data.b a1), bxB 2011 (eXChange.b a2), (2013, .r (.arr 1 [nilv, nilv] [])), (2017, .r (.arr 1 [.rs 14000 0 ((v1.set a2.First.toNat (IntKind.i64.wrap (y13 + 1))).length), .rs 17000 0 s14.1.length] [14000, 17000])), (28001, .r (.arr 1 ((v1.set a2.First.toNat (IntKind.i64.wrap (y13 + 1))).flatMap eI.o) [])), (34001, .r (.arr 1 (s14.1.flatMap (eS eI).o) []))] .nil (by kernel_rfl) (by kernel_rfl) (l_n ?_)
                  exact trl_start (ks := [6, 8, 10, 12, 16, 18, 2007, 2009, 2011, 2013, 2017, 28001, 34001]) (by kernel_rfl) (ih16 (s14.1, IntKind.i64.wrap (s14.2 + 1)) hM)
              · have hM := ite_false' hM h18
                refine tr_condFe (e := decide (s14.2 < (a0.From.length : Int))) h18 (by kernel_rfl) ?_
                refine tr_exit (q_x (l_x (b_h (q_n ?_))))
                refine tr_sr hT hm [] [12, 14, 2013, 28001, 34001] [(12, .d (.rp 1006 0)), (14, .d (bv true)), (2013, .r (.arr 1 [.rs 14000 0 ((v1.set a2.First.toNat (IntKind.i64.wrap (y13 + 1))).length), .rs 17000 0 s14.1.length] [14000, 17000])), (28001, .r (.arr 1 ((v1.set a2.First.toNat (IntKind.i64.wrap (y13 + 1))).flatMap eI.o) [])), (34001, .r (.arr 1 (s14.1.flatMap (eS eI).o) []))] (.cons (Nat.le_of_ble_eq_true (n := 2) (m := 2) rfl) .nil) (by kernel_rfl) (by kernel_rfl) ?_
                refine tr_ret (b_r (q_r (rg_r ?_)))
                obtain rfl := Option.some.inj hM
                exact retg (names := []) (.cons (lenO_flat eI_ok (v1.set a2.First.toNat (IntKind.i64.wrap (y13 + 1)))) (.cons (lenO_flat (eS_ok eI_ok) s14.1) .nil)) (by kernel_rfl)
            · have hM := ite_false' hM h12
              refine tr_condFe (e := decide (y11 < 16)) h12 (by kernel_rfl) ?_
              rcases Bool.eq_false_or_eq_true (a2.Kind == 2) with h25 | h25
              · have hM := ite_true' hM h25
                obtain ⟨v26, hv26, hM⟩ := bind_some' hM
                refine tr_sr hT hm [(3, .val (bv true)), (10, .call [] [] [iv a2.First, iv 0, iv (IntKind.i64.wrap ((a0.From.length : Int) - 1))] [] (bv v26))] [6, 8, 10, 12, 16, 176, 2007, 2009, 2011, 2013, 2017, 28001, 34001] [(6, .d (.rp 1003 0)), (8, .d (.rp 1004 0)), (10, .d (.rp 1005 0)), (12, .d (.rp 1006 0)), (16, .d (.rp 1008 0)), (176, .d (bv v26)), bxB 2007 (eXSchema.b a0), bxB 2009 (eXl39Data.b a1), bxB 2011 (eXChange.b a2), (2013, .r (.arr 1 [nilv, nilv] [])), (2017, .r (.arr 1 [.rs 14000 0 v1.length, .rs 17000 0 v2.length] [14000, 17000])), (28001, .r (.arr 1 (v1.flatMap eI.o) [])), (34001, .r (.arr 1 (v2.flatMap (eS eI).o) []))] (.cons (congrArg (fun b => bv b) h25) (cc0 ok165 (spec_l01In_c a2.First 0 (IntKind.i64.wrap ((a0.From.length : Int) - 1)) _ hv26) (by kernel_rfl) .nil)) (by kernel_rfl) (by kernel_rfl) ?_
                rcases Bool.eq_false_or_eq_true v26 with h27 | h27
                · have hM := ite_true' hM h27
                  refine tr_condTe (e := v26) h27 (by kernel_rfl) ?_
                  refine tr_seq ?_
                  obtain ⟨y28, hy28, hM⟩ := bind_some' hM
                  have hy28' := idx_some hy28
                  obtain ⟨y29, hy29, hM⟩ := bind_some' hM
                  have hy29' := idx_some hy29
                  obtain ⟨v30, hv30, hM⟩ := bind_some' hM
                  rcases Bool.eq_false_or_eq_true v30 with h31 | h31
                  · have hM := ite_true' hM h31
                    obtain ⟨y32, hy32, hM⟩ := bind_some' hM
                    have hy32' := idx_some hy32
                    obtain ⟨y33, hy33, hM⟩ := bind_some' hM
                    have hy33' := idx_some hy33
                    obtain ⟨v34, hv34, hM⟩ := bind_some' hM
                    refine tr_sr hT hm [(9, .val (iv y28)), (11, .val (iv y29)), (13, .call [] [] [iv a2.Second, iv 0, iv (IntKind.i64.wrap (y29 - 1))] [] (bv v30)), (15, .val (bv false)), (25, .val (iv y32)), (27, .val (iv y33)), (29, .call [] [] [iv a2.Third, iv 0, iv (IntKind.i64.wrap (y33 - 1))] [] (bv v34))] [10, 12, 16, 264, 2011, 2013, 2017, 28001, 34001] [(10, .d (.rp 1005 0)), (12, .d (.rp 1006 0)), (16, .d (.rp 1008 0)), (264, .d (bv (!v34))), bxB 2011 (eXChange.b a2), (2013, .r (.arr 1 [nilv, nilv] [])), (2017, .r (.arr 1 [.rs 14000 0 v1.length, .rs 17000 0 v2.length] [14000, 17000])), (28001, .r (.arr 1 (v1.flatMap eI.o) [])), (34001, .r (.arr 1 (v2.flatMap (eS eI).o) []))] (.cons hy28'.1 (.cons hy28'.2.1 (.cons (at_b0 eI_ok hy28'.2.2 (d := iv y28) (by kernel_rfl)) (.cons hy29'.1 (.cons hy29'.2.1 (.cons (at_b0 eI_ok hy29'.2.2 (d := iv y29) (by kernel_rfl)) (cc0 ok165 (spec_l01In_c a2.Second 0 (IntKind.i64.wrap (y29 - 1)) _ hv30) (by kernel_rfl) (.cons (congrArg (fun b => bv b) (congrArg not h31)) (.cons hy32'.1 (.cons hy32'.2.1 (.cons (at_b0 eI_ok hy32'.2.2 (d := iv y32) (by kernel_rfl)) (.cons hy33'.1 (.cons hy33'.2.1 (.cons (at_b0 eI_ok hy33'.2.2 (d := iv y33) (by kernel_rfl)) (cc0 ok165 (spec_l01In_c a2.Third 0 (IntKind.i64.wrap (y33 - 1)) _ hv34) (by kernel_rfl) .nil))))))))))))))) (by kernel_rfl) (by kernel_rfl) ?_
                    rcases Bool.eq_false_or_eq_true v34 with h35 | h35
                    · have hM := ite_true' hM h35
                      refine tr_condFe (e := !v34) (congrArg not h35) (by kernel_rfl) ?_
                      refine tr_skip (q_n ?_)
                      obtain ⟨y36, hy36, hM⟩ := bind_some' hM
                      have hy36' := idx_some hy36
                      refine Tr.by (imp_rowOut (r := 17000) (q := 700026) (i := a2.First) (xs := v2) (e := eI) (eS_ok eI_ok) hy36'.2.2 (by kernel_rfl) (by kernel_rfl)) ?_
                      obtain ⟨y37, hy37, hM⟩ := bind_some' hM
                      have hy37' := idx_some hy37
                      refine tr_sr hT hm [(5, .val (.rs 700026 0 y36.length))] [12, 16, 2013, 2017, 28001, 34001, 1400053] [(12, .d (.rp 1006 0)), (16, .d (.rp 1008 0)), (2013, .r (.arr 1 [nilv, nilv] [])), (2017, .r (.arr 1 [.rs 14000 0 v1.length, .rs 17000 0 v2.length] [14000, 17000])), (28001, .r (.arr 1 (v1.flatMap eI.o) [])), (34001, .r (.arr 1 ((v2.flatMap (eS eI).o).set (0 + a2.First.toNat * 1) (.rs 700026 0 y36.length)) [700026])), (1400053, .r (.arr 1 ((y36.flatMap eI.o).take (0 + a2.Second.toNat * 1) ++ [iv a2.Third] ++ (y36.flatMap eI.o).drop (0 + a2.Second.toNat * 1 + 1)) []))] (.cons hy36'.1 (.cons hy36'.2.1 (.cons (set_at (d := .rs 700026 0 y36.length) (lt_flat (eS_ok eI_ok) (by kernel_rfl) hy36'.2.2)) (.cons hy37'.1 (.cons hy37'.2.1 (.cons (store_le eI_ok hy37'.2.2) .nil)))))) (by kernel_rfl) (by kernel_rfl) ?_
                      refine Tr.by (imp_cvE (r := 700026) (sz := 1) (refs := []) (set_flat eI_ok.lenO (y := a2.Third) hy37'.2.2) (menO_flat eI_ok _) (by kernel_rfl)) ?_
                      refine Tr.by (imp_rowBack (r := 17000) (q := 700026) (n := y36.length) (i := a2.First) (xs := v2) (e := eI) (x' := (y36.set a2.Second.toNat a2.Third)) eI_ok hy36'.2.2 List.length_set.symm (by kernel_rfl) (by kernel_rfl) (by kernel_rfl)) ?_
                      refine Tr.by (imp_cvB (r := 1008) (sz := 1) (cells := [.rs 14000 0 v1.length, .rs 17000 0 v2.length]) (cells' := [.rs 14000 0 v1.length, .rs 17000 0 ((v2.set a2.First.toNat (y36.set a2.Second.toNat a2.Third)).length)]) (refs := [14000, 17000]) (refs' := [14000, 17000]) (.cons (.refl _) (.cons (Sub.of_eq (congrArg (D.rs 17000 0) (List.length_set.symm : v2.length = (v2.set a2.First.toNat (y36.set a2.Second.toNat a2.Third)).length))) .nil)) (by kernel_rfl) (by kernel_rfl) (by kernel_rfl)) ?_
                      refine tr_sr hT hm [] [12, 14, 2013, 28001, 34001] [(12, .d (.rp 1006 0)), (14, .d (bv true)), (2013, .r (.arr 1 [.rs 14000 0 v1.length, .rs 17000 0 ((v2.set a2.First.toNat (y36.set a2.Second.toNat a2.Third)).length)] [14000, 17000])), (28001, .r (.arr 1 (v1.flatMap eI.o) [])), (34001, .r (.arr 1 ((v2.set a2.First.toNat (y36.set a2.Second.toNat a2.Third)).flatMap (eS eI).o) []))] (.cons (Nat.le_of_ble_eq_true (n := 2) (m := 2) rfl) .nil) (by kernel_rfl) (by kernel_rfl) ?_
                      refine tr_ret (b_r (q_r (rg_r ?_)))
                      obtain rfl := Option.some.inj hM
                      exact retg (names := []) (.cons (lenO_flat eI_ok v1) (.cons (lenO_flat (eS_ok eI_ok) (v2.set a2.First.toNat (y36.set a2.Second.toNat a2.Third))) .nil)) (by kernel_rfl)
                    · have hM := ite_false' hM h35
                      refine tr_condTe (e := !v34) (congrArg not h35) (by kernel_rfl) ?_
                      refine tr_sr hT hm [] [12, 14, 2013] [(12, .d (.rp 1006 0)), (14, .d (bv false)), (2013, .r (.arr 1 [nilv, nilv] []))] (.cons (Nat.le_of_ble_eq_true (n := 2) (m := 2) rfl) .nil) (by kernel_rfl) (by kernel_rfl) ?_
                      refine tr_ret (q_r (b_r (q_r (rg_r ?_))))
                      refine RetG.by (imp_cvB (r := 1006) (sz := 1) (cells := [nilv, nilv]) (cells' := [.fr 1 ([] : List Int).length (([] : List Int).flatMap eI.o), .fr 1 ([] : List (List Int)).length (([] : List (List Int)).flatMap (eS eI).o)]) (refs := []) (refs' := []) (.cons Sub.nil_fr (.cons Sub.nil_fr .nil)) (by kernel_rfl) (by kernel_rfl) (by kernel_rfl)) ?_
                      obtain rfl := Option.some.inj hM
                      exact retg (names := []) .nil (by kernel_rfl)
                  · have hM := ite_false' hM h31
                    refine tr_sr hT hm [(9, .val (iv y28)), (11, .val (iv y29)), (13, .call [] [] [iv a2.Second, iv 0, iv (IntKind.i64.wrap (y29 - 1))] [] (bv v30)), (15, .val (bv true))] [10, 12, 16, 264, 2011, 2013, 2017, 28001, 34001] [(10, .d (.rp 1005 0)), (12, .d (.rp 1006 0)), (16, .d (.rp 1008 0)), (264, .d (bv true)), bxB 2011 (eXChange.b a2), (2013, .r (.arr 1 [nilv, nilv] [])), (2017, .r (.arr 1 [.rs 14000 0 v1.length, .rs 17000 0 v2.length] [14000, 17000])), (28001, .r (.arr 1 (v1.flatMap eI.o) [])), (34001, .r (.arr 1 (v2.flatMap (eS eI).o) []))] (.cons hy28'.1 (.cons hy28'.2.1 (.cons (at_b0 eI_ok hy28'.2.2 (d := iv y28) (by kernel_rfl)) (.cons hy29'.1 (.cons hy29'.2.1 (.cons (at_b0 eI_ok hy29'.2.2 (d := iv y29) (by kernel_rfl)) (cc0 ok165 (spec_l01In_c a2.Second 0 (IntKind.i64.wrap (y29 - 1)) _ hv30) (by kernel_rfl) (.cons (congrArg (fun b => bv b) (congrArg not h31)) .nil)))))))) (by kernel_rfl) (by kernel_rfl) ?_
                    refine tr_condT (by kernel_rfl) ?_
                    refine tr_sr hT hm [] [12, 14, 2013] [(12, .d (.rp 1006 0)), (14, .d (bv false)), (2013, .r (.arr 1 [nilv, nilv] []))] (.cons (Nat.le_of_ble_eq_true (n := 2) (m := 2) rfl) .nil) (by kernel_rfl) (by kernel_rfl) ?_
                    refine tr_ret (q_r (b_r (q_r (rg_r ?_))))
                    refine RetG.by (imp_cvB (r := 1006) (sz := 1) (cells := [nilv, nilv]) (cells' := [.fr 1 ([] : List Int).length (([] : List Int).flatMap eI.o), .fr 1 ([] : List (List Int)).length (([] : List (List Int)).flatMap (eS eI).o)]) (refs := []) (refs' := []) (.cons Sub.nil_fr (.cons Sub.nil_fr .nil)) (by kernel_rfl) (by kernel_rfl) (by kernel_rfl)) ?_
                    obtain rfl := Option.some.inj hM
                    exact retg (names := []) .nil (by kernel_rfl)
                · have hM := ite_false' hM h27
                  refine tr_condFe (e := v26) h27 (by kernel_rfl) ?_
                  refine tr_skip (b_n (q_n ?_))
                  exact tr_start (ks := [12, 2013]) (by kernel_rfl) (K5 () hM)
              · have hM := ite_false' hM h25
                refine tr_sr hT hm [(3, .val (bv false))] [6, 8, 10, 12, 16, 176, 2007, 2009, 2011, 2013, 2017, 28001, 34001] [(6, .d (.rp 1003 0)), (8, .d (.rp 1004 0)), (10, .d (.rp 1005 0)), (12, .d (.rp 1006 0)), (16, .d (.rp 1008 0)), (176, .d (bv false)), bxB 2007 (eXSchema.b a0), bxB 2009 (eXl39Data.b a1), bxB 2011 (eXChange.b a2), (2013, .r (.arr 1 [nilv, nilv] [])), (2017, .r (.arr 1 [.rs 14000 0 v1.length, .rs 17000 0 v2.length] [14000, 17000])), (28001, .r (.arr 1 (v1.flatMap eI.o) [])), (34001, .r (.arr 1 (v2.flatMap (eS eI).o) []))] (.cons (congrArg (fun b => bv b) h25) .nil) (by kernel_rfl) (by kernel_rfl) ?_
                refine tr_condF (by kernel_rfl) ?_
                refine tr_skip (b_n (q_n ?_))
                exact tr_start (ks := [12, 2013]) (by kernel_rfl) (K5 () hM)
          · have hM := ite_false' hM h10
            refine tr_sr hT hm [(3, .val (bv true)), (8, .val (bv true)), (13, .val (bv true)), (19, .call [] [] [iv a2.First, iv 0, iv (IntKind.i64.wrap (a0.Nodes - 1))] [] (bv v9)), (21, .val (bv false))] [6, 8, 10, 12, 16, 34, 2007, 2009, 2011, 2013, 2017, 28001, 34001] [(6, .d (.rp 1003 0)), (8, .d (.rp 1004 0)), (10, .d (.rp 1005 0)), (12, .d (.rp 1006 0)), (16, .d (.rp 1008 0)), (34, .d (bv false)), bxB 2007 (eXSchema.b a0), bxB 2009 (eXl39Data.b a1), bxB 2011 (eXChange.b a2), (2013, .r (.arr 1 [nilv, nilv] [])), (2017, .r (.arr 1 [.rs 14000 0 v1.length, .rs 17000 0 v2.length] [14000, 17000])), (28001, .r (.arr 1 (v1.flatMap eI.o) [])), (34001, .r (.arr 1 (v2.flatMap (eS eI).o) []))] (.cons (congrArg (fun b => bv b) h6) (.cons (congrArg (fun b => bv b) h7) (.cons (congrArg (fun b => bv b) h8) (cc0 ok165 (spec_l01In_c a2.First 0 (IntKind.i64.wrap (a0.Nodes - 1)) _ hv9) (by kernel_rfl) (.cons (congrArg (fun b => bv b) h10) .nil))))) (by kernel_rfl) (by kernel_rfl) ?_
            refine tr_condF (by kernel_rfl) ?_
            rcases Bool.eq_false_or_eq_true (a2.Kind == 2) with h38 | h38
            · have hM := ite_true' hM h38
              obtain ⟨v39, hv39, hM⟩ := bind_some' hM
              refine tr_sr hT hm [(3, .val (bv true)), (10, .call [] [] [iv a2.First, iv 0, iv (IntKind.i64.wrap ((a0.From.length : Int) - 1))] [] (bv v39))] [6, 8, 10, 12, 16, 176, 2007, 2009, 2011, 2013, 2017, 28001, 34001] [(6, .d (.rp 1003 0)), (8, .d (.rp 1004 0)), (10, .d (.rp 1005 0)), (12, .d (.rp 1006 0)), (16, .d (.rp 1008 0)), (176, .d (bv v39)), bxB 2007 (eXSchema.b a0), bxB 2009 (eXl39Data.b a1), bxB 2011 (eXChange.b a2), (2013, .r (.arr 1 [nilv, nilv] [])), (2017, .r (.arr 1 [.rs 14000 0 v1.length, .rs 17000 0 v2.length] [14000, 17000])), (28001, .r (.arr 1 (v1.flatMap eI.o) [])), (34001, .r (.arr 1 (v2.flatMap (eS eI).o) []))] (.cons (congrArg (fun b => bv b) h38) (cc0 ok165 (spec_l01In_c a2.First 0 (IntKind.i64.wrap ((a0.From.length : Int) - 1)) _ hv39) (by kernel_rfl) .nil)) (by kernel_rfl) (by kernel_rfl) ?_
              rcases Bool.eq_false_or_eq_true v39 with h40 | h40
              · have hM := ite_true' hM h40
                refine tr_condTe (e := v39) h40 (by kernel_rfl) ?_
                refine tr_seq ?_
                obtain ⟨y41, hy41, hM⟩ := bind_some' hM
                have hy41' := idx_some hy41
                obtain ⟨y42, hy42, hM⟩ := bind_some' hM
                have hy42' := idx_some hy42
                obtain ⟨v43, hv43, hM⟩ := bind_some' hM
                rcases Bool.eq_false_or_eq_true v43 with h44 | h44
                · have hM := ite_true' hM h44
                  obtain ⟨y45, hy45, hM⟩ := bind_some' hM
                  have hy45' := idx_some hy45
                  obtain ⟨y46, hy46, hM⟩ := bind_some' hM
                  have hy46' := idx_some hy46
                  obtain ⟨v47, hv47, hM⟩ := bind_some' hM
                  refine tr_sr hT hm [(9, .val (iv y41)), (11, .val (iv y42)), (13, .call [] [] [iv a2.Second, iv 0, iv (IntKind.i64.wrap (y42 - 1))] [] (bv v43)), (15, .val (bv false)), (25, .val (iv y45)), (27, .val (iv y46)), (29, .call [] [] [iv a2.Third, iv 0, iv (IntKind.i64.wrap (y46 - 1))] [] (bv v47))] [10, 12, 16, 264, 2011, 2013, 2017, 28001, 34001] [(10, .d (.rp 1005 0)), (12, .d (.rp 1006 0)), (16, .d (.rp 1008 0)), (264, .d (bv (!v47))), bxB 2011 (eXChange.b a2), (2013, .r (.arr 1 [nilv, nilv] [])), (2017, .r (.arr 1 [.rs 14000 0 v1.length, .rs 17000 0 v2.length] [14000, 17000])), (28001, .r (.arr 1 (v1.flatMap eI.o) [])), (34001, .r (.arr 1 (v2.flatMap (eS eI).o) []))] (.cons hy41'.1 (.cons hy41'.2.1 (.cons (at_b0 eI_ok hy41'.2.2 (d := iv y41) (by kernel_rfl)) (.cons hy42'.1 (.cons hy42'.2.1 (.cons (at_b0 eI_ok hy42'.2.2 (d := iv y42) (by kernel_rfl)) (cc0 ok165 (spec_l01In_c a2.Second 0 (IntKind.i64.wrap (y42 - 1)) _ hv43) (by kernel_rfl) (.cons (congrArg (fun b => bv b) (congrArg not h44)) (.cons hy45'.1 (.cons hy45'.2.1 (.cons (at_b0 eI_ok hy45'.2.2 (d := iv y45) (by kernel_rfl)) (.cons hy46'.1 (.cons hy46'.2.1 (.cons (at_b0 eI_ok hy46'.2.2 (d := iv y46) (by kernel_rfl)) (cc0 ok165 (spec_l01In_c a2.Third 0 (IntKind.i64.wrap (y46 - 1)) _ hv47) (by kernel_rfl) .nil))))))))))))))) (by kernel_rfl) (by kernel_rfl) ?_
                  rcases Bool.eq_false_or_eq_true v47 with h48 | h48
                  · have hM := ite_true' hM h48
                    refine tr_condFe (e := !v47) (congrArg not h48) (by kernel_rfl) ?_
                    refine tr_skip (q_n ?_)
                    obtain ⟨y49, hy49, hM⟩ := bind_some' hM
                    have hy49' := idx_some hy49
                    refine Tr.by (imp_rowOut (r := 17000) (q := 700027) (i := a2.First) (xs := v2) (e := eI) (eS_ok eI_ok) hy49'.2.2 (by kernel_rfl) (by kernel_rfl)) ?_
                    obtain ⟨y50, hy50, hM⟩ := bind_some' hM
                    have hy50' := idx_some hy50
                    refine tr_sr hT hm [(5, .val (.rs 700027 0 y49.length))] [12, 16, 2013, 2017, 28001, 34001, 1400055] [(12, .d (.rp 1006 0)), (16, .d (.rp 1008 0)), (2013, .r (.arr 1 [nilv, nilv] [])), (2017, .r (.arr 1 [.rs 14000 0 v1.length, .rs 17000 0 v2.length] [14000, 17000])), (28001, .r (.arr 1 (v1.flatMap eI.o) [])), (34001, .r (.arr 1 ((v2.flatMap (eS eI).o).set (0 + a2.First.toNat * 1) (.rs 700027 0 y49.length)) [700027])), (1400055, .r (.arr 1 ((y49.flatMap eI.o).take (0 + a2.Second.toNat * 1) ++ [iv a2.Third] ++ (y49.flatMap eI.o).drop (0 + a2.Second.toNat * 1 + 1)) []))] (.cons hy49'.1 (.cons hy49'.2.1 (.cons (set_at (d := .rs 700027 0 y49.length) (lt_flat (eS_ok eI_ok) (by kernel_rfl) hy49'.2.2)) (.cons hy50'.1 (.cons hy50'.2.1 (.cons (store_le eI_ok hy50'.2.2) .nil)))))) (by kernel_rfl) (by kernel_rfl) ?_
                    refine Tr.by (imp_cvE (r := 700027) (sz := 1) (refs := []) (set_flat eI_ok.lenO (y := a2.Third) hy50'.2.2) (menO_flat eI_ok _) (by kernel_rfl)) ?_
                    refine Tr.by (imp_rowBack (r := 17000) (q := 700027) (n := y49.length) (i := a2.First) (xs := v2) (e := eI) (x' := (y49.set a2.Second.toNat a2.Third)) eI_ok hy49'.2.2 List.length_set.symm (by kernel_rfl) (by kernel_rfl) (by kernel_rfl)) ?_
                    refine Tr.by (imp_cvB (r := 1008) (sz := 1) (cells := [.rs 14000 0 v1.length, .rs 17000 0 v2.length]) (cells' := [.rs 14000 0 v1.length, .rs 17000 0 ((v2.set a2.First.toNat (y49.set a2.Second.toNat a2.Third)).length)]) (refs := [14000, 17000]) (refs' := [14000, 17000]) (.cons (.refl _) (.cons (Sub.of_eq (congrArg (D.rs 17000 0) (List.length_set.symm : v2.length = (v2.set a2.First.toNat (y49.set a2.Second.toNat a2.Third)).length))) .nil)) (by kernel_rfl) (by kernel_rfl) (by kernel_rfl)) ?_
                    refine tr_sr hT hm [] [12, 14, 2013, 28001, 34001] [(12, .d (.rp 1006 0)), (14, .d (bv true)), (2013, .r (.arr 1 [.rs 14000 0 v1.length, .rs 17000 0 ((v2.set a2.First.toNat (y49.set a2.Second.toNat a2.Third)).length)] [14000, 17000])), (28001, .r (.arr 1 (v1.flatMap eI.o) [])), (34001, .r (.arr 1 ((v2.set a2.First.toNat (y49.set a2.Second.toNat a2.Third)).flatMap (eS eI).o) []))] (.cons (Nat.le_of_ble_eq_true (n := 2) (m := 2) rfl) .nil) (by kernel_rfl) (by kernel_rfl) ?_
                    refine tr_ret (b_r (q_r (rg_r ?_)))
                    obtain rfl := Option.some.inj hM
                    exact retg (names := []) (.cons (lenO_flat eI_ok v1) (.cons (lenO_flat (eS_ok eI_ok) (v2.set a2.First.toNat (y49.set a2.Second.toNat a2.Third))) .nil)) (by kernel_rfl)
                  · have hM := ite_false' hM h48
                    refine tr_condTe (e := !v47) (congrArg not h48) (by kernel_rfl) ?_
                    refine tr_sr hT hm [] [12, 14, 2013] [(12, .d (.rp 1006 0)), (14, .d (bv false)), (2013, .r (.arr 1 [nilv, nilv] []))] (.cons (Nat.le_of_ble_eq_true (n := 2) (m := 2) rfl) .nil) (by kernel_rfl) (by kernel_rfl) ?_
                    refine tr_ret (q_r (b_r (q_r (rg_r ?_))))
                    refine RetG.by (imp_cvB (r := 1006) (sz := 1) (cells := [nilv, nilv]) (cells' := [.fr 1 ([] : List Int).length (([] : List Int).flatMap eI.o), .fr 1 ([] : List (List Int)).length (([] : List (List Int)).flatMap (eS eI).o)]) (refs := []) (refs' := []) (.cons Sub.nil_fr (.cons Sub.nil_fr .nil)) (by kernel_rfl) (by kernel_rfl) (by kernel_rfl)) ?_
                    obtain rfl := Option.some.inj hM
                    exact retg (names := []) .nil (by kernel_rfl)
                · have hM := ite_false' hM h44
                  refine tr_sr hT hm [(9, .val (iv y41)), (11, .val (iv y42)), (13, .call [] [] [iv a2.Second, iv 0, iv (IntKind.i64.wrap (y42 - 1))] [] (bv v43)), (15, .val (bv true))] [10, 12, 16, 264, 2011, 2013, 2017, 28001, 34001] [(10, .d (.rp 1005 0)), (12, .d (.rp 1006 0)), (16, .d (.rp 1008 0)), (264, .d (bv true)), bxB 2011 (eXChange.b a2), (2013, .r (.arr 1 [nilv, nilv] [])), (2017, .r (.arr 1 [.rs 14000 0 v1.length, .rs 17000 0 v2.length] [14000, 17000])), (28001, .r (.arr 1 (v1.flatMap eI.o) [])), (34001, .r (.arr 1 (v2.flatMap (eS eI).o) []))] (.cons hy41'.1 (.cons hy41'.2.1 (.cons (at_b0 eI_ok hy41'.2.2 (d := iv y41) (by kernel_rfl)) (.cons hy42'.1 (.cons hy42'.2.1 (.cons (at_b0 eI_ok hy42'.2.2 (d := iv y42) (by kernel_rfl)) (cc0 ok165 (spec_l01In_c a2.Second 0 (IntKind.i64.wrap (y42 - 1)) _ hv43) (by kernel_rfl) (.cons (congrArg (fun b => bv b) (congrArg not h44)) .nil)))))))) (by kernel_rfl) (by kernel_rfl) ?_
                  refine tr_condT (by kernel_rfl) ?_
                  refine tr_sr hT hm [] [12, 14, 2013] [(12, .d (.rp 1006 0)), (14, .d (bv false)), (2013, .r (.arr 1 [nilv, nilv] []))] (.cons (Nat.le_of_ble_eq_true (n := 2) (m := 2) rfl) .nil) (by kernel_rfl) (by kernel_rfl) ?_
                  refine tr_ret (q_r (b_r (q_r (rg_r ?_))))
                  refine RetG.by (imp_cvB (r := 1006) (sz := 1) (cells := [nilv, nilv]) (cells' := [.fr 1 ([] : List Int).length (([] : List Int).flatMap eI.o), .fr 1 ([] : List (List Int)).length (([] : List (List Int)).flatMap (eS eI).o)]) (refs := []) (refs' := []) (.cons Sub.nil_fr (.cons Sub.nil_fr .nil)) (by kernel_rfl) (by kernel_rfl) (by kernel_rfl)) ?_
                  obtain rfl := Option.some.inj hM
                  exact retg (names := []) .nil (by kernel_rfl)
              · have hM := ite_false' hM h40
                refine tr_condFe (e := v39) h40 (by kernel_rfl) ?_
                refine tr_skip (b_n (q_n ?_))
                exact tr_start (ks := [12, 2013]) (by kernel_rfl) (K5 () hM)
            · have hM := ite_false' hM h38
              refine tr_sr hT hm [(3, .val (bv false))] [6, 8, 10, 12, 16, 176, 2007, 2009, 2011, 2013, 2017, 28001, 34001] [(6, .d (.rp 1003 0)), (8, .d (.rp 1004 0)), (10, .d (.rp 1005 0)), (12, .d (.rp 1006 0)), (16, .d (.rp 1008 0)), (176, .d (bv false)), bxB 2007 (eXSchema.b a0), bxB 2009 (eXl39Data.b a1), bxB 2011 (eXChange.b a2), (2013, .r (.arr 1 [nilv, nilv] [])), (2017, .r (.arr 1 [.rs 14000 0 v1.length, .rs 17000 0 v2.length] [14000, 17000])), (28001, .r (.arr 1 (v1.flatMap eI.o) [])), (34001, .r (.arr 1 (v2.flatMap (eS eI).o) []))] (.cons (congrArg (fun b => bv b) h38) .nil) (by kernel_rfl) (by kernel_rfl) ?_
              refine tr_condF (by kernel_rfl) ?_
              refine tr_skip (b_n (q_n ?_))
              exact tr_start (ks := [12, 2013]) (by kernel_rfl) (K5 () hM)
        · have hM := ite_false' hM h8
          refine tr_sr hT hm [(3, .val (bv true)), (8, .val (bv true)), (13, .val (bv false))] [6, 8, 10, 12, 16, 34, 2007, 2009, 2011, 2013, 2017, 28001, 34001] [(6, .d (.rp 1003 0)), (8, .d (.rp 1004 0)), (10, .d (.rp 1005 0)), (12, .d (.rp 1006 0)), (16, .d (.rp 1008 0)), (34, .d (bv false)), bxB 2007 (eXSchema.b a0), bxB 2009 (eXl39Data.b a1), bxB 2011 (eXChange.b a2), (2013, .r (.arr 1 [nilv, nilv] [])), (2017, .r (.arr 1 [.rs 14000 0 v1.length, .rs 17000 0 v2.length] [14000, 17000])), (28001, .r (.arr 1 (v1.flatMap eI.o) [])), (34001, .r (.arr 1 (v2.flatMap (eS eI).o) []))] (.cons (congrArg (fun b => bv b) h6) (.cons (congrArg (fun b => bv b) h7) (.cons (congrArg (fun b => bv b) h8) .nil))) (by kernel_rfl) (by kernel_rfl) ?_
          refine tr_condF (by kernel_rfl) ?_
          rcases Bool.eq_false_or_eq_true (a2.Kind == 2) with h51 | h51
          · have hM := ite_true' hM h51
            obtain ⟨v52, hv52, hM⟩ := bind_some' hM
            refine tr_sr hT hm [(3, .val (bv true)), (10, .call [] [] [iv a2.First, iv 0, iv (IntKind.i64.wrap ((a0.From.length : Int) - 1))] [] (bv v52))] [6, 8, 10, 12, 16, 176, 2007, 2009, 2011, 2013, 2017, 28001, 34001] [(6, .d (.rp 1003 0)), (8, .d (.rp 1004 0)), (10, .d (.rp 1005 0)), (12, .d (.rp 1006 0)), (16, .d (.rp 1008 0)), (176, .d (bv v52)), bxB 2007 (eXSchema.b a0), bxB 2009 (eXl39Data.b a1), bxB 2011 (eXChange.b a2), (2013, .r (.arr 1 [nilv, nilv] [])), (2017, .r (.arr 1 [.rs 14000 0 v1.length, .rs 17000 0 v2.length] [14000, 17000])), (28001, .r (.arr 1 (v1.flatMap eI.o) [])), (34001, .r (.arr 1 (v2.flatMap (eS eI).o) []))] (.cons (congrArg (fun b => bv b) h51) (cc0 ok165 (spec_l01In_c a2.First 0 (IntKind.i64.wrap ((a0.From.length : Int) - 1)) _ hv52) (by kernel_rfl) .nil)) (by kernel_rfl) (by kernel_rfl) ?_
            rcases Bool.eq_false_or_eq_true v52 with h53 | h53
            · have hM := ite_true' hM h53
              refine tr_condTe (e := v52) h53 (by kernel_rfl) ?_
              refine tr_seq ?_
              obtain ⟨y54, hy54, hM⟩ := bind_some' hM
              have hy54' := idx_some hy54
              obtain ⟨y55, hy55, hM⟩ := bind_some' hM
              have hy55' := idx_some hy55
              obtain ⟨v56, hv56, hM⟩ := bind_some' hM
              rcases Bool.eq_false_or_eq_true v56 with h57 | h57
              · have hM := ite_true' hM h57
                obtain ⟨y58, hy58, hM⟩ := bind_some' hM
                have hy58' := idx_some hy58
                obtain ⟨y59, hy59, hM⟩ := bind_some' hM
                have hy59' := idx_some hy59
                obtain ⟨v60, hv60, hM⟩ := bind_some' hM
                refine tr_sr hT hm [(9, .val (iv y54)), (11, .val (iv y55)), (13, .call [] [] [iv a2.Second, iv 0, iv (IntKind.i64.wrap (y55 - 1))] [] (bv v56)), (15, .val (bv false)), (25, .val (iv y58)), (27, .val (iv y59)), (29, .call [] [] [iv a2.Third, iv 0, iv (IntKind.i64.wrap (y59 - 1))] [] (bv v60))] [10, 12, 16, 264, 2011, 2013, 2017, 28001, 34001] [(10, .d (.rp 1005 0)), (12, .d (.rp 1006 0)), (16, .d (.rp 1008 0)), (264, .d (bv (!v60))), bxB 2011 (eXChange.b a2), (2013, .r (.arr 1 [nilv, nilv] [])), (2017, .r (.arr 1 [.rs 14000 0 v1.length, .rs 17000 0 v2.length] [14000, 17000])), (28001, .r (.arr 1 (v1.flatMap eI.o) [])), (34001, .r (.arr 1 (v2.flatMap (eS eI).o) []))] (.cons hy54'.1 (.cons hy54'.2.1 (.cons (at_b0 eI_ok hy54'.2.2 (d := iv y54) (by kernel_rfl)) (.cons hy55'.1 (.cons hy55'.2.1 (.cons (at_b0 eI_ok hy55'.2.2 (d := iv y55) (by kernel_rfl)) (cc0 ok165 (spec_l01In_c a2.Second 0 (IntKind.i64.wrap (y55 - 1)) _ hv56) (by kernel_rfl) (.cons (congrArg (fun b => bv b) (congrArg not h57)) (.cons hy58'.1 (.cons hy58'.2.1 (.cons (at_b0 eI_ok hy58'.2.2 (d := iv y58) (by kernel_rfl)) (.cons hy59'.1 (.cons hy59'.2.1 (.cons (at_b0 eI_ok hy59'.2.2 (d := iv y59) (by kernel_rfl)) (cc0 ok165 (spec_l01In_c a2.Third 0 (IntKind.i64.wrap (y59 - 1)) _ hv60) (by kernel_rfl) .nil))))))))))))))) (by kernel_rfl) (by kernel_rfl) ?_
                rcases Bool.eq_false_or_eq_true v60 with h61 | h61
                · have hM := ite_true' hM h61
                  refine tr_condFe (e := !v60) (congrArg not h61) (by kernel_rfl) ?_
                  refine tr_skip (q_n ?_)
                  obtain ⟨y62, hy62, hM⟩ := bind_some' hM
                  have hy62' := idx_some hy62
                  refine Tr.by (imp_rowOut (r := 17000) (q := 700028) (i := a2.First) (xs := v2) (e := eI) (eS_ok eI_ok) hy62'.2.2 (by kernel_rfl) (by kernel_rfl)) ?_
                  obtain ⟨y63, hy63, hM⟩ := bind_some' hM
                  have hy63' := idx_some hy63
                  refine tr_sr hT hm [(5, .val (.rs 700028 0 y62.length))] [12, 16, 2013, 2017, 28001, 34001, 1400057] [(12, .d (.rp 1006 0)), (16, .d (.rp 1008 0)), (2013, .r (.arr 1 [nilv, nilv] [])), (2017, .r (.arr 1 [.rs 14000 0 v1.length, .rs 17000 0 v2.length] [14000, 17000])), (28001, .r (.arr 1 (v1.flatMap eI.o) [])), (34001, .r (.arr 1 ((v2.flatMap (eS eI).o).set (0 + a2.First.toNat * 1) (.rs 700028 0 y62.length)) [700028])), (1400057, .r (.arr 1 ((y62.flatMap eI.o).take (0 + a2.Second.toNat * 1) ++ [iv a2.Third] ++ (y62.flatMap eI.o).drop (0 + a2.Second.toNat * 1 + 1)) []))] (.cons hy62'.1 (.cons hy62'.2.1 (.cons (set_at (d := .rs 700028 0 y62.length) (lt_flat (eS_ok eI_ok) (by kernel_rfl) hy62'.2.2)) (.cons hy63'.1 (.cons hy63'.2.1 (.cons (store_le eI_ok hy63'.2.2) .nil)))))) (by kernel_rfl) (by kernel_rfl) ?_
                  refine Tr.by (imp_cvE (r := 700028) (sz := 1) (refs := []) (set_flat eI_ok.lenO (y := a2.Third) hy63'.2.2) (menO_flat eI_ok _) (by kernel_rfl)) ?_
                  refine Tr.by (imp_rowBack (r := 17000) (q := 700028) (n := y62.length) (i := a2.First) (xs := v2) (e := eI) (x' := (y62.set a2.Second.toNat a2.Third)) eI_ok hy62'.2.2 List.length_set.symm (by kernel_rfl) (by kernel_rfl) (by kernel_rfl)) ?_
                  refine Tr.by (imp_cvB (r := 1008) (sz := 1) (cells := [.rs 14000 0 v1.length, .rs 17000 0 v2.length]) (cells' := [.rs 14000 0 v1.length, .rs 17000 0 ((v2.set a2.First.toNat (y62.set a2.Second.toNat a2.Third)).length)]) (refs := [14000, 17000]) (refs' := [14000, 17000]) (.cons (.refl _) (.cons (Sub.of_eq (congrArg (D.rs 17000 0) (List.length_set.symm : v2.length = (v2.set a2.First.toNat (y62.set a2.Second.toNat a2.Third)).length))) .nil)) (by kernel_rfl) (by kernel_rfl) (by kernel_rfl)) ?_
                  refine tr_sr hT hm [] [12, 14, 2013, 28001, 34001] [(12, .d (.rp 1006 0)), (14, .d (bv true)), (2013, .r (.arr 1 [.rs 14000 0 v1.length, .rs 17000 0 ((v2.set a2.First.toNat (y62.set a2.Second.toNat a2.Third)).length)] [14000, 17000])), (28001, .r (.arr 1 (v1.flatMap eI.o) [])), (34001, .r (.arr 1 ((v2.set a2.First.toNat (y62.set a2.Second.toNat a2.Third)).flatMap (eS eI).o) []))] (.cons (Nat.le_of_ble_eq_true (n := 2) (m := 2) rfl) .nil) (by kernel_rfl) (by kernel_rfl) ?_
                  refine tr_ret (b_r (q_r (rg_r ?_)))
                  obtain rfl := Option.some.inj hM
                  exact retg (names := []) (.cons (lenO_flat eI_ok v1) (.cons (lenO_flat (eS_ok eI_ok) (v2.set a2.First.toNat (y62.set a2.Second.toNat a2.Third))) .nil)) (by kernel_rfl)
                · have hM := ite_false' hM h61
                  refine tr_condTe (e := !v60) (congrArg not h61) (by kernel_rfl) ?_
                  refine tr_sr hT hm [] [12, 14, 2013] [(12, .d (.rp 1006 0)), (14, .d (bv false)), (2013, .r (.arr 1 [nilv, nilv] []))] (.cons (Nat.le_of_ble_eq_true (n := 2) (m := 2) rfl) .nil) (by kernel_rfl) (by kernel_rfl) ?_
                  refine tr_ret (q_r (b_r (q_r (rg_r ?_))))
                  refine RetG.by (imp_cvB (r := 1006) (sz := 1) (cells := [nilv, nilv]) (cells' := [.fr 1 ([] : List Int).length (([] : List Int).flatMap eI.o), .fr 1 ([] : List (List Int)).length (([] : List (List Int)).flatMap (eS eI).o)]) (refs := []) (refs' := []) (.cons Sub.nil_fr (.cons Sub.nil_fr .nil)) (by kernel_rfl) (by kernel_rfl) (by kernel_rfl)) ?_
                  obtain rfl := Option.some.inj hM
                  exact retg (names := []) .nil (by kernel_rfl)
              · have hM := ite_false' hM h57
                refine tr_sr hT hm [(9, .val (iv y54)), (11, .val (iv y55)), (13, .call [] [] [iv a2.Second, iv 0, iv (IntKind.i64.wrap (y55 - 1))] [] (bv v56)), (15, .val (bv true))] [10, 12, 16, 264, 2011, 2013, 2017, 28001, 34001] [(10, .d (.rp 1005 0)), (12, .d (.rp 1006 0)), (16, .d (.rp 1008 0)), (264, .d (bv true)), bxB 2011 (eXChange.b a2), (2013, .r (.arr 1 [nilv, nilv] [])), (2017, .r (.arr 1 [.rs 14000 0 v1.length, .rs 17000 0 v2.length] [14000, 17000])), (28001, .r (.arr 1 (v1.flatMap eI.o) [])), (34001, .r (.arr 1 (v2.flatMap (eS eI).o) []))] (.cons hy54'.1 (.cons hy54'.2.1 (.cons (at_b0 eI_ok hy54'.2.2 (d := iv y54) (by kernel_rfl)) (.cons hy55'.1 (.cons hy55'.2.1 (.cons (at_b0 eI_ok hy55'.2.2 (d := iv y55) (by kernel_rfl)) (cc0 ok165 (spec_l01In_c a2.Second 0 (IntKind.i64.wrap (y55 - 1)) _ hv56) (by kernel_rfl) (.cons (congrArg (fun b => bv b) (congrArg not h57)) .nil)))))))) (by kernel_rfl) (by kernel_rfl) ?_
                refine tr_condT (by kernel_rfl) ?_
                refine tr_sr hT hm [] [12, 14, 2013] [(12, .d (.rp 1006 0)), (14, .d (bv false)), (2013, .r (.arr 1 [nilv, nilv] []))] (.cons (Nat.le_of_ble_eq_true (n := 2) (m := 2) rfl) .nil) (by kernel_rfl) (by kernel_rfl) ?_
                refine tr_ret (q_r (b_r (q_r (rg_r ?_))))
                refine RetG.by (imp_cvB (r := 1006) (sz := 1) (cells := [nilv, nilv]) (cells' := [.fr 1 ([] : List Int).length (([] : List Int).flatMap eI.o), .fr 1 ([] : List (List Int)).length (([] : List (List Int)).flatMap (eS eI).o)]) (refs := []) (refs' := []) (.cons Sub.nil_fr (.cons Sub.nil_fr .nil)) (by kernel_rfl) (by kernel_rfl) (by kernel_rfl)) ?_
                obtain rfl := Option.some.inj hM
                exact retg (names := []) .nil (by kernel_rfl)
            · have hM := ite_false' hM h53
              refine tr_condFe (e := v52) h53 (by kernel_rfl) ?_
              refine tr_skip (b_n (q_n ?_))
              exact tr_start (ks := [12, 2013]) (by kernel_rfl) (K5 () hM)
          · have hM := ite_false' hM h51
            refine tr_sr hT hm [(3, .val (bv false))] [6, 8, 10, 12, 16, 176, 2007, 2009, 2011, 2013, 2017, 28001, 34001] [(6, .d (.rp 1003 0)), (8, .d (.rp 1004 0)), (10, .d (.rp 1005 0)), (12, .d (.rp 1006 0)), (16, .d (.rp 1008 0)), (176, .d (bv false)), bxB 2007 (eXSchema.b a0), bxB 2009 (eXl39Data.b a1), bxB 2011 (eXChange.b a2), (2013, .r (.arr 1 [nilv, nilv] [])), (2017, .r (.arr 1 [.rs 14000 0 v1.length, .rs 17000 0 v2.length] [14000, 17000])), (28001, .r (.arr 1 (v1.flatMap eI.o) [])), (34001, .r (.arr 1 (v2.flatMap (eS eI).o) []))] (.cons (congrArg (fun b => bv b) h51) .nil) (by kernel_rfl) (by kernel_rfl) ?_
            refine tr_condF (by kernel_rfl) ?_
            refine tr_skip (b_n (q_n ?_))
            exact tr_start (ks := [12, 2013]) (by kernel_rfl) (K5 () hM)
      · have hM := ite_false' hM h7
        refine tr_sr hT hm [(3, .val (bv true)), (8, .val (bv false))] [6, 8, 10, 12, 16, 34, 2007, 2009, 2011, 2013, 2017, 28001, 34001] [(6, .d (.rp 1003 0)), (8, .d (.rp 1004 0)), (10, .d (.rp 1005 0)), (12, .d (.rp 1006 0)), (16, .d (.rp 1008 0)), (34, .d (bv false)), bxB 2007 (eXSchema.b a0), bxB 2009 (eXl39Data.b a1), bxB 2011 (eXChange.b a2), (2013, .r (.arr 1 [nilv, nilv] [])), (2017, .r (.arr 1 [.rs 14000 0 v1.length, .rs 17000 0 v2.length] [14000, 17000])), (28001, .r (.arr 1 (v1.flatMap eI.o) [])), (34001, .r (.arr 1 (v2.flatMap (eS eI).o) []))] (.cons (congrArg (fun b => bv b) h6) (.cons (congrArg (fun b => bv b) h7) .nil)) (by kernel_rfl) (by kernel_rfl) ?_
        refine tr_condF (by kernel_rfl) ?_
        rcases Bool.eq_false_or_eq_true (a2.Kind == 2) with h64 | h64
        · have hM := ite_true' hM h64
          obtain ⟨v65, hv65, hM⟩ := bind_some' hM
          refine tr_sr hT hm [(3, .val (bv true)), (10, .call [] [] [iv a2.First, iv 0, iv (IntKind.i64.wrap ((a0.From.length : Int) - 1))] [] (bv v65))] [6, 8, 10, 12, 16, 176, 2007, 2009, 2011, 2013, 2017, 28001, 34001] [(6, .d (.rp 1003 0)), (8, .d (.rp 1004 0)), (10, .d (.rp 1005 0)), (12, .d (.rp 1006 0)), (16, .d (.rp 1008 0)), (176, .d (bv v65)), bxB 2007 (eXSchema.b a0), bxB 2009 (eXl39Data.b a1), bxB 2011 (eXChange.b a2), (2013, .r (.arr 1 [nilv, nilv] [])), (2017, .r (.arr 1 [.rs 14000 0 v1.length, .rs 17000 0 v2.length] [14000, 17000])), (28001, .r (.arr 1 (v1.flatMap eI.o) [])), (34001, .r (.arr 1 (v2.flatMap (eS eI).o) []))] (.cons (congrArg (fun b => bv b) h64) (cc0 ok165 (spec_l01In_c a2.First 0 (IntKind.i64.wrap ((a0.From.length : Int) - 1)) _ hv65) (by kernel_rfl) .nil)) (by kernel_rfl) (by kernel_rfl) ?_
          rcases Bool.eq_false_or_eq_true v65 with h66 | h66
          · have hM := ite_true' hM h66
            refine tr_condTe (e := v65) h66 (by kernel_rfl) ?_
            refine tr_seq ?_
            obtain ⟨y67, hy67, hM⟩ := bind_some' hM
            have hy67' := idx_some hy67
            obtain ⟨y68, hy68, hM⟩ := bind_some' hM
            have hy68' := idx_some hy68
            obtain ⟨v69, hv69, hM⟩ := bind_some' hM
            rcases Bool.eq_false_or_eq_true v69 with h70 | h70
            · have hM := ite_true' hM h70
              obtain ⟨y71, hy71, hM⟩ := bind_some' hM
              have hy71' := idx_some hy71
              obtain ⟨y72, hy72, hM⟩ := bind_some' hM
              have hy72' := idx_some hy72
              obtain ⟨v73, hv73, hM⟩ := bind_some' hM
              refine tr_sr hT hm [(9, .val (iv y67)), (11, .val (iv y68)), (13, .call [] [] [iv a2.Second, iv 0, iv (IntKind.i64.wrap (y68 - 1))] [] (bv v69)), (15, .val (bv false)), (25, .val (iv y71)), (27, .val (iv y72)), (29, .call [] [] [iv a2.Third, iv 0, iv (IntKind.i64.wrap (y72 - 1))] [] (bv v73))] [10, 12, 16, 264, 2011, 2013, 2017, 28001, 34001] [(10, .d (.rp 1005 0)), (12, .d (.rp 1006 0)), (16, .d (.rp 1008 0)), (264, .d (bv (!v73))), bxB 2011 (eXChange.b a2), (2013, .r (.arr 1 [nilv, nilv] [])), (2017, .r (.arr 1 [.rs 14000 0 v1.length, .rs 17000 0 v2.length] [14000, 17000])), (28001, .r (.arr 1 (v1.flatMap eI.o) [])), (34001, .r (.arr 1 (v2.flatMap (eS eI).o) []))] (.cons hy67'.1 (.cons hy67'.2.1 (.cons (at_b0 eI_ok hy67'.2.2 (d := iv y67) (by kernel_rfl)) (.cons hy68'.1 (.cons hy68'.2.1 (.cons (at_b0 eI_ok hy68'.2.2 (d := iv y68) (by kernel_rfl)) (cc0 ok165 (spec_l01In_c a2.Second 0 (IntKind.i64.wrap (y68 - 1)) _ hv69) (by kernel_rfl) (.cons (congrArg (fun b => bv b) (congrArg not h70)) (.cons hy71'.1 (.cons hy71'.2.1 (.cons (at_b0 eI_ok hy71'.2.2 (d := iv y71) (by kernel_rfl)) (.cons hy72'.1 (.cons hy72'.2.1 (.cons (at_b0 eI_ok hy72'.2.2 (d := iv y72) (by kernel_rfl)) (cc0 ok165 (spec_l01In_c a2.Third 0 (IntKind.i64.wrap (y72 - 1)) _ hv73) (by kernel_rfl) .nil))))))))))))))) (by kernel_rfl) (by kernel_rfl) ?_
              rcases Bool.eq_false_or_eq_true v73 with h74 | h74
              · have hM := ite_true' hM h74
                refine tr_condFe (e := !v73) (congrArg not h74) (by kernel_rfl) ?_
                refine tr_skip (q_n ?_)
                obtain ⟨y75, hy75, hM⟩ := bind_some' hM
                have hy75' := idx_some hy75
                refine Tr.by (imp_rowOut (r := 17000) (q := 700029) (i := a2.First) (xs := v2) (e := eI) (eS_ok eI_ok) hy75'.2.2 (by kernel_rfl) (by kernel_rfl)) ?_
                obtain ⟨y76, hy76, hM⟩ := bind_some' hM
                have hy76' := idx_some hy76
                refine tr_sr hT hm [(5, .val (.rs 700029 0 y75.length))] [12, 16, 2013, 2017, 28001, 34001, 1400059] [(12, .d (.rp 1006 0)), (16, .d (.rp 1008 0)), (2013, .r (.arr 1 [nilv, nilv] [])), (2017, .r (.arr 1 [.rs 14000 0 v1.length, .rs 17000 0 v2.length] [14000, 17000])), (28001, .r (.arr 1 (v1.flatMap eI.o) [])), (34001, .r (.arr 1 ((v2.flatMap (eS eI).o).set (0 + a2.First.toNat * 1) (.rs 700029 0 y75.length)) [700029])), (1400059, .r (.arr 1 ((y75.flatMap eI.o).take (0 + a2.Second.toNat * 1) ++ [iv a2.Third] ++ (y75.flatMap eI.o).drop (0 + a2.Second.toNat * 1 + 1)) []))] (.cons hy75'.1 (.cons hy75'.2.1 (.cons (set_at (d := .rs 700029 0 y75.length) (lt_flat (eS_ok eI_ok) (by kernel_rfl) hy75'.2.2)) (.cons hy76'.1 (.cons hy76'.2.1 (.cons (store_le eI_ok hy76'.2.2) .nil)))))) (by kernel_rfl) (by kernel_rfl) ?_
                refine Tr.by (imp_cvE (r := 700029) (sz := 1) (refs := []) (set_flat eI_ok.lenO (y := a2.Third) hy76'.2.2) (menO_flat eI_ok _) (by kernel_rfl)) ?_
                refine Tr.by (imp_rowBack (r := 17000) (q := 700029) (n := y75.length) (i := a2.First) (xs := v2) (e := eI) (x' := (y75.set a2.Second.toNat a2.Third)) eI_ok hy75'.2.2 List.length_set.symm (by kernel_rfl) (by kernel_rfl) (by kernel_rfl)) ?_
                refine Tr.by (imp_cvB (r := 1008) (sz := 1) (cells := [.rs 14000 0 v1.length, .rs 17000 0 v2.length]) (cells' := [.rs 14000 0 v1.length, .rs 17000 0 ((v2.set a2.First.toNat (y75.set a2.Second.toNat a2.Third)).length)]) (refs := [14000, 17000]) (refs' := [14000, 17000]) (.cons (.refl _) (.cons (Sub.of_eq (congrArg (D.rs 17000 0) (List.length_set.symm : v2.length = (v2.set a2.First.toNat (y75.set a2.Second.toNat a2.Third)).length))) .nil)) (by kernel_rfl) (by kernel_rfl) (by kernel_rfl)) ?_
                refine tr_sr hT hm [] [12, 14, 2013, 28001, 34001] [(12, .d (.rp 1006 0)), (14, .d (bv true)), (2013, .r (.arr 1 [.rs 14000 0 v1.length, .rs 17000 0 ((v2.set a2.First.toNat (y75.set a2.Second.toNat a2.Third)).length)] [14000, 17000])), (28001, .r (.arr 1 (v1.flatMap eI.o) [])), (34001, .r (.arr 1 ((v2.set a2.First.toNat (y75.set a2.Second.toNat a2.Third)).flatMap (eS eI).o) []))] (.cons (Nat.le_of_ble_eq_true (n := 2) (m := 2) rfl) .nil) (by kernel_rfl) (by kernel_rfl) ?_
                refine tr_ret (b_r (q_r (rg_r ?_)))
                obtain rfl := Option.some.inj hM
                exact retg (names := []) (.cons (lenO_flat eI_ok v1) (.cons (lenO_flat (eS_ok eI_ok) (v2.set a2.First.toNat (y75.set a2.Second.toNat a2.Third))) .nil)) (by kernel_rfl)
              · have hM := ite_false' hM h74
                refine tr_condTe (e := !v73) (congrArg not h74) (by kernel_rfl) ?_
                refine tr_sr hT hm [] [12, 14, 2013] [(12, .d (.rp 1006 0)), (14, .d (bv false)), (2013, .r (.arr 1 [nilv, nilv] []))] (.cons (Nat.le_of_ble_eq_true (n := 2) (m := 2) rfl) .nil) (by kernel_rfl) (by kernel_rfl) ?_
                refine tr_ret (q_r (b_r (q_r (rg_r ?_))))
                refine RetG.by (imp_cvB (r := 1006) (sz := 1) (cells := [nilv, nilv]) (cells' := [.fr 1 ([] : List Int).length (([] : List Int).flatMap eI.o), .fr 1 ([] : List (List Int)).length (([] : List (List Int)).flatMap (eS eI).o)]) (refs := []) (refs' := []) (.cons Sub.nil_fr (.cons Sub.nil_fr .nil)) (by kernel_rfl) (by kernel_rfl) (by kernel_rfl)) ?_
                obtain rfl := Option.some.inj hM
                exact retg (names := []) .nil (by kernel_rfl)
            · have hM := ite_false' hM h70
              refine tr_sr hT hm [(9, .val (iv y67)), (11, .val (iv y68)), (13, .call [] [] [iv a2.Second, iv 0, iv (IntKind.i64.wrap (y68 - 1))] [] (bv v69)), (15, .val (bv true))] [10, 12, 16, 264, 2011, 2013, 2017, 28001, 34001] [(10, .d (.rp 1005 0)), (12, .d (.rp 1006 0)), (16, .d (.rp 1008 0)), (264, .d (bv true)), bxB 2011 (eXChange.b a2), (2013, .r (.arr 1 [nilv, nilv] [])), (2017, .r (.arr 1 [.rs 14000 0 v1.length, .rs 17000 0 v2.length] [14000, 17000])), (28001, .r (.arr 1 (v1.flatMap eI.o) [])), (34001, .r (.arr 1 (v2.flatMap (eS eI).o) []))] (.cons hy67'.1 (.cons hy67'.2.1 (.cons (at_b0 eI_ok hy67'.2.2 (d := iv y67) (by kernel_rfl)) (.cons hy68'.1 (.cons hy68'.2.1 (.cons (at_b0 eI_ok hy68'.2.2 (d := iv y68) (by kernel_rfl)) (cc0 ok165 (spec_l01In_c a2.Second 0 (IntKind.i64.wrap (y68 - 1)) _ hv69) (by kernel_rfl) (.cons (congrArg (fun b => bv b) (congrArg not h70)) .nil)))))))) (by kernel_rfl) (by kernel_rfl) ?_
              refine tr_condT (by kernel_rfl) ?_
              refine tr_sr hT hm [] [12, 14, 2013] [(12, .d (.rp 1006 0)), (14, .d (bv false)), (2013, .r (.arr 1 [nilv, nilv] []))] (.cons (Nat.le_of_ble_eq_true (n := 2) (m := 2) rfl) .nil) (by kernel_rfl) (by kernel_rfl) ?_
              refine tr_ret (q_r (b_r (q_r (rg_r ?_))))
              refine RetG.by (imp_cvB (r := 1006) (sz := 1) (cells := [nilv, nilv]) (cells' := [.fr 1 ([] : List Int).length (([] : List Int).flatMap eI.o), .fr 1 ([] : List (List Int)).length (([] : List (List Int)).flatMap (eS eI).o)]) (refs := []) (refs' := []) (.cons Sub.nil_fr (.cons Sub.nil_fr .nil)) (by kernel_rfl) (by kernel_rfl) (by kernel_rfl)) ?_
              obtain rfl := Option.some.inj hM
              exact retg (names := []) .nil (by kernel_rfl)
          · have hM := ite_false' hM h66
            refine tr_condFe (e := v65) h66 (by kernel_rfl) ?_
            refine tr_skip (b_n (q_n ?_))
            exact tr_start (ks := [12, 2013]) (by kernel_rfl) (K5 () hM)
        · have hM := ite_false' hM h64
          refine tr_sr hT hm [(3, .val (bv false))] [6, 8, 10, 12, 16, 176, 2007, 2009, 2011, 2013, 2017, 28001, 34001] [(6, .d (.rp 1003 0)), (8, .d (.rp 1004 0)), (10, .d (.rp 1005 0)), (12, .d (.rp 1006 0)), (16, .d (.rp 1008 0)), (176, .d (bv false)), bxB 2007 (eXSchema.b a0), bxB 2009 (eXl39Data.b a1), bxB 2011 (eXChange.b a2), (2013, .r (.arr 1 [nilv, nilv] [])), (2017, .r (.arr 1 [.rs 14000 0 v1.length, .rs 17000 0 v2.length] [14000, 17000])), (28001, .r (.arr 1 (v1.flatMap eI.o) [])), (34001, .r (.arr 1 (v2.flatMap (eS eI).o) []))] (.cons (congrArg (fun b => bv b) h64) .nil) (by kernel_rfl) (by kernel_rfl) ?_
          refine tr_condF (by kernel_rfl) ?_
          refine tr_skip (b_n (q_n ?_))
          exact tr_start (ks := [12, 2013]) (by kernel_rfl) (K5 () hM)
    · have hM := ite_false' hM h6
      refine tr_sr hT hm [(3, .val (bv false))] [6, 8, 10, 12, 16, 34, 2007, 2009, 2011, 2013, 2017, 28001, 34001] [(6, .d (.rp 1003 0)), (8, .d (.rp 1004 0)), (10, .d (.rp 1005 0)), (12, .d (.rp 1006 0)), (16, .d (.rp 1008 0)), (34, .d (bv false)), bxB 2007 (eXSchema.b a0), bxB 2009 (eXl39Data.b a1), bxB 2011 (eXChange.b a2), (2013, .r (.arr 1 [nilv, nilv] [])), (2017, .r (.arr 1 [.rs 14000 0 v1.length, .rs 17000 0 v2.length] [14000, 17000])), (28001, .r (.arr 1 (v1.flatMap eI.o) [])), (34001, .r (.arr 1 (v2.flatMap (eS eI).o) []))] (.cons (congrArg (fun b => bv b) h6) .nil) (by kernel_rfl) (by kernel_rfl) ?_
      refine tr_condF (by kernel_rfl) ?_
      rcases Bool.eq_false_or_eq_true (a2.Kind == 2) with h77 | h77
      · have hM := ite_true' hM h77
        obtain ⟨v78, hv78, hM⟩ := bind_some' hM
        refine tr_sr hT hm [(3, .val (bv true)), (10, .call [] [] [iv a2.First, iv 0, iv (IntKind.i64.wrap ((a0.From.length : Int) - 1))] [] (bv v78))] [6, 8, 10, 12, 16, 176, 2007, 2009, 2011, 2013, 2017, 28001, 34001] [(6, .d (.rp 1003 0)), (8, .d (.rp 1004 0)), (10, .d (.rp 1005 0)), (12, .d (.rp 1006 0)), (16, .d (.rp 1008 0)), (176, .d (bv v78)), bxB 2007 (eXSchema.b a0), bxB 2009 (eXl39Data.b a1), bxB 2011 (eXChange.b a2), (2013, .r (.arr 1 [nilv, nilv] [])), (2017, .r (.arr 1 [.rs 14000 0 v1.length, .rs 17000 0 v2.length] [14000, 17000])), (28001, .r (.arr 1 (v1.flatMap eI.o) [])), (34001, .r (.arr 1 (v2.flatMap (eS eI).o) []))] (.cons (congrArg (fun b => bv b) h77) (cc0 ok165 (spec_l01In_c a2.First 0 (IntKind.i64.wrap ((a0.From.length : Int) - 1)) _ hv78) (by kernel_rfl) .nil)) (by kernel_rfl) (by kernel_rfl) ?_
        rcases Bool.eq_false_or_eq_true v78 with h79 | h79
        · have hM := ite_true' hM h79
          refine tr_condTe (e := v78) h79 (by kernel_rfl) ?_
          refine tr_seq ?_
          obtain ⟨y80, hy80, hM⟩ := bind_some' hM
          have hy80' := idx_some hy80
          obtain ⟨y81, hy81, hM⟩ := bind_some' hM
          have hy81' := idx_some hy81
          obtain ⟨v82, hv82, hM⟩ := bind_some' hM
          rcases Bool.eq_false_or_eq_true v82 with h83 | h83
          · have hM := ite_true' hM h83
            obtain ⟨y84, hy84, hM⟩ := bind_some' hM
            have hy84' := idx_some hy84
            obtain ⟨y85, hy85, hM⟩ := bind_some' hM
            have hy85' := idx_some hy85
            obtain ⟨v86, hv86, hM⟩ := bind_some' hM
            refine tr_sr hT hm [(9, .val (iv y80)), (11, .val (iv y81)), (13, .call [] [] [iv a2.Second, iv 0, iv (IntKind.i64.wrap (y81 - 1))] [] (bv v82)), (15, .val (bv false)), (25, .val (iv y84)), (27, .val (iv y85)), (29, .call [] [] [iv a2.Third, iv 0, iv (IntKind.i64.wrap (y85 - 1))] [] (bv v86))] [10, 12, 16, 264, 2011, 2013, 2017, 28001, 34001] [(10, .d (.rp 1005 0)), (12, .d (.rp 1006 0)), (16, .d (.rp 1008 0)), (264, .d (bv (!v86))), bxB 2011 (eXChange.b a2), (2013, .r (.arr 1 [nilv, nilv] [])), (2017, .r (.arr 1 [.rs 14000 0 v1.length, .rs 17000 0 v2.length] [14000, 17000])), (28001, .r (.arr 1 (v1.flatMap eI.o) [])), (34001, .r (.arr 1 (v2.flatMap (eS eI).o) []))] (.cons hy80'.1 (.cons hy80'.2.1 (.cons (at_b0 eI_ok hy80'.2.2 (d := iv y80) (by kernel_rfl)) (.cons hy81'.1 (.cons hy81'.2.1 (.cons (at_b0 eI_ok hy81'.2.2 (d := iv y81) (by kernel_rfl)) (cc0 ok165 (spec_l01In_c a2.Second 0 (IntKind.i64.wrap (y81 - 1)) _ hv82) (by kernel_rfl) (.cons (congrArg (fun b => bv b) (congrArg not h83)) (.cons hy84'.1 (.cons hy84'.2.1 (.cons (at_b0 eI_ok hy84'.2.2 (d := iv y84) (by kernel_rfl)) (.cons hy85'.1 (.cons hy85'.2.1 (.cons (at_b0 eI_ok hy85'.2.2 (d := iv y85) (by kernel_rfl)) (cc0 ok165 (spec_l01In_c a2.Third 0 (IntKind.i64.wrap (y85 - 1)) _ hv86) (by kernel_rfl) .nil))))))))))))))) (by kernel_rfl) (by kernel_rfl) ?_
            rcases Bool.eq_false_or_eq_true v86 with h87 | h87
            · have hM := ite_true' hM h87
              refine tr_condFe (e := !v86) (congrArg not h87) (by kernel_rfl) ?_
              refine tr_skip (q_n ?_)
              obtain ⟨y88, hy88, hM⟩ := bind_some' hM
              have hy88' := idx_some hy88
              refine Tr.by (imp_rowOut (r := 17000) (q := 700030) (i := a2.First) (xs := v2) (e := eI) (eS_ok eI_ok) hy88'.2.2 (by kernel_rfl) (by kernel_rfl)) ?_
              obtain ⟨y89, hy89, hM⟩ := bind_some' hM
              have hy89' := idx_some hy89
              refine tr_sr hT hm [(5, .val (.rs 700030 0 y88.length))] [12, 16, 2013, 2017, 28001, 34001, 1400061] [(12, .d (.rp 1006 0)), (16, .d (.rp 1008 0)), (2013, .r (.arr 1 [nilv, nilv] [])), (2017, .r (.arr 1 [.rs 14000 0 v1.length, .rs 17000 0 v2.length] [14000, 17000])), (28001, .r (.arr 1 (v1.flatMap eI.o) [])), (34001, .r (.arr 1 ((v2.flatMap (eS eI).o).set (0 + a2.First.toNat * 1) (.rs 700030 0 y88.length)) [700030])), (1400061, .r (.arr 1 ((y88.flatMap eI.o).take (0 + a2.Second.toNat * 1) ++ [iv a2.Third] ++ (y88.flatMap eI.o).drop (0 + a2.Second.toNat * 1 + 1)) []))] (.cons hy88'.1 (.cons hy88'.2.1 (.cons (set_at (d := .rs 700030 0 y88.length) (lt_flat (eS_ok eI_ok) (by kernel_rfl) hy88'.2.2)) (.cons hy89'.1 (.cons hy89'.2.1 (.cons (store_le eI_ok hy89'.2.2) .nil)))))) (by kernel_rfl) (by kernel_rfl) ?_
              refine Tr.by (imp_cvE (r := 700030) (sz := 1) (refs := []) (set_flat eI_ok.lenO (y := a2.Third) hy89'.2.2) (menO_flat eI_ok _) (by kernel_rfl)) ?_
              refine Tr.by (imp_rowBack (r := 17000) (q := 700030) (n := y88.length) (i := a2.First) (xs := v2) (e := eI) (x' := (y88.set a2.Second.toNat a2.Third)) eI_ok hy88'.2.2 List.length_set.symm (by kernel_rfl) (by kernel_rfl) (by kernel_rfl)) ?_
              refine Tr.by (imp_cvB (r := 1008) (sz := 1) (cells := [.rs 14000 0 v1.length, .rs 17000 0 v2.length]) (cells' := [.rs 14000 0 v1.length, .rs 17000 0 ((v2.set a2.First.toNat (y88.set a2.Second.toNat a2.Third)).length)]) (refs := [14000, 17000]) (refs' := [14000, 17000]) (.cons (.refl _) (.cons (Sub.of_eq (congrArg (D.rs 17000 0) (List.length_set.symm : v2.length = (v2.set a2.First.toNat (y88.set a2.Second.toNat a2.Third)).length))) .nil)) (by kernel_rfl) (by kernel_rfl) (by kernel_rfl)) ?_
              refine tr_sr hT hm [] [12, 14, 2013, 28001, 34001] [(12, .d (.rp 1006 0)), (14, .d (bv true)), (2013, .r (.arr 1 [.rs 14000 0 v1.length, .rs 17000 0 ((v2.set a2.First.toNat (y88.set a2.Second.toNat a2.Third)).length)] [14000, 17000])), (28001, .r (.arr 1 (v1.flatMap eI.o) [])), (34001, .r (.arr 1 ((v2.set a2.First.toNat (y88.set a2.Second.toNat a2.Third)).flatMap (eS eI).o) []))] (.cons (Nat.le_of_ble_eq_true (n := 2) (m := 2) rfl) .nil) (by kernel_rfl) (by kernel_rfl) ?_
              refine tr_ret (b_r (q_r (rg_r ?_)))
              obtain rfl := Option.some.inj hM
              exact retg (names := []) (.cons (lenO_flat eI_ok v1) (.cons (lenO_flat (eS_ok eI_ok) (v2.set a2.First.toNat (y88.set a2.Second.toNat a2.Third))) .nil)) (by kernel_rfl)
            · have hM := ite_false' hM h87
              refine tr_condTe (e := !v86) (congrArg not h87) (by kernel_rfl) ?_
              refine tr_sr hT hm [] [12, 14, 2013] [(12, .d (.rp 1006 0)), (14, .d (bv false)), (2013, .r (.arr 1 [nilv, nilv] []))] (.cons (Nat.le_of_ble_eq_true (n := 2) (m := 2) rfl) .nil) (by kernel_rfl) (by kernel_rfl) ?_
              refine tr_ret (q_r (b_r (q_r (rg_r ?_))))
              refine RetG.by (imp_cvB (r := 1006) (sz := 1) (cells := [nilv, nilv]) (cells' := [.fr 1 ([] : List Int).length (([] : List Int).flatMap eI.o), .fr 1 ([] : List (List Int)).length (([] : List (List Int)).flatMap (eS eI).o)]) (refs := []) (refs' := []) (.cons Sub.nil_fr (.cons Sub.nil_fr .nil)) (by kernel_rfl) (by kernel_rfl) (by kernel_rfl)) ?_
              obtain rfl := Option.some.inj hM
              exact retg (names := []) .nil (by kernel_rfl)
          · have hM := ite_false' hM h83
            refine tr_sr hT hm [(9, .val (iv y80)), (11, .val (iv y81)), (13, .call [] [] [iv a2.Second, iv 0, iv (IntKind.i64.wrap (y81 - 1))] [] (bv v82)), (15, .val (bv true))] [10, 12, 16, 264, 2011, 2013, 2017, 28001, 34001] [(10, .d (.rp 1005 0)), (12, .d (.rp 1006 0)), (16, .d (.rp 1008 0)), (264, .d (bv true)), bxB 2011 (eXChange.b a2), (2013, .r (.arr 1 [nilv, nilv] [])), (2017, .r (.arr 1 [.rs 14000 0 v1.length, .rs 17000 0 v2.length] [14000, 17000])), (28001, .r (.arr 1 (v1.flatMap eI.o) [])), (34001, .r (.arr 1 (v2.flatMap (eS eI).o) []))] (.cons hy80'.1 (.cons hy80'.2.1 (.cons (at_b0 eI_ok hy80'.2.2 (d := iv y80) (by kernel_rfl)) (.cons hy81'.1 (.cons hy81'.2.1 (.cons (at_b0 eI_ok hy81'.2.2 (d := iv y81) (by kernel_rfl)) (cc0 ok165 (spec_l01In_c a2.Second 0 (IntKind.i64.wrap (y81 - 1)) _ hv82) (by kernel_rfl) (.cons (congrArg (fun b => bv b) (congrArg not h83)) .nil)))))))) (by kernel_rfl) (by kernel_rfl) ?_
            refine tr_condT (by kernel_rfl) ?_
            refine tr_sr hT hm [] [12, 14, 2013] [(12, .d (.rp 1006 0)), (14, .d (bv false)), (2013, .r (.arr 1 [nilv, nilv] []))] (.cons (Nat.le_of_ble_eq_true (n := 2) (m := 2) rfl) .nil) (by kernel_rfl) (by kernel_rfl) ?_
            refine tr_ret (q_r (b_r (q_r (rg_r ?_))))
            refine RetG.by (imp_cvB (r := 1006) (sz := 1) (cells := [nilv, nilv]) (cells' := [.fr 1 ([] : List Int).length (([] : List Int).flatMap eI.o), .fr 1 ([] : List (List Int)).length (([] : List (List Int)).flatMap (eS eI).o)]) (refs := []) (refs' := []) (.cons Sub.nil_fr (.cons Sub.nil_fr .nil)) (by kernel_rfl) (by kernel_rfl) (by kernel_rfl)) ?_
            obtain rfl := Option.some.inj hM
            exact retg (names := []) .nil (by kernel_rfl)
        · have hM := ite_false' hM h79
          refine tr_condFe (e := v78) h79 (by kernel_rfl) ?_
          refine tr_skip (b_n (q_n ?_))
          exact tr_start (ks := [12, 2013]) (by kernel_rfl) (K5 () hM)
      · have hM := ite_false' hM h77
        refine tr_sr hT hm [(3, .val (bv false))] [6, 8, 10, 12, 16, 176, 2007, 2009, 2011, 2013, 2017, 28001, 34001] [(6, .d (.rp 1003 0)), (8, .d (.rp 1004 0)), (10, .d (.rp 1005 0)), (12, .d (.rp 1006 0)), (16, .d (.rp 1008 0)), (176, .d (bv false)), bxB 2007 (eXSchema.b a0), bxB 2009 (eXl39Data.b a1), bxB 2011 (eXChange.b a2), (2013, .r (.arr 1 [nilv, nilv] [])), (2017, .r (.arr 1 [.rs 14000 0 v1.length, .rs 17000 0 v2.length] [14000, 17000])), (28001, .r (.arr 1 (v1.flatMap eI.o) [])), (34001, .r (.arr 1 (v2.flatMap (eS eI).o) []))] (.cons (congrArg (fun b => bv b) h77) .nil) (by kernel_rfl) (by kernel_rfl) ?_
        refine tr_condF (by kernel_rfl) ?_
        refine tr_skip (b_n (q_n ?_))
        exact tr_start (ks := [12, 2013]) (by kernel_rfl) (K5 () hM)

theorem ok90 : CallOk Try.prog 90 := callOk_of Try.func90 (by kernel_rfl) (by kernel_rfl)
theorem spec_l39All_c (a0 : XSchema) (a1 : Xl39Data) (a2 : List XChange) (r : Xl39Data × Bool) (hM : M.spec_l39All a0 a1 a2 = some r) :
    FnC Try.prog 90 [] [.agg (eXSchema.b a0), .agg (eXl39Data.b a1), .sl a2.length 0 (a2.flatMap eXChange.b)] [] (.tup [.agg (eXl39Data.b r.1), bv r.2]) := by
  refine fnc_startG (N := 40) (np := 500) hT Try.func90 rfl rfl (by kernel_rfl) ?_
  unfold M.spec_l39All at hM
  refine tr_start (ks := [0, 2, 4]) (st' := [(0, .d (.agg (eXSchema.b a0))), (2, .d (.agg (eXl39Data.b a1))), (4, .d (.sl a2.length 0 (a2.flatMap eXChange.b)))]) (by kernel_rfl) ?_
  refine tr_sr hT hm [] [4, 6, 8, 12, 2007, 2009, 2013] [(4, .d (.sl a2.length 0 (a2.flatMap eXChange.b))), (6, .d (.rp 1003 0)), (8, .d (.rp 1004 0)), (12, .d (.rp 1006 0)), bxB 2007 (eXSchema.b a0), bxB 2009 (eXl39Data.b a1), (2013, .r (.arr 1 [nilv, nilv] []))] .nil (by kernel_rfl) (by kernel_rfl) ?_
  refine tr_seq ?_
  refine tr_sr hT hm [] [4, 6, 8, 12, 16, 2007, 2009, 2013] [(4, .d (.sl a2.length 0 (a2.flatMap eXChange.b))), (6, .d (.rp 1003 0)), (8, .d (.rp 1004 0)), (12, .d (.rp 1006 0)), (16, .d (iv 0)), bxB 2007 (eXSchema.b a0), bxB 2009 (eXl39Data.b a1), (2013, .r (.arr 1 [nilv, nilv] []))] .nil (by kernel_rfl) (by kernel_rfl) ?_
  refine tr_block ?_
  refine tr_iterS (fun (s1 : (List Int) × (List (List Int)) × Int) => [(4, .d (.sl a2.length 0 (a2.flatMap eXChange.b))), (6, .d (.rp 1003 0)), (8, .d (.rp 1004 0)), (12, .d (.rp 1006 0)), (16, .d (iv s1.2.2)), bxB 2007 (eXSchema.b a0), (2009, .r (.arr 1 [.sl s1.1.length 0 (s1.1.flatMap eI.b), .sl s1.2.1.length 0 (s1.2.1.flatMap (eS eI).b)] [])), (2013, .r (.arr 1 [nilv, nilv] []))]) (a1.sizes_, a1.maps_, 0) [4, 6, 8, 12, 16, 2007, 2009, 2013] (by kernel_rfl) hM ?_
  intro n4 next2 ih3 s1 hM
  refine tr_seq ?_
  refine tr_sr hT hm [] [4, 6, 8, 12, 16, 28, 2007, 2009, 2013] [(4, .d (.sl a2.length 0 (a2.flatMap eXChange.b))), (6, .d (.rp 1003 0)), (8, .d (.rp 1004 0)), (12, .d (.rp 1006 0)), (16, .d (iv s1.2.2)), (28, .d (bv (decide (s1.2.2 < (a2.length : Int))))), bxB 2007 (eXSchema.b a0), (2009, .r (.arr 1 [.sl s1.1.length 0 (s1.1.flatMap eI.b), .sl s1.2.1.length 0 (s1.2.1.flatMap (eS eI).b)] [])), (2013, .r (.arr 1 [nilv, nilv] []))] .nil (by kernel_rfl) (by kernel_rfl) ?_
  rcases Bool.eq_false_or_eq_true (decide (s1.2.2 < (a2.length : Int))) with h5 | h5
  · have hM := ite_true' hM h5
    refine tr_condTe (e := decide (s1.2.2 < (a2.length : Int))) h5 (by kernel_rfl) ?_
    refine tr_skip (q_n ?_)
    refine tr_seq ?_
    refine tr_block ?_
    obtain ⟨y6, hy6, hM⟩ := bind_some' hM
    have hy6' := idx_some hy6
    obtain ⟨v7, hv7, hM⟩ := bind_some' hM
    refine tr_sr hT hm [(5, .val (.agg [iv y6.Kind, iv y6.First, iv y6.Second, iv y6.Third])), (6, .call [] [] [.agg (eXSchema.b a0), .agg [.sl s1.1.length 0 (s1.1.flatMap eI.b), .sl s1.2.1.length 0 (s1.2.1.flatMap (eS eI).b)], .agg (eXChange.b y6)] [] (.tup [.agg (eXl39Data.o v7.1), bv v7.2]))] [4, 6, 8, 12, 16, 18, 20, 2007, 2009, 2013, 2019, 52001, 52003] ([(4, .d (.sl a2.length 0 (a2.flatMap eXChange.b))), (6, .d (.rp 1003 0)), (8, .d (.rp 1004 0)), (12, .d (.rp 1006 0)), (16, .d (iv s1.2.2)), (18, .d (.rp 1009 0)), (20, .d (bv v7.2)), bxB 2007 (eXSchema.b a0), (2009, .r (.arr 1 [.sl s1.1.length 0 (s1.1.flatMap eI.b), .sl s1.2.1.length 0 (s1.2.1.flatMap (eS eI).b)] [])), (2013, .r (.arr 1 [nilv, nilv] [])), bxO 2019 26000 (eXl39Data.o v7.1)] ++ rsS 26000 (eXl39Data.o v7.1)) (.cons hy6'.1 (.cons hy6'.2.1 (.cons (sub_b eXChange_ok hy6'.2.2) (cc0 ok169 (spec_l39Apply_c a0 (⟨s1.1, s1.2.1⟩ : Xl39Data) y6 _ hv7) (by kernel_rfl) (.cons (Nat.le_of_ble_eq_true (n := 2) (m := 2) rfl) .nil))))) (by kernel_rfl) (by kernel_rfl) ?_
    refine tr_seq ?_
    refine tr_sr hT hm [] [4, 6, 8, 12, 16, 18, 56, 2007, 2009, 2013, 2019, 52001, 52003] ([(4, .d (.sl a2.length 0 (a2.flatMap eXChange.b))), (6, .d (.rp 1003 0)), (8, .d (.rp 1004 0)), (12, .d (.rp 1006 0)), (16, .d (iv s1.2.2)), (18, .d (.rp 1009 0)), (56, .d (bv (!v7.2))), bxB 2007 (eXSchema.b a0), (2009, .r (.arr 1 [.sl s1.1.length 0 (s1.1.flatMap eI.b), .sl s1.2.1.length 0 (s1.2.1.flatMap (eS eI).b)] [])), (2013, .r (.arr 1 [nilv, nilv] [])), bxO 2019 26000 (eXl39Data.o v7.1)] ++ rsS 26000 (eXl39Data.o v7.1)) .nil (by kernel_rfl) (by kernel_rfl) ?_
    rcases Bool.eq_false_or_eq_true v7.2 with h8 | h8
    · have hM := ite_true' hM h8
      refine tr_condFe (e := !v7.2) (congrArg not h8) (by kernel_rfl) ?_
      refine tr_skip (q_n ?_)
      refine Tr.by (imp_freeze (B := [1009, 26000, 26001]) (cv := [(9, .pt (eXl39Data.b v7.1) 0)]) (.cons (by kernel_rfl) (.of1 (.rp (r := 1009) (sz := 1) (cells := [.rs 26000 0 v7.1.sizes_.length, .rs 26001 0 v7.1.maps_.length]) (refs := [26000, 26001]) (memB (by kernel_rfl)) (by kernel_rfl) (.cons (.rs (r := 26000) (sz := 1) (refs := []) (memB (by kernel_rfl)) (by kernel_rfl) (bor_flat eI_ok _ _ _)) (.cons (.rs (r := 26001) (sz := 1) (refs := []) (memB (by kernel_rfl)) (by kernel_rfl) (bor_flat (eS_ok eI_ok) _ _ _)) .nil)))) .nil)) ?_
      refine tr_r hT hm [] [4, 6, 8, 12, 16, 2007, 2009, 2013] [(4, .d (.sl a2.length 0 (a2.flatMap eXChange.b))), (6, .d (.rp 1003 0)), (8, .d (.rp 1004 0)), (12, .d (.rp 1006 0)), (16, .d (iv s1.2.2)), bxB 2007 (eXSchema.b a0), bxB 2009 (eXl39Data.b v7.1), (2013, .r (.arr 1 [nilv, nilv] []))] (.cons (Nat.le_of_ble_eq_true (n := 2) (m := 2) rfl) .nil) (by kernel_rfl) (by kernel_rfl) (b_n (q_n ?_))
      refine tr_r hT hm [] [4, 6, 8, 12, 16, 2007, 2009, 2013] [(4, .d (.sl a2.length 0 (a2.flatMap eXChange.b))), (6, .d (.rp 1003 0)), (8, .d (.rp 1004 0)), (12, .d (.rp 1006 0)), (16, .d (iv (IntKind.i64.wrap (s1.2.2 + 1)))), bxB 2007 (eXSchema.b a0), bxB 2009 (eXl39Data.b v7.1), (2013, .r (.arr 1 [nilv, nilv] []))] .nil (by kernel_rfl) (by kernel_rfl) (l_n ?_)
      exact trl_start (ks := [4, 6, 8, 12, 16, 2007, 2009, 2013]) (by kernel_rfl) (ih3 (v7.1.sizes_, v7.1.maps_, IntKind.i64.wrap (s1.2.2 + 1)) hM)
    · have hM := ite_false' hM h8
      refine tr_condTe (e := !v7.2) (congrArg not h8) (by kernel_rfl) ?_
      refine tr_sr hT hm [] [12, 14, 2013] [(12, .d (.rp 1006 0)), (14, .d (bv false)), (2013, .r (.arr 1 [nilv, nilv] []))] (.cons (Nat.le_of_ble_eq_true (n := 2) (m := 2) rfl) .nil) (by kernel_rfl) (by kernel_rfl) ?_
      refine tr_ret (q_r (b_r (q_r (l_r (b_r (q_r (rg_r ?_)))))))
      refine RetG.by (imp_cvB (r := 1006) (sz := 1) (cells := [nilv, nilv]) (cells' := [.sl ([] : List Int).length 0 (([] : List Int).flatMap eI.b), .sl ([] : List (List Int)).length 0 (([] : List (List Int)).flatMap (eS eI).b)]) (refs := []) (refs' := []) (.cons Sub.nil_sl (.cons Sub.nil_sl .nil)) (by kernel_rfl) (by kernel_rfl) (by kernel_rfl)) ?_
      obtain rfl := Option.some.inj hM
      exact retg (names := []) .nil (by kernel_rfl)
  · have hM := ite_false' hM h5
    refine tr_condFe (e := decide (s1.2.2 < (a2.length : Int))) h5 (by kernel_rfl) ?_
    refine tr_exit (q_x (l_x (b_h (q_n ?_))))
    rcases Bool.eq_false_or_eq_true (decide ((a2.length : Int) ≤ 40)) with h9 | h9
    · have hM := ite_true' hM h9
      obtain ⟨v10, hv10, hM⟩ := bind_some' hM
      refine tr_sr hT hm [(4, .val (bv true)), (7, .call [] [] [.agg (eXSchema.b a0), .agg [.sl s1.1.length 0 (s1.1.flatMap eI.b), .sl s1.2.1.length 0 (s1.2.1.flatMap (eS eI).b)]] [] (bv v10))] [12, 14, 2013] [(12, .d (.rp 1006 0)), (14, .d (bv v10)), (2013, .r (.arr 1 [.sl s1.1.length 0 (s1.1.flatMap eI.b), .sl s1.2.1.length 0 (s1.2.1.flatMap (eS eI).b)] []))] (.cons (congrArg (fun b => bv b) h9) (cc0 ok89 (spec_l39Whole_c a0 (⟨s1.1, s1.2.1⟩ : Xl39Data) _ hv10) (by kernel_rfl) (.cons (Nat.le_of_ble_eq_true (n := 2) (m := 2) rfl) .nil))) (by kernel_rfl) (by kernel_rfl) ?_
      refine tr_ret (rg_r ?_)
      obtain rfl := Option.some.inj hM
      exact retg (names := []) .nil (by kernel_rfl)
    · have hM := ite_false' hM h9
      refine tr_sr hT hm [(4, .val (bv false))] [12, 14, 2013] [(12, .d (.rp 1006 0)), (14, .d (bv false)), (2013, .r (.arr 1 [.sl s1.1.length 0 (s1.1.flatMap eI.b), .sl s1.2.1.length 0 (s1.2.1.flatMap (eS eI).b)] []))] (.cons (congrArg (fun b => bv b) h9) (.cons (Nat.le_of_ble_eq_true (n := 2) (m := 2) rfl) .nil)) (by kernel_rfl) (by kernel_rfl) ?_
      refine tr_ret (rg_r ?_)
      obtain rfl := Option.some.inj hM
      exact retg (names := []) .nil (by kernel_rfl)

theorem ok26 : CallOk Try.prog 26 := callOk_of Try.func26 (by kernel_rfl) (by kernel_rfl)
theorem spec_ApplyChanges_c (a0 : XSchema) (a1 : List Int) (a2 : List (List Int)) (a3 : List XChange) (r : (List Int) × (List (List Int)) × Int) (hM : M.spec_ApplyChanges a0 a1 a2 a3 = some r) :
    FnC Try.prog 26 [] [.agg (eXSchema.b a0), .sl a1.length 0 (a1.flatMap eI.b), .sl a2.length 0 (a2.flatMap (eS eI).b), .sl a3.length 0 (a3.flatMap eXChange.b)] [] (.tup [.fr 1 r.1.length (r.1.flatMap eI.o), .fr 1 r.2.1.length (r.2.1.flatMap (eS eI).o), iv r.2.2]) := by
  refine fnc_startG (N := 51) (np := 500) hT Try.func26 rfl rfl (by kernel_rfl) ?_
  unfold M.spec_ApplyChanges at hM
  refine tr_start (ks := [0, 2, 4, 6]) (st' := [(0, .d (.agg (eXSchema.b a0))), (2, .d (.sl a1.length 0 (a1.flatMap eI.b))), (4, .d (.sl a2.length 0 (a2.flatMap (eS eI).b))), (6, .d (.sl a3.length 0 (a3.flatMap eXChange.b)))]) (by kernel_rfl) ?_
  refine tr_sr hT hm [] [2, 4, 6, 8, 2009] [(2, .d (.sl a1.length 0 (a1.flatMap eI.b))), (4, .d (.sl a2.length 0 (a2.flatMap (eS eI).b))), (6, .d (.sl a3.length 0 (a3.flatMap eXChange.b))), (8, .d (.rp 1004 0)), bxB 2009 (eXSchema.b a0)] .nil (by kernel_rfl) (by kernel_rfl) ?_
  refine tr_seq ?_
  obtain ⟨v1, hv1, hM⟩ := bind_some' hM
  refine tr_sr hT hm [(1, .call [] [] [.agg (eXSchema.b a0)] [] (bv v1))] [2, 4, 6, 8, 32, 2009] [(2, .d (.sl a1.length 0 (a1.flatMap eI.b))), (4, .d (.sl a2.length 0 (a2.flatMap (eS eI).b))), (6, .d (.sl a3.length 0 (a3.flatMap eXChange.b))), (8, .d (.rp 1004 0)), (32, .d (bv (!v1))), bxB 2009 (eXSchema.b a0)] (cc0 ok85 (spec_IsSchema_c a0 _ hv1) (by kernel_rfl) .nil) (by kernel_rfl) (by kernel_rfl) ?_
  rcases Bool.eq_false_or_eq_true v1 with h2 | h2
  · have hM := ite_true' hM h2
    refine tr_condFe (e := !v1) (congrArg not h2) (by kernel_rfl) ?_
    refine tr_skip (q_n ?_)
    refine tr_seq ?_
    obtain ⟨v3, hv3, hM⟩ := bind_some' hM
    rcases Bool.eq_false_or_eq_true v3 with h4 | h4
    · have hM := ite_true' hM h4
      refine tr_sr hT hm [(3, .call [] [] [.agg (eXSchema.b a0), .sl a1.length 0 (a1.flatMap eI.b), .sl a2.length 0 (a2.flatMap (eS eI).b)] [] (bv v3)), (5, .val (bv false))] [2, 4, 6, 8, 52, 2009] [(2, .d (.sl a1.length 0 (a1.flatMap eI.b))), (4, .d (.sl a2.length 0 (a2.flatMap (eS eI).b))), (6, .d (.sl a3.length 0 (a3.flatMap eXChange.b))), (8, .d (.rp 1004 0)), (52, .d (bv (decide ((a3.length : Int) > 40)))), bxB 2009 (eXSchema.b a0)] (cc0 ok86 (spec_l36Data_c a0 a1 a2 _ hv3) (by kernel_rfl) (.cons (congrArg (fun b => bv b) (congrArg not h4)) .nil)) (by kernel_rfl) (by kernel_rfl) ?_
      rcases Bool.eq_false_or_eq_true (decide ((a3.length : Int) > 40)) with h5 | h5
      · have hM := ite_true' hM h5
        refine tr_condTe (e := decide ((a3.length : Int) > 40)) h5 (by kernel_rfl) ?_
        refine tr_sr hT hm [] [16, 18, 20] [(16, .d (nilv)), (18, .d (nilv)), (20, .d (iv 2))] .nil (by kernel_rfl) (by kernel_rfl) ?_
        refine tr_ret (q_r (rg_r ?_))
        refine RetG.by (imp_cvS (k := 16) (d' := .fr 1 ([] : List Int).length (([] : List Int).flatMap eI.o)) Sub.nil_fr (by kernel_rfl)) ?_
        refine RetG.by (imp_cvS (k := 18) (d' := .fr 1 ([] : List (List Int)).length (([] : List (List Int)).flatMap (eS eI).o)) Sub.nil_fr (by kernel_rfl)) ?_
        obtain rfl := Option.some.inj hM
        exact retg (names := []) .nil (by kernel_rfl)
      · have hM := ite_false' hM h5
        refine tr_condFe (e := decide ((a3.length : Int) > 40)) h5 (by kernel_rfl) ?_
        refine tr_skip (q_n ?_)
        obtain ⟨v6, hv6, hM⟩ := bind_some' hM
        obtain ⟨v7, hv7, hM⟩ := bind_some' hM
        refine tr_sr hT hm [(1, .call [] [] [.sl a1.length 0 (a1.flatMap eI.b)] [] (.fr 1 v6.length (v6.flatMap eI.o))), (3, .call [] [] [.sl a2.length 0 (a2.flatMap (eS eI).b)] [] (.fr 1 v7.length (v7.flatMap (eS eI).o)))] [6, 8, 22, 2009, 2023, 60001, 64001] [(6, .d (.sl a3.length 0 (a3.flatMap eXChange.b))), (8, .d (.rp 1004 0)), (22, .d (.rp 1011 0)), bxB 2009 (eXSchema.b a0), (2023, .r (.arr 1 [.rs 30000 0 v6.length, .rs 32000 0 v7.length] [30000, 32000])), (60001, .r (.arr 1 (v6.flatMap eI.o) [])), (64001, .r (.arr 1 (v7.flatMap (eS eI).o) []))] (cc0 ok87 (spec_l01Own_c a1 _ hv6) (by kernel_rfl) (cc0 ok88 (spec_l01Own2_c a2 _ hv7) (by kernel_rfl) (.cons (Nat.le_of_ble_eq_true (n := 2) (m := 2) rfl) .nil))) (by kernel_rfl) (by kernel_rfl) ?_
        refine tr_seq ?_
        obtain ⟨v8, hv8, hM⟩ := bind_some' hM
        refine tr_sr hT hm [(2, .call [30000, 32000] [] [.agg (eXSchema.b a0), .agg (eXl39Data.b (⟨v6, v7⟩ : Xl39Data))] [] (bv v8))] [6, 8, 22, 70, 2009, 2023, 60001, 64001] [(6, .d (.sl a3.length 0 (a3.flatMap eXChange.b))), (8, .d (.rp 1004 0)), (22, .d (.rp 1011 0)), (70, .d (bv (!v8))), bxB 2009 (eXSchema.b a0), (2023, .r (.arr 1 [.rs 30000 0 v6.length, .rs 32000 0 v7.length] [30000, 32000])), (60001, .r (.arr 1 (v6.flatMap eI.o) [])), (64001, .r (.arr 1 (v7.flatMap (eS eI).o) []))] (cc (B := [30000, 32000]) (ρ := []) (rB := [(30000, .arr 1 (v6.flatMap eI.o) []), (32000, .arr 1 (v7.flatMap (eS eI).o) [])]) ok89 (spec_l39Whole_c a0 (⟨v6, v7⟩ : Xl39Data) _ hv8) (.cons (.same rfl) (.cons (.agg (.cons (.rs (r := 30000) (sz := 1) (refs := []) (memB (by kernel_rfl)) (by kernel_rfl) (bor_flat eI_ok _ _ _)) (.cons (.rs (r := 32000) (sz := 1) (refs := []) (memB (by kernel_rfl)) (by kernel_rfl) (bor_flat (eS_ok eI_ok) _ _ _)) .nil))) .nil)) (.inr ⟨.v, trivial⟩) .nil) (by kernel_rfl) (by kernel_rfl) ?_
        rcases Bool.eq_false_or_eq_true v8 with h9 | h9
        · have hM := ite_true' hM h9
          refine tr_condFe (e := !v8) (congrArg not h9) (by kernel_rfl) ?_
          refine tr_skip (q_n ?_)
          refine Tr.by (imp_freeze (B := [30000, 32000, 1011]) (cv := [(11, .pt (eXl39Data.b (⟨v6, v7⟩ : Xl39Data)) 0)]) (.cons (by kernel_rfl) (.of1 (.rp (r := 1011) (sz := 1) (cells := [.rs 30000 0 v6.length, .rs 32000 0 v7.length]) (refs := [30000, 32000]) (memB (by kernel_rfl)) (by kernel_rfl) (.cons (.rs (r := 30000) (sz := 1) (refs := []) (memB (by kernel_rfl)) (by kernel_rfl) (bor_flat eI_ok _ _ _)) (.cons (.rs (r := 32000) (sz := 1) (refs := []) (memB (by kernel_rfl)) (by kernel_rfl) (bor_flat (eS_ok eI_ok) _ _ _)) .nil)))) .nil)) ?_
          obtain ⟨v10, hv10, hM⟩ := bind_some' hM
          refine tr_sr hT hm [(3, .call [] [] [.agg (eXSchema.b a0), .agg [.sl ((⟨v6, v7⟩ : Xl39Data).sizes_).length 0 (((⟨v6, v7⟩ : Xl39Data).sizes_).flatMap eI.b), .sl ((⟨v6, v7⟩ : Xl39Data).maps_).length 0 (((⟨v6, v7⟩ : Xl39Data).maps_).flatMap (eS eI).b)], .sl a3.length 0 (a3.flatMap eXChange.b)] [] (.tup [.agg (eXl39Data.b v10.1), bv v10.2]))] [24, 26, 2025] [(24, .d (.rp 1012 0)), (26, .d (bv v10.2)), bxB 2025 (eXl39Data.b v10.1)] (cc0 ok90 (spec_l39All_c a0 (⟨((⟨v6, v7⟩ : Xl39Data).sizes_), ((⟨v6, v7⟩ : Xl39Data).maps_)⟩ : Xl39Data) a3 _ hv10) (by kernel_rfl) (.cons (Nat.le_of_ble_eq_true (n := 2) (m := 2) rfl) .nil)) (by kernel_rfl) (by kernel_rfl) ?_
          refine tr_seq ?_
          refine tr_sr hT hm [] [24, 88, 2025] [(24, .d (.rp 1012 0)), (88, .d (bv (!v10.2))), bxB 2025 (eXl39Data.b v10.1)] .nil (by kernel_rfl) (by kernel_rfl) ?_
          rcases Bool.eq_false_or_eq_true v10.2 with h11 | h11
          · have hM := ite_true' hM h11
            refine tr_condFe (e := !v10.2) (congrArg not h11) (by kernel_rfl) ?_
            refine tr_skip (q_n ?_)
            obtain ⟨v12, hv12, hM⟩ := bind_some' hM
            obtain ⟨v13, hv13, hM⟩ := bind_some' hM
            refine tr_sr hT hm [(2, .call [] [] [.sl v10.1.sizes_.length 0 (v10.1.sizes_.flatMap eI.b)] [] (.fr 1 v12.length (v12.flatMap eI.o))), (5, .call [] [] [.sl v10.1.maps_.length 0 (v10.1.maps_.flatMap (eS eI).b)] [] (.fr 1 v13.length (v13.flatMap (eS eI).o)))] [16, 18, 20, 98001, 104001] [(16, .d (.rs 49000 0 v12.length)), (18, .d (.rs 52000 0 v13.length)), (20, .d (iv 0)), (98001, .r (.arr 1 (v12.flatMap eI.o) [])), (104001, .r (.arr 1 (v13.flatMap (eS eI).o) []))] (cc0 ok87 (spec_l01Own_c v10.1.sizes_ _ hv12) (by kernel_rfl) (cc0 ok88 (spec_l01Own2_c v10.1.maps_ _ hv13) (by kernel_rfl) .nil)) (by kernel_rfl) (by kernel_rfl) ?_
            refine tr_ret (rg_r ?_)
            obtain rfl := Option.some.inj hM
            exact retg (names := []) (.cons (lenO_flat eI_ok v12) (.cons (lenO_flat (eS_ok eI_ok) v13) .nil)) (by kernel_rfl)
          · have hM := ite_false' hM h11
            refine tr_condTe (e := !v10.2) (congrArg not h11) (by kernel_rfl) ?_
            refine tr_sr hT hm [] [16, 18, 20] [(16, .d (nilv)), (18, .d (nilv)), (20, .d (iv 5))] .nil (by kernel_rfl) (by kernel_rfl) ?_
            refine tr_ret (q_r (rg_r ?_))
            refine RetG.by (imp_cvS (k := 16) (d' := .fr 1 ([] : List Int).length (([] : List Int).flatMap eI.o)) Sub.nil_fr (by kernel_rfl)) ?_
            refine RetG.by (imp_cvS (k := 18) (d' := .fr 1 ([] : List (List Int)).length (([] : List (List Int)).flatMap (eS eI).o)) Sub.nil_fr (by kernel_rfl)) ?_
            obtain rfl := Option.some.inj hM
            exact retg (names := []) .nil (by kernel_rfl)
        · have hM := ite_false' hM h9
          refine tr_condTe (e := !v8) (congrArg not h9) (by kernel_rfl) ?_
          refine tr_sr hT hm [] [16, 18, 20] [(16, .d (nilv)), (18, .d (nilv)), (20, .d (iv 5))] .nil (by kernel_rfl) (by kernel_rfl) ?_
          refine tr_ret (q_r (rg_r ?_))
          refine RetG.by (imp_cvS (k := 16) (d' := .fr 1 ([] : List Int).length (([] : List Int).flatMap eI.o)) Sub.nil_fr (by kernel_rfl)) ?_
          refine RetG.by (imp_cvS (k := 18) (d' := .fr 1 ([] : List (List Int)).length (([] : List (List Int)).flatMap (eS eI).o)) Sub.nil_fr (by kernel_rfl)) ?_
          obtain rfl := Option.some.inj hM
          exact retg (names := []) .nil (by kernel_rfl)
    · have hM := ite_false' hM h4
      refine tr_sr hT hm [(3, .call [] [] [.agg (eXSchema.b a0), .sl a1.length 0 (a1.flatMap eI.b), .sl a2.length 0 (a2.flatMap (eS eI).b)] [] (bv v3)), (5, .val (bv true))] [2, 4, 6, 8, 52, 2009] [(2, .d (.sl a1.length 0 (a1.flatMap eI.b))), (4, .d (.sl a2.length 0 (a2.flatMap (eS eI).b))), (6, .d (.sl a3.length 0 (a3.flatMap eXChange.b))), (8, .d (.rp 1004 0)), (52, .d (bv true)), bxB 2009 (eXSchema.b a0)] (cc0 ok86 (spec_l36Data_c a0 a1 a2 _ hv3) (by kernel_rfl) (.cons (congrArg (fun b => bv b) (congrArg not h4)) .nil)) (by kernel_rfl) (by kernel_rfl) ?_
      refine tr_condT (by kernel_rfl) ?_
      refine tr_sr hT hm [] [16, 18, 20] [(16, .d (nilv)), (18, .d (nilv)), (20, .d (iv 2))] .nil (by kernel_rfl) (by kernel_rfl) ?_
      refine tr_ret (q_r (rg_r ?_))
      refine RetG.by (imp_cvS (k := 16) (d' := .fr 1 ([] : List Int).length (([] : List Int).flatMap eI.o)) Sub.nil_fr (by kernel_rfl)) ?_
      refine RetG.by (imp_cvS (k := 18) (d' := .fr 1 ([] : List (List Int)).length (([] : List (List Int)).flatMap (eS eI).o)) Sub.nil_fr (by kernel_rfl)) ?_
      obtain rfl := Option.some.inj hM
      exact retg (names := []) .nil (by kernel_rfl)
  · have hM := ite_false' hM h2
    refine tr_condTe (e := !v1) (congrArg not h2) (by kernel_rfl) ?_
    refine tr_sr hT hm [] [16, 18, 20] [(16, .d (nilv)), (18, .d (nilv)), (20, .d (iv 1))] .nil (by kernel_rfl) (by kernel_rfl) ?_
    refine tr_ret (q_r (rg_r ?_))
    refine RetG.by (imp_cvS (k := 16) (d' := .fr 1 ([] : List Int).length (([] : List Int).flatMap eI.o)) Sub.nil_fr (by kernel_rfl)) ?_
    refine RetG.by (imp_cvS (k := 18) (d' := .fr 1 ([] : List (List Int)).length (([] : List (List Int)).flatMap (eS eI).o)) Sub.nil_fr (by kernel_rfl)) ?_
    obtain rfl := Option.some.inj hM
    exact retg (names := []) .nil (by kernel_rfl)

end Go.Proofs.Ytiikkfdehbcfaaa.WzK
