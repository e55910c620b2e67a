/- Walks. Printed by wip/gen. -/
import Derived.Test.YtiikkfdehbcfaaaGxzSW
namespace Go.Proofs.Ytiikkfdehbcfaaa.WzS
open Go.Gx Go.Proofs.Ytiikkfdehbcfaaa.WvB Go.Proofs.Ytiikkfdehbcfaaa.WyN

theorem ok101 : CallOk Try.prog 101 := callOk_of Try.func101 (by kernel_rfl) (by kernel_rfl)
theorem spec_l01Has_c (a0 : List Int) (a1 : Int) (r : Bool) (hM : M.spec_l01Has a0 a1 = some r) :
    FnC Try.prog 101 [] [.sl a0.length 0 (a0.flatMap eI.b), iv a1] [] (bv r) := by
  refine fnc_startG (N := 18) (np := 500) hT Try.func101 rfl rfl (by kernel_rfl) ?_
  unfold M.spec_l01Has at hM
  refine tr_start (ks := [0, 2]) (st' := [(0, .d (.sl a0.length 0 (a0.flatMap eI.b))), (2, .d (iv a1))]) (by kernel_rfl) ?_
  refine tr_sr hT hm [] [0, 2] [(0, .d (.sl a0.length 0 (a0.flatMap eI.b))), (2, .d (iv a1))] .nil (by kernel_rfl) (by kernel_rfl) ?_
  refine tr_seq ?_
  refine tr_sr hT hm [] [0, 2, 10] [(0, .d (.sl a0.length 0 (a0.flatMap eI.b))), (2, .d (iv a1)), (10, .d (iv 0))] .nil (by kernel_rfl) (by kernel_rfl) ?_
  refine tr_block ?_
  refine tr_iterS (fun (s1 : Int) => [(0, .d (.sl a0.length 0 (a0.flatMap eI.b))), (2, .d (iv a1)), (10, .d (iv s1))]) 0 [0, 2, 10] (by kernel_rfl) hM ?_
  intro n4 next2 ih3 s1 hM
  refine tr_seq ?_
  refine tr_sr hT hm [] [0, 2, 10, 18] [(0, .d (.sl a0.length 0 (a0.flatMap eI.b))), (2, .d (iv a1)), (10, .d (iv s1)), (18, .d (bv (decide (s1 < (a0.length : Int)))))] .nil (by kernel_rfl) (by kernel_rfl) ?_
  rcases Bool.eq_false_or_eq_true (decide (s1 < (a0.length : Int))) with h5 | h5
  · have hM := ite_true' hM h5
    refine tr_condTe (e := decide (s1 < (a0.length : Int))) h5 (by kernel_rfl) ?_
    refine tr_skip (q_n ?_)
    refine tr_seq ?_
    refine tr_block ?_
    obtain ⟨y6, hy6, hM⟩ := bind_some' hM
    have hy6' := idx_some hy6
    refine tr_sr hT hm [(3, .val (iv y6))] [0, 2, 10, 34] [(0, .d (.sl a0.length 0 (a0.flatMap eI.b))), (2, .d (iv a1)), (10, .d (iv s1)), (34, .d (bv (y6 == a1)))] (.cons hy6'.1 (.cons hy6'.2.1 (.cons (at_b0 eI_ok hy6'.2.2 (d := iv y6) (by kernel_rfl)) .nil))) (by kernel_rfl) (by kernel_rfl) ?_
    rcases Bool.eq_false_or_eq_true (y6 == a1) with h7 | h7
    · have hM := ite_true' hM h7
      refine tr_condTe (e := y6 == a1) h7 (by kernel_rfl) ?_
      refine tr_sr hT hm [] [8] [(8, .d (bv true))] .nil (by kernel_rfl) (by kernel_rfl) ?_
      refine tr_ret (b_r (q_r (l_r (b_r (q_r (rg_r ?_))))))
      obtain rfl := Option.some.inj hM
      exact retg (names := []) .nil (by kernel_rfl)
    · have hM := ite_false' hM h7
      refine tr_condFe (e := y6 == a1) h7 (by kernel_rfl) ?_
      refine tr_skip (b_n (q_n ?_))
      refine tr_r hT hm [] [0, 2, 10] [(0, .d (.sl a0.length 0 (a0.flatMap eI.b))), (2, .d (iv a1)), (10, .d (iv (IntKind.i64.wrap (s1 + 1))))] .nil (by kernel_rfl) (by kernel_rfl) (l_n ?_)
      exact trl_start (ks := [0, 2, 10]) (by kernel_rfl) (ih3 (IntKind.i64.wrap (s1 + 1)) hM)
  · have hM := ite_false' hM h5
    refine tr_condFe (e := decide (s1 < (a0.length : Int))) h5 (by kernel_rfl) ?_
    refine tr_exit (q_x (l_x (b_h (q_n ?_))))
    refine tr_sr hT hm [] [8] [(8, .d (bv false))] .nil (by kernel_rfl) (by kernel_rfl) ?_
    refine tr_ret (rg_r ?_)
    obtain rfl := Option.some.inj hM
    exact retg (names := []) .nil (by kernel_rfl)

theorem ok181 : CallOk Try.prog 181 := callOk_of Try.func181 (by kernel_rfl) (by kernel_rfl)
theorem spec_l02Part_c (a0 : XCategory) (a1 : List Int) (r : XCategory) (hM : M.spec_l02Part a0 a1 = some r) :
    FnC Try.prog 181 [] [.agg (eXCategory.b a0), .sl a1.length 0 (a1.flatMap eI.b)] [] (.agg (eXCategory.o r)) := by
  refine fnc_startG (N := 127) (np := 500) hT Try.func181 rfl rfl (by kernel_rfl) ?_
  unfold M.spec_l02Part at hM
  refine tr_start (ks := [0, 2]) (st' := [(0, .d (.agg (eXCategory.b a0))), (2, .d (.sl a1.length 0 (a1.flatMap eI.b)))]) (by kernel_rfl) ?_
  refine tr_sr hT hm [] [2, 4, 8, 2005, 2009] [(2, .d (.sl a1.length 0 (a1.flatMap eI.b))), (4, .d (.rp 1002 0)), (8, .d (.rp 1004 0)), bxB 2005 (eXCategory.b a0), (2009, .r (.arr 1 [iv 0, nilv, nilv, nilv, nilv] []))] .nil (by kernel_rfl) (by kernel_rfl) ?_
  refine tr_sr hT hm [] [2, 4, 8, 10, 2005, 2009, 2025] [(2, .d (.sl a1.length 0 (a1.flatMap eI.b))), (4, .d (.rp 1002 0)), (8, .d (.rp 1004 0)), (10, .d (.rs 1012 0 (([] : List Int).length))), bxB 2005 (eXCategory.b a0), (2009, .r (.arr 1 [iv 0, nilv, nilv, nilv, nilv] [])), (2025, .r (.arr 1 (([] : List Int).flatMap eI.o) []))] .nil (by kernel_rfl) (by kernel_rfl) ?_
  refine tr_seq ?_
  refine tr_sr hT hm [] [2, 4, 8, 10, 12, 2005, 2009, 2025] [(2, .d (.sl a1.length 0 (a1.flatMap eI.b))), (4, .d (.rp 1002 0)), (8, .d (.rp 1004 0)), (10, .d (.rs 1012 0 (([] : List Int).length))), (12, .d (iv 0)), bxB 2005 (eXCategory.b a0), (2009, .r (.arr 1 [iv 0, nilv, nilv, nilv, nilv] [])), (2025, .r (.arr 1 (([] : List Int).flatMap eI.o) []))] .nil (by kernel_rfl) (by kernel_rfl) ?_
  refine tr_block ?_
  refine tr_iterS (fun (s1 : (List Int) × Int) => [(2, .d (.sl a1.length 0 (a1.flatMap eI.b))), (4, .d (.rp 1002 0)), (8, .d (.rp 1004 0)), (10, .d (.rs 1012 0 s1.1.length)), (12, .d (iv s1.2)), bxB 2005 (eXCategory.b a0), (2009, .r (.arr 1 [iv 0, nilv, nilv, nilv, nilv] [])), (2025, .r (.arr 1 (s1.1.flatMap eI.o) []))]) (([] : List Int), 0) [2, 4, 8, 10, 12, 2005, 2009, 2025] (by kernel_rfl) hM ?_
  intro n4 next2 ih3 s1 hM
  refine tr_seq ?_
  refine tr_sr hT hm [] [2, 4, 8, 10, 12, 32, 2005, 2009, 2025] [(2, .d (.sl a1.length 0 (a1.flatMap eI.b))), (4, .d (.rp 1002 0)), (8, .d (.rp 1004 0)), (10, .d (.rs 1012 0 s1.1.length)), (12, .d (iv s1.2)), (32, .d (bv (decide (s1.2 < a0.Objects)))), bxB 2005 (eXCategory.b a0), (2009, .r (.arr 1 [iv 0, nilv, nilv, nilv, nilv] [])), (2025, .r (.arr 1 (s1.1.flatMap eI.o) []))] .nil (by kernel_rfl) (by kernel_rfl) ?_
  rcases Bool.eq_false_or_eq_true (decide (s1.2 < a0.Objects)) with h5 | h5
  · have hM := ite_true' hM h5
    refine tr_condTe (e := decide (s1.2 < a0.Objects)) h5 (by kernel_rfl) ?_
    refine tr_skip (q_n ?_)
    refine tr_seq ?_
    refine tr_block ?_
    obtain ⟨y6, hy6, hM⟩ := bind_some' hM
    have hy6' := idx_some hy6
    obtain ⟨v7, hv7, hM⟩ := bind_some' hM
    refine tr_sr hT hm [(5, .val (iv y6)), (6, .call [] [] [.sl a1.length 0 (a1.flatMap eI.b), iv y6] [] (bv v7))] [2, 4, 8, 10, 12, 50, 2005, 2009, 2025] [(2, .d (.sl a1.length 0 (a1.flatMap eI.b))), (4, .d (.rp 1002 0)), (8, .d (.rp 1004 0)), (10, .d (.rs 1012 0 s1.1.length)), (12, .d (iv s1.2)), (50, .d (bv v7)), bxB 2005 (eXCategory.b a0), (2009, .r (.arr 1 [iv 0, nilv, nilv, nilv, nilv] [])), (2025, .r (.arr 1 (s1.1.flatMap eI.o) []))] (.cons hy6'.1 (.cons hy6'.2.1 (.cons (at_b0 eI_ok hy6'.2.2 (d := iv y6) (by kernel_rfl)) (cc0 ok101 (spec_l01Has_c a1 y6 _ hv7) (by kernel_rfl) .nil)))) (by kernel_rfl) (by kernel_rfl) ?_
    rcases Bool.eq_false_or_eq_true v7 with h8 | h8
    · have hM := ite_true' hM h8
      refine tr_condTe (e := v7) h8 (by kernel_rfl) ?_
      obtain ⟨h9, hM⟩ := chk_some hM
      refine tr_r hT hm [(3, .app true)] [2, 4, 8, 10, 12, 2005, 2009, 2059] [(2, .d (.sl a1.length 0 (a1.flatMap eI.b))), (4, .d (.rp 1002 0)), (8, .d (.rp 1004 0)), (10, .d (.rs 1029 0 (s1.1.length + (([s1.2] : List Int).length)))), (12, .d (iv s1.2)), bxB 2005 (eXCategory.b a0), (2009, .r (.arr 1 [iv 0, nilv, nilv, nilv, nilv] [])), (2059, .r (.arr 1 (s1.1.flatMap eI.o ++ ([s1.2] : List Int).flatMap eI.o) []))] (.cons (lenO_flat eI_ok s1.1) (.cons (lenO_flat eI_ok ([s1.2] : List Int)) (.cons h9 .nil))) (by kernel_rfl) (by kernel_rfl) (b_n (q_n ?_))
      refine Tr.by (imp_cvE (r := 1029) (sz := 1) (refs := []) (flat_app eI.o s1.1 ([s1.2] : List Int)) (menO_flat eI_ok _) (by kernel_rfl)) ?_
      refine Tr.by (imp_cvD (k := 10) (congrArg (D.rs 1029 0) ((len_app s1.1 ([s1.2] : List Int)) : s1.1.length + (([s1.2] : List Int).length) = (s1.1 ++ ([s1.2] : List Int)).length)) (by kernel_rfl)) ?_
      refine tr_r hT hm [] [2, 4, 8, 10, 12, 2005, 2009, 2059] [(2, .d (.sl a1.length 0 (a1.flatMap eI.b))), (4, .d (.rp 1002 0)), (8, .d (.rp 1004 0)), (10, .d (.rs 1029 0 ((s1.1 ++ ([s1.2] : List Int)).length))), (12, .d (iv (IntKind.i64.wrap (s1.2 + 1)))), bxB 2005 (eXCategory.b a0), (2009, .r (.arr 1 [iv 0, nilv, nilv, nilv, nilv] [])), (2059, .r (.arr 1 ((s1.1 ++ ([s1.2] : List Int)).flatMap eI.o) []))] .nil (by kernel_rfl) (by kernel_rfl) (l_n ?_)
      refine TrL.by (imp_sel (ks := [2, 4, 8, 10, 12, 2005, 2009, 2059]) (st' := [(2, .d (.sl a1.length 0 (a1.flatMap eI.b))), (4, .d (.rp 1002 0)), (8, .d (.rp 1004 0)), (10, .d (.rs 1029 0 ((s1.1 ++ ([s1.2] : List Int)).length))), (12, .d (iv (IntKind.i64.wrap (s1.2 + 1)))), bxB 2005 (eXCategory.b a0), (2009, .r (.arr 1 [iv 0, nilv, nilv, nilv, nilv] [])), (2059, .r (.arr 1 ((s1.1 ++ ([s1.2] : List Int)).flatMap eI.o) []))]) (by kernel_rfl)) ?_
      refine TrL.by (imp_rename (r := 1029) (q := 1012) (by kernel_rfl) (Nat.le_of_ble_eq_true rfl)) ?_
      exact trl_start (ks := [2, 4, 8, 10, 12, 2005, 2009, 2025]) (by kernel_rfl) (ih3 (s1.1 ++ ([s1.2] : List Int), IntKind.i64.wrap (s1.2 + 1)) hM)
    · have hM := ite_false' hM h8
      refine tr_condFe (e := v7) h8 (by kernel_rfl) ?_
      refine tr_skip (b_n (q_n ?_))
      refine tr_r hT hm [] [2, 4, 8, 10, 12, 2005, 2009, 2025] [(2, .d (.sl a1.length 0 (a1.flatMap eI.b))), (4, .d (.rp 1002 0)), (8, .d (.rp 1004 0)), (10, .d (.rs 1012 0 s1.1.length)), (12, .d (iv (IntKind.i64.wrap (s1.2 + 1)))), bxB 2005 (eXCategory.b a0), (2009, .r (.arr 1 [iv 0, nilv, nilv, nilv, nilv] [])), (2025, .r (.arr 1 (s1.1.flatMap eI.o) []))] .nil (by kernel_rfl) (by kernel_rfl) (l_n ?_)
      exact trl_start (ks := [2, 4, 8, 10, 12, 2005, 2009, 2025]) (by kernel_rfl) (ih3 (s1.1, IntKind.i64.wrap (s1.2 + 1)) hM)
  · have hM := ite_false' hM h5
    refine tr_condFe (e := decide (s1.2 < a0.Objects)) h5 (by kernel_rfl) ?_
    refine tr_exit (q_x (l_x (b_h (q_n ?_))))
    refine tr_sr hT hm [] [2, 4, 8, 10, 14, 2005, 2009, 2015, 2025, 2065, 2067, 2069, 2071] [(2, .d (.sl a1.length 0 (a1.flatMap eI.b))), (4, .d (.rp 1002 0)), (8, .d (.rp 1004 0)), (10, .d (.rs 1012 0 s1.1.length)), (14, .d (.rp 1007 0)), bxB 2005 (eXCategory.b a0), (2009, .r (.arr 1 [iv 0, nilv, nilv, nilv, nilv] [])), (2015, .r (.arr 1 [iv (s1.1.length : Int), .rs 1032 0 (([] : List Int).length), .rs 1033 0 (([] : List Int).length), .rs 1034 0 (([] : List Int).length), .rs 1035 0 (([] : List (List Int)).length)] [1032, 1033, 1034, 1035])), (2025, .r (.arr 1 (s1.1.flatMap eI.o) [])), (2065, .r (.arr 1 (([] : List Int).flatMap eI.o) [])), (2067, .r (.arr 1 (([] : List Int).flatMap eI.o) [])), (2069, .r (.arr 1 (([] : List Int).flatMap eI.o) [])), (2071, .r (.arr 1 (([] : List (List Int)).flatMap (eS eI).o) []))] (.cons (Nat.le_of_ble_eq_true (n := 5) (m := 5) rfl) .nil) (by kernel_rfl) (by kernel_rfl) ?_
    refine tr_seq ?_
    refine tr_sr hT hm [] [2, 4, 8, 10, 14, 16, 2005, 2009, 2015, 2025, 2065, 2067, 2069, 2071] [(2, .d (.sl a1.length 0 (a1.flatMap eI.b))), (4, .d (.rp 1002 0)), (8, .d (.rp 1004 0)), (10, .d (.rs 1012 0 s1.1.length)), (14, .d (.rp 1007 0)), (16, .d (iv 0)), bxB 2005 (eXCategory.b a0), (2009, .r (.arr 1 [iv 0, nilv, nilv, nilv, nilv] [])), (2015, .r (.arr 1 [iv (s1.1.length : Int), .rs 1032 0 (([] : List Int).length), .rs 1033 0 (([] : List Int).length), .rs 1034 0 (([] : List Int).length), .rs 1035 0 (([] : List (List Int)).length)] [1032, 1033, 1034, 1035])), (2025, .r (.arr 1 (s1.1.flatMap eI.o) [])), (2065, .r (.arr 1 (([] : List Int).flatMap eI.o) [])), (2067, .r (.arr 1 (([] : List Int).flatMap eI.o) [])), (2069, .r (.arr 1 (([] : List Int).flatMap eI.o) [])), (2071, .r (.arr 1 (([] : List (List Int)).flatMap (eS eI).o) []))] .nil (by kernel_rfl) (by kernel_rfl) ?_
    refine tr_block ?_
    refine tr_iterS (fun (s10 : (List Int) × Int) => [(2, .d (.sl a1.length 0 (a1.flatMap eI.b))), (4, .d (.rp 1002 0)), (8, .d (.rp 1004 0)), (10, .d (.rs 1012 0 s1.1.length)), (14, .d (.rp 1007 0)), (16, .d (iv s10.2)), bxB 2005 (eXCategory.b a0), (2009, .r (.arr 1 [iv 0, nilv, nilv, nilv, nilv] [])), (2015, .r (.arr 1 [iv (s1.1.length : Int), .rs 1032 0 (([] : List Int).length), .rs 1033 0 (([] : List Int).length), .rs 1034 0 s10.1.length, .rs 1035 0 (([] : List (List Int)).length)] [1032, 1033, 1034, 1035])), (2025, .r (.arr 1 (s1.1.flatMap eI.o) [])), (2065, .r (.arr 1 (([] : List Int).flatMap eI.o) [])), (2067, .r (.arr 1 (([] : List Int).flatMap eI.o) [])), (2069, .r (.arr 1 (s10.1.flatMap eI.o) [])), (2071, .r (.arr 1 (([] : List (List Int)).flatMap (eS eI).o) []))]) (([] : List Int), 0) [2, 4, 8, 10, 14, 16, 2005, 2009, 2015, 2025, 2065, 2067, 2069, 2071] (by kernel_rfl) hM ?_
    intro n13 next11 ih12 s10 hM
    refine tr_seq ?_
    refine tr_sr hT hm [] [2, 4, 8, 10, 14, 16, 80, 2005, 2009, 2015, 2025, 2065, 2067, 2069, 2071] [(2, .d (.sl a1.length 0 (a1.flatMap eI.b))), (4, .d (.rp 1002 0)), (8, .d (.rp 1004 0)), (10, .d (.rs 1012 0 s1.1.length)), (14, .d (.rp 1007 0)), (16, .d (iv s10.2)), (80, .d (bv (decide (s10.2 < (s1.1.length : Int))))), bxB 2005 (eXCategory.b a0), (2009, .r (.arr 1 [iv 0, nilv, nilv, nilv, nilv] [])), (2015, .r (.arr 1 [iv (s1.1.length : Int), .rs 1032 0 (([] : List Int).length), .rs 1033 0 (([] : List Int).length), .rs 1034 0 s10.1.length, .rs 1035 0 (([] : List (List Int)).length)] [1032, 1033, 1034, 1035])), (2025, .r (.arr 1 (s1.1.flatMap eI.o) [])), (2065, .r (.arr 1 (([] : List Int).flatMap eI.o) [])), (2067, .r (.arr 1 (([] : List Int).flatMap eI.o) [])), (2069, .r (.arr 1 (s10.1.flatMap eI.o) [])), (2071, .r (.arr 1 (([] : List (List Int)).flatMap (eS eI).o) []))] .nil (by kernel_rfl) (by kernel_rfl) ?_
    rcases Bool.eq_false_or_eq_true (decide (s10.2 < (s1.1.length : Int))) with h14 | h14
    · have hM := ite_true' hM h14
      refine tr_condTe (e := decide (s10.2 < (s1.1.length : Int))) h14 (by kernel_rfl) ?_
      refine tr_skip (q_n ?_)
      refine tr_seq ?_
      refine tr_block ?_
      obtain ⟨y15, hy15, hM⟩ := bind_some' hM
      have hy15' := idx_some hy15
      obtain ⟨y16, hy16, hM⟩ := bind_some' hM
      have hy16' := idx_some hy16
      obtain ⟨v17, hv17, hM⟩ := bind_some' hM
      obtain ⟨h18, hM⟩ := chk_some hM
      refine tr_r hT hm [(8, .val (iv y15)), (10, .val (iv y16)), (11, .call [] [] [.sl a1.length 0 (a1.flatMap eI.b), iv y16] [] (iv v17)), (13, .app true)] [2, 4, 8, 10, 14, 16, 2005, 2009, 2015, 2025, 2065, 2067, 2071, 2113] [(2, .d (.sl a1.length 0 (a1.flatMap eI.b))), (4, .d (.rp 1002 0)), (8, .d (.rp 1004 0)), (10, .d (.rs 1012 0 s1.1.length)), (14, .d (.rp 1007 0)), (16, .d (iv s10.2)), bxB 2005 (eXCategory.b a0), (2009, .r (.arr 1 [iv 0, nilv, nilv, nilv, nilv] [])), (2015, .r (.arr 1 [iv (s1.1.length : Int), .rs 1032 0 (([] : List Int).length), .rs 1033 0 (([] : List Int).length), .rs 1056 0 (s10.1.length + (([v17] : List Int).length)), .rs 1035 0 (([] : List (List Int)).length)] [1032, 1033, 1034, 1035, 1056])), (2025, .r (.arr 1 (s1.1.flatMap eI.o) [])), (2065, .r (.arr 1 (([] : List Int).flatMap eI.o) [])), (2067, .r (.arr 1 (([] : List Int).flatMap eI.o) [])), (2071, .r (.arr 1 (([] : List (List Int)).flatMap (eS eI).o) [])), (2113, .r (.arr 1 (s10.1.flatMap eI.o ++ ([v17] : List Int).flatMap eI.o) []))] (.cons hy15'.1 (.cons hy15'.2.1 (.cons (at_o0 eI_ok hy15'.2.2 (d := iv y15) (by kernel_rfl)) (.cons hy16'.1 (.cons hy16'.2.1 (.cons (at_b0 eI_ok hy16'.2.2 (d := iv y16) (by kernel_rfl)) (cc0 ok111 (spec_l01Index_c a1 y16 _ hv17) (by kernel_rfl) (.cons (lenO_flat eI_ok s10.1) (.cons (lenO_flat eI_ok ([v17] : List Int)) (.cons h18 (.cons (Nat.le_of_ble_eq_true (n := 4) (m := 5) rfl) .nil))))))))))) (by kernel_rfl) (by kernel_rfl) (b_n (q_n ?_))
      refine Tr.by (imp_cvE (r := 1056) (sz := 1) (refs := []) (flat_app eI.o s10.1 ([v17] : List Int)) (menO_flat eI_ok _) (by kernel_rfl)) ?_
      refine Tr.by (imp_cvB (r := 1007) (sz := 1) (cells := [iv (s1.1.length : Int), .rs 1032 0 (([] : List Int).length), .rs 1033 0 (([] : List Int).length), .rs 1056 0 (s10.1.length + (([v17] : List Int).length)), .rs 1035 0 (([] : List (List Int)).length)]) (cells' := [iv (s1.1.length : Int), .rs 1032 0 (([] : List Int).length), .rs 1033 0 (([] : List Int).length), .rs 1056 0 ((s10.1 ++ ([v17] : List Int)).length), .rs 1035 0 (([] : List (List Int)).length)]) (refs := [1032, 1033, 1034, 1035, 1056]) (refs' := [1032, 1033, 1034, 1035, 1056]) (.cons (.refl _) (.cons (.refl _) (.cons (.refl _) (.cons (Sub.of_eq (congrArg (D.rs 1056 0) ((len_app s10.1 ([v17] : List Int)) : s10.1.length + (([v17] : List Int).length) = (s10.1 ++ ([v17] : List Int)).length))) (.cons (.refl _) .nil))))) (by kernel_rfl) (by kernel_rfl) (by kernel_rfl)) ?_
      refine tr_r hT hm [] [2, 4, 8, 10, 14, 16, 2005, 2009, 2015, 2025, 2065, 2067, 2071, 2113] [(2, .d (.sl a1.length 0 (a1.flatMap eI.b))), (4, .d (.rp 1002 0)), (8, .d (.rp 1004 0)), (10, .d (.rs 1012 0 s1.1.length)), (14, .d (.rp 1007 0)), (16, .d (iv (IntKind.i64.wrap (s10.2 + 1)))), bxB 2005 (eXCategory.b a0), (2009, .r (.arr 1 [iv 0, nilv, nilv, nilv, nilv] [])), (2015, .r (.arr 1 [iv (s1.1.length : Int), .rs 1032 0 (([] : List Int).length), .rs 1033 0 (([] : List Int).length), .rs 1056 0 ((s10.1 ++ ([v17] : List Int)).length), .rs 1035 0 (([] : List (List Int)).length)] [1032, 1033, 1034, 1035, 1056])), (2025, .r (.arr 1 (s1.1.flatMap eI.o) [])), (2065, .r (.arr 1 (([] : List Int).flatMap eI.o) [])), (2067, .r (.arr 1 (([] : List Int).flatMap eI.o) [])), (2071, .r (.arr 1 (([] : List (List Int)).flatMap (eS eI).o) [])), (2113, .r (.arr 1 ((s10.1 ++ ([v17] : List Int)).flatMap eI.o) []))] .nil (by kernel_rfl) (by kernel_rfl) (l_n ?_)
      refine TrL.by (imp_cvB (r := 1007) (sz := 1) (cells := [iv (s1.1.length : Int), .rs 1032 0 (([] : List Int).length), .rs 1033 0 (([] : List Int).length), .rs 1056 0 ((s10.1 ++ ([v17] : List Int)).length), .rs 1035 0 (([] : List (List Int)).length)]) (cells' := [iv (s1.1.length : Int), .rs 1032 0 (([] : List Int).length), .rs 1033 0 (([] : List Int).length), .rs 1056 0 ((s10.1 ++ ([v17] : List Int)).length), .rs 1035 0 (([] : List (List Int)).length)]) (refs := [1032, 1033, 1034, 1035, 1056]) (refs' := [1032, 1033, 1056, 1035]) (.cons (.refl _) (.cons (.refl _) (.cons (.refl _) (.cons (.refl _) (.cons (.refl _) .nil))))) (by kernel_rfl) (by kernel_rfl) (by kernel_rfl)) ?_
      refine TrL.by (imp_sel (ks := [2, 4, 8, 10, 14, 16, 2005, 2009, 2015, 2025, 2065, 2067, 2071, 2113]) (st' := [(2, .d (.sl a1.length 0 (a1.flatMap eI.b))), (4, .d (.rp 1002 0)), (8, .d (.rp 1004 0)), (10, .d (.rs 1012 0 s1.1.length)), (14, .d (.rp 1007 0)), (16, .d (iv (IntKind.i64.wrap (s10.2 + 1)))), bxB 2005 (eXCategory.b a0), (2009, .r (.arr 1 [iv 0, nilv, nilv, nilv, nilv] [])), (2015, .r (.arr 1 [iv (s1.1.length : Int), .rs 1032 0 (([] : List Int).length), .rs 1033 0 (([] : List Int).length), .rs 1056 0 ((s10.1 ++ ([v17] : List Int)).length), .rs 1035 0 (([] : List (List Int)).length)] [1032, 1033, 1056, 1035])), (2025, .r (.arr 1 (s1.1.flatMap eI.o) [])), (2065, .r (.arr 1 (([] : List Int).flatMap eI.o) [])), (2067, .r (.arr 1 (([] : List Int).flatMap eI.o) [])), (2071, .r (.arr 1 (([] : List (List Int)).flatMap (eS eI).o) [])), (2113, .r (.arr 1 ((s10.1 ++ ([v17] : List Int)).flatMap eI.o) []))]) (by kernel_rfl)) ?_
      refine TrL.by (imp_rename (r := 1056) (q := 1034) (by kernel_rfl) (Nat.le_of_ble_eq_true rfl)) ?_
      exact trl_start (ks := [2, 4, 8, 10, 14, 16, 2005, 2009, 2015, 2025, 2065, 2067, 2069, 2071]) (by kernel_rfl) (ih12 (s10.1 ++ ([v17] : List Int), IntKind.i64.wrap (s10.2 + 1)) hM)
    · have hM := ite_false' hM h14
      refine tr_condFe (e := decide (s10.2 < (s1.1.length : Int))) h14 (by kernel_rfl) ?_
      refine tr_exit (q_x (l_x (b_h (q_n ?_))))
      refine tr_seq ?_
      refine tr_sr hT hm [] [2, 4, 8, 10, 14, 18, 2005, 2009, 2015, 2025, 2065, 2067, 2069, 2071] [(2, .d (.sl a1.length 0 (a1.flatMap eI.b))), (4, .d (.rp 1002 0)), (8, .d (.rp 1004 0)), (10, .d (.rs 1012 0 s1.1.length)), (14, .d (.rp 1007 0)), (18, .d (iv 0)), bxB 2005 (eXCategory.b a0), (2009, .r (.arr 1 [iv 0, nilv, nilv, nilv, nilv] [])), (2015, .r (.arr 1 [iv (s1.1.length : Int), .rs 1032 0 (([] : List Int).length), .rs 1033 0 (([] : List Int).length), .rs 1034 0 s10.1.length, .rs 1035 0 (([] : List (List Int)).length)] [1032, 1033, 1034, 1035])), (2025, .r (.arr 1 (s1.1.flatMap eI.o) [])), (2065, .r (.arr 1 (([] : List Int).flatMap eI.o) [])), (2067, .r (.arr 1 (([] : List Int).flatMap eI.o) [])), (2069, .r (.arr 1 (s10.1.flatMap eI.o) [])), (2071, .r (.arr 1 (([] : List (List Int)).flatMap (eS eI).o) []))] .nil (by kernel_rfl) (by kernel_rfl) ?_
      refine tr_block ?_
      refine tr_iterS (fun (s19 : (List Int) × (List Int) × (List (List Int)) × Int) => [(2, .d (.sl a1.length 0 (a1.flatMap eI.b))), (4, .d (.rp 1002 0)), (8, .d (.rp 1004 0)), (10, .d (.rs 1012 0 s1.1.length)), (14, .d (.rp 1007 0)), (18, .d (iv s19.2.2.2)), bxB 2005 (eXCategory.b a0), (2009, .r (.arr 1 [iv 0, nilv, nilv, nilv, nilv] [])), (2015, .r (.arr 1 [iv (s1.1.length : Int), .rs 1032 0 s19.1.length, .rs 1033 0 s19.2.1.length, .rs 1034 0 s10.1.length, .rs 1035 0 s19.2.2.1.length] [1032, 1033, 1034, 1035])), (2025, .r (.arr 1 (s1.1.flatMap eI.o) [])), (2065, .r (.arr 1 (s19.1.flatMap eI.o) [])), (2067, .r (.arr 1 (s19.2.1.flatMap eI.o) [])), (2069, .r (.arr 1 (s10.1.flatMap eI.o) [])), (2071, .r (.arr 1 (s19.2.2.1.flatMap (eS eI).o) []))]) (([] : List Int), ([] : List Int), ([] : List (List Int)), 0) [2, 4, 8, 10, 14, 18, 2005, 2009, 2015, 2025, 2065, 2067, 2069, 2071] (by kernel_rfl) hM ?_
      intro n22 next20 ih21 s19 hM
      refine tr_seq ?_
      refine tr_sr hT hm [] [2, 4, 8, 10, 14, 18, 122, 2005, 2009, 2015, 2025, 2065, 2067, 2069, 2071] [(2, .d (.sl a1.length 0 (a1.flatMap eI.b))), (4, .d (.rp 1002 0)), (8, .d (.rp 1004 0)), (10, .d (.rs 1012 0 s1.1.length)), (14, .d (.rp 1007 0)), (18, .d (iv s19.2.2.2)), (122, .d (bv (decide (s19.2.2.2 < (a1.length : Int))))), bxB 2005 (eXCategory.b a0), (2009, .r (.arr 1 [iv 0, nilv, nilv, nilv, nilv] [])), (2015, .r (.arr 1 [iv (s1.1.length : Int), .rs 1032 0 s19.1.length, .rs 1033 0 s19.2.1.length, .rs 1034 0 s10.1.length, .rs 1035 0 s19.2.2.1.length] [1032, 1033, 1034, 1035])), (2025, .r (.arr 1 (s1.1.flatMap eI.o) [])), (2065, .r (.arr 1 (s19.1.flatMap eI.o) [])), (2067, .r (.arr 1 (s19.2.1.flatMap eI.o) [])), (2069, .r (.arr 1 (s10.1.flatMap eI.o) [])), (2071, .r (.arr 1 (s19.2.2.1.flatMap (eS eI).o) []))] .nil (by kernel_rfl) (by kernel_rfl) ?_
      rcases Bool.eq_false_or_eq_true (decide (s19.2.2.2 < (a1.length : Int))) with h23 | h23
      · have hM := ite_true' hM h23
        refine tr_condTe (e := decide (s19.2.2.2 < (a1.length : Int))) h23 (by kernel_rfl) ?_
        refine tr_skip (q_n ?_)
        refine tr_seq ?_
        refine tr_block ?_
        obtain ⟨y24, hy24, hM⟩ := bind_some' hM
        have hy24' := idx_some hy24
        obtain ⟨y25, hy25, hM⟩ := bind_some' hM
        have hy25' := idx_some hy25
        obtain ⟨v26, hv26, hM⟩ := bind_some' hM
        obtain ⟨h27, hM⟩ := chk_some hM
        refine tr_sr hT hm [(8, .val (iv y24)), (10, .val (iv y25)), (11, .call [1012] [] [.sl s1.1.length 0 (s1.1.flatMap eI.b), iv y25] [] (iv v26)), (13, .app true)] [2, 4, 8, 10, 14, 18, 2005, 2009, 2015, 2025, 2067, 2069, 2071, 2155] [(2, .d (.sl a1.length 0 (a1.flatMap eI.b))), (4, .d (.rp 1002 0)), (8, .d (.rp 1004 0)), (10, .d (.rs 1012 0 s1.1.length)), (14, .d (.rp 1007 0)), (18, .d (iv s19.2.2.2)), bxB 2005 (eXCategory.b a0), (2009, .r (.arr 1 [iv 0, nilv, nilv, nilv, nilv] [])), (2015, .r (.arr 1 [iv (s1.1.length : Int), .rs 1077 0 (s19.1.length + (([v26] : List Int).length)), .rs 1033 0 s19.2.1.length, .rs 1034 0 s10.1.length, .rs 1035 0 s19.2.2.1.length] [1032, 1033, 1034, 1035, 1077])), (2025, .r (.arr 1 (s1.1.flatMap eI.o) [])), (2067, .r (.arr 1 (s19.2.1.flatMap eI.o) [])), (2069, .r (.arr 1 (s10.1.flatMap eI.o) [])), (2071, .r (.arr 1 (s19.2.2.1.flatMap (eS eI).o) [])), (2155, .r (.arr 1 (s19.1.flatMap eI.o ++ ([v26] : List Int).flatMap eI.o) []))] (.cons hy24'.1 (.cons hy24'.2.1 (.cons (at_b0 eI_ok hy24'.2.2 (d := iv y24) (by kernel_rfl)) (.cons hy25'.1 (.cons hy25'.2.1 (.cons (at_b0 eI_ok hy25'.2.2 (d := iv y25) (by kernel_rfl)) (cc (B := [1012]) (ρ := []) (rB := [(1012, .arr 1 (s1.1.flatMap eI.o) [])]) ok111 (spec_l01Index_c s1.1 y25 _ hv26) (.cons (.of1 (.rs (r := 1012) (sz := 1) (refs := []) (memB (by kernel_rfl)) (by kernel_rfl) (bor_flat eI_ok _ _ _))) (.cons (.same rfl) .nil)) (.inr ⟨.v, trivial⟩) (.cons (lenO_flat eI_ok s19.1) (.cons (lenO_flat eI_ok ([v26] : List Int)) (.cons h27 (.cons (Nat.le_of_ble_eq_true (n := 2) (m := 5) rfl) .nil))))))))))) (by kernel_rfl) (by kernel_rfl) ?_
        refine Tr.by (imp_cvE (r := 1077) (sz := 1) (refs := []) (flat_app eI.o s19.1 ([v26] : List Int)) (menO_flat eI_ok _) (by kernel_rfl)) ?_
        refine Tr.by (imp_cvB (r := 1007) (sz := 1) (cells := [iv (s1.1.length : Int), .rs 1077 0 (s19.1.length + (([v26] : List Int).length)), .rs 1033 0 s19.2.1.length, .rs 1034 0 s10.1.length, .rs 1035 0 s19.2.2.1.length]) (cells' := [iv (s1.1.length : Int), .rs 1077 0 ((s19.1 ++ ([v26] : List Int)).length), .rs 1033 0 s19.2.1.length, .rs 1034 0 s10.1.length, .rs 1035 0 s19.2.2.1.length]) (refs := [1032, 1033, 1034, 1035, 1077]) (refs' := [1032, 1033, 1034, 1035, 1077]) (.cons (.refl _) (.cons (Sub.of_eq (congrArg (D.rs 1077 0) ((len_app s19.1 ([v26] : List Int)) : s19.1.length + (([v26] : List Int).length) = (s19.1 ++ ([v26] : List Int)).length))) (.cons (.refl _) (.cons (.refl _) (.cons (.refl _) .nil))))) (by kernel_rfl) (by kernel_rfl) (by kernel_rfl)) ?_
        obtain ⟨y28, hy28, hM⟩ := bind_some' hM
        have hy28' := idx_some hy28
        obtain ⟨v29, hv29, hM⟩ := bind_some' hM
        obtain ⟨h30, hM⟩ := chk_some hM
        refine tr_sr hT hm [(8, .val (iv y24)), (10, .val (iv y28)), (11, .call [1012] [] [.sl s1.1.length 0 (s1.1.flatMap eI.b), iv y28] [] (iv v29)), (13, .app true)] [2, 4, 8, 10, 14, 18, 2005, 2009, 2015, 2025, 2069, 2071, 2155, 2185] [(2, .d (.sl a1.length 0 (a1.flatMap eI.b))), (4, .d (.rp 1002 0)), (8, .d (.rp 1004 0)), (10, .d (.rs 1012 0 s1.1.length)), (14, .d (.rp 1007 0)), (18, .d (iv s19.2.2.2)), bxB 2005 (eXCategory.b a0), (2009, .r (.arr 1 [iv 0, nilv, nilv, nilv, nilv] [])), (2015, .r (.arr 1 [iv (s1.1.length : Int), .rs 1077 0 ((s19.1 ++ ([v26] : List Int)).length), .rs 1092 0 (s19.2.1.length + (([v29] : List Int).length)), .rs 1034 0 s10.1.length, .rs 1035 0 s19.2.2.1.length] [1032, 1033, 1034, 1035, 1077, 1092])), (2025, .r (.arr 1 (s1.1.flatMap eI.o) [])), (2069, .r (.arr 1 (s10.1.flatMap eI.o) [])), (2071, .r (.arr 1 (s19.2.2.1.flatMap (eS eI).o) [])), (2155, .r (.arr 1 ((s19.1 ++ ([v26] : List Int)).flatMap eI.o) [])), (2185, .r (.arr 1 (s19.2.1.flatMap eI.o ++ ([v29] : List Int).flatMap eI.o) []))] (.cons hy24'.1 (.cons hy24'.2.1 (.cons (at_b0 eI_ok hy24'.2.2 (d := iv y24) (by kernel_rfl)) (.cons hy28'.1 (.cons hy28'.2.1 (.cons (at_b0 eI_ok hy28'.2.2 (d := iv y28) (by kernel_rfl)) (cc (B := [1012]) (ρ := []) (rB := [(1012, .arr 1 (s1.1.flatMap eI.o) [])]) ok111 (spec_l01Index_c s1.1 y28 _ hv29) (.cons (.of1 (.rs (r := 1012) (sz := 1) (refs := []) (memB (by kernel_rfl)) (by kernel_rfl) (bor_flat eI_ok _ _ _))) (.cons (.same rfl) .nil)) (.inr ⟨.v, trivial⟩) (.cons (lenO_flat eI_ok s19.2.1) (.cons (lenO_flat eI_ok ([v29] : List Int)) (.cons h30 (.cons (Nat.le_of_ble_eq_true (n := 3) (m := 5) rfl) .nil))))))))))) (by kernel_rfl) (by kernel_rfl) ?_
        refine Tr.by (imp_cvE (r := 1092) (sz := 1) (refs := []) (flat_app eI.o s19.2.1 ([v29] : List Int)) (menO_flat eI_ok _) (by kernel_rfl)) ?_
        refine Tr.by (imp_cvB (r := 1007) (sz := 1) (cells := [iv (s1.1.length : Int), .rs 1077 0 ((s19.1 ++ ([v26] : List Int)).length), .rs 1092 0 (s19.2.1.length + (([v29] : List Int).length)), .rs 1034 0 s10.1.length, .rs 1035 0 s19.2.2.1.length]) (cells' := [iv (s1.1.length : Int), .rs 1077 0 ((s19.1 ++ ([v26] : List Int)).length), .rs 1092 0 ((s19.2.1 ++ ([v29] : List Int)).length), .rs 1034 0 s10.1.length, .rs 1035 0 s19.2.2.1.length]) (refs := [1032, 1033, 1034, 1035, 1077, 1092]) (refs' := [1032, 1033, 1034, 1035, 1077, 1092]) (.cons (.refl _) (.cons (.refl _) (.cons (Sub.of_eq (congrArg (D.rs 1092 0) ((len_app s19.2.1 ([v29] : List Int)) : s19.2.1.length + (([v29] : List Int).length) = (s19.2.1 ++ ([v29] : List Int)).length))) (.cons (.refl _) (.cons (.refl _) .nil))))) (by kernel_rfl) (by kernel_rfl) (by kernel_rfl)) ?_
        refine tr_sr hT hm [] [2, 4, 8, 10, 14, 18, 20, 2005, 2009, 2015, 2025, 2069, 2071, 2155, 2185, 2189] [(2, .d (.sl a1.length 0 (a1.flatMap eI.b))), (4, .d (.rp 1002 0)), (8, .d (.rp 1004 0)), (10, .d (.rs 1012 0 s1.1.length)), (14, .d (.rp 1007 0)), (18, .d (iv s19.2.2.2)), (20, .d (.rs 1094 0 (([] : List Int).length))), bxB 2005 (eXCategory.b a0), (2009, .r (.arr 1 [iv 0, nilv, nilv, nilv, nilv] [])), (2015, .r (.arr 1 [iv (s1.1.length : Int), .rs 1077 0 ((s19.1 ++ ([v26] : List Int)).length), .rs 1092 0 ((s19.2.1 ++ ([v29] : List Int)).length), .rs 1034 0 s10.1.length, .rs 1035 0 s19.2.2.1.length] [1032, 1033, 1034, 1035, 1077, 1092])), (2025, .r (.arr 1 (s1.1.flatMap eI.o) [])), (2069, .r (.arr 1 (s10.1.flatMap eI.o) [])), (2071, .r (.arr 1 (s19.2.2.1.flatMap (eS eI).o) [])), (2155, .r (.arr 1 ((s19.1 ++ ([v26] : List Int)).flatMap eI.o) [])), (2185, .r (.arr 1 ((s19.2.1 ++ ([v29] : List Int)).flatMap eI.o) [])), (2189, .r (.arr 1 (([] : List Int).flatMap eI.o) []))] .nil (by kernel_rfl) (by kernel_rfl) ?_
        refine tr_seq ?_
        refine tr_sr hT hm [] [2, 4, 8, 10, 14, 18, 20, 22, 2005, 2009, 2015, 2025, 2069, 2071, 2155, 2185, 2189] [(2, .d (.sl a1.length 0 (a1.flatMap eI.b))), (4, .d (.rp 1002 0)), (8, .d (.rp 1004 0)), (10, .d (.rs 1012 0 s1.1.length)), (14, .d (.rp 1007 0)), (18, .d (iv s19.2.2.2)), (20, .d (.rs 1094 0 (([] : List Int).length))), (22, .d (iv 0)), bxB 2005 (eXCategory.b a0), (2009, .r (.arr 1 [iv 0, nilv, nilv, nilv, nilv] [])), (2015, .r (.arr 1 [iv (s1.1.length : Int), .rs 1077 0 ((s19.1 ++ ([v26] : List Int)).length), .rs 1092 0 ((s19.2.1 ++ ([v29] : List Int)).length), .rs 1034 0 s10.1.length, .rs 1035 0 s19.2.2.1.length] [1032, 1033, 1034, 1035, 1077, 1092])), (2025, .r (.arr 1 (s1.1.flatMap eI.o) [])), (2069, .r (.arr 1 (s10.1.flatMap eI.o) [])), (2071, .r (.arr 1 (s19.2.2.1.flatMap (eS eI).o) [])), (2155, .r (.arr 1 ((s19.1 ++ ([v26] : List Int)).flatMap eI.o) [])), (2185, .r (.arr 1 ((s19.2.1 ++ ([v29] : List Int)).flatMap eI.o) [])), (2189, .r (.arr 1 (([] : List Int).flatMap eI.o) []))] .nil (by kernel_rfl) (by kernel_rfl) ?_
        refine tr_block ?_
        refine Tr.by (imp_cvB (r := 1007) (sz := 1) (cells := [iv (s1.1.length : Int), .rs 1077 0 ((s19.1 ++ ([v26] : List Int)).length), .rs 1092 0 ((s19.2.1 ++ ([v29] : List Int)).length), .rs 1034 0 s10.1.length, .rs 1035 0 s19.2.2.1.length]) (cells' := [iv (s1.1.length : Int), .rs 1077 0 ((s19.1 ++ ([v26] : List Int)).length), .rs 1092 0 ((s19.2.1 ++ ([v29] : List Int)).length), .rs 1034 0 s10.1.length, .rs 1035 0 s19.2.2.1.length]) (refs := [1032, 1033, 1034, 1035, 1077, 1092]) (refs' := [1077, 1092, 1034, 1035]) (.cons (.refl _) (.cons (.refl _) (.cons (.refl _) (.cons (.refl _) (.cons (.refl _) .nil))))) (by kernel_rfl) (by kernel_rfl) (by kernel_rfl)) ?_
        refine tr_iterS (fun (s31 : (List Int) × Int) => [(2, .d (.sl a1.length 0 (a1.flatMap eI.b))), (4, .d (.rp 1002 0)), (8, .d (.rp 1004 0)), (10, .d (.rs 1012 0 s1.1.length)), (14, .d (.rp 1007 0)), (18, .d (iv s19.2.2.2)), (20, .d (.rs 1094 0 s31.1.length)), (22, .d (iv s31.2)), bxB 2005 (eXCategory.b a0), (2009, .r (.arr 1 [iv 0, nilv, nilv, nilv, nilv] [])), (2015, .r (.arr 1 [iv (s1.1.length : Int), .rs 1077 0 ((s19.1 ++ ([v26] : List Int)).length), .rs 1092 0 ((s19.2.1 ++ ([v29] : List Int)).length), .rs 1034 0 s10.1.length, .rs 1035 0 s19.2.2.1.length] [1077, 1092, 1034, 1035])), (2025, .r (.arr 1 (s1.1.flatMap eI.o) [])), (2069, .r (.arr 1 (s10.1.flatMap eI.o) [])), (2071, .r (.arr 1 (s19.2.2.1.flatMap (eS eI).o) [])), (2155, .r (.arr 1 ((s19.1 ++ ([v26] : List Int)).flatMap eI.o) [])), (2185, .r (.arr 1 ((s19.2.1 ++ ([v29] : List Int)).flatMap eI.o) [])), (2189, .r (.arr 1 (s31.1.flatMap eI.o) []))]) (([] : List Int), 0) [2, 4, 8, 10, 14, 18, 20, 22, 2005, 2009, 2015, 2025, 2069, 2071, 2155, 2185, 2189] (by kernel_rfl) hM ?_
        intro n34 next32 ih33 s31 hM
        refine tr_seq ?_
        refine tr_sr hT hm [] [2, 4, 8, 10, 14, 18, 20, 22, 196, 2005, 2009, 2015, 2025, 2069, 2071, 2155, 2185, 2189] [(2, .d (.sl a1.length 0 (a1.flatMap eI.b))), (4, .d (.rp 1002 0)), (8, .d (.rp 1004 0)), (10, .d (.rs 1012 0 s1.1.length)), (14, .d (.rp 1007 0)), (18, .d (iv s19.2.2.2)), (20, .d (.rs 1094 0 s31.1.length)), (22, .d (iv s31.2)), (196, .d (bv (decide (s31.2 < (a1.length : Int))))), bxB 2005 (eXCategory.b a0), (2009, .r (.arr 1 [iv 0, nilv, nilv, nilv, nilv] [])), (2015, .r (.arr 1 [iv (s1.1.length : Int), .rs 1077 0 ((s19.1 ++ ([v26] : List Int)).length), .rs 1092 0 ((s19.2.1 ++ ([v29] : List Int)).length), .rs 1034 0 s10.1.length, .rs 1035 0 s19.2.2.1.length] [1077, 1092, 1034, 1035])), (2025, .r (.arr 1 (s1.1.flatMap eI.o) [])), (2069, .r (.arr 1 (s10.1.flatMap eI.o) [])), (2071, .r (.arr 1 (s19.2.2.1.flatMap (eS eI).o) [])), (2155, .r (.arr 1 ((s19.1 ++ ([v26] : List Int)).flatMap eI.o) [])), (2185, .r (.arr 1 ((s19.2.1 ++ ([v29] : List Int)).flatMap eI.o) [])), (2189, .r (.arr 1 (s31.1.flatMap eI.o) []))] .nil (by kernel_rfl) (by kernel_rfl) ?_
        rcases Bool.eq_false_or_eq_true (decide (s31.2 < (a1.length : Int))) with h35 | h35
        · have hM := ite_true' hM h35
          refine tr_condTe (e := decide (s31.2 < (a1.length : Int))) h35 (by kernel_rfl) ?_
          refine tr_skip (q_n ?_)
          refine tr_seq ?_
          refine tr_block ?_
          obtain ⟨y36, hy36, hM⟩ := bind_some' hM
          have hy36' := idx_some hy36
          obtain ⟨y37, hy37, hM⟩ := bind_some' hM
          have hy37' := idx_some hy37
          obtain ⟨y38, hy38, hM⟩ := bind_some' hM
          have hy38' := idx_some hy38
          obtain ⟨v39, hv39, hM⟩ := bind_some' hM
          obtain ⟨h40, hM⟩ := chk_some hM
          refine tr_r hT hm [(7, .val (iv y24)), (9, .val (.sl y36.length 0 (y36.flatMap eI.b))), (13, .val (iv y37)), (15, .val (iv y38)), (16, .call [] [] [.sl a1.length 0 (a1.flatMap eI.b), iv y38] [] (iv v39)), (18, .app true)] [2, 4, 8, 10, 14, 18, 20, 22, 2005, 2009, 2015, 2025, 2069, 2071, 2155, 2185, 2239] [(2, .d (.sl a1.length 0 (a1.flatMap eI.b))), (4, .d (.rp 1002 0)), (8, .d (.rp 1004 0)), (10, .d (.rs 1012 0 s1.1.length)), (14, .d (.rp 1007 0)), (18, .d (iv s19.2.2.2)), (20, .d (.rs 1119 0 (s31.1.length + (([v39] : List Int).length)))), (22, .d (iv s31.2)), bxB 2005 (eXCategory.b a0), (2009, .r (.arr 1 [iv 0, nilv, nilv, nilv, nilv] [])), (2015, .r (.arr 1 [iv (s1.1.length : Int), .rs 1077 0 ((s19.1 ++ ([v26] : List Int)).length), .rs 1092 0 ((s19.2.1 ++ ([v29] : List Int)).length), .rs 1034 0 s10.1.length, .rs 1035 0 s19.2.2.1.length] [1077, 1092, 1034, 1035])), (2025, .r (.arr 1 (s1.1.flatMap eI.o) [])), (2069, .r (.arr 1 (s10.1.flatMap eI.o) [])), (2071, .r (.arr 1 (s19.2.2.1.flatMap (eS eI).o) [])), (2155, .r (.arr 1 ((s19.1 ++ ([v26] : List Int)).flatMap eI.o) [])), (2185, .r (.arr 1 ((s19.2.1 ++ ([v29] : List Int)).flatMap eI.o) [])), (2239, .r (.arr 1 (s31.1.flatMap eI.o ++ ([v39] : List Int).flatMap eI.o) []))] (.cons hy24'.1 (.cons hy24'.2.1 (.cons (at_b0 eI_ok hy24'.2.2 (d := iv y24) (by kernel_rfl)) (.cons hy36'.1 (.cons hy36'.2.1 (.cons (at_b0 (eS_ok eI_ok) hy36'.2.2 (d := .sl y36.length 0 (y36.flatMap eI.b)) (by kernel_rfl)) (.cons hy37'.1 (.cons hy37'.2.1 (.cons (at_b0 eI_ok hy37'.2.2 (d := iv y37) (by kernel_rfl)) (.cons hy38'.1 (.cons hy38'.2.1 (.cons (at_b0 eI_ok hy38'.2.2 (d := iv y38) (by kernel_rfl)) (cc0 ok111 (spec_l01Index_c a1 y38 _ hv39) (by kernel_rfl) (.cons (lenO_flat eI_ok s31.1) (.cons (lenO_flat eI_ok ([v39] : List Int)) (.cons h40 .nil)))))))))))))))) (by kernel_rfl) (by kernel_rfl) (b_n (q_n ?_))
          refine Tr.by (imp_cvE (r := 1119) (sz := 1) (refs := []) (flat_app eI.o s31.1 ([v39] : List Int)) (menO_flat eI_ok _) (by kernel_rfl)) ?_
          refine Tr.by (imp_cvD (k := 20) (congrArg (D.rs 1119 0) ((len_app s31.1 ([v39] : List Int)) : s31.1.length + (([v39] : List Int).length) = (s31.1 ++ ([v39] : List Int)).length)) (by kernel_rfl)) ?_
          refine tr_r hT hm [] [2, 4, 8, 10, 14, 18, 20, 22, 2005, 2009, 2015, 2025, 2069, 2071, 2155, 2185, 2239] [(2, .d (.sl a1.length 0 (a1.flatMap eI.b))), (4, .d (.rp 1002 0)), (8, .d (.rp 1004 0)), (10, .d (.rs 1012 0 s1.1.length)), (14, .d (.rp 1007 0)), (18, .d (iv s19.2.2.2)), (20, .d (.rs 1119 0 ((s31.1 ++ ([v39] : List Int)).length))), (22, .d (iv (IntKind.i64.wrap (s31.2 + 1)))), bxB 2005 (eXCategory.b a0), (2009, .r (.arr 1 [iv 0, nilv, nilv, nilv, nilv] [])), (2015, .r (.arr 1 [iv (s1.1.length : Int), .rs 1077 0 ((s19.1 ++ ([v26] : List Int)).length), .rs 1092 0 ((s19.2.1 ++ ([v29] : List Int)).length), .rs 1034 0 s10.1.length, .rs 1035 0 s19.2.2.1.length] [1077, 1092, 1034, 1035])), (2025, .r (.arr 1 (s1.1.flatMap eI.o) [])), (2069, .r (.arr 1 (s10.1.flatMap eI.o) [])), (2071, .r (.arr 1 (s19.2.2.1.flatMap (eS eI).o) [])), (2155, .r (.arr 1 ((s19.1 ++ ([v26] : List Int)).flatMap eI.o) [])), (2185, .r (.arr 1 ((s19.2.1 ++ ([v29] : List Int)).flatMap eI.o) [])), (2239, .r (.arr 1 ((s31.1 ++ ([v39] : List Int)).flatMap eI.o) []))] .nil (by kernel_rfl) (by kernel_rfl) (l_n ?_)
          refine TrL.by (imp_sel (ks := [2, 4, 8, 10, 14, 18, 20, 22, 2005, 2009, 2015, 2025, 2069, 2071, 2155, 2185, 2239]) (st' := [(2, .d (.sl a1.length 0 (a1.flatMap eI.b))), (4, .d (.rp 1002 0)), (8, .d (.rp 1004 0)), (10, .d (.rs 1012 0 s1.1.length)), (14, .d (.rp 1007 0)), (18, .d (iv s19.2.2.2)), (20, .d (.rs 1119 0 ((s31.1 ++ ([v39] : List Int)).length))), (22, .d (iv (IntKind.i64.wrap (s31.2 + 1)))), bxB 2005 (eXCategory.b a0), (2009, .r (.arr 1 [iv 0, nilv, nilv, nilv, nilv] [])), (2015, .r (.arr 1 [iv (s1.1.length : Int), .rs 1077 0 ((s19.1 ++ ([v26] : List Int)).length), .rs 1092 0 ((s19.2.1 ++ ([v29] : List Int)).length), .rs 1034 0 s10.1.length, .rs 1035 0 s19.2.2.1.length] [1077, 1092, 1034, 1035])), (2025, .r (.arr 1 (s1.1.flatMap eI.o) [])), (2069, .r (.arr 1 (s10.1.flatMap eI.o) [])), (2071, .r (.arr 1 (s19.2.2.1.flatMap (eS eI).o) [])), (2155, .r (.arr 1 ((s19.1 ++ ([v26] : List Int)).flatMap eI.o) [])), (2185, .r (.arr 1 ((s19.2.1 ++ ([v29] : List Int)).flatMap eI.o) [])), (2239, .r (.arr 1 ((s31.1 ++ ([v39] : List Int)).flatMap eI.o) []))]) (by kernel_rfl)) ?_
          refine TrL.by (imp_rename (r := 1119) (q := 1094) (by kernel_rfl) (Nat.le_of_ble_eq_true rfl)) ?_
          exact trl_start (ks := [2, 4, 8, 10, 14, 18, 20, 22, 2005, 2009, 2015, 2025, 2069, 2071, 2155, 2185, 2189]) (by kernel_rfl) (ih33 (s31.1 ++ ([v39] : List Int), IntKind.i64.wrap (s31.2 + 1)) hM)
        · have hM := ite_false' hM h35
          refine tr_condFe (e := decide (s31.2 < (a1.length : Int))) h35 (by kernel_rfl) ?_
          refine tr_exit (q_x (l_x (b_h (q_n ?_))))
          obtain ⟨h41, hM⟩ := chk_some hM
          refine tr_r hT hm [(4, .app true)] [2, 4, 8, 10, 14, 18, 2005, 2009, 2015, 2025, 2069, 2155, 2185, 2189, 2249] [(2, .d (.sl a1.length 0 (a1.flatMap eI.b))), (4, .d (.rp 1002 0)), (8, .d (.rp 1004 0)), (10, .d (.rs 1012 0 s1.1.length)), (14, .d (.rp 1007 0)), (18, .d (iv s19.2.2.2)), bxB 2005 (eXCategory.b a0), (2009, .r (.arr 1 [iv 0, nilv, nilv, nilv, nilv] [])), (2015, .r (.arr 1 [iv (s1.1.length : Int), .rs 1077 0 ((s19.1 ++ ([v26] : List Int)).length), .rs 1092 0 ((s19.2.1 ++ ([v29] : List Int)).length), .rs 1034 0 s10.1.length, .rs 1124 0 (s19.2.2.1.length + 1)] [1077, 1092, 1034, 1035, 1124])), (2025, .r (.arr 1 (s1.1.flatMap eI.o) [])), (2069, .r (.arr 1 (s10.1.flatMap eI.o) [])), (2155, .r (.arr 1 ((s19.1 ++ ([v26] : List Int)).flatMap eI.o) [])), (2185, .r (.arr 1 ((s19.2.1 ++ ([v29] : List Int)).flatMap eI.o) [])), (2189, .r (.arr 1 (s31.1.flatMap eI.o) [])), (2249, .r (.arr 1 (s19.2.2.1.flatMap (eS eI).o ++ [.rs 1094 0 s31.1.length]) [1094]))] (.cons (lenO_flat (eS_ok eI_ok) s19.2.2.1) (.cons (by kernel_rfl : ([.rs 1094 0 s31.1.length] : List D).length = 1 * 1) (.cons h41 (.cons (Nat.le_of_ble_eq_true (n := 5) (m := 5) rfl) .nil)))) (by kernel_rfl) (by kernel_rfl) (b_n (q_n ?_))
          refine Tr.by (imp_demE (r := 1124) (q := 1094) (sz := 1) (n := s31.1.length) (j := 0) (pre := s19.2.2.1.flatMap (eS eI).o) (l := [.rs 1094 0 s31.1.length]) (refs := [1094]) (refs' := []) (menO_flat (eS_ok eI_ok) _) (lenO_flat eI_ok s31.1) (by kernel_rfl) (by kernel_rfl) (by kernel_rfl) (by kernel_rfl) (by kernel_rfl)) ?_
          refine Tr.by (imp_cvE (r := 1124) (sz := 1) (refs := []) (flat_snoc (eS eI).o s19.2.2.1 s31.1) (menO_flat (eS_ok eI_ok) _) (by kernel_rfl)) ?_
          refine Tr.by (imp_cvB (r := 1007) (sz := 1) (cells := [iv (s1.1.length : Int), .rs 1077 0 ((s19.1 ++ ([v26] : List Int)).length), .rs 1092 0 ((s19.2.1 ++ ([v29] : List Int)).length), .rs 1034 0 s10.1.length, .rs 1124 0 (s19.2.2.1.length + 1)]) (cells' := [iv (s1.1.length : Int), .rs 1077 0 ((s19.1 ++ ([v26] : List Int)).length), .rs 1092 0 ((s19.2.1 ++ ([v29] : List Int)).length), .rs 1034 0 s10.1.length, .rs 1124 0 ((s19.2.2.1 ++ [s31.1]).length)]) (refs := [1077, 1092, 1034, 1035, 1124]) (refs' := [1077, 1092, 1034, 1035, 1124]) (.cons (.refl _) (.cons (.refl _) (.cons (.refl _) (.cons (.refl _) (.cons (Sub.of_eq (congrArg (D.rs 1124 0) ((len_snoc s19.2.2.1 s31.1) : s19.2.2.1.length + 1 = (s19.2.2.1 ++ [s31.1]).length))) .nil))))) (by kernel_rfl) (by kernel_rfl) (by kernel_rfl)) ?_
          refine tr_r hT hm [] [2, 4, 8, 10, 14, 18, 2005, 2009, 2015, 2025, 2069, 2155, 2185, 2249] [(2, .d (.sl a1.length 0 (a1.flatMap eI.b))), (4, .d (.rp 1002 0)), (8, .d (.rp 1004 0)), (10, .d (.rs 1012 0 s1.1.length)), (14, .d (.rp 1007 0)), (18, .d (iv (IntKind.i64.wrap (s19.2.2.2 + 1)))), bxB 2005 (eXCategory.b a0), (2009, .r (.arr 1 [iv 0, nilv, nilv, nilv, nilv] [])), (2015, .r (.arr 1 [iv (s1.1.length : Int), .rs 1077 0 ((s19.1 ++ ([v26] : List Int)).length), .rs 1092 0 ((s19.2.1 ++ ([v29] : List Int)).length), .rs 1034 0 s10.1.length, .rs 1124 0 ((s19.2.2.1 ++ [s31.1]).length)] [1077, 1092, 1034, 1035, 1124])), (2025, .r (.arr 1 (s1.1.flatMap eI.o) [])), (2069, .r (.arr 1 (s10.1.flatMap eI.o) [])), (2155, .r (.arr 1 ((s19.1 ++ ([v26] : List Int)).flatMap eI.o) [])), (2185, .r (.arr 1 ((s19.2.1 ++ ([v29] : List Int)).flatMap eI.o) [])), (2249, .r (.arr 1 ((s19.2.2.1 ++ [s31.1]).flatMap (eS eI).o) []))] .nil (by kernel_rfl) (by kernel_rfl) (l_n ?_)
          refine TrL.by (imp_cvB (r := 1007) (sz := 1) (cells := [iv (s1.1.length : Int), .rs 1077 0 ((s19.1 ++ ([v26] : List Int)).length), .rs 1092 0 ((s19.2.1 ++ ([v29] : List Int)).length), .rs 1034 0 s10.1.length, .rs 1124 0 ((s19.2.2.1 ++ [s31.1]).length)]) (cells' := [iv (s1.1.length : Int), .rs 1077 0 ((s19.1 ++ ([v26] : List Int)).length), .rs 1092 0 ((s19.2.1 ++ ([v29] : List Int)).length), .rs 1034 0 s10.1.length, .rs 1124 0 ((s19.2.2.1 ++ [s31.1]).length)]) (refs := [1077, 1092, 1034, 1035, 1124]) (refs' := [1077, 1092, 1034, 1124]) (.cons (.refl _) (.cons (.refl _) (.cons (.refl _) (.cons (.refl _) (.cons (.refl _) .nil))))) (by kernel_rfl) (by kernel_rfl) (by kernel_rfl)) ?_
          refine TrL.by (imp_sel (ks := [2, 4, 8, 10, 14, 18, 2005, 2009, 2015, 2025, 2069, 2155, 2185, 2249]) (st' := [(2, .d (.sl a1.length 0 (a1.flatMap eI.b))), (4, .d (.rp 1002 0)), (8, .d (.rp 1004 0)), (10, .d (.rs 1012 0 s1.1.length)), (14, .d (.rp 1007 0)), (18, .d (iv (IntKind.i64.wrap (s19.2.2.2 + 1)))), bxB 2005 (eXCategory.b a0), (2009, .r (.arr 1 [iv 0, nilv, nilv, nilv, nilv] [])), (2015, .r (.arr 1 [iv (s1.1.length : Int), .rs 1077 0 ((s19.1 ++ ([v26] : List Int)).length), .rs 1092 0 ((s19.2.1 ++ ([v29] : List Int)).length), .rs 1034 0 s10.1.length, .rs 1124 0 ((s19.2.2.1 ++ [s31.1]).length)] [1077, 1092, 1034, 1124])), (2025, .r (.arr 1 (s1.1.flatMap eI.o) [])), (2069, .r (.arr 1 (s10.1.flatMap eI.o) [])), (2155, .r (.arr 1 ((s19.1 ++ ([v26] : List Int)).flatMap eI.o) [])), (2185, .r (.arr 1 ((s19.2.1 ++ ([v29] : List Int)).flatMap eI.o) [])), (2249, .r (.arr 1 ((s19.2.2.1 ++ [s31.1]).flatMap (eS eI).o) []))]) (by kernel_rfl)) ?_
          refine TrL.by (imp_rename (r := 1077) (q := 1032) (by kernel_rfl) (Nat.le_of_ble_eq_true rfl)) ?_
          refine TrL.by (imp_rename (r := 1092) (q := 1033) (by kernel_rfl) (Nat.le_of_ble_eq_true rfl)) ?_
          refine TrL.by (imp_rename (r := 1124) (q := 1035) (by kernel_rfl) (Nat.le_of_ble_eq_true rfl)) ?_
          exact trl_start (ks := [2, 4, 8, 10, 14, 18, 2005, 2009, 2015, 2025, 2065, 2067, 2069, 2071]) (by kernel_rfl) (ih21 (s19.1 ++ ([v26] : List Int), s19.2.1 ++ ([v29] : List Int), s19.2.2.1 ++ [s31.1], IntKind.i64.wrap (s19.2.2.2 + 1)) hM)
      · have hM := ite_false' hM h23
        refine tr_condFe (e := decide (s19.2.2.2 < (a1.length : Int))) h23 (by kernel_rfl) ?_
        refine tr_exit (q_x (l_x (b_h (q_n ?_))))
        refine tr_sr hT hm [] [8, 2009, 2065, 2067, 2069, 2071] [(8, .d (.rp 1004 0)), (2009, .r (.arr 1 [iv (s1.1.length : Int), .rs 1032 0 s19.1.length, .rs 1033 0 s19.2.1.length, .rs 1034 0 s10.1.length, .rs 1035 0 s19.2.2.1.length] [1032, 1033, 1034, 1035])), (2065, .r (.arr 1 (s19.1.flatMap eI.o) [])), (2067, .r (.arr 1 (s19.2.1.flatMap eI.o) [])), (2069, .r (.arr 1 (s10.1.flatMap eI.o) [])), (2071, .r (.arr 1 (s19.2.2.1.flatMap (eS eI).o) []))] (.cons (Nat.le_of_ble_eq_true (n := 5) (m := 5) rfl) .nil) (by kernel_rfl) (by kernel_rfl) ?_
        refine tr_ret (rg_r ?_)
        obtain rfl := Option.some.inj hM
        exact retg (names := []) (.cons (lenO_flat eI_ok s19.1) (.cons (lenO_flat eI_ok s19.2.1) (.cons (lenO_flat eI_ok s10.1) (.cons (lenO_flat (eS_ok eI_ok) s19.2.2.1) .nil)))) (by kernel_rfl)

theorem ok280 : CallOk Try.prog 280 := callOk_of Try.func280 (by kernel_rfl) (by kernel_rfl)
theorem impl_has_c (a0 : List Int) (a1 : Int) (r : Bool) (hM : M.impl_has a0 a1 = some r) :
    FnC Try.prog 280 [] [.sl a0.length 0 (a0.flatMap eI.b), iv a1] [] (bv r) := by
  refine fnc_startG (N := 17) (np := 500) hT Try.func280 rfl rfl (by kernel_rfl) ?_
  unfold M.impl_has at hM
  refine tr_start (ks := [0, 2]) (st' := [(0, .d (.sl a0.length 0 (a0.flatMap eI.b))), (2, .d (iv a1))]) (by kernel_rfl) ?_
  refine tr_sr hT hm [] [0, 2] [(0, .d (.sl a0.length 0 (a0.flatMap eI.b))), (2, .d (iv a1))] .nil (by kernel_rfl) (by kernel_rfl) ?_
  refine tr_seq ?_
  refine tr_sr hT hm [] [2, 14, 16, 18] [(2, .d (iv a1)), (14, .d (.sl a0.length 0 (a0.flatMap eI.b))), (16, .d (iv (a0.length : Int))), (18, .d (iv 0))] .nil (by kernel_rfl) (by kernel_rfl) ?_
  refine tr_block ?_
  refine tr_iterS (fun (s1 : Int) => [(2, .d (iv a1)), (14, .d (.sl a0.length 0 (a0.flatMap eI.b))), (16, .d (iv (a0.length : Int))), (18, .d (iv s1))]) 0 [2, 14, 16, 18] (by kernel_rfl) hM ?_
  intro n4 next2 ih3 s1 hM
  refine tr_sr hT hm [] [2, 14, 16, 18, 20] [(2, .d (iv a1)), (14, .d (.sl a0.length 0 (a0.flatMap eI.b))), (16, .d (iv (a0.length : Int))), (18, .d (iv s1)), (20, .d (bv (decide (s1 < (a0.length : Int)))))] .nil (by kernel_rfl) (by kernel_rfl) ?_
  refine tr_seq ?_
  rcases Bool.eq_false_or_eq_true (decide (s1 < (a0.length : Int))) with h5 | h5
  · have hM := ite_true' hM h5
    refine tr_condTe (e := decide (s1 < (a0.length : Int))) h5 (by kernel_rfl) ?_
    refine tr_skip (q_n ?_)
    refine tr_seq ?_
    refine tr_block ?_
    obtain ⟨y6, hy6, hM⟩ := bind_some' hM
    have hy6' := idx_some hy6
    refine tr_sr hT hm [(1, .val (iv y6))] [2, 12, 14, 16, 18] [(2, .d (iv a1)), (12, .d (iv y6)), (14, .d (.sl a0.length 0 (a0.flatMap eI.b))), (16, .d (iv (a0.length : Int))), (18, .d (iv s1))] (.cons hy6'.1 (.cons hy6'.2.1 (.cons (at_b0 eI_ok hy6'.2.2 (d := iv y6) (by kernel_rfl)) .nil))) (by kernel_rfl) (by kernel_rfl) ?_
    refine tr_sr hT hm [] [2, 14, 16, 18, 30] [(2, .d (iv a1)), (14, .d (.sl a0.length 0 (a0.flatMap eI.b))), (16, .d (iv (a0.length : Int))), (18, .d (iv s1)), (30, .d (bv (y6 == a1)))] .nil (by kernel_rfl) (by kernel_rfl) ?_
    rcases Bool.eq_false_or_eq_true (y6 == a1) with h7 | h7
    · have hM := ite_true' hM h7
      refine tr_condTe (e := y6 == a1) h7 (by kernel_rfl) ?_
      refine tr_sr hT hm [] [8] [(8, .d (bv true))] .nil (by kernel_rfl) (by kernel_rfl) ?_
      refine tr_ret (b_r (q_r (l_r (b_r (q_r (rg_r ?_))))))
      obtain rfl := Option.some.inj hM
      exact retg (names := []) .nil (by kernel_rfl)
    · have hM := ite_false' hM h7
      refine tr_condFe (e := y6 == a1) h7 (by kernel_rfl) ?_
      refine tr_skip (b_n (q_n ?_))
      refine tr_r hT hm [] [2, 14, 16, 18] [(2, .d (iv a1)), (14, .d (.sl a0.length 0 (a0.flatMap eI.b))), (16, .d (iv (a0.length : Int))), (18, .d (iv (IntKind.i64.wrap (s1 + 1))))] .nil (by kernel_rfl) (by kernel_rfl) (l_n ?_)
      exact trl_start (ks := [2, 14, 16, 18]) (by kernel_rfl) (ih3 (IntKind.i64.wrap (s1 + 1)) hM)
  · have hM := ite_false' hM h5
    refine tr_condFe (e := decide (s1 < (a0.length : Int))) h5 (by kernel_rfl) ?_
    refine tr_exit (q_x (l_x (b_h (q_n ?_))))
    refine tr_sr hT hm [] [8] [(8, .d (bv false))] .nil (by kernel_rfl) (by kernel_rfl) ?_
    refine tr_ret (rg_r ?_)
    obtain rfl := Option.some.inj hM
    exact retg (names := []) .nil (by kernel_rfl)

theorem ok185 : CallOk Try.prog 185 := callOk_of Try.func185 (by kernel_rfl) (by kernel_rfl)
theorem impl_Category_marks_c (a0 : XCategory) (a1 : List Int) (r : (List Bool)) (hM : M.impl_Category_marks a0 a1 = some r) :
    FnC Try.prog 185 [] [.pt (eXCategory.b a0) 0, .sl a1.length 0 (a1.flatMap eI.b)] [] (.fr 1 r.length (r.flatMap eB.o)) := by
  refine fnc_startG (N := 22) (np := 500) hT Try.func185 rfl rfl (by kernel_rfl) ?_
  unfold M.impl_Category_marks at hM
  refine tr_start (ks := [0, 2]) (st' := [(0, .d (.pt (eXCategory.b a0) 0)), (2, .d (.sl a1.length 0 (a1.flatMap eI.b)))]) (by kernel_rfl) ?_
  refine tr_sr hT hm [] [0, 2] [(0, .d (.pt (eXCategory.b a0) 0)), (2, .d (.sl a1.length 0 (a1.flatMap eI.b)))] .nil (by kernel_rfl) (by kernel_rfl) ?_
  obtain ⟨v1, hv1, hM⟩ := bind_some' hM
  obtain ⟨h2, hM⟩ := chk_some hM
  refine tr_sr hT hm [(1, .call [] [] [.pt (eXCategory.b a0) 0] [] (iv v1))] [2, 10, 2021] [(2, .d (.sl a1.length 0 (a1.flatMap eI.b))), (10, .d (.rs 1010 0 v1.toNat)), (2021, .r (.arr 1 (repl v1.toNat [.bool false]) []))] (cc0 ok161 (impl_Category_arrows_c a0 _ hv1) (by kernel_rfl) (.cons h2.1 (.cons (Int.le_refl v1) (.cons h2.2 .nil)))) (by kernel_rfl) (by kernel_rfl) ?_
  refine Tr.by (imp_cvE (r := 1010) (sz := 1) (refs := []) (repl_flat (f := eB.o) (zs := [.bool false]) (z := (false : Bool)) rfl v1.toNat) (menO_flat eB_ok _) (by kernel_rfl)) ?_
  refine Tr.by (imp_cvD (k := 10) (congrArg (D.rs 1010 0) (List.length_replicate.symm : v1.toNat = (List.replicate v1.toNat (false : Bool)).length)) (by kernel_rfl)) ?_
  refine tr_seq ?_
  refine tr_sr hT hm [] [10, 22, 24, 26, 2021] [(10, .d (.rs 1010 0 ((List.replicate v1.toNat (false : Bool)).length))), (22, .d (.sl a1.length 0 (a1.flatMap eI.b))), (24, .d (iv (a1.length : Int))), (26, .d (iv 0)), (2021, .r (.arr 1 ((List.replicate v1.toNat (false : Bool)).flatMap eB.o) []))] .nil (by kernel_rfl) (by kernel_rfl) ?_
  refine tr_block ?_
  refine tr_iterS (fun (s3 : (List Bool) × Int) => [(10, .d (.rs 1010 0 s3.1.length)), (22, .d (.sl a1.length 0 (a1.flatMap eI.b))), (24, .d (iv (a1.length : Int))), (26, .d (iv s3.2)), (2021, .r (.arr 1 (s3.1.flatMap eB.o) []))]) ((List.replicate v1.toNat (false : Bool)), 0) [10, 22, 24, 26, 2021] (by kernel_rfl) hM ?_
  intro n6 next4 ih5 s3 hM
  refine tr_sr hT hm [] [10, 22, 24, 26, 28, 2021] [(10, .d (.rs 1010 0 s3.1.length)), (22, .d (.sl a1.length 0 (a1.flatMap eI.b))), (24, .d (iv (a1.length : Int))), (26, .d (iv s3.2)), (28, .d (bv (decide (s3.2 < (a1.length : Int))))), (2021, .r (.arr 1 (s3.1.flatMap eB.o) []))] .nil (by kernel_rfl) (by kernel_rfl) ?_
  refine tr_seq ?_
  rcases Bool.eq_false_or_eq_true (decide (s3.2 < (a1.length : Int))) with h7 | h7
  · have hM := ite_true' hM h7
    refine tr_condTe (e := decide (s3.2 < (a1.length : Int))) h7 (by kernel_rfl) ?_
    refine tr_skip (q_n ?_)
    refine tr_seq ?_
    refine tr_block ?_
    obtain ⟨y8, hy8, hM⟩ := bind_some' hM
    have hy8' := idx_some hy8
    refine tr_sr hT hm [(1, .val (iv y8))] [10, 14, 22, 24, 26, 2021] [(10, .d (.rs 1010 0 s3.1.length)), (14, .d (iv y8)), (22, .d (.sl a1.length 0 (a1.flatMap eI.b))), (24, .d (iv (a1.length : Int))), (26, .d (iv s3.2)), (2021, .r (.arr 1 (s3.1.flatMap eB.o) []))] (.cons hy8'.1 (.cons hy8'.2.1 (.cons (at_b0 eI_ok hy8'.2.2 (d := iv y8) (by kernel_rfl)) .nil))) (by kernel_rfl) (by kernel_rfl) ?_
    obtain ⟨y9, hy9, hM⟩ := bind_some' hM
    have hy9' := idx_some hy9
    refine tr_r hT hm [] [10, 22, 24, 26, 2021] [(10, .d (.rs 1010 0 s3.1.length)), (22, .d (.sl a1.length 0 (a1.flatMap eI.b))), (24, .d (iv (a1.length : Int))), (26, .d (iv s3.2)), (2021, .r (.arr 1 ((s3.1.flatMap eB.o).take (0 + y8.toNat * 1) ++ [bv true] ++ (s3.1.flatMap eB.o).drop (0 + y8.toNat * 1 + 1)) []))] (.cons hy9'.1 (.cons hy9'.2.1 (.cons (store_le eB_ok hy9'.2.2) .nil))) (by kernel_rfl) (by kernel_rfl) (b_n (q_n ?_))
    refine Tr.by (imp_cvE (r := 1010) (sz := 1) (refs := []) (set_flat eB_ok.lenO (y := true) hy9'.2.2) (menO_flat eB_ok _) (by kernel_rfl)) ?_
    refine Tr.by (imp_cvD (k := 10) (congrArg (D.rs 1010 0) (List.length_set.symm : s3.1.length = (s3.1.set y8.toNat true).length)) (by kernel_rfl)) ?_
    refine tr_r hT hm [] [10, 22, 24, 26, 2021] [(10, .d (.rs 1010 0 ((s3.1.set y8.toNat true).length))), (22, .d (.sl a1.length 0 (a1.flatMap eI.b))), (24, .d (iv (a1.length : Int))), (26, .d (iv (IntKind.i64.wrap (s3.2 + 1)))), (2021, .r (.arr 1 ((s3.1.set y8.toNat true).flatMap eB.o) []))] .nil (by kernel_rfl) (by kernel_rfl) (l_n ?_)
    exact trl_start (ks := [10, 22, 24, 26, 2021]) (by kernel_rfl) (ih5 (s3.1.set y8.toNat true, IntKind.i64.wrap (s3.2 + 1)) hM)
  · have hM := ite_false' hM h7
    refine tr_condFe (e := decide (s3.2 < (a1.length : Int))) h7 (by kernel_rfl) ?_
    refine tr_exit (q_x (l_x (b_h (q_n ?_))))
    refine tr_sr hT hm [] [8, 2021] [(8, .d (.rs 1010 0 s3.1.length)), (2021, .r (.arr 1 (s3.1.flatMap eB.o) []))] .nil (by kernel_rfl) (by kernel_rfl) ?_
    refine tr_ret (rg_r ?_)
    obtain rfl := Option.some.inj hM
    exact retg (names := []) (.cons (lenO_flat eB_ok s3.1) .nil) (by kernel_rfl)

end Go.Proofs.Ytiikkfdehbcfaaa.WzS
