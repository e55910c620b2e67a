import Derived.Test.YthafadgnjkmfkaaGxEO0
import Derived.Test.YthafadgnjkmfkaaGxEM0
import Derived.Test.YthafadgnjkmfkaaGxzFW
import Derived.KernelRfl
namespace Go.Proofs.Ythafadgnjkmfkaa.WzH
open Go.Gx Go.Proofs.Ythafadgnjkmfkaa.WvB Go.Proofs.Ythafadgnjkmfkaa.WvI Go.Proofs.Ythafadgnjkmfkaa.WyT Go.Proofs.Ythafadgnjkmfkaa.WzF
theorem eXCategory_r : EncR eXCategory := (eA_r (eC_r eI_r _) (eA_r (eC_r (eS_r eI_ok) _) (eA_r (eC_r (eS_r eI_ok) _) (eA_r (eC_r (eS_r eI_ok) _) (eC_r (eS_r (eS_ok eI_ok)) _)))))
def T : Tab := [(2, ⟨.int .i64, 1, 8, [.int .i64 0]⟩),
  (3, ⟨.int .i64, 1, 8, [.int .i64 0]⟩),
  (22, ⟨.slice 2, 1, 24, [.slice .none 0 0]⟩),
  (23, ⟨.slice 22, 1, 24, [.slice .none 0 0]⟩),
  (29, ⟨.struct #[⟨"Objects", 2, 0, false, "", "", 0⟩, ⟨"From", 22, 1, false, "", "", 8⟩, ⟨"To", 22, 2, false, "", "", 32⟩, ⟨"Identity", 22, 3, false, "", "", 56⟩, ⟨"Composites", 23, 4, false, "", "", 80⟩], 5, 104, [.int .i64 0, .slice .none 0 0, .slice .none 0 0, .slice .none 0 0, .slice .none 0 0]⟩),
  (150, ⟨.array 8 2, 8, 64, [.int .i64 0, .int .i64 0, .int .i64 0, .int .i64 0, .int .i64 0, .int .i64 0, .int .i64 0, .int .i64 0]⟩),
  (152, ⟨.array 8 150, 64, 512, [.int .i64 0, .int .i64 0, .int .i64 0, .int .i64 0, .int .i64 0, .int .i64 0, .int .i64 0, .int .i64 0, .int .i64 0, .int .i64 0, .int .i64 0, .int .i64 0, .int .i64 0, .int .i64 0, .int .i64 0, .int .i64 0, .int .i64 0, .int .i64 0, .int .i64 0, .int .i64 0, .int .i64 0, .int .i64 0, .int .i64 0, .int .i64 0, .int .i64 0, .int .i64 0, .int .i64 0, .int .i64 0, .int .i64 0, .int .i64 0, .int .i64 0, .int .i64 0, .int .i64 0, .int .i64 0, .int .i64 0, .int .i64 0, .int .i64 0, .int .i64 0, .int .i64 0, .int .i64 0, .int .i64 0, .int .i64 0, .int .i64 0, .int .i64 0, .int .i64 0, .int .i64 0, .int .i64 0, .int .i64 0, .int .i64 0, .int .i64 0, .int .i64 0, .int .i64 0, .int .i64 0, .int .i64 0, .int .i64 0, .int .i64 0, .int .i64 0, .int .i64 0, .int .i64 0, .int .i64 0, .int .i64 0, .int .i64 0, .int .i64 0, .int .i64 0]⟩),
  (178, ⟨.func #[22] #[] false, 1, 8, [.nilFunc]⟩),
  (184, ⟨.func #[3] #[] false, 1, 8, [.nilFunc]⟩)]
theorem hT : TabOk Try.prog T := ⟨tiok (by kernel_rfl) (by kernel_rfl), tiok (by kernel_rfl) (by kernel_rfl), tiok (by kernel_rfl) (by kernel_rfl), tiok (by kernel_rfl) (by kernel_rfl), tiok (by kernel_rfl) (by kernel_rfl), tiok (by kernel_rfl) (by kernel_rfl), tiok (by kernel_rfl) (by kernel_rfl), tiok (by kernel_rfl) (by kernel_rfl), tiok (by kernel_rfl) (by kernel_rfl), trivial⟩
theorem hm : Try.prog.follows .mixedOrders = true := by kernel_rfl
theorem ok145 : CallOk Try.prog 145 := callOk_of Try.func145 (by kernel_rfl) (by kernel_rfl)
theorem cmp_isNaN_int64_c (a0 : Int) (r : Bool) (hM : M.cmp_isNaN_int64 a0 = some r) :
    FnC Try.prog 145 [] [iv a0] [] (bv r) := by
  refine fnc_startG (N := 6) (np := 500) hT Try.func145 rfl rfl (by kernel_rfl) ?_
  unfold M.cmp_isNaN_int64 at hM
  refine tr_start (ks := [0]) (st' := [(0, .d (iv a0))]) (by kernel_rfl) ?_
  refine tr_sr hT hm [] [0] [(0, .d (iv a0))] .nil (by kernel_rfl) (by kernel_rfl) ?_
  refine tr_sr hT hm [] [4] [(4, .d (bv (a0 != a0)))] .nil (by kernel_rfl) (by kernel_rfl) ?_
  refine tr_ret (rg_r ?_)
  obtain rfl := Option.some.inj hM
  exact retg (names := []) .nil (by kernel_rfl)
theorem ok144 : CallOk Try.prog 144 := callOk_of Try.func144 (by kernel_rfl) (by kernel_rfl)
theorem cmp_Compare_int64_c (a0 : Int) (a1 : Int) (r : Int) (hM : M.cmp_Compare_int64 a0 a1 = some r) :
    FnC Try.prog 144 [] [iv a0, iv a1] [] (iv r) := by
  refine fnc_startG (N := 20) (np := 500) hT Try.func144 rfl rfl (by kernel_rfl) ?_
  unfold M.cmp_Compare_int64 at hM
  refine tr_start (ks := [0, 2]) (st' := [(0, .d (iv a0)), (2, .d (iv a1))]) (by kernel_rfl) ?_
  refine tr_sr hT hm [] [0, 2] [(0, .d (iv a0)), (2, .d (iv a1))] .nil (by kernel_rfl) (by kernel_rfl) ?_
  obtain ⟨v1, hv1, hM⟩ := bind_some' hM
  refine tr_sr hT hm [(1, .call [] [] [iv a0] [] (bv v1))] [0, 2, 10] [(0, .d (iv a0)), (2, .d (iv a1)), (10, .d (bv v1))] (cc0 ok145 (cmp_isNaN_int64_c a0 _ hv1) (by kernel_rfl) .nil) (by kernel_rfl) (by kernel_rfl) ?_
  obtain ⟨v2, hv2, hM⟩ := bind_some' hM
  refine tr_sr hT hm [(1, .call [] [] [iv a1] [] (bv v2))] [0, 2, 10, 12] [(0, .d (iv a0)), (2, .d (iv a1)), (10, .d (bv v1)), (12, .d (bv v2))] (cc0 ok145 (cmp_isNaN_int64_c a1 _ hv2) (by kernel_rfl) .nil) (by kernel_rfl) (by kernel_rfl) ?_
  refine tr_seq ?_
  refine tr_sr hT hm [] [0, 2, 12, 22] [(0, .d (iv a0)), (2, .d (iv a1)), (12, .d (bv v2)), (22, .d (bv v1))] .nil (by kernel_rfl) (by kernel_rfl) ?_
  rcases Bool.eq_false_or_eq_true v1 with h3 | h3
  · have hM := ite_true' hM h3
    refine tr_condTe (e := v1) h3 (by kernel_rfl) ?_
    refine tr_seq ?_
    refine tr_sr hT hm [] [24] [(24, .d (bv v2))] .nil (by kernel_rfl) (by kernel_rfl) ?_
    rcases Bool.eq_false_or_eq_true v2 with h4 | h4
    · have hM := ite_true' hM h4
      refine tr_condTe (e := v2) h4 (by kernel_rfl) ?_
      refine tr_sr hT hm [] [8] [(8, .d (iv 0))] .nil (by kernel_rfl) (by kernel_rfl) ?_
      refine tr_ret (q_r (q_r (rg_r ?_)))
      obtain rfl := Option.some.inj hM
      exact retg (names := []) .nil (by kernel_rfl)
    · have hM := ite_false' hM h4
      refine tr_condFe (e := v2) h4 (by kernel_rfl) ?_
      refine tr_skip (q_n ?_)
      refine tr_sr hT hm [] [8] [(8, .d (iv (-1)))] .nil (by kernel_rfl) (by kernel_rfl) ?_
      refine tr_ret (q_r (rg_r ?_))
      obtain rfl := Option.some.inj hM
      exact retg (names := []) .nil (by kernel_rfl)
  · have hM := ite_false' hM h3
    refine tr_condFe (e := v1) h3 (by kernel_rfl) ?_
    refine tr_skip (q_n ?_)
    refine tr_seq ?_
    refine tr_sr hT hm [] [0, 2, 26] [(0, .d (iv a0)), (2, .d (iv a1)), (26, .d (bv v2))] .nil (by kernel_rfl) (by kernel_rfl) ?_
    rcases Bool.eq_false_or_eq_true v2 with h5 | h5
    · have hM := ite_true' hM h5
      refine tr_condTe (e := v2) h5 (by kernel_rfl) ?_
      refine tr_sr hT hm [] [8] [(8, .d (iv 1))] .nil (by kernel_rfl) (by kernel_rfl) ?_
      refine tr_ret (q_r (rg_r ?_))
      obtain rfl := Option.some.inj hM
      exact retg (names := []) .nil (by kernel_rfl)
    · have hM := ite_false' hM h5
      refine tr_condFe (e := v2) h5 (by kernel_rfl) ?_
      refine tr_skip (q_n ?_)
      refine tr_seq ?_
      refine tr_sr hT hm [] [0, 2, 32] [(0, .d (iv a0)), (2, .d (iv a1)), (32, .d (bv (decide (a0 < a1))))] .nil (by kernel_rfl) (by kernel_rfl) ?_
      rcases Bool.eq_false_or_eq_true (decide (a0 < a1)) with h6 | h6
      · have hM := ite_true' hM h6
        refine tr_condTe (e := decide (a0 < a1)) h6 (by kernel_rfl) ?_
        refine tr_sr hT hm [] [8] [(8, .d (iv (-1)))] .nil (by kernel_rfl) (by kernel_rfl) ?_
        refine tr_ret (q_r (rg_r ?_))
        obtain rfl := Option.some.inj hM
        exact retg (names := []) .nil (by kernel_rfl)
      · have hM := ite_false' hM h6
        refine tr_condFe (e := decide (a0 < a1)) h6 (by kernel_rfl) ?_
        refine tr_skip (q_n ?_)
        refine tr_seq ?_
        refine tr_sr hT hm [] [38] [(38, .d (bv (decide (a0 > a1))))] .nil (by kernel_rfl) (by kernel_rfl) ?_
        rcases Bool.eq_false_or_eq_true (decide (a0 > a1)) with h7 | h7
        · have hM := ite_true' hM h7
          refine tr_condTe (e := decide (a0 > a1)) h7 (by kernel_rfl) ?_
          refine tr_sr hT hm [] [8] [(8, .d (iv 1))] .nil (by kernel_rfl) (by kernel_rfl) ?_
          refine tr_ret (q_r (rg_r ?_))
          obtain rfl := Option.some.inj hM
          exact retg (names := []) .nil (by kernel_rfl)
        · have hM := ite_false' hM h7
          refine tr_condFe (e := decide (a0 > a1)) h7 (by kernel_rfl) ?_
          refine tr_skip (q_n ?_)
          refine tr_sr hT hm [] [8] [(8, .d (iv 0))] .nil (by kernel_rfl) (by kernel_rfl) ?_
          refine tr_ret (rg_r ?_)
          obtain rfl := Option.some.inj hM
          exact retg (names := []) .nil (by kernel_rfl)
theorem ok142 : CallOk Try.prog 142 := callOk_of Try.func142 (by kernel_rfl) (by kernel_rfl)
theorem slices_Compare_int64_int64_c (a0 : List Int) (a1 : List Int) (r : Int) (hM : M.slices_Compare_int64_int64 a0 a1 = some r) :
    FnC Try.prog 142 [] [.sl a0.length 0 (a0.flatMap eI.b), .sl a1.length 0 (a1.flatMap eI.b)] [] (iv r) := by
  refine fnc_startG (N := 36) (np := 500) hT Try.func142 rfl rfl (by kernel_rfl) ?_
  unfold M.slices_Compare_int64_int64 at hM
  refine tr_start (ks := [0, 2]) (st' := [(0, .d (.sl a0.length 0 (a0.flatMap eI.b))), (2, .d (.sl a1.length 0 (a1.flatMap eI.b)))]) (by kernel_rfl) ?_
  refine tr_sr hT hm [] [0, 2] [(0, .d (.sl a0.length 0 (a0.flatMap eI.b))), (2, .d (.sl a1.length 0 (a1.flatMap eI.b)))] .nil (by kernel_rfl) (by kernel_rfl) ?_
  refine tr_seq ?_
  refine tr_sr hT hm [] [0, 2, 18, 20, 22] [(0, .d (.sl a0.length 0 (a0.flatMap eI.b))), (2, .d (.sl a1.length 0 (a1.flatMap eI.b))), (18, .d (.sl a0.length 0 (a0.flatMap eI.b))), (20, .d (iv (a0.length : Int))), (22, .d (iv 0))] .nil (by kernel_rfl) (by kernel_rfl) ?_
  refine tr_block ?_
  refine tr_iterS (fun (s1 : Int) => [(0, .d (.sl a0.length 0 (a0.flatMap eI.b))), (2, .d (.sl a1.length 0 (a1.flatMap eI.b))), (18, .d (.sl a0.length 0 (a0.flatMap eI.b))), (20, .d (iv (a0.length : Int))), (22, .d (iv s1))]) 0 [0, 2, 18, 20, 22] (by kernel_rfl) hM ?_
  intro n4 next2 ih3 s1 hM
  refine tr_sr hT hm [] [0, 2, 18, 20, 22, 24] [(0, .d (.sl a0.length 0 (a0.flatMap eI.b))), (2, .d (.sl a1.length 0 (a1.flatMap eI.b))), (18, .d (.sl a0.length 0 (a0.flatMap eI.b))), (20, .d (iv (a0.length : Int))), (22, .d (iv s1)), (24, .d (bv (decide (s1 < (a0.length : Int)))))] .nil (by kernel_rfl) (by kernel_rfl) ?_
  refine tr_seq ?_
  rcases Bool.eq_false_or_eq_true (decide (s1 < (a0.length : Int))) with h5 | h5
  · have hM := ite_true' hM h5
    refine tr_condTe (e := decide (s1 < (a0.length : Int))) h5 (by kernel_rfl) ?_
    refine tr_skip (q_n ?_)
    refine tr_seq ?_
    refine tr_block ?_
    obtain ⟨y6, hy6, hM⟩ := bind_some' hM
    have hy6' := idx_some hy6
    refine tr_sr hT hm [(2, .val (iv y6))] [0, 2, 10, 12, 18, 20, 22] [(0, .d (.sl a0.length 0 (a0.flatMap eI.b))), (2, .d (.sl a1.length 0 (a1.flatMap eI.b))), (10, .d (iv s1)), (12, .d (iv y6)), (18, .d (.sl a0.length 0 (a0.flatMap eI.b))), (20, .d (iv (a0.length : Int))), (22, .d (iv s1))] (.cons hy6'.1 (.cons hy6'.2.1 (.cons (at_b0 eI_ok hy6'.2.2 (d := iv y6) (by kernel_rfl)) .nil))) (by kernel_rfl) (by kernel_rfl) ?_
    refine tr_seq ?_
    refine tr_sr hT hm [] [0, 2, 10, 12, 18, 20, 22, 38] [(0, .d (.sl a0.length 0 (a0.flatMap eI.b))), (2, .d (.sl a1.length 0 (a1.flatMap eI.b))), (10, .d (iv s1)), (12, .d (iv y6)), (18, .d (.sl a0.length 0 (a0.flatMap eI.b))), (20, .d (iv (a0.length : Int))), (22, .d (iv s1)), (38, .d (bv (decide (s1 ≥ (a1.length : Int)))))] .nil (by kernel_rfl) (by kernel_rfl) ?_
    rcases Bool.eq_false_or_eq_true (decide (s1 ≥ (a1.length : Int))) with h7 | h7
    · have hM := ite_true' hM h7
      refine tr_condTe (e := decide (s1 ≥ (a1.length : Int))) h7 (by kernel_rfl) ?_
      refine tr_sr hT hm [] [8] [(8, .d (iv 1))] .nil (by kernel_rfl) (by kernel_rfl) ?_
      refine tr_ret (q_r (b_r (q_r (l_r (b_r (q_r (rg_r ?_)))))))
      obtain rfl := Option.some.inj hM
      exact retg (names := []) .nil (by kernel_rfl)
    · have hM := ite_false' hM h7
      refine tr_condFe (e := decide (s1 ≥ (a1.length : Int))) h7 (by kernel_rfl) ?_
      refine tr_skip (q_n ?_)
      obtain ⟨y8, hy8, hM⟩ := bind_some' hM
      have hy8' := idx_some hy8
      refine tr_sr hT hm [(3, .val (iv y8))] [0, 2, 12, 14, 18, 20, 22] [(0, .d (.sl a0.length 0 (a0.flatMap eI.b))), (2, .d (.sl a1.length 0 (a1.flatMap eI.b))), (12, .d (iv y6)), (14, .d (iv y8)), (18, .d (.sl a0.length 0 (a0.flatMap eI.b))), (20, .d (iv (a0.length : Int))), (22, .d (iv s1))] (.cons hy8'.1 (.cons hy8'.2.1 (.cons (at_b0 eI_ok hy8'.2.2 (d := iv y8) (by kernel_rfl)) .nil))) (by kernel_rfl) (by kernel_rfl) ?_
      obtain ⟨v9, hv9, hM⟩ := bind_some' hM
      refine tr_sr hT hm [(2, .call [] [] [iv y6, iv y8] [] (iv v9))] [0, 2, 16, 18, 20, 22] [(0, .d (.sl a0.length 0 (a0.flatMap eI.b))), (2, .d (.sl a1.length 0 (a1.flatMap eI.b))), (16, .d (iv v9)), (18, .d (.sl a0.length 0 (a0.flatMap eI.b))), (20, .d (iv (a0.length : Int))), (22, .d (iv s1))] (cc0 ok144 (cmp_Compare_int64_c y6 y8 _ hv9) (by kernel_rfl) .nil) (by kernel_rfl) (by kernel_rfl) ?_
      refine tr_sr hT hm [] [0, 2, 16, 18, 20, 22, 56] [(0, .d (.sl a0.length 0 (a0.flatMap eI.b))), (2, .d (.sl a1.length 0 (a1.flatMap eI.b))), (16, .d (iv v9)), (18, .d (.sl a0.length 0 (a0.flatMap eI.b))), (20, .d (iv (a0.length : Int))), (22, .d (iv s1)), (56, .d (bv (v9 != 0)))] .nil (by kernel_rfl) (by kernel_rfl) ?_
      rcases Bool.eq_false_or_eq_true (v9 != 0) with h10 | h10
      · have hM := ite_true' hM h10
        refine tr_condTe (e := v9 != 0) h10 (by kernel_rfl) ?_
        refine tr_sr hT hm [] [8] [(8, .d (iv v9))] .nil (by kernel_rfl) (by kernel_rfl) ?_
        refine tr_ret (b_r (q_r (l_r (b_r (q_r (rg_r ?_))))))
        obtain rfl := Option.some.inj hM
        exact retg (names := []) .nil (by kernel_rfl)
      · have hM := ite_false' hM h10
        refine tr_condFe (e := v9 != 0) h10 (by kernel_rfl) ?_
        refine tr_skip (b_n (q_n ?_))
        refine tr_r hT hm [] [0, 2, 18, 20, 22] [(0, .d (.sl a0.length 0 (a0.flatMap eI.b))), (2, .d (.sl a1.length 0 (a1.flatMap eI.b))), (18, .d (.sl a0.length 0 (a0.flatMap eI.b))), (20, .d (iv (a0.length : Int))), (22, .d (iv (IntKind.i64.wrap (s1 + 1))))] .nil (by kernel_rfl) (by kernel_rfl) (l_n ?_)
        exact trl_start (ks := [0, 2, 18, 20, 22]) (by kernel_rfl) (ih3 (IntKind.i64.wrap (s1 + 1)) hM)
  · have hM := ite_false' hM h5
    refine tr_condFe (e := decide (s1 < (a0.length : Int))) h5 (by kernel_rfl) ?_
    refine tr_exit (q_x (l_x (b_h (q_n ?_))))
    refine tr_seq ?_
    refine tr_sr hT hm [] [70] [(70, .d (bv (decide ((a0.length : Int) < (a1.length : Int)))))] .nil (by kernel_rfl) (by kernel_rfl) ?_
    rcases Bool.eq_false_or_eq_true (decide ((a0.length : Int) < (a1.length : Int))) with h11 | h11
    · have hM := ite_true' hM h11
      refine tr_condTe (e := decide ((a0.length : Int) < (a1.length : Int))) h11 (by kernel_rfl) ?_
      refine tr_sr hT hm [] [8] [(8, .d (iv (-1)))] .nil (by kernel_rfl) (by kernel_rfl) ?_
      refine tr_ret (q_r (rg_r ?_))
      obtain rfl := Option.some.inj hM
      exact retg (names := []) .nil (by kernel_rfl)
    · have hM := ite_false' hM h11
      refine tr_condFe (e := decide ((a0.length : Int) < (a1.length : Int))) h11 (by kernel_rfl) ?_
      refine tr_skip (q_n ?_)
      refine tr_sr hT hm [] [8] [(8, .d (iv 0))] .nil (by kernel_rfl) (by kernel_rfl) ?_
      refine tr_ret (rg_r ?_)
      obtain rfl := Option.some.inj hM
      exact retg (names := []) .nil (by kernel_rfl)
theorem ok133 : CallOk Try.prog 133 := callOk_of Try.func133 (by kernel_rfl) (by kernel_rfl)
theorem impl_lessSizes_c (a0 : Nat → Int) (a1 : Nat → Int) (r : Bool) (hM : M.impl_lessSizes a0 a1 = some r) :
    FnC Try.prog 133 [] [.pt ((eAr 64).b a0) 0, .pt ((eAr 64).b a1) 0] [] (bv r) := by
  refine fnc_startG (N := 26) (np := 500) hT Try.func133 rfl rfl (by kernel_rfl) ?_
  unfold M.impl_lessSizes at hM
  refine tr_start (ks := [0, 2]) (st' := [(0, .d (.pt ((eAr 64).b a0) 0)), (2, .d (.pt ((eAr 64).b a1) 0))]) (by kernel_rfl) ?_
  refine tr_sr hT hm [] [0, 2] [(0, .d (.pt ((eAr 64).b a0) 0)), (2, .d (.pt ((eAr 64).b a1) 0))] .nil (by kernel_rfl) (by kernel_rfl) ?_
  refine tr_seq ?_
  refine tr_sr hT hm [] [0, 2, 14] [(0, .d (.pt ((eAr 64).b a0) 0)), (2, .d (.pt ((eAr 64).b a1) 0)), (14, .d (iv 0))] .nil (by kernel_rfl) (by kernel_rfl) ?_
  refine tr_block ?_
  refine tr_iterS (fun (s1 : Int) => [(0, .d (.pt ((eAr 64).b a0) 0)), (2, .d (.pt ((eAr 64).b a1) 0)), (14, .d (iv s1))]) 0 [0, 2, 14] (by kernel_rfl) hM ?_
  intro n4 next2 ih3 s1 hM
  refine tr_sr hT hm [] [0, 2, 14, 16] [(0, .d (.pt ((eAr 64).b a0) 0)), (2, .d (.pt ((eAr 64).b a1) 0)), (14, .d (iv s1)), (16, .d (bv (decide (s1 < 8))))] .nil (by kernel_rfl) (by kernel_rfl) ?_
  refine tr_seq ?_
  rcases Bool.eq_false_or_eq_true (decide (s1 < 8)) with h5 | h5
  · have hM := ite_true' hM h5
    refine tr_condTe (e := decide (s1 < 8)) h5 (by kernel_rfl) ?_
    refine tr_skip (q_n ?_)
    refine tr_seq ?_
    refine tr_block ?_
    refine tr_sr hT hm [] [0, 2, 10, 14] [(0, .d (.pt ((eAr 64).b a0) 0)), (2, .d (.pt ((eAr 64).b a1) 0)), (10, .d (iv s1)), (14, .d (iv s1))] .nil (by kernel_rfl) (by kernel_rfl) ?_
    obtain ⟨h6, hM⟩ := chk_some hM
    obtain ⟨v7, hv7, hM⟩ := bind_some' hM
    refine tr_sr hT hm [(3, .val (.pt ((eAr 64).b a0) (0 + s1.toNat * 8))), (4, .val (.sl (arL 0 8 fun q => a0 (0 + s1.toNat * 8 + q)).length 0 ((arL 0 8 fun q => a0 (0 + s1.toNat * 8 + q)).flatMap eI.b))), (8, .val (.pt ((eAr 64).b a1) (0 + s1.toNat * 8))), (9, .val (.sl (arL 0 8 fun q => a1 (0 + s1.toNat * 8 + q)).length 0 ((arL 0 8 fun q => a1 (0 + s1.toNat * 8 + q)).flatMap eI.b))), (10, .call [] [] [.sl (arL 0 8 fun q => a0 (0 + s1.toNat * 8 + q)).length 0 ((arL 0 8 fun q => a0 (0 + s1.toNat * 8 + q)).flatMap eI.b), .sl (arL 0 8 fun q => a1 (0 + s1.toNat * 8 + q)).length 0 ((arL 0 8 fun q => a1 (0 + s1.toNat * 8 + q)).flatMap eI.b)] [] (iv v7))] [0, 2, 12, 14] [(0, .d (.pt ((eAr 64).b a0) 0)), (2, .d (.pt ((eAr 64).b a1) 0)), (12, .d (iv v7)), (14, .d (iv s1))] (.cons h6.1 (.cons h6.2 (.cons (rfl : (.pt ((eAr 64).b a0) (0 + s1.toNat * 8) : D) = .pt ((eAr 64).b a0) (0 + s1.toNat * 8)) (.cons (sub_ar (n := 64) (m := 8) (f := a0) (off := 0 + s1.toNat * 8) (by omega)) (.cons h6.1 (.cons h6.2 (.cons (rfl : (.pt ((eAr 64).b a1) (0 + s1.toNat * 8) : D) = .pt ((eAr 64).b a1) (0 + s1.toNat * 8)) (.cons (sub_ar (n := 64) (m := 8) (f := a1) (off := 0 + s1.toNat * 8) (by omega)) (cc0 ok142 (slices_Compare_int64_int64_c (arL 0 8 fun q => a0 (0 + s1.toNat * 8 + q)) (arL 0 8 fun q => a1 (0 + s1.toNat * 8 + q)) _ hv7) (by kernel_rfl) .nil))))))))) (by kernel_rfl) (by kernel_rfl) ?_
    refine tr_sr hT hm [] [0, 2, 12, 14, 44] [(0, .d (.pt ((eAr 64).b a0) 0)), (2, .d (.pt ((eAr 64).b a1) 0)), (12, .d (iv v7)), (14, .d (iv s1)), (44, .d (bv (v7 != 0)))] .nil (by kernel_rfl) (by kernel_rfl) ?_
    rcases Bool.eq_false_or_eq_true (v7 != 0) with h8 | h8
    · have hM := ite_true' hM h8
      refine tr_condTe (e := v7 != 0) h8 (by kernel_rfl) ?_
      refine tr_sr hT hm [] [8] [(8, .d (bv (decide (v7 < 0))))] .nil (by kernel_rfl) (by kernel_rfl) ?_
      refine tr_ret (b_r (q_r (l_r (b_r (q_r (rg_r ?_))))))
      obtain rfl := Option.some.inj hM
      exact retg (names := []) .nil (by kernel_rfl)
    · have hM := ite_false' hM h8
      refine tr_condFe (e := v7 != 0) h8 (by kernel_rfl) ?_
      refine tr_skip (b_n (q_n ?_))
      refine tr_r hT hm [] [0, 2, 14] [(0, .d (.pt ((eAr 64).b a0) 0)), (2, .d (.pt ((eAr 64).b a1) 0)), (14, .d (iv (IntKind.i64.wrap (s1 + 1))))] .nil (by kernel_rfl) (by kernel_rfl) (l_n ?_)
      exact trl_start (ks := [0, 2, 14]) (by kernel_rfl) (ih3 (IntKind.i64.wrap (s1 + 1)) hM)
  · have hM := ite_false' hM h5
    refine tr_condFe (e := decide (s1 < 8)) h5 (by kernel_rfl) ?_
    refine tr_exit (q_x (l_x (b_h (q_n ?_))))
    refine tr_sr hT hm [] [8] [(8, .d (bv false))] .nil (by kernel_rfl) (by kernel_rfl) ?_
    refine tr_ret (rg_r ?_)
    obtain rfl := Option.some.inj hM
    exact retg (names := []) .nil (by kernel_rfl)
theorem ok132 : CallOk Try.prog 132 := callOk_of Try.func132 (by kernel_rfl) (by kernel_rfl)
theorem iC_leastSizes_1_c (xh : Nat → Int) (xl : List Int) (xo : List (List Int)) (xb : Nat → Int) (r : (List (List Int)) × (Nat → Int)) (hM : M.iC_leastSizes_1 xl xh xo xb = some r) :
    FnC Try.prog 132 [(160, .arr 1 (xl.flatMap eI.o) []), (151, .arr 1 [.fr 1 xo.length (xo.flatMap (eS eI).o)] []), (152, .arr 1 ((eAr 64).o xb) [])] [.rs 160 0 xl.length, .pt ((eAr 64).b xh) 0, .rp 151 0, .rp 152 0] [(160, .arr 1 (xl.flatMap eI.o) []), (151, .arr 1 [.fr 1 r.1.length (r.1.flatMap (eS eI).o)] []), (152, .arr 1 ((eAr 64).o r.2) [])] (.tup []) := by
  refine fnc_startG (N := 59) (np := 500) hT Try.func132 rfl rfl (by kernel_rfl) ?_
  unfold M.iC_leastSizes_1 at hM
  refine tr_start (ks := [0, 2, 4, 6, 303, 305, 321]) (st' := [(0, .d (.rs 160 0 xl.length)), (2, .d (.pt ((eAr 64).b xh) 0)), (4, .d (.rp 151 0)), (6, .d (.rp 152 0)), (303, .r (.arr 1 [.fr 1 xo.length (xo.flatMap (eS eI).o)] [])), (305, .r (.arr 1 ((eAr 64).o xb) [])), (321, .r (.arr 1 (xl.flatMap eI.o) []))]) (by kernel_rfl) ?_
  refine tr_srN hT hm [] [0, 2, 4, 6, 10, 303, 305, 321, 2011] [(0, .d (.rs 160 0 xl.length)), (2, .d (.pt ((eAr 64).b xh) 0)), (4, .d (.rp 151 0)), (6, .d (.rp 152 0)), (10, .d (.rp 1005 0)), (303, .r (.arr 1 [.fr 1 xo.length (xo.flatMap (eS eI).o)] [])), (305, .r (.arr 1 ((eAr 64).o xb) [])), (321, .r (.arr 1 (xl.flatMap eI.o) [])), (2011, .r (.arr 1 ((eAr 64).o (fun _ => (0 : Int))) []))] (.cons (Nat.le_of_ble_eq_true (n := 64) (m := 64) rfl) .nil) (by kernel_rfl) (by kernel_rfl) ?_
  refine tr_seq ?_
  refine tr_srN hT hm [] [0, 2, 4, 6, 10, 22, 24, 26, 303, 305, 321, 2011] [(0, .d (.rs 160 0 xl.length)), (2, .d (.pt ((eAr 64).b xh) 0)), (4, .d (.rp 151 0)), (6, .d (.rp 152 0)), (10, .d (.rp 1005 0)), (22, .d (.rs 160 0 xl.length)), (24, .d (iv (xl.length : Int))), (26, .d (iv 0)), (303, .r (.arr 1 [.fr 1 xo.length (xo.flatMap (eS eI).o)] [])), (305, .r (.arr 1 ((eAr 64).o xb) [])), (321, .r (.arr 1 (xl.flatMap eI.o) [])), (2011, .r (.arr 1 ((eAr 64).o (fun _ => (0 : Int))) []))] .nil (by kernel_rfl) (by kernel_rfl) ?_
  refine tr_block ?_
  refine tr_iterS (fun (s1 : (Nat → Int) × Int) => [(0, .d (.rs 160 0 xl.length)), (2, .d (.pt ((eAr 64).b xh) 0)), (4, .d (.rp 151 0)), (6, .d (.rp 152 0)), (10, .d (.rp 1005 0)), (22, .d (.rs 160 0 xl.length)), (24, .d (iv (xl.length : Int))), (26, .d (iv s1.2)), (303, .r (.arr 1 [.fr 1 xo.length (xo.flatMap (eS eI).o)] [])), (305, .r (.arr 1 ((eAr 64).o xb) [])), (321, .r (.arr 1 (xl.flatMap eI.o) [])), (2011, .r (.arr 1 ((eAr 64).o s1.1) []))]) (fun _ => (0 : Int), 0) [0, 2, 4, 6, 10, 22, 24, 26, 303, 305, 321, 2011] (by kernel_rfl) hM ?_
  intro n4 next2 ih3 s1 hM
  refine tr_srN hT hm [] [0, 2, 4, 6, 10, 22, 24, 26, 28, 303, 305, 321, 2011] [(0, .d (.rs 160 0 xl.length)), (2, .d (.pt ((eAr 64).b xh) 0)), (4, .d (.rp 151 0)), (6, .d (.rp 152 0)), (10, .d (.rp 1005 0)), (22, .d (.rs 160 0 xl.length)), (24, .d (iv (xl.length : Int))), (26, .d (iv s1.2)), (28, .d (bv (decide (s1.2 < (xl.length : Int))))), (303, .r (.arr 1 [.fr 1 xo.length (xo.flatMap (eS eI).o)] [])), (305, .r (.arr 1 ((eAr 64).o xb) [])), (321, .r (.arr 1 (xl.flatMap eI.o) [])), (2011, .r (.arr 1 ((eAr 64).o s1.1) []))] .nil (by kernel_rfl) (by kernel_rfl) ?_
  refine tr_seq ?_
  rcases Bool.eq_false_or_eq_true (decide (s1.2 < (xl.length : Int))) with h5 | h5
  · have hM := ite_true' hM h5
    refine tr_condTe (e := decide (s1.2 < (xl.length : Int))) h5 (by kernel_rfl) ?_
    refine tr_skip (q_n ?_)
    refine tr_seq ?_
    refine tr_block ?_
    obtain ⟨y6, hy6, hM⟩ := bind_some' hM
    have hy6' := idx_some hy6
    refine tr_srN hT hm [(2, .val (iv y6))] [0, 2, 4, 6, 10, 12, 14, 22, 24, 26, 303, 305, 321, 2011] [(0, .d (.rs 160 0 xl.length)), (2, .d (.pt ((eAr 64).b xh) 0)), (4, .d (.rp 151 0)), (6, .d (.rp 152 0)), (10, .d (.rp 1005 0)), (12, .d (iv s1.2)), (14, .d (iv y6)), (22, .d (.rs 160 0 xl.length)), (24, .d (iv (xl.length : Int))), (26, .d (iv s1.2)), (303, .r (.arr 1 [.fr 1 xo.length (xo.flatMap (eS eI).o)] [])), (305, .r (.arr 1 ((eAr 64).o xb) [])), (321, .r (.arr 1 (xl.flatMap eI.o) [])), (2011, .r (.arr 1 ((eAr 64).o s1.1) []))] (.cons hy6'.1 (.cons hy6'.2.1 (.cons (at_o0 eI_ok hy6'.2.2 (d := iv y6) (by kernel_rfl)) .nil))) (by kernel_rfl) (by kernel_rfl) ?_
    refine tr_srN hT hm [] [0, 2, 4, 6, 10, 12, 14, 22, 24, 26, 36, 38, 40, 303, 305, 321, 2011] [(0, .d (.rs 160 0 xl.length)), (2, .d (.pt ((eAr 64).b xh) 0)), (4, .d (.rp 151 0)), (6, .d (.rp 152 0)), (10, .d (.rp 1005 0)), (12, .d (iv s1.2)), (14, .d (iv y6)), (22, .d (.rs 160 0 xl.length)), (24, .d (iv (xl.length : Int))), (26, .d (iv s1.2)), (36, .d (.rs 160 0 xl.length)), (38, .d (iv (xl.length : Int))), (40, .d (iv 0)), (303, .r (.arr 1 [.fr 1 xo.length (xo.flatMap (eS eI).o)] [])), (305, .r (.arr 1 ((eAr 64).o xb) [])), (321, .r (.arr 1 (xl.flatMap eI.o) [])), (2011, .r (.arr 1 ((eAr 64).o s1.1) []))] .nil (by kernel_rfl) (by kernel_rfl) ?_
    refine tr_block ?_
    refine tr_iterS (fun (s7 : (Nat → Int) × Int) => [(0, .d (.rs 160 0 xl.length)), (2, .d (.pt ((eAr 64).b xh) 0)), (4, .d (.rp 151 0)), (6, .d (.rp 152 0)), (10, .d (.rp 1005 0)), (12, .d (iv s1.2)), (14, .d (iv y6)), (22, .d (.rs 160 0 xl.length)), (24, .d (iv (xl.length : Int))), (26, .d (iv s1.2)), (36, .d (.rs 160 0 xl.length)), (38, .d (iv (xl.length : Int))), (40, .d (iv s7.2)), (303, .r (.arr 1 [.fr 1 xo.length (xo.flatMap (eS eI).o)] [])), (305, .r (.arr 1 ((eAr 64).o xb) [])), (321, .r (.arr 1 (xl.flatMap eI.o) [])), (2011, .r (.arr 1 ((eAr 64).o s7.1) []))]) (s1.1, 0) [0, 2, 4, 6, 10, 12, 14, 22, 24, 26, 36, 38, 40, 303, 305, 321, 2011] (by kernel_rfl) hM ?_
    intro n10 next8 ih9 s7 hM
    refine tr_srN hT hm [] [0, 2, 4, 6, 10, 12, 14, 22, 24, 26, 36, 38, 40, 42, 303, 305, 321, 2011] [(0, .d (.rs 160 0 xl.length)), (2, .d (.pt ((eAr 64).b xh) 0)), (4, .d (.rp 151 0)), (6, .d (.rp 152 0)), (10, .d (.rp 1005 0)), (12, .d (iv s1.2)), (14, .d (iv y6)), (22, .d (.rs 160 0 xl.length)), (24, .d (iv (xl.length : Int))), (26, .d (iv s1.2)), (36, .d (.rs 160 0 xl.length)), (38, .d (iv (xl.length : Int))), (40, .d (iv s7.2)), (42, .d (bv (decide (s7.2 < (xl.length : Int))))), (303, .r (.arr 1 [.fr 1 xo.length (xo.flatMap (eS eI).o)] [])), (305, .r (.arr 1 ((eAr 64).o xb) [])), (321, .r (.arr 1 (xl.flatMap eI.o) [])), (2011, .r (.arr 1 ((eAr 64).o s7.1) []))] .nil (by kernel_rfl) (by kernel_rfl) ?_
    refine tr_seq ?_
    rcases Bool.eq_false_or_eq_true (decide (s7.2 < (xl.length : Int))) with h11 | h11
    · have hM := ite_true' hM h11
      refine tr_condTe (e := decide (s7.2 < (xl.length : Int))) h11 (by kernel_rfl) ?_
      refine tr_skip (q_n ?_)
      refine tr_seq ?_
      refine tr_block ?_
      obtain ⟨y12, hy12, hM⟩ := bind_some' hM
      have hy12' := idx_some hy12
      refine tr_srN hT hm [(2, .val (iv y12))] [0, 2, 4, 6, 10, 12, 14, 16, 18, 22, 24, 26, 36, 38, 40, 303, 305, 321, 2011] [(0, .d (.rs 160 0 xl.length)), (2, .d (.pt ((eAr 64).b xh) 0)), (4, .d (.rp 151 0)), (6, .d (.rp 152 0)), (10, .d (.rp 1005 0)), (12, .d (iv s1.2)), (14, .d (iv y6)), (16, .d (iv s7.2)), (18, .d (iv y12)), (22, .d (.rs 160 0 xl.length)), (24, .d (iv (xl.length : Int))), (26, .d (iv s1.2)), (36, .d (.rs 160 0 xl.length)), (38, .d (iv (xl.length : Int))), (40, .d (iv s7.2)), (303, .r (.arr 1 [.fr 1 xo.length (xo.flatMap (eS eI).o)] [])), (305, .r (.arr 1 ((eAr 64).o xb) [])), (321, .r (.arr 1 (xl.flatMap eI.o) [])), (2011, .r (.arr 1 ((eAr 64).o s7.1) []))] (.cons hy12'.1 (.cons hy12'.2.1 (.cons (at_o0 eI_ok hy12'.2.2 (d := iv y12) (by kernel_rfl)) .nil))) (by kernel_rfl) (by kernel_rfl) ?_
      obtain ⟨h13, hM⟩ := chk_some hM
      obtain ⟨h14, hM⟩ := chk_some hM
      obtain ⟨h15, hM⟩ := chk_some hM
      obtain ⟨h16, hM⟩ := chk_some hM
      refine tr_rN hT hm [(4, .val (.pt ((eAr 64).b xh) (0 + y6.toNat * 8))), (5, .val (.pt ((eAr 64).b xh) (0 + y6.toNat * 8 + y12.toNat * 1))), (6, .val (iv (xh (0 + y6.toNat * 8 + y12.toNat * 1)))), (7, .val (.rp 1005 (0 + s1.2.toNat * 8))), (8, .val (.rp 1005 (0 + s1.2.toNat * 8 + s7.2.toNat * 1)))] [0, 2, 4, 6, 10, 12, 14, 22, 24, 26, 36, 38, 40, 303, 305, 321, 2011] [(0, .d (.rs 160 0 xl.length)), (2, .d (.pt ((eAr 64).b xh) 0)), (4, .d (.rp 151 0)), (6, .d (.rp 152 0)), (10, .d (.rp 1005 0)), (12, .d (iv s1.2)), (14, .d (iv y6)), (22, .d (.rs 160 0 xl.length)), (24, .d (iv (xl.length : Int))), (26, .d (iv s1.2)), (36, .d (.rs 160 0 xl.length)), (38, .d (iv (xl.length : Int))), (40, .d (iv s7.2)), (303, .r (.arr 1 [.fr 1 xo.length (xo.flatMap (eS eI).o)] [])), (305, .r (.arr 1 ((eAr 64).o xb) [])), (321, .r (.arr 1 (xl.flatMap eI.o) [])), (2011, .r (.arr 1 (((eAr 64).o s7.1).take (0 + s1.2.toNat * 8 + s7.2.toNat * 1) ++ [iv (xh (0 + y6.toNat * 8 + y12.toNat * 1))] ++ ((eAr 64).o s7.1).drop (0 + s1.2.toNat * 8 + s7.2.toNat * 1 + 1)) []))] (.cons h13.1 (.cons h13.2 (.cons (rfl : (.pt ((eAr 64).b xh) (0 + y6.toNat * 8) : D) = .pt ((eAr 64).b xh) (0 + y6.toNat * 8)) (.cons h14.1 (.cons h14.2 (.cons (rfl : (.pt ((eAr 64).b xh) (0 + y6.toNat * 8 + y12.toNat * 1) : D) = .pt ((eAr 64).b xh) (0 + y6.toNat * 8 + y12.toNat * 1)) (.cons (ar_at (n := 64) (f := xh) (k := 0 + y6.toNat * 8 + y12.toNat * 1) (by omega)) (.cons h15.1 (.cons h15.2 (.cons (rfl : (.rp 1005 (0 + s1.2.toNat * 8) : D) = .rp 1005 (0 + s1.2.toNat * 8)) (.cons h16.1 (.cons h16.2 (.cons (rfl : (.rp 1005 (0 + s1.2.toNat * 8 + s7.2.toNat * 1) : D) = .rp 1005 (0 + s1.2.toNat * 8 + s7.2.toNat * 1)) (.cons (ar_le (n := 64) (f := s7.1) (k := 0 + s1.2.toNat * 8 + s7.2.toNat * 1) (by omega)) .nil)))))))))))))) (by kernel_rfl) (by kernel_rfl) (b_n (q_n ?_))
      refine Tr.by (imp_cvE (r := 1005) (sz := 1) (refs := []) (ar_set (n := 64) (f := s7.1) (k := 0 + s1.2.toNat * 8 + s7.2.toNat * 1) (v := (xh (0 + y6.toNat * 8 + y12.toNat * 1))) (by omega)) ((eAr_ok 64).menO _) (by kernel_rfl)) ?_
      refine tr_rN hT hm [] [0, 2, 4, 6, 10, 12, 14, 22, 24, 26, 36, 38, 40, 303, 305, 321, 2011] [(0, .d (.rs 160 0 xl.length)), (2, .d (.pt ((eAr 64).b xh) 0)), (4, .d (.rp 151 0)), (6, .d (.rp 152 0)), (10, .d (.rp 1005 0)), (12, .d (iv s1.2)), (14, .d (iv y6)), (22, .d (.rs 160 0 xl.length)), (24, .d (iv (xl.length : Int))), (26, .d (iv s1.2)), (36, .d (.rs 160 0 xl.length)), (38, .d (iv (xl.length : Int))), (40, .d (iv (IntKind.i64.wrap (s7.2 + 1)))), (303, .r (.arr 1 [.fr 1 xo.length (xo.flatMap (eS eI).o)] [])), (305, .r (.arr 1 ((eAr 64).o xb) [])), (321, .r (.arr 1 (xl.flatMap eI.o) [])), (2011, .r (.arr 1 ((eAr 64).o (upN s7.1 (0 + s1.2.toNat * 8 + s7.2.toNat * 1) (xh (0 + y6.toNat * 8 + y12.toNat * 1)))) []))] .nil (by kernel_rfl) (by kernel_rfl) (l_n ?_)
      exact trl_start (ks := [0, 2, 4, 6, 10, 12, 14, 22, 24, 26, 36, 38, 40, 303, 305, 321, 2011]) (by kernel_rfl) (ih9 (upN s7.1 (0 + s1.2.toNat * 8 + s7.2.toNat * 1) (xh (0 + y6.toNat * 8 + y12.toNat * 1)), IntKind.i64.wrap (s7.2 + 1)) hM)
    · have hM := ite_false' hM h11
      refine tr_condFe (e := decide (s7.2 < (xl.length : Int))) h11 (by kernel_rfl) ?_
      refine tr_exit (q_x (l_x (b_h (b_n (q_n ?_)))))
      refine tr_rN hT hm [] [0, 2, 4, 6, 10, 22, 24, 26, 303, 305, 321, 2011] [(0, .d (.rs 160 0 xl.length)), (2, .d (.pt ((eAr 64).b xh) 0)), (4, .d (.rp 151 0)), (6, .d (.rp 152 0)), (10, .d (.rp 1005 0)), (22, .d (.rs 160 0 xl.length)), (24, .d (iv (xl.length : Int))), (26, .d (iv (IntKind.i64.wrap (s1.2 + 1)))), (303, .r (.arr 1 [.fr 1 xo.length (xo.flatMap (eS eI).o)] [])), (305, .r (.arr 1 ((eAr 64).o xb) [])), (321, .r (.arr 1 (xl.flatMap eI.o) [])), (2011, .r (.arr 1 ((eAr 64).o s7.1) []))] .nil (by kernel_rfl) (by kernel_rfl) (l_n ?_)
      exact trl_start (ks := [0, 2, 4, 6, 10, 22, 24, 26, 303, 305, 321, 2011]) (by kernel_rfl) (ih3 (s7.1, IntKind.i64.wrap (s1.2 + 1)) hM)
  · have hM := ite_false' hM h5
    refine tr_condFe (e := decide (s1.2 < (xl.length : Int))) h5 (by kernel_rfl) ?_
    refine tr_exit (q_x (l_x (b_h (q_n ?_))))
    refine tr_joinM (fun (_ : Unit) => [(0, .d (.rs 160 0 xl.length)), (4, .d (.rp 151 0)), (6, .d (.rp 152 0)), (10, .d (.rp 1005 0)), (303, .r (.arr 1 [.rs 700002 0 xo.length] [700002])), (305, .r (.arr 1 ((eAr 64).o xb) [])), (321, .r (.arr 1 (xl.flatMap eI.o) [])), (2011, .r (.arr 1 ((eAr 64).o s1.1) [])), (1400005, .r (.arr 1 (xo.flatMap (eS eI).o) []))]) hM ?_ ?_
    · intro s17 hM
      rcases Bool.eq_false_or_eq_true ((xo.length : Int) == 0) with h20 | h20
      · have hM := ite_true' hM h20
        refine tr_srN hT hm [(3, .val (bv true))] [0, 4, 6, 10, 108, 303, 305, 321, 2011, 1400005] [(0, .d (.rs 160 0 xl.length)), (4, .d (.rp 151 0)), (6, .d (.rp 152 0)), (10, .d (.rp 1005 0)), (108, .d (bv true)), (303, .r (.arr 1 [.rs 700002 0 xo.length] [700002])), (305, .r (.arr 1 ((eAr 64).o xb) [])), (321, .r (.arr 1 (xl.flatMap eI.o) [])), (2011, .r (.arr 1 ((eAr 64).o s1.1) [])), (1400005, .r (.arr 1 (xo.flatMap (eS eI).o) []))] (.cons (congrArg (fun b => bv b) h20) .nil) (by kernel_rfl) (by kernel_rfl) ?_
        refine tr_condT (by kernel_rfl) ?_
        refine tr_srN hT hm [] [0, 4, 303, 305, 321, 1400005] [(0, .d (.rs 160 0 xl.length)), (4, .d (.rp 151 0)), (303, .r (.arr 1 [.rs 700002 0 xo.length] [700002])), (305, .r (.arr 1 ((eAr 64).o s1.1) [])), (321, .r (.arr 1 (xl.flatMap eI.o) [])), (1400005, .r (.arr 1 (xo.flatMap (eS eI).o) []))] (.cons (Nat.le_of_ble_eq_true (n := 64) (m := 64) rfl) .nil) (by kernel_rfl) (by kernel_rfl) ?_
        obtain ⟨v21, hv21, hM⟩ := bind_some' hM
        refine tr_rN hT hm [(1, .call [160] [] [.sl xl.length 0 (xl.flatMap eI.b)] [] (.fr 1 v21.length (v21.flatMap eI.o)))] [303, 305, 321, 2117, 118001] [(303, .r (.arr 1 [.rs 1058 0 1] [700002, 1058])), (305, .r (.arr 1 ((eAr 64).o s1.1) [])), (321, .r (.arr 1 (xl.flatMap eI.o) [])), (2117, .r (.arr 1 [.rs 59000 0 v21.length] [59000])), (118001, .r (.arr 1 (v21.flatMap eI.o) []))] (cc (B := [160]) (ρ := []) (rB := [(160, .arr 1 (xl.flatMap eI.o) [])]) ok78 (impl_clone_c xl _ hv21) (.cons (.of1 (.rs (r := 160) (sz := 1) (refs := []) (memB (by kernel_rfl)) (by kernel_rfl) (bor_flat eI_ok _ _ _))) .nil) (.inr ⟨(.fr (nb_flat eI_nb _)), trivial⟩) (.cons (Nat.le_of_ble_eq_true (n := 1) (m := 1) rfl) .nil)) (by kernel_rfl) (by kernel_rfl) (rg_n ?_)
        refine RetG.by (imp_dem (r := 1058) (q := 59000) (sz := 1) (n := v21.length) (j := 0) (pre := []) (l := [.rs 59000 0 v21.length]) (post := []) (refs := [59000]) (refs' := []) rfl rfl (lenO_flat eI_ok v21) (by kernel_rfl) (by kernel_rfl) (by kernel_rfl) (by kernel_rfl) (by kernel_rfl)) ?_
        refine RetG.by (imp_cvE (r := 1058) (sz := 1) (refs := []) (cells := [.fr 1 v21.length (v21.flatMap eI.o)]) (cells' := ([v21] : List (List Int)).flatMap (eS eI).o) rfl (menO_flat (eS_ok eI_ok) _) (by kernel_rfl)) ?_
        refine RetG.by (imp_cvB (r := 151) (sz := 1) (cells := [.rs 1058 0 1]) (cells' := [.rs 1058 0 (([v21] : List (List Int)).length)]) (refs := [700002, 1058]) (refs' := [700002, 1058]) (.cons (Sub.of_eq (congrArg (D.rs 1058 0) (rfl : 1 = ([v21] : List (List Int)).length))) .nil) (by kernel_rfl) (by kernel_rfl) (by kernel_rfl)) ?_
        refine RetG.by (imp_dem (r := 151) (q := 1058) (sz := 1) (n := (([v21] : List (List Int)).length)) (j := 0) (pre := []) (l := [.rs 1058 0 (([v21] : List (List Int)).length)]) (post := []) (refs := [700002, 1058]) (refs' := [700002]) rfl rfl (lenO_flat (eS_ok eI_ok) ([v21] : List (List Int))) (by kernel_rfl) (by kernel_rfl) (by kernel_rfl) (by kernel_rfl) (by kernel_rfl)) ?_
        refine RetG.by (imp_cvB (r := 151) (sz := 1) (cells := [.fr 1 ([v21] : List (List Int)).length (([v21] : List (List Int)).flatMap (eS eI).o)]) (cells' := [.fr 1 ([v21] : List (List Int)).length (([v21] : List (List Int)).flatMap (eS eI).o)]) (refs := [700002]) (refs' := []) (.cons (.refl _) .nil) (by kernel_rfl) (by kernel_rfl) (by kernel_rfl)) ?_
        obtain rfl := Option.some.inj hM
        exact retg (names := [160, 151, 152]) .nil (by kernel_rfl)
      · have hM := ite_false' hM h20
        obtain ⟨v22, hv22, hM⟩ := bind_some' hM
        refine tr_srN hT hm [(3, .val (bv false)), (4, .call [1005, 152] [] [.pt ((eAr 64).b s1.1) 0, .pt ((eAr 64).b xb) 0] [] (bv v22))] [0, 4, 6, 10, 108, 303, 305, 321, 2011, 1400005] [(0, .d (.rs 160 0 xl.length)), (4, .d (.rp 151 0)), (6, .d (.rp 152 0)), (10, .d (.rp 1005 0)), (108, .d (bv v22)), (303, .r (.arr 1 [.rs 700002 0 xo.length] [700002])), (305, .r (.arr 1 ((eAr 64).o xb) [])), (321, .r (.arr 1 (xl.flatMap eI.o) [])), (2011, .r (.arr 1 ((eAr 64).o s1.1) [])), (1400005, .r (.arr 1 (xo.flatMap (eS eI).o) []))] (.cons (congrArg (fun b => bv b) h20) (cc (B := [1005, 152]) (ρ := []) (rB := [(1005, .arr 1 ((eAr 64).o s1.1) []), (152, .arr 1 ((eAr 64).o xb) [])]) ok133 (impl_lessSizes_c s1.1 xb _ hv22) (.cons (.of1 (.rp (r := 1005) (sz := 1) (cells := (eAr 64).o s1.1) (refs := []) (memB (by kernel_rfl)) (by kernel_rfl) ((eAr_ok 64).bor _ _ _))) (.cons (.of1 (.rp (r := 152) (sz := 1) (cells := (eAr 64).o xb) (refs := []) (memB (by kernel_rfl)) (by kernel_rfl) ((eAr_ok 64).bor _ _ _))) .nil)) (.inr ⟨.v, trivial⟩) .nil)) (by kernel_rfl) (by kernel_rfl) ?_
        rcases Bool.eq_false_or_eq_true v22 with h23 | h23
        · have hM := ite_true' hM h23
          refine tr_condTe (e := v22) h23 (by kernel_rfl) ?_
          refine tr_srN hT hm [] [0, 4, 303, 305, 321, 1400005] [(0, .d (.rs 160 0 xl.length)), (4, .d (.rp 151 0)), (303, .r (.arr 1 [.rs 700002 0 xo.length] [700002])), (305, .r (.arr 1 ((eAr 64).o s1.1) [])), (321, .r (.arr 1 (xl.flatMap eI.o) [])), (1400005, .r (.arr 1 (xo.flatMap (eS eI).o) []))] (.cons (Nat.le_of_ble_eq_true (n := 64) (m := 64) rfl) .nil) (by kernel_rfl) (by kernel_rfl) ?_
          obtain ⟨v24, hv24, hM⟩ := bind_some' hM
          refine tr_rN hT hm [(1, .call [160] [] [.sl xl.length 0 (xl.flatMap eI.b)] [] (.fr 1 v24.length (v24.flatMap eI.o)))] [303, 305, 321, 2117, 118001] [(303, .r (.arr 1 [.rs 1058 0 1] [700002, 1058])), (305, .r (.arr 1 ((eAr 64).o s1.1) [])), (321, .r (.arr 1 (xl.flatMap eI.o) [])), (2117, .r (.arr 1 [.rs 59000 0 v24.length] [59000])), (118001, .r (.arr 1 (v24.flatMap eI.o) []))] (cc (B := [160]) (ρ := []) (rB := [(160, .arr 1 (xl.flatMap eI.o) [])]) ok78 (impl_clone_c xl _ hv24) (.cons (.of1 (.rs (r := 160) (sz := 1) (refs := []) (memB (by kernel_rfl)) (by kernel_rfl) (bor_flat eI_ok _ _ _))) .nil) (.inr ⟨(.fr (nb_flat eI_nb _)), trivial⟩) (.cons (Nat.le_of_ble_eq_true (n := 1) (m := 1) rfl) .nil)) (by kernel_rfl) (by kernel_rfl) (rg_n ?_)
          refine RetG.by (imp_dem (r := 1058) (q := 59000) (sz := 1) (n := v24.length) (j := 0) (pre := []) (l := [.rs 59000 0 v24.length]) (post := []) (refs := [59000]) (refs' := []) rfl rfl (lenO_flat eI_ok v24) (by kernel_rfl) (by kernel_rfl) (by kernel_rfl) (by kernel_rfl) (by kernel_rfl)) ?_
          refine RetG.by (imp_cvE (r := 1058) (sz := 1) (refs := []) (cells := [.fr 1 v24.length (v24.flatMap eI.o)]) (cells' := ([v24] : List (List Int)).flatMap (eS eI).o) rfl (menO_flat (eS_ok eI_ok) _) (by kernel_rfl)) ?_
          refine RetG.by (imp_cvB (r := 151) (sz := 1) (cells := [.rs 1058 0 1]) (cells' := [.rs 1058 0 (([v24] : List (List Int)).length)]) (refs := [700002, 1058]) (refs' := [700002, 1058]) (.cons (Sub.of_eq (congrArg (D.rs 1058 0) (rfl : 1 = ([v24] : List (List Int)).length))) .nil) (by kernel_rfl) (by kernel_rfl) (by kernel_rfl)) ?_
          refine RetG.by (imp_dem (r := 151) (q := 1058) (sz := 1) (n := (([v24] : List (List Int)).length)) (j := 0) (pre := []) (l := [.rs 1058 0 (([v24] : List (List Int)).length)]) (post := []) (refs := [700002, 1058]) (refs' := [700002]) rfl rfl (lenO_flat (eS_ok eI_ok) ([v24] : List (List Int))) (by kernel_rfl) (by kernel_rfl) (by kernel_rfl) (by kernel_rfl) (by kernel_rfl)) ?_
          refine RetG.by (imp_cvB (r := 151) (sz := 1) (cells := [.fr 1 ([v24] : List (List Int)).length (([v24] : List (List Int)).flatMap (eS eI).o)]) (cells' := [.fr 1 ([v24] : List (List Int)).length (([v24] : List (List Int)).flatMap (eS eI).o)]) (refs := [700002]) (refs' := []) (.cons (.refl _) .nil) (by kernel_rfl) (by kernel_rfl) (by kernel_rfl)) ?_
          obtain rfl := Option.some.inj hM
          exact retg (names := [160, 151, 152]) .nil (by kernel_rfl)
        · have hM := ite_false' hM h23
          refine tr_condFe (e := v22) h23 (by kernel_rfl) ?_
          refine tr_skip (rg_n ?_)
          refine RetG.by (imp_dem (r := 151) (q := 700002) (sz := 1) (n := xo.length) (j := 0) (pre := []) (l := [.rs 700002 0 xo.length]) (post := []) (refs := [700002]) (refs' := []) rfl rfl (lenO_flat (eS_ok eI_ok) xo) (by kernel_rfl) (by kernel_rfl) (by kernel_rfl) (by kernel_rfl) (by kernel_rfl)) ?_
          obtain rfl := Option.some.inj hM
          exact retg (names := [160, 151, 152]) .nil (by kernel_rfl)
    · intro k18 K19 hM
      refine Tr.by (imp_promote (r := 151) (i := 0) (q := 700003) (sz := 1) (sz' := 1) (n := xo.length) (cells := [.fr 1 xo.length (xo.flatMap (eS eI).o)]) (ds := xo.flatMap (eS eI).o) (refs := []) (by kernel_rfl) (by kernel_rfl) (by kernel_rfl)) ?_
      rcases Bool.eq_false_or_eq_true (decide ((xo.length : Int) > 0)) with h25 | h25
      · have hM := ite_true' hM h25
        refine tr_srN hT hm [(3, .val (bv true))] [0, 4, 6, 10, 86, 303, 305, 321, 2011, 1400007] [(0, .d (.rs 160 0 xl.length)), (4, .d (.rp 151 0)), (6, .d (.rp 152 0)), (10, .d (.rp 1005 0)), (86, .d (bv (arEq s1.1 xb 0 64 == true))), (303, .r (.arr 1 [.rs 700003 0 xo.length] [700003])), (305, .r (.arr 1 ((eAr 64).o xb) [])), (321, .r (.arr 1 (xl.flatMap eI.o) [])), (2011, .r (.arr 1 ((eAr 64).o s1.1) [])), (1400007, .r (.arr 1 (xo.flatMap (eS eI).o) []))] (.cons (congrArg (fun b => bv b) h25) (.cons (by kernel_rfl : Try.prog.eqGuardType Try.prog.depth 152 = false) .nil)) (by kernel_rfl) (by kernel_rfl) ?_
        rcases Bool.eq_false_or_eq_true (arEq s1.1 xb 0 64 == true) with h26 | h26
        · have hM := ite_true' hM h26
          refine tr_condTe (e := arEq s1.1 xb 0 64 == true) h26 (by kernel_rfl) ?_
          obtain ⟨v27, hv27, hM⟩ := bind_some' hM
          obtain ⟨h28, hM⟩ := chk_some hM
          refine tr_srN hT hm [(2, .call [160] [] [.sl xl.length 0 (xl.flatMap eI.b)] [] (.fr 1 v27.length (v27.flatMap eI.o))), (4, .app true)] [303, 305, 321, 2097, 96001] [(303, .r (.arr 1 [.rs 1048 0 (xo.length + 1)] [700003, 1048])), (305, .r (.arr 1 ((eAr 64).o xb) [])), (321, .r (.arr 1 (xl.flatMap eI.o) [])), (2097, .r (.arr 1 (xo.flatMap (eS eI).o ++ [.rs 48000 0 v27.length]) [48000])), (96001, .r (.arr 1 (v27.flatMap eI.o) []))] (cc (B := [160]) (ρ := []) (rB := [(160, .arr 1 (xl.flatMap eI.o) [])]) ok78 (impl_clone_c xl _ hv27) (.cons (.of1 (.rs (r := 160) (sz := 1) (refs := []) (memB (by kernel_rfl)) (by kernel_rfl) (bor_flat eI_ok _ _ _))) .nil) (.inr ⟨(.fr (nb_flat eI_nb _)), trivial⟩) (.cons (lenO_flat (eS_ok eI_ok) xo) (.cons (by kernel_rfl : ([.rs 48000 0 v27.length] : List D).length = 1 * 1) (.cons h28 (.cons (Nat.le_of_ble_eq_true (n := 1) (m := 1) rfl) .nil))))) (by kernel_rfl) (by kernel_rfl) ?_
          refine Tr.by (imp_demE (r := 1048) (q := 48000) (sz := 1) (n := v27.length) (j := 0) (pre := xo.flatMap (eS eI).o) (l := [.rs 48000 0 v27.length]) (refs := [48000]) (refs' := []) (menO_flat (eS_ok eI_ok) _) (lenO_flat eI_ok v27) (by kernel_rfl) (by kernel_rfl) (by kernel_rfl) (by kernel_rfl) (by kernel_rfl)) ?_
          refine Tr.by (imp_cvE (r := 1048) (sz := 1) (refs := []) (flat_snoc (eS eI).o xo v27) (menO_flat (eS_ok eI_ok) _) (by kernel_rfl)) ?_
          refine Tr.by (imp_cvB (r := 151) (sz := 1) (cells := [.rs 1048 0 (xo.length + 1)]) (cells' := [.rs 1048 0 ((xo ++ [v27]).length)]) (refs := [700003, 1048]) (refs' := [700003, 1048]) (.cons (Sub.of_eq (congrArg (D.rs 1048 0) ((len_snoc xo v27) : xo.length + 1 = (xo ++ [v27]).length))) .nil) (by kernel_rfl) (by kernel_rfl) (by kernel_rfl)) ?_
          refine tr_ret (q_r (rg_r ?_))
          refine RetG.by (imp_dem (r := 151) (q := 1048) (sz := 1) (n := ((xo ++ [v27]).length)) (j := 0) (pre := []) (l := [.rs 1048 0 ((xo ++ [v27]).length)]) (post := []) (refs := [700003, 1048]) (refs' := [700003]) rfl rfl (lenO_flat (eS_ok eI_ok) (xo ++ [v27])) (by kernel_rfl) (by kernel_rfl) (by kernel_rfl) (by kernel_rfl) (by kernel_rfl)) ?_
          refine RetG.by (imp_cvB (r := 151) (sz := 1) (cells := [.fr 1 (xo ++ [v27]).length ((xo ++ [v27]).flatMap (eS eI).o)]) (cells' := [.fr 1 (xo ++ [v27]).length ((xo ++ [v27]).flatMap (eS eI).o)]) (refs := [700003]) (refs' := []) (.cons (.refl _) .nil) (by kernel_rfl) (by kernel_rfl) (by kernel_rfl)) ?_
          obtain rfl := Option.some.inj hM
          exact retg (names := [160, 151, 152]) .nil (by kernel_rfl)
        · have hM := ite_false' hM h26
          refine tr_condFe (e := arEq s1.1 xb 0 64 == true) h26 (by kernel_rfl) ?_
          refine tr_skip (q_n ?_)
          refine Tr.by (imp_sel (ks := [0, 4, 6, 10, 303, 305, 321, 2011, 1400007]) (st' := [(0, .d (.rs 160 0 xl.length)), (4, .d (.rp 151 0)), (6, .d (.rp 152 0)), (10, .d (.rp 1005 0)), (303, .r (.arr 1 [.rs 700003 0 xo.length] [700003])), (305, .r (.arr 1 ((eAr 64).o xb) [])), (321, .r (.arr 1 (xl.flatMap eI.o) [])), (2011, .r (.arr 1 ((eAr 64).o s1.1) [])), (1400007, .r (.arr 1 (xo.flatMap (eS eI).o) []))]) (by kernel_rfl)) ?_
          refine Tr.by (imp_rename (r := 700003) (q := 700002) (by kernel_rfl) (Nat.le_of_ble_eq_true rfl)) ?_
          exact tr_start (ks := [0, 4, 6, 10, 303, 305, 321, 2011, 1400005]) (by kernel_rfl) (K19 () hM)
      · have hM := ite_false' hM h25
        refine tr_srN hT hm [(3, .val (bv false))] [0, 4, 6, 10, 86, 303, 305, 321, 2011, 1400007] [(0, .d (.rs 160 0 xl.length)), (4, .d (.rp 151 0)), (6, .d (.rp 152 0)), (10, .d (.rp 1005 0)), (86, .d (bv false)), (303, .r (.arr 1 [.rs 700003 0 xo.length] [700003])), (305, .r (.arr 1 ((eAr 64).o xb) [])), (321, .r (.arr 1 (xl.flatMap eI.o) [])), (2011, .r (.arr 1 ((eAr 64).o s1.1) [])), (1400007, .r (.arr 1 (xo.flatMap (eS eI).o) []))] (.cons (congrArg (fun b => bv b) h25) .nil) (by kernel_rfl) (by kernel_rfl) ?_
        refine tr_condF (by kernel_rfl) ?_
        refine tr_skip (q_n ?_)
        refine Tr.by (imp_sel (ks := [0, 4, 6, 10, 303, 305, 321, 2011, 1400007]) (st' := [(0, .d (.rs 160 0 xl.length)), (4, .d (.rp 151 0)), (6, .d (.rp 152 0)), (10, .d (.rp 1005 0)), (303, .r (.arr 1 [.rs 700003 0 xo.length] [700003])), (305, .r (.arr 1 ((eAr 64).o xb) [])), (321, .r (.arr 1 (xl.flatMap eI.o) [])), (2011, .r (.arr 1 ((eAr 64).o s1.1) [])), (1400007, .r (.arr 1 (xo.flatMap (eS eI).o) []))]) (by kernel_rfl)) ?_
        refine Tr.by (imp_rename (r := 700003) (q := 700002) (by kernel_rfl) (Nat.le_of_ble_eq_true rfl)) ?_
        exact tr_start (ks := [0, 4, 6, 10, 303, 305, 321, 2011, 1400005]) (by kernel_rfl) (K19 () hM)
theorem ok141 : CallOk Try.prog 141 := callOk_of Try.func141 (by kernel_rfl) (by kernel_rfl)
theorem impl_permutations_1_A_n_c (k : Nat) : ∀ (xk : Int) (xh : Nat → Int) (xl : List Int) (xo : List (List Int)) (xb : Nat → Int) (r : (List Int) × (List (List Int)) × (Nat → Int)) (_ : M.impl_permutations_1_A_n k xh xk xl xo xb = some r), FnC Try.prog 141 [(160, .arr 1 (xl.flatMap eI.o) []), (161, .arr 1 [.rs 160 0 xl.length] [160]), (162, .arr 1 [.fn 132 [.pt ((eAr 64).b xh) 0, .rp 151 0, .rp 152 0]] [151, 152]), (163, .arr 1 [.fn 141 [.rp 161 0, .rp 162 0, .rp 163 0]] [161, 162, 163]), (151, .arr 1 [.fr 1 xo.length (xo.flatMap (eS eI).o)] []), (152, .arr 1 ((eAr 64).o xb) [])] [iv xk, .rp 161 0, .rp 162 0, .rp 163 0] [(160, .arr 1 (r.1.flatMap eI.o) []), (161, .arr 1 [.rs 160 0 r.1.length] [160]), (162, .arr 1 [.fn 132 [.pt ((eAr 64).b xh) 0, .rp 151 0, .rp 152 0]] [151, 152]), (163, .arr 1 [.fn 141 [.rp 161 0, .rp 162 0, .rp 163 0]] [161, 162, 163]), (151, .arr 1 [.fr 1 r.2.1.length (r.2.1.flatMap (eS eI).o)] []), (152, .arr 1 ((eAr 64).o r.2.2) [])] (.tup []) := by
  induction k with
  | zero => intro xk xh xl xo xb r hM; exact absurd hM (by simp [M.impl_permutations_1_A_n])
  | succ k ih =>
    intro xk xh xl xo xb r hM
    refine fnc_startG (N := 52) (np := 500) hT Try.func141 rfl rfl (by kernel_rfl) ?_
    unfold M.impl_permutations_1_A_n at hM
    refine tr_start (ks := [0, 2, 4, 6, 303, 305, 321, 323, 325, 327]) (st' := [(0, .d (iv xk)), (2, .d (.rp 161 0)), (4, .d (.rp 162 0)), (6, .d (.rp 163 0)), (303, .r (.arr 1 [.fr 1 xo.length (xo.flatMap (eS eI).o)] [])), (305, .r (.arr 1 ((eAr 64).o xb) [])), (321, .r (.arr 1 (xl.flatMap eI.o) [])), (323, .r (.arr 1 [.rs 160 0 xl.length] [160])), (325, .r (.arr 1 [.fn 132 [.pt ((eAr 64).b xh) 0, .rp 151 0, .rp 152 0]] [151, 152])), (327, .r (.arr 1 [.fn 141 [.rp 161 0, .rp 162 0, .rp 163 0]] [161, 162, 163]))]) (by kernel_rfl) ?_
    refine tr_seq ?_
    refine tr_srN hT hm [] [0, 2, 4, 6, 18, 303, 305, 321, 323, 325, 327] [(0, .d (iv xk)), (2, .d (.rp 161 0)), (4, .d (.rp 162 0)), (6, .d (.rp 163 0)), (18, .d (bv (decide (xk ≥ (xl.length : Int))))), (303, .r (.arr 1 [.fr 1 xo.length (xo.flatMap (eS eI).o)] [])), (305, .r (.arr 1 ((eAr 64).o xb) [])), (321, .r (.arr 1 (xl.flatMap eI.o) [])), (323, .r (.arr 1 [.rs 160 0 xl.length] [160])), (325, .r (.arr 1 [.fn 132 [.pt ((eAr 64).b xh) 0, .rp 151 0, .rp 152 0]] [151, 152])), (327, .r (.arr 1 [.fn 141 [.rp 161 0, .rp 162 0, .rp 163 0]] [161, 162, 163]))] .nil (by kernel_rfl) (by kernel_rfl) ?_
    rcases Bool.eq_false_or_eq_true (decide (xk ≥ (xl.length : Int))) with h1 | h1
    · have hM := ite_true' hM h1
      refine tr_condTe (e := decide (xk ≥ (xl.length : Int))) h1 (by kernel_rfl) ?_
      obtain ⟨v2, hv2, hM⟩ := bind_some' hM
      refine tr_srN hT hm [(2, .call [] [(160, 160), (151, 151), (152, 152)] [.rs 160 0 xl.length, .pt ((eAr 64).b xh) 0, .rp 151 0, .rp 152 0] [(160, .arr 1 (xl.flatMap eI.o) []), (151, .arr 1 [.fr 1 v2.1.length (v2.1.flatMap (eS eI).o)] []), (152, .arr 1 ((eAr 64).o v2.2) [])] (.tup []))] [303, 305, 321, 323, 325, 327] [(303, .r (.arr 1 [.fr 1 v2.1.length (v2.1.flatMap (eS eI).o)] [])), (305, .r (.arr 1 ((eAr 64).o v2.2) [])), (321, .r (.arr 1 (xl.flatMap eI.o) [])), (323, .r (.arr 1 [.rs 160 0 xl.length] [160])), (325, .r (.arr 1 [.fn 132 [.pt ((eAr 64).b xh) 0, .rp 151 0, .rp 152 0]] [151, 152])), (327, .r (.arr 1 [.fn 141 [.rp 161 0, .rp 162 0, .rp 163 0]] [161, 162, 163]))] (cc (B := []) (ρ := [(160, 160), (151, 151), (152, 152)]) (rB := []) ok132 (iC_leastSizes_1_c xh xl xo xb _ hv2) (.cons (.pass (.rs rfl)) (.cons (.same rfl) (.cons (.pass (.rp rfl)) (.cons (.pass (.rp rfl)) .nil)))) (.inl rfl) .nil) (by kernel_rfl) (by kernel_rfl) ?_
      refine tr_ret (q_r (rg_r ?_))
      obtain rfl := Option.some.inj hM
      exact retg (names := [160, 161, 162, 163, 151, 152]) .nil (by kernel_rfl)
    · have hM := ite_false' hM h1
      refine tr_condFe (e := decide (xk ≥ (xl.length : Int))) h1 (by kernel_rfl) ?_
      refine tr_skip (q_n ?_)
      refine tr_srN hT hm [] [0, 2, 6, 10, 303, 305, 321, 323, 325, 327] [(0, .d (iv xk)), (2, .d (.rp 161 0)), (6, .d (.rp 163 0)), (10, .d (iv xk)), (303, .r (.arr 1 [.fr 1 xo.length (xo.flatMap (eS eI).o)] [])), (305, .r (.arr 1 ((eAr 64).o xb) [])), (321, .r (.arr 1 (xl.flatMap eI.o) [])), (323, .r (.arr 1 [.rs 160 0 xl.length] [160])), (325, .r (.arr 1 [.fn 132 [.pt ((eAr 64).b xh) 0, .rp 151 0, .rp 152 0]] [151, 152])), (327, .r (.arr 1 [.fn 141 [.rp 161 0, .rp 162 0, .rp 163 0]] [161, 162, 163]))] .nil (by kernel_rfl) (by kernel_rfl) ?_
      refine tr_block ?_
      refine tr_iterS (fun (s3 : (Nat → Int) × (List Int) × (List (List Int)) × Int) => [(0, .d (iv xk)), (2, .d (.rp 161 0)), (6, .d (.rp 163 0)), (10, .d (iv s3.2.2.2)), (303, .r (.arr 1 [.fr 1 s3.2.2.1.length (s3.2.2.1.flatMap (eS eI).o)] [])), (305, .r (.arr 1 ((eAr 64).o s3.1) [])), (321, .r (.arr 1 (s3.2.1.flatMap eI.o) [])), (323, .r (.arr 1 [.rs 160 0 s3.2.1.length] [160])), (325, .r (.arr 1 [.fn 132 [.pt ((eAr 64).b xh) 0, .rp 151 0, .rp 152 0]] [151, 152])), (327, .r (.arr 1 [.fn 141 [.rp 161 0, .rp 162 0, .rp 163 0]] [161, 162, 163]))]) (xb, xl, xo, xk) [0, 2, 6, 10, 303, 305, 321, 323, 325, 327] (by kernel_rfl) hM ?_
      intro n6 next4 ih5 s3 hM
      refine tr_seq ?_
      refine tr_srN hT hm [] [0, 2, 6, 10, 34, 303, 305, 321, 323, 325, 327] [(0, .d (iv xk)), (2, .d (.rp 161 0)), (6, .d (.rp 163 0)), (10, .d (iv s3.2.2.2)), (34, .d (bv (decide (s3.2.2.2 < (s3.2.1.length : Int))))), (303, .r (.arr 1 [.fr 1 s3.2.2.1.length (s3.2.2.1.flatMap (eS eI).o)] [])), (305, .r (.arr 1 ((eAr 64).o s3.1) [])), (321, .r (.arr 1 (s3.2.1.flatMap eI.o) [])), (323, .r (.arr 1 [.rs 160 0 s3.2.1.length] [160])), (325, .r (.arr 1 [.fn 132 [.pt ((eAr 64).b xh) 0, .rp 151 0, .rp 152 0]] [151, 152])), (327, .r (.arr 1 [.fn 141 [.rp 161 0, .rp 162 0, .rp 163 0]] [161, 162, 163]))] .nil (by kernel_rfl) (by kernel_rfl) ?_
      rcases Bool.eq_false_or_eq_true (decide (s3.2.2.2 < (s3.2.1.length : Int))) with h7 | h7
      · have hM := ite_true' hM h7
        refine tr_condTe (e := decide (s3.2.2.2 < (s3.2.1.length : Int))) h7 (by kernel_rfl) ?_
        refine tr_skip (q_n ?_)
        refine tr_seq ?_
        refine tr_block ?_
        obtain ⟨y8, hy8, hM⟩ := bind_some' hM
        have hy8' := idx_some hy8
        obtain ⟨y9, hy9, hM⟩ := bind_some' hM
        have hy9' := idx_some hy9
        refine tr_srN hT hm [(7, .val (iv y8)), (11, .val (iv y9))] [0, 2, 6, 10, 303, 305, 321, 323, 325, 327] [(0, .d (iv xk)), (2, .d (.rp 161 0)), (6, .d (.rp 163 0)), (10, .d (iv s3.2.2.2)), (303, .r (.arr 1 [.fr 1 s3.2.2.1.length (s3.2.2.1.flatMap (eS eI).o)] [])), (305, .r (.arr 1 ((eAr 64).o s3.1) [])), (321, .r (.arr 1 (((s3.2.1.flatMap eI.o).take (0 + xk.toNat * 1) ++ [iv y8] ++ (s3.2.1.flatMap eI.o).drop (0 + xk.toNat * 1 + 1)).take (0 + s3.2.2.2.toNat * 1) ++ [iv y9] ++ ((s3.2.1.flatMap eI.o).take (0 + xk.toNat * 1) ++ [iv y8] ++ (s3.2.1.flatMap eI.o).drop (0 + xk.toNat * 1 + 1)).drop (0 + s3.2.2.2.toNat * 1 + 1)) [])), (323, .r (.arr 1 [.rs 160 0 s3.2.1.length] [160])), (325, .r (.arr 1 [.fn 132 [.pt ((eAr 64).b xh) 0, .rp 151 0, .rp 152 0]] [151, 152])), (327, .r (.arr 1 [.fn 141 [.rp 161 0, .rp 162 0, .rp 163 0]] [161, 162, 163]))] (.cons hy8'.1 (.cons hy8'.2.1 (.cons (at_o0 eI_ok hy8'.2.2 (d := iv y8) (by kernel_rfl)) (.cons hy9'.1 (.cons hy9'.2.1 (.cons (at_o0 eI_ok hy9'.2.2 (d := iv y9) (by kernel_rfl)) (.cons hy9'.1 (.cons hy9'.2.1 (.cons (store_le eI_ok hy9'.2.2) (.cons hy8'.1 (.cons hy8'.2.1 (.cons (store_le2 eI_ok hy8'.2.2 (set_flat eI_ok.lenO (y := y8) hy9'.2.2)) .nil)))))))))))) (by kernel_rfl) (by kernel_rfl) ?_
        refine Tr.by (imp_cvE (r := 160) (sz := 1) (refs := []) (set2_flat eI_ok (w := y9) hy8'.2.2 (set_flat eI_ok.lenO (y := y8) hy9'.2.2)) (menO_flat eI_ok _) (by kernel_rfl)) ?_
        refine Tr.by (imp_cvB (r := 161) (sz := 1) (cells := [.rs 160 0 s3.2.1.length]) (cells' := [.rs 160 0 (((s3.2.1.set xk.toNat y8).set s3.2.2.2.toNat y9).length)]) (refs := [160]) (refs' := [160]) (.cons (Sub.of_eq (congrArg (D.rs 160 0) ((List.length_set.trans List.length_set).symm : s3.2.1.length = ((s3.2.1.set xk.toNat y8).set s3.2.2.2.toNat y9).length))) .nil) (by kernel_rfl) (by kernel_rfl) (by kernel_rfl)) ?_
        obtain ⟨v10, hv10, hM⟩ := bind_some' hM
        refine tr_srN hT hm [(3, .call [] [(160, 160), (161, 161), (162, 162), (163, 163), (151, 151), (152, 152)] [iv (IntKind.i64.wrap (xk + 1)), .rp 161 0, .rp 162 0, .rp 163 0] [(160, .arr 1 (v10.1.flatMap eI.o) []), (161, .arr 1 [.rs 160 0 v10.1.length] [160]), (162, .arr 1 [.fn 132 [.pt ((eAr 64).b xh) 0, .rp 151 0, .rp 152 0]] [151, 152]), (163, .arr 1 [.fn 141 [.rp 161 0, .rp 162 0, .rp 163 0]] [161, 162, 163]), (151, .arr 1 [.fr 1 v10.2.1.length (v10.2.1.flatMap (eS eI).o)] []), (152, .arr 1 ((eAr 64).o v10.2.2) [])] (.tup []))] [0, 2, 6, 10, 303, 305, 321, 323, 325, 327] [(0, .d (iv xk)), (2, .d (.rp 161 0)), (6, .d (.rp 163 0)), (10, .d (iv s3.2.2.2)), (303, .r (.arr 1 [.fr 1 v10.2.1.length (v10.2.1.flatMap (eS eI).o)] [])), (305, .r (.arr 1 ((eAr 64).o v10.2.2) [])), (321, .r (.arr 1 (v10.1.flatMap eI.o) [])), (323, .r (.arr 1 [.rs 160 0 v10.1.length] [160])), (325, .r (.arr 1 [.fn 132 [.pt ((eAr 64).b xh) 0, .rp 151 0, .rp 152 0]] [151, 152])), (327, .r (.arr 1 [.fn 141 [.rp 161 0, .rp 162 0, .rp 163 0]] [161, 162, 163]))] (cc (B := []) (ρ := [(160, 160), (161, 161), (162, 162), (163, 163), (151, 151), (152, 152)]) (rB := []) ok141 (ih (IntKind.i64.wrap (xk + 1)) xh ((s3.2.1.set xk.toNat y8).set s3.2.2.2.toNat y9) s3.2.2.1 s3.1 _ hv10) (.cons (.same rfl) (.cons (.pass (.rp rfl)) (.cons (.pass (.rp rfl)) (.cons (.pass (.rp rfl)) .nil)))) (.inl rfl) .nil) (by kernel_rfl) (by kernel_rfl) ?_
        obtain ⟨y11, hy11, hM⟩ := bind_some' hM
        have hy11' := idx_some hy11
        obtain ⟨y12, hy12, hM⟩ := bind_some' hM
        have hy12' := idx_some hy12
        refine tr_rN hT hm [(7, .val (iv y11)), (11, .val (iv y12))] [0, 2, 6, 10, 303, 305, 321, 323, 325, 327] [(0, .d (iv xk)), (2, .d (.rp 161 0)), (6, .d (.rp 163 0)), (10, .d (iv s3.2.2.2)), (303, .r (.arr 1 [.fr 1 v10.2.1.length (v10.2.1.flatMap (eS eI).o)] [])), (305, .r (.arr 1 ((eAr 64).o v10.2.2) [])), (321, .r (.arr 1 (((v10.1.flatMap eI.o).take (0 + xk.toNat * 1) ++ [iv y11] ++ (v10.1.flatMap eI.o).drop (0 + xk.toNat * 1 + 1)).take (0 + s3.2.2.2.toNat * 1) ++ [iv y12] ++ ((v10.1.flatMap eI.o).take (0 + xk.toNat * 1) ++ [iv y11] ++ (v10.1.flatMap eI.o).drop (0 + xk.toNat * 1 + 1)).drop (0 + s3.2.2.2.toNat * 1 + 1)) [])), (323, .r (.arr 1 [.rs 160 0 v10.1.length] [160])), (325, .r (.arr 1 [.fn 132 [.pt ((eAr 64).b xh) 0, .rp 151 0, .rp 152 0]] [151, 152])), (327, .r (.arr 1 [.fn 141 [.rp 161 0, .rp 162 0, .rp 163 0]] [161, 162, 163]))] (.cons hy11'.1 (.cons hy11'.2.1 (.cons (at_o0 eI_ok hy11'.2.2 (d := iv y11) (by kernel_rfl)) (.cons hy12'.1 (.cons hy12'.2.1 (.cons (at_o0 eI_ok hy12'.2.2 (d := iv y12) (by kernel_rfl)) (.cons hy12'.1 (.cons hy12'.2.1 (.cons (store_le eI_ok hy12'.2.2) (.cons hy11'.1 (.cons hy11'.2.1 (.cons (store_le2 eI_ok hy11'.2.2 (set_flat eI_ok.lenO (y := y11) hy12'.2.2)) .nil)))))))))))) (by kernel_rfl) (by kernel_rfl) (b_n (q_n ?_))
        refine Tr.by (imp_cvE (r := 160) (sz := 1) (refs := []) (set2_flat eI_ok (w := y12) hy11'.2.2 (set_flat eI_ok.lenO (y := y11) hy12'.2.2)) (menO_flat eI_ok _) (by kernel_rfl)) ?_
        refine Tr.by (imp_cvB (r := 161) (sz := 1) (cells := [.rs 160 0 v10.1.length]) (cells' := [.rs 160 0 (((v10.1.set xk.toNat y11).set s3.2.2.2.toNat y12).length)]) (refs := [160]) (refs' := [160]) (.cons (Sub.of_eq (congrArg (D.rs 160 0) ((List.length_set.trans List.length_set).symm : v10.1.length = ((v10.1.set xk.toNat y11).set s3.2.2.2.toNat y12).length))) .nil) (by kernel_rfl) (by kernel_rfl) (by kernel_rfl)) ?_
        refine tr_rN hT hm [] [0, 2, 6, 10, 303, 305, 321, 323, 325, 327] [(0, .d (iv xk)), (2, .d (.rp 161 0)), (6, .d (.rp 163 0)), (10, .d (iv (IntKind.i64.wrap (s3.2.2.2 + 1)))), (303, .r (.arr 1 [.fr 1 v10.2.1.length (v10.2.1.flatMap (eS eI).o)] [])), (305, .r (.arr 1 ((eAr 64).o v10.2.2) [])), (321, .r (.arr 1 (((v10.1.set xk.toNat y11).set s3.2.2.2.toNat y12).flatMap eI.o) [])), (323, .r (.arr 1 [.rs 160 0 (((v10.1.set xk.toNat y11).set s3.2.2.2.toNat y12).length)] [160])), (325, .r (.arr 1 [.fn 132 [.pt ((eAr 64).b xh) 0, .rp 151 0, .rp 152 0]] [151, 152])), (327, .r (.arr 1 [.fn 141 [.rp 161 0, .rp 162 0, .rp 163 0]] [161, 162, 163]))] .nil (by kernel_rfl) (by kernel_rfl) (l_n ?_)
        exact trl_start (ks := [0, 2, 6, 10, 303, 305, 321, 323, 325, 327]) (by kernel_rfl) (ih5 (v10.2.2, (v10.1.set xk.toNat y11).set s3.2.2.2.toNat y12, v10.2.1, IntKind.i64.wrap (s3.2.2.2 + 1)) hM)
      · have hM := ite_false' hM h7
        refine tr_condFe (e := decide (s3.2.2.2 < (s3.2.1.length : Int))) h7 (by kernel_rfl) ?_
        refine tr_exit (q_x (l_x (b_h (rg_n ?_))))
        obtain rfl := Option.some.inj hM
        exact retg (names := [160, 161, 162, 163, 151, 152]) .nil (by kernel_rfl)
theorem impl_permutations_1_A_c (xk : Int) (xh : Nat → Int) (xl : List Int) (xo : List (List Int)) (xb : Nat → Int) (r : (List Int) × (List (List Int)) × (Nat → Int)) (hM : M.impl_permutations_1_A xh xk xl xo xb = some r) :
    FnC Try.prog 141 [(160, .arr 1 (xl.flatMap eI.o) []), (161, .arr 1 [.rs 160 0 xl.length] [160]), (162, .arr 1 [.fn 132 [.pt ((eAr 64).b xh) 0, .rp 151 0, .rp 152 0]] [151, 152]), (163, .arr 1 [.fn 141 [.rp 161 0, .rp 162 0, .rp 163 0]] [161, 162, 163]), (151, .arr 1 [.fr 1 xo.length (xo.flatMap (eS eI).o)] []), (152, .arr 1 ((eAr 64).o xb) [])] [iv xk, .rp 161 0, .rp 162 0, .rp 163 0] [(160, .arr 1 (r.1.flatMap eI.o) []), (161, .arr 1 [.rs 160 0 r.1.length] [160]), (162, .arr 1 [.fn 132 [.pt ((eAr 64).b xh) 0, .rp 151 0, .rp 152 0]] [151, 152]), (163, .arr 1 [.fn 141 [.rp 161 0, .rp 162 0, .rp 163 0]] [161, 162, 163]), (151, .arr 1 [.fr 1 r.2.1.length (r.2.1.flatMap (eS eI).o)] []), (152, .arr 1 ((eAr 64).o r.2.2) [])] (.tup []) := impl_permutations_1_A_n_c fuel xk xh xl xo xb r hM
theorem ok131 : CallOk Try.prog 131 := callOk_of Try.func131 (by kernel_rfl) (by kernel_rfl)
theorem impl_permutations_A_c (xh : Nat → Int) (xl : List Int) (xo : List (List Int)) (xb : Nat → Int) (r : (List (List Int)) × (Nat → Int)) (hM : M.impl_permutations_A xh xl xo xb = some r) :
    FnC Try.prog 131 [(160, .arr 1 (xl.flatMap eI.o) []), (151, .arr 1 [.fr 1 xo.length (xo.flatMap (eS eI).o)] []), (152, .arr 1 ((eAr 64).o xb) [])] [.rs 160 0 xl.length, .fn 132 [.pt ((eAr 64).b xh) 0, .rp 151 0, .rp 152 0]] [(151, .arr 1 [.fr 1 r.1.length (r.1.flatMap (eS eI).o)] []), (152, .arr 1 ((eAr 64).o r.2) [])] (.tup []) := by
  refine fnc_startG (N := 8) (np := 161) hT Try.func131 rfl rfl (by kernel_rfl) ?_
  unfold M.impl_permutations_A at hM
  refine tr_start (ks := [0, 2, 303, 305, 321]) (st' := [(0, .d (.rs 160 0 xl.length)), (2, .d (.fn 132 [.pt ((eAr 64).b xh) 0, .rp 151 0, .rp 152 0])), (303, .r (.arr 1 [.fr 1 xo.length (xo.flatMap (eS eI).o)] [])), (305, .r (.arr 1 ((eAr 64).o xb) [])), (321, .r (.arr 1 (xl.flatMap eI.o) []))]) (by kernel_rfl) ?_
  refine tr_sr hT hm [] [4, 6, 303, 305, 321, 2005, 2007] [(4, .d (.rp 1002 0)), (6, .d (.rp 1003 0)), (303, .r (.arr 1 [.fr 1 xo.length (xo.flatMap (eS eI).o)] [])), (305, .r (.arr 1 ((eAr 64).o xb) [])), (321, .r (.arr 1 (xl.flatMap eI.o) [])), (2005, .r (.arr 1 [.rs 160 0 xl.length] [160])), (2007, .r (.arr 1 [.fn 132 [.pt ((eAr 64).b xh) 0, .rp 151 0, .rp 152 0]] [151, 152]))] .nil (by kernel_rfl) (by kernel_rfl) ?_
  refine tr_sr hT hm [] [4, 6, 8, 303, 305, 321, 2005, 2007, 2009] [(4, .d (.rp 1002 0)), (6, .d (.rp 1003 0)), (8, .d (.rp 1004 0)), (303, .r (.arr 1 [.fr 1 xo.length (xo.flatMap (eS eI).o)] [])), (305, .r (.arr 1 ((eAr 64).o xb) [])), (321, .r (.arr 1 (xl.flatMap eI.o) [])), (2005, .r (.arr 1 [.rs 160 0 xl.length] [160])), (2007, .r (.arr 1 [.fn 132 [.pt ((eAr 64).b xh) 0, .rp 151 0, .rp 152 0]] [151, 152])), (2009, .r (.arr 1 [.v (.nilFunc)] []))] .nil (by kernel_rfl) (by kernel_rfl) ?_
  refine tr_sr hT hm [] [8, 303, 305, 321, 2005, 2007, 2009] [(8, .d (.rp 1004 0)), (303, .r (.arr 1 [.fr 1 xo.length (xo.flatMap (eS eI).o)] [])), (305, .r (.arr 1 ((eAr 64).o xb) [])), (321, .r (.arr 1 (xl.flatMap eI.o) [])), (2005, .r (.arr 1 [.rs 160 0 xl.length] [160])), (2007, .r (.arr 1 [.fn 132 [.pt ((eAr 64).b xh) 0, .rp 151 0, .rp 152 0]] [151, 152])), (2009, .r (.arr 1 [.fn 141 [.rp 1002 0, .rp 1003 0, .rp 1004 0]] [1002, 1003, 1004]))] (.cons (Nat.le_of_ble_eq_true (n := 1) (m := 1) rfl) .nil) (by kernel_rfl) (by kernel_rfl) ?_
  refine Tr.by (imp_rename (r := 1002) (q := 161) (by kernel_rfl) (Nat.le_of_ble_eq_true rfl)) ?_
  refine Tr.by (imp_rename (r := 1003) (q := 162) (by kernel_rfl) (Nat.le_of_ble_eq_true rfl)) ?_
  refine Tr.by (imp_rename (r := 1004) (q := 163) (by kernel_rfl) (Nat.le_of_ble_eq_true rfl)) ?_
  obtain ⟨v1, hv1, hM⟩ := bind_some' hM
  refine tr_r hT hm [(1, .call [] [(160, 160), (161, 161), (162, 162), (163, 163), (151, 151), (152, 152)] [iv 0, .rp 161 0, .rp 162 0, .rp 163 0] [(160, .arr 1 (v1.1.flatMap eI.o) []), (161, .arr 1 [.rs 160 0 v1.1.length] [160]), (162, .arr 1 [.fn 132 [.pt ((eAr 64).b xh) 0, .rp 151 0, .rp 152 0]] [151, 152]), (163, .arr 1 [.fn 141 [.rp 161 0, .rp 162 0, .rp 163 0]] [161, 162, 163]), (151, .arr 1 [.fr 1 v1.2.1.length (v1.2.1.flatMap (eS eI).o)] []), (152, .arr 1 ((eAr 64).o v1.2.2) [])] (.tup []))] [303, 305] [(303, .r (.arr 1 [.fr 1 v1.2.1.length (v1.2.1.flatMap (eS eI).o)] [])), (305, .r (.arr 1 ((eAr 64).o v1.2.2) []))] (cc (B := []) (ρ := [(160, 160), (161, 161), (162, 162), (163, 163), (151, 151), (152, 152)]) (rB := []) ok141 (impl_permutations_1_A_c 0 xh xl xo xb _ hv1) (.cons (.same rfl) (.cons (.pass (.rp rfl)) (.cons (.pass (.rp rfl)) (.cons (.pass (.rp rfl)) .nil)))) (.inl rfl) .nil) (by kernel_rfl) (by kernel_rfl) (rg_n ?_)
  obtain rfl := Option.some.inj hM
  exact retg (names := [151, 152]) .nil (by kernel_rfl)
theorem ok106 : CallOk Try.prog 106 := callOk_of Try.func106 (by kernel_rfl) (by kernel_rfl)
theorem iC_leastSizes_c (a0 : XCategory) (r : (List (List Int))) (hM : M.iC_leastSizes a0 = some r) :
    FnC Try.prog 106 [] [.pt (eXCategory.b a0) 0] [] (.fr 1 r.length (r.flatMap (eS eI).o)) := by
  refine fnc_startG (N := 18) (np := 100) hT Try.func106 rfl rfl (by kernel_rfl) ?_
  unfold M.iC_leastSizes at hM
  refine tr_start (ks := [0]) (st' := [(0, .d (.pt (eXCategory.b a0) 0))]) (by kernel_rfl) ?_
  refine tr_sr hT hm [] [0] [(0, .d (.pt (eXCategory.b a0) 0))] .nil (by kernel_rfl) (by kernel_rfl) ?_
  obtain ⟨v1, hv1, hM⟩ := bind_some' hM
  refine tr_sr hT hm [(1, .call [] [] [.pt (eXCategory.b a0) 0] [] (.agg ((eAr 64).o v1)))] [0, 6, 2007] [(0, .d (.pt (eXCategory.b a0) 0)), (6, .d (.rp 1003 0)), (2007, .r (.arr 1 ((eAr 64).o v1) []))] (cc0 ok105 (iC_homSizes_c a0 _ hv1) (by kernel_rfl) (.cons (Nat.le_of_ble_eq_true (n := 64) (m := 64) rfl) .nil)) (by kernel_rfl) (by kernel_rfl) ?_
  refine tr_sr hT hm [] [0, 6, 8, 2007, 2009] [(0, .d (.pt (eXCategory.b a0) 0)), (6, .d (.rp 1003 0)), (8, .d (.rp 1004 0)), (2007, .r (.arr 1 ((eAr 64).o v1) [])), (2009, .r (.arr 1 ((eAr 64).o (fun _ => (0 : Int))) []))] (.cons (Nat.le_of_ble_eq_true (n := 64) (m := 64) rfl) .nil) (by kernel_rfl) (by kernel_rfl) ?_
  refine tr_sr hT hm [] [0, 6, 8, 10, 2007, 2009, 2011, 2019] [(0, .d (.pt (eXCategory.b a0) 0)), (6, .d (.rp 1003 0)), (8, .d (.rp 1004 0)), (10, .d (.rp 1005 0)), (2007, .r (.arr 1 ((eAr 64).o v1) [])), (2009, .r (.arr 1 ((eAr 64).o (fun _ => (0 : Int))) [])), (2011, .r (.arr 1 [.rs 1009 0 (([] : List (List Int)).length)] [1009])), (2019, .r (.arr 1 (([] : List (List Int)).flatMap (eS eI).o) []))] (.cons (Nat.le_of_ble_eq_true (n := 1) (m := 1) rfl) .nil) (by kernel_rfl) (by kernel_rfl) ?_
  refine Tr.by (imp_freeze (B := [1003]) (cv := [(3, .pt ((eAr 64).b v1) 0)]) (.cons (by kernel_rfl) (.of1 (.rp (r := 1003) (sz := 1) (cells := (eAr 64).o v1) (refs := []) (memB (by kernel_rfl)) (by kernel_rfl) ((eAr_ok 64).bor _ _ _))) .nil)) ?_
  obtain ⟨v2, hv2, hM⟩ := bind_some' hM
  refine Tr.by (imp_rename (r := 1005) (q := 151) (by kernel_rfl) (Nat.le_of_ble_eq_true rfl)) ?_
  refine Tr.by (imp_dem (r := 151) (q := 1009) (sz := 1) (n := (([] : List (List Int)).length)) (j := 0) (pre := []) (l := [.rs 1009 0 (([] : List (List Int)).length)]) (post := []) (refs := [1009]) (refs' := []) rfl rfl (lenO_flat (eS_ok eI_ok) ([] : List (List Int))) (by kernel_rfl) (by kernel_rfl) (by kernel_rfl) (by kernel_rfl) (by kernel_rfl)) ?_
  refine Tr.by (imp_rename (r := 1004) (q := 152) (by kernel_rfl) (Nat.le_of_ble_eq_true rfl)) ?_
  obtain ⟨v3, hv3, hM⟩ := bind_some' hM
  refine tr_sr hT hm [(4, .call [] [] [iv a0.Objects] [] (.fr 1 v2.length (v2.flatMap eI.o))), (6, .call [] [(160, 16000), (151, 151), (152, 152)] [.rs 160 0 v2.length, .fn 132 [.pt ((eAr 64).b v1) 0, .rp 151 0, .rp 152 0]] [(151, .arr 1 [.fr 1 v3.1.length (v3.1.flatMap (eS eI).o)] []), (152, .arr 1 ((eAr 64).o v3.2) [])] (.tup []))] [10, 303] [(10, .d (.rp 151 0)), (303, .r (.arr 1 [.fr 1 v3.1.length (v3.1.flatMap (eS eI).o)] []))] (cc0 ok127 (impl_numbers_c a0.Objects _ hv2) (by kernel_rfl) (cc (B := []) (ρ := [(160, 16000), (151, 151), (152, 152)]) (rB := []) ok131 (impl_permutations_A_c v1 v2 [] (fun _ => (0 : Int)) _ hv3) (.cons (.pass (.rs rfl)) (.cons (.pass (.fn (passC (.same rfl) (passC (.rp rfl) (passC (.rp rfl) passN))))) .nil)) (.inl rfl) .nil)) (by kernel_rfl) (by kernel_rfl) ?_
  refine Tr.by (imp_promote (r := 151) (i := 0) (q := 700002) (sz := 1) (sz' := 1) (n := v3.1.length) (cells := [.fr 1 v3.1.length (v3.1.flatMap (eS eI).o)]) (ds := v3.1.flatMap (eS eI).o) (refs := []) (by kernel_rfl) (by kernel_rfl) (by kernel_rfl)) ?_
  refine tr_sr hT hm [] [4, 1400005] [(4, .d (.rs 700002 0 v3.1.length)), (1400005, .r (.arr 1 (v3.1.flatMap (eS eI).o) []))] .nil (by kernel_rfl) (by kernel_rfl) ?_
  refine tr_ret (rg_r ?_)
  obtain rfl := Option.some.inj hM
  exact retg (names := []) (.cons (lenO_flat (eS_ok eI_ok) v3.1) .nil) (by kernel_rfl)
end Go.Proofs.Ythafadgnjkmfkaa.WzH
