import Derived.Test.YthafadgnjkmfkaaGxEO0
import Derived.Test.YthafadgnjkmfkaaGxEM0
import Derived.Test.YthafadgnjkmfkaaGxvIW
import Derived.Test.YthafadgnjkmfkaaGxyTW
import Derived.KernelRfl
namespace Go.Proofs.Ythafadgnjkmfkaa.WzF
open Go.Gx Go.Proofs.Ythafadgnjkmfkaa.WvB Go.Proofs.Ythafadgnjkmfkaa.WvI Go.Proofs.Ythafadgnjkmfkaa.WyT
theorem eXCategory_r : EncR eXCategory := (eA_r (eC_r eI_r _) (eA_r (eC_r (eS_r eI_ok) _) (eA_r (eC_r (eS_r eI_ok) _) (eA_r (eC_r (eS_r eI_ok) _) (eC_r (eS_r (eS_ok eI_ok)) _)))))
def T : Tab := [(2, ⟨.int .i64, 1, 8, [.int .i64 0]⟩),
  (3, ⟨.int .i64, 1, 8, [.int .i64 0]⟩),
  (22, ⟨.slice 2, 1, 24, [.slice .none 0 0]⟩),
  (23, ⟨.slice 22, 1, 24, [.slice .none 0 0]⟩),
  (29, ⟨.struct #[⟨"Objects", 2, 0, false, "", "", 0⟩, ⟨"From", 22, 1, false, "", "", 8⟩, ⟨"To", 22, 2, false, "", "", 32⟩, ⟨"Identity", 22, 3, false, "", "", 56⟩, ⟨"Composites", 23, 4, false, "", "", 80⟩], 5, 104, [.int .i64 0, .slice .none 0 0, .slice .none 0 0, .slice .none 0 0, .slice .none 0 0]⟩),
  (150, ⟨.array 8 2, 8, 64, [.int .i64 0, .int .i64 0, .int .i64 0, .int .i64 0, .int .i64 0, .int .i64 0, .int .i64 0, .int .i64 0]⟩),
  (152, ⟨.array 8 150, 64, 512, [.int .i64 0, .int .i64 0, .int .i64 0, .int .i64 0, .int .i64 0, .int .i64 0, .int .i64 0, .int .i64 0, .int .i64 0, .int .i64 0, .int .i64 0, .int .i64 0, .int .i64 0, .int .i64 0, .int .i64 0, .int .i64 0, .int .i64 0, .int .i64 0, .int .i64 0, .int .i64 0, .int .i64 0, .int .i64 0, .int .i64 0, .int .i64 0, .int .i64 0, .int .i64 0, .int .i64 0, .int .i64 0, .int .i64 0, .int .i64 0, .int .i64 0, .int .i64 0, .int .i64 0, .int .i64 0, .int .i64 0, .int .i64 0, .int .i64 0, .int .i64 0, .int .i64 0, .int .i64 0, .int .i64 0, .int .i64 0, .int .i64 0, .int .i64 0, .int .i64 0, .int .i64 0, .int .i64 0, .int .i64 0, .int .i64 0, .int .i64 0, .int .i64 0, .int .i64 0, .int .i64 0, .int .i64 0, .int .i64 0, .int .i64 0, .int .i64 0, .int .i64 0, .int .i64 0, .int .i64 0, .int .i64 0, .int .i64 0, .int .i64 0, .int .i64 0]⟩)]
theorem hT : TabOk Try.prog T := ⟨tiok (by kernel_rfl) (by kernel_rfl), tiok (by kernel_rfl) (by kernel_rfl), tiok (by kernel_rfl) (by kernel_rfl), tiok (by kernel_rfl) (by kernel_rfl), tiok (by kernel_rfl) (by kernel_rfl), tiok (by kernel_rfl) (by kernel_rfl), tiok (by kernel_rfl) (by kernel_rfl), trivial⟩
theorem hm : Try.prog.follows .mixedOrders = true := by kernel_rfl
theorem ok128 : CallOk Try.prog 128 := callOk_of Try.func128 (by kernel_rfl) (by kernel_rfl)
theorem spec_l10Times_c (a0 : Int) (a1 : Int) (r : Int) (hM : M.spec_l10Times a0 a1 = some r) :
    FnC Try.prog 128 [] [iv a0, iv a1] [] (iv r) := by
  refine fnc_startG (N := 19) (np := 500) hT Try.func128 rfl rfl (by kernel_rfl) ?_
  unfold M.spec_l10Times at hM
  refine tr_start (ks := [0, 2]) (st' := [(0, .d (iv a0)), (2, .d (iv a1))]) (by kernel_rfl) ?_
  refine tr_sr hT hm [] [0, 2] [(0, .d (iv a0)), (2, .d (iv a1))] .nil (by kernel_rfl) (by kernel_rfl) ?_
  refine tr_seq ?_
  refine tr_sr hT hm [] [0, 2, 10] [(0, .d (iv a0)), (2, .d (iv a1)), (10, .d (iv 2))] .nil (by kernel_rfl) (by kernel_rfl) ?_
  refine tr_block ?_
  refine tr_iterS (fun (s1 : Int × Int) => [(0, .d (iv s1.1)), (2, .d (iv a1)), (10, .d (iv s1.2))]) (a0, 2) [0, 2, 10] (by kernel_rfl) hM ?_
  intro n4 next2 ih3 s1 hM
  refine tr_seq ?_
  rcases Bool.eq_false_or_eq_true (decide (s1.2 ≤ a1)) with h5 | h5
  · have hM := ite_true' hM h5
    refine tr_sr hT hm [(3, .val (bv true))] [0, 2, 10, 24] [(0, .d (iv s1.1)), (2, .d (iv a1)), (10, .d (iv s1.2)), (24, .d (bv (decide (s1.1 ≤ 5000))))] (.cons (congrArg (fun b => bv b) h5) .nil) (by kernel_rfl) (by kernel_rfl) ?_
    rcases Bool.eq_false_or_eq_true (decide (s1.1 ≤ 5000)) with h6 | h6
    · have hM := ite_true' hM h6
      refine tr_condTe (e := decide (s1.1 ≤ 5000)) h6 (by kernel_rfl) ?_
      refine tr_skip (q_n ?_)
      refine tr_seq ?_
      refine tr_block ?_
      refine tr_r hT hm [] [0, 2, 10] [(0, .d (iv (IntKind.i64.wrap (s1.1 * s1.2)))), (2, .d (iv a1)), (10, .d (iv s1.2))] .nil (by kernel_rfl) (by kernel_rfl) (b_n (q_n ?_))
      refine tr_r hT hm [] [0, 2, 10] [(0, .d (iv (IntKind.i64.wrap (s1.1 * s1.2)))), (2, .d (iv a1)), (10, .d (iv (IntKind.i64.wrap (s1.2 + 1))))] .nil (by kernel_rfl) (by kernel_rfl) (l_n ?_)
      exact trl_start (ks := [0, 2, 10]) (by kernel_rfl) (ih3 (IntKind.i64.wrap (s1.1 * s1.2), IntKind.i64.wrap (s1.2 + 1)) hM)
    · have hM := ite_false' hM h6
      refine tr_condFe (e := decide (s1.1 ≤ 5000)) h6 (by kernel_rfl) ?_
      refine tr_exit (q_x (l_x (b_h (q_n ?_))))
      refine tr_sr hT hm [] [8] [(8, .d (iv s1.1))] .nil (by kernel_rfl) (by kernel_rfl) ?_
      refine tr_ret (rg_r ?_)
      obtain rfl := Option.some.inj hM
      exact retg (names := []) .nil (by kernel_rfl)
  · have hM := ite_false' hM h5
    refine tr_sr hT hm [(3, .val (bv false))] [0, 2, 10, 24] [(0, .d (iv s1.1)), (2, .d (iv a1)), (10, .d (iv s1.2)), (24, .d (bv false))] (.cons (congrArg (fun b => bv b) h5) .nil) (by kernel_rfl) (by kernel_rfl) ?_
    refine tr_condF (by kernel_rfl) ?_
    refine tr_exit (q_x (l_x (b_h (q_n ?_))))
    refine tr_sr hT hm [] [8] [(8, .d (iv s1.1))] .nil (by kernel_rfl) (by kernel_rfl) ?_
    refine tr_ret (rg_r ?_)
    obtain rfl := Option.some.inj hM
    exact retg (names := []) .nil (by kernel_rfl)
theorem ok95 : CallOk Try.prog 95 := callOk_of Try.func95 (by kernel_rfl) (by kernel_rfl)
theorem spec_l10Count_c (a0 : XCategory) (r : Int) (hM : M.spec_l10Count a0 = some r) :
    FnC Try.prog 95 [] [.agg (eXCategory.b a0)] [] (iv r) := by
  refine fnc_startG (N := 36) (np := 500) hT Try.func95 rfl rfl (by kernel_rfl) ?_
  unfold M.spec_l10Count at hM
  refine tr_start (ks := [0]) (st' := [(0, .d (.agg (eXCategory.b a0)))]) (by kernel_rfl) ?_
  refine tr_sr hT hm [] [2, 2003] [(2, .d (.rp 1001 0)), bxB 2003 (eXCategory.b a0)] .nil (by kernel_rfl) (by kernel_rfl) ?_
  obtain ⟨v1, hv1, hM⟩ := bind_some' hM
  refine tr_sr hT hm [(2, .call [] [] [iv 1, iv a0.Objects] [] (iv v1))] [2, 6, 2003] [(2, .d (.rp 1001 0)), (6, .d (iv v1)), bxB 2003 (eXCategory.b a0)] (cc0 ok128 (spec_l10Times_c 1 a0.Objects _ hv1) (by kernel_rfl) .nil) (by kernel_rfl) (by kernel_rfl) ?_
  refine tr_seq ?_
  refine tr_sr hT hm [] [2, 6, 8, 2003] [(2, .d (.rp 1001 0)), (6, .d (iv v1)), (8, .d (iv 0)), bxB 2003 (eXCategory.b a0)] .nil (by kernel_rfl) (by kernel_rfl) ?_
  refine tr_block ?_
  refine tr_iterS (fun (s2 : Int × Int) => [(2, .d (.rp 1001 0)), (6, .d (iv s2.1)), (8, .d (iv s2.2)), bxB 2003 (eXCategory.b a0)]) (v1, 0) [2, 6, 8, 2003] (by kernel_rfl) hM ?_
  intro n5 next3 ih4 s2 hM
  refine tr_seq ?_
  refine tr_sr hT hm [] [2, 6, 8, 26, 2003] [(2, .d (.rp 1001 0)), (6, .d (iv s2.1)), (8, .d (iv s2.2)), (26, .d (bv (decide (s2.2 < a0.Objects)))), bxB 2003 (eXCategory.b a0)] .nil (by kernel_rfl) (by kernel_rfl) ?_
  rcases Bool.eq_false_or_eq_true (decide (s2.2 < a0.Objects)) with h6 | h6
  · have hM := ite_true' hM h6
    refine tr_condTe (e := decide (s2.2 < a0.Objects)) h6 (by kernel_rfl) ?_
    refine tr_skip (q_n ?_)
    refine tr_seq ?_
    refine tr_block ?_
    refine tr_sr hT hm [] [2, 6, 8, 10, 2003] [(2, .d (.rp 1001 0)), (6, .d (iv s2.1)), (8, .d (iv s2.2)), (10, .d (iv 0)), bxB 2003 (eXCategory.b a0)] .nil (by kernel_rfl) (by kernel_rfl) ?_
    refine tr_block ?_
    refine tr_iterS (fun (s7 : Int × Int) => [(2, .d (.rp 1001 0)), (6, .d (iv s7.1)), (8, .d (iv s2.2)), (10, .d (iv s7.2)), bxB 2003 (eXCategory.b a0)]) (s2.1, 0) [2, 6, 8, 10, 2003] (by kernel_rfl) hM ?_
    intro n10 next8 ih9 s7 hM
    refine tr_seq ?_
    refine tr_sr hT hm [] [2, 6, 8, 10, 38, 2003] [(2, .d (.rp 1001 0)), (6, .d (iv s7.1)), (8, .d (iv s2.2)), (10, .d (iv s7.2)), (38, .d (bv (decide (s7.2 < a0.Objects)))), bxB 2003 (eXCategory.b a0)] .nil (by kernel_rfl) (by kernel_rfl) ?_
    rcases Bool.eq_false_or_eq_true (decide (s7.2 < a0.Objects)) with h11 | h11
    · have hM := ite_true' hM h11
      refine tr_condTe (e := decide (s7.2 < a0.Objects)) h11 (by kernel_rfl) ?_
      refine tr_skip (q_n ?_)
      refine tr_seq ?_
      refine tr_block ?_
      obtain ⟨v12, hv12, hM⟩ := bind_some' hM
      refine tr_sr hT hm [(3, .call [] [] [.agg (eXCategory.b a0), iv s2.2, iv s7.2] [] (.fr 1 v12.length (v12.flatMap eI.o)))] [2, 6, 8, 10, 12, 2003] [(2, .d (.rp 1001 0)), (6, .d (iv s7.1)), (8, .d (iv s2.2)), (10, .d (iv s7.2)), (12, .d (iv (v12.length : Int))), bxB 2003 (eXCategory.b a0)] (cc0 ok62 (spec_l02Hom_c a0 s2.2 s7.2 _ hv12) (by kernel_rfl) .nil) (by kernel_rfl) (by kernel_rfl) ?_
      refine tr_seq ?_
      refine tr_sr hT hm [] [2, 6, 8, 10, 12, 58, 2003] [(2, .d (.rp 1001 0)), (6, .d (iv s7.1)), (8, .d (iv s2.2)), (10, .d (iv s7.2)), (12, .d (iv (v12.length : Int))), (58, .d (bv (s2.2 == s7.2))), bxB 2003 (eXCategory.b a0)] .nil (by kernel_rfl) (by kernel_rfl) ?_
      rcases Bool.eq_false_or_eq_true (s2.2 == s7.2) with h13 | h13
      · have hM := ite_true' hM h13
        refine tr_condTe (e := s2.2 == s7.2) h13 (by kernel_rfl) ?_
        refine tr_r hT hm [] [2, 6, 8, 10, 12, 2003] [(2, .d (.rp 1001 0)), (6, .d (iv s7.1)), (8, .d (iv s2.2)), (10, .d (iv s7.2)), (12, .d (iv (IntKind.i64.wrap ((v12.length : Int) - 1)))), bxB 2003 (eXCategory.b a0)] .nil (by kernel_rfl) (by kernel_rfl) (q_n ?_)
        obtain ⟨v14, hv14, hM⟩ := bind_some' hM
        refine tr_r hT hm [(2, .call [] [] [iv s7.1, iv (IntKind.i64.wrap ((v12.length : Int) - 1))] [] (iv v14))] [2, 6, 8, 10, 2003] [(2, .d (.rp 1001 0)), (6, .d (iv v14)), (8, .d (iv s2.2)), (10, .d (iv s7.2)), bxB 2003 (eXCategory.b a0)] (cc0 ok128 (spec_l10Times_c s7.1 (IntKind.i64.wrap ((v12.length : Int) - 1)) _ hv14) (by kernel_rfl) .nil) (by kernel_rfl) (by kernel_rfl) (b_n (q_n ?_))
        refine tr_r hT hm [] [2, 6, 8, 10, 2003] [(2, .d (.rp 1001 0)), (6, .d (iv v14)), (8, .d (iv s2.2)), (10, .d (iv (IntKind.i64.wrap (s7.2 + 1)))), bxB 2003 (eXCategory.b a0)] .nil (by kernel_rfl) (by kernel_rfl) (l_n ?_)
        exact trl_start (ks := [2, 6, 8, 10, 2003]) (by kernel_rfl) (ih9 (v14, IntKind.i64.wrap (s7.2 + 1)) hM)
      · have hM := ite_false' hM h13
        refine tr_condFe (e := s2.2 == s7.2) h13 (by kernel_rfl) ?_
        refine tr_skip (q_n ?_)
        obtain ⟨v15, hv15, hM⟩ := bind_some' hM
        refine tr_r hT hm [(2, .call [] [] [iv s7.1, iv (v12.length : Int)] [] (iv v15))] [2, 6, 8, 10, 2003] [(2, .d (.rp 1001 0)), (6, .d (iv v15)), (8, .d (iv s2.2)), (10, .d (iv s7.2)), bxB 2003 (eXCategory.b a0)] (cc0 ok128 (spec_l10Times_c s7.1 (v12.length : Int) _ hv15) (by kernel_rfl) .nil) (by kernel_rfl) (by kernel_rfl) (b_n (q_n ?_))
        refine tr_r hT hm [] [2, 6, 8, 10, 2003] [(2, .d (.rp 1001 0)), (6, .d (iv v15)), (8, .d (iv s2.2)), (10, .d (iv (IntKind.i64.wrap (s7.2 + 1)))), bxB 2003 (eXCategory.b a0)] .nil (by kernel_rfl) (by kernel_rfl) (l_n ?_)
        exact trl_start (ks := [2, 6, 8, 10, 2003]) (by kernel_rfl) (ih9 (v15, IntKind.i64.wrap (s7.2 + 1)) hM)
    · have hM := ite_false' hM h11
      refine tr_condFe (e := decide (s7.2 < a0.Objects)) h11 (by kernel_rfl) ?_
      refine tr_exit (q_x (l_x (b_h (b_n (q_n ?_)))))
      refine tr_r hT hm [] [2, 6, 8, 2003] [(2, .d (.rp 1001 0)), (6, .d (iv s7.1)), (8, .d (iv (IntKind.i64.wrap (s2.2 + 1)))), bxB 2003 (eXCategory.b a0)] .nil (by kernel_rfl) (by kernel_rfl) (l_n ?_)
      exact trl_start (ks := [2, 6, 8, 2003]) (by kernel_rfl) (ih4 (s7.1, IntKind.i64.wrap (s2.2 + 1)) hM)
  · have hM := ite_false' hM h6
    refine tr_condFe (e := decide (s2.2 < a0.Objects)) h6 (by kernel_rfl) ?_
    refine tr_exit (q_x (l_x (b_h (q_n ?_))))
    refine tr_sr hT hm [] [4] [(4, .d (iv s2.1))] .nil (by kernel_rfl) (by kernel_rfl) ?_
    refine tr_ret (rg_r ?_)
    obtain rfl := Option.some.inj hM
    exact retg (names := []) .nil (by kernel_rfl)
theorem ok54 : CallOk Try.prog 54 := callOk_of Try.func54 (by kernel_rfl) (by kernel_rfl)
theorem spec_CountNumberings_c (a0 : XCategory) (r : Int × Int) (hM : M.spec_CountNumberings a0 = some r) :
    FnC Try.prog 54 [] [.agg (eXCategory.b a0)] [] (.tup [iv r.1, iv r.2]) := by
  refine fnc_startG (N := 13) (np := 500) hT Try.func54 rfl rfl (by kernel_rfl) ?_
  unfold M.spec_CountNumberings at hM
  refine tr_start (ks := [0]) (st' := [(0, .d (.agg (eXCategory.b a0)))]) (by kernel_rfl) ?_
  refine tr_sr hT hm [] [2, 2003] [(2, .d (.rp 1001 0)), bxB 2003 (eXCategory.b a0)] .nil (by kernel_rfl) (by kernel_rfl) ?_
  refine tr_seq ?_
  obtain ⟨v1, hv1, hM⟩ := bind_some' hM
  refine tr_sr hT hm [(1, .call [] [] [.agg (eXCategory.b a0)] [] (bv v1))] [2, 14, 2003] [(2, .d (.rp 1001 0)), (14, .d (bv (!v1))), bxB 2003 (eXCategory.b a0)] (cc0 ok79 (spec_l02Is_c a0 _ hv1) (by kernel_rfl) .nil) (by kernel_rfl) (by kernel_rfl) ?_
  rcases Bool.eq_false_or_eq_true v1 with h2 | h2
  · have hM := ite_true' hM h2
    refine tr_condFe (e := !v1) (congrArg not h2) (by kernel_rfl) ?_
    refine tr_skip (q_n ?_)
    obtain ⟨v3, hv3, hM⟩ := bind_some' hM
    refine tr_sr hT hm [(1, .call [] [] [.agg (eXCategory.b a0)] [] (iv v3))] [8] [(8, .d (iv v3))] (cc0 ok95 (spec_l10Count_c a0 _ hv3) (by kernel_rfl) .nil) (by kernel_rfl) (by kernel_rfl) ?_
    refine tr_seq ?_
    refine tr_sr hT hm [] [8, 22] [(8, .d (iv v3)), (22, .d (bv (decide (v3 > 5000))))] .nil (by kernel_rfl) (by kernel_rfl) ?_
    rcases Bool.eq_false_or_eq_true (decide (v3 > 5000)) with h4 | h4
    · have hM := ite_true' hM h4
      refine tr_condTe (e := decide (v3 > 5000)) h4 (by kernel_rfl) ?_
      refine tr_sr hT hm [] [4, 6] [(4, .d (iv 0)), (6, .d (iv 3))] .nil (by kernel_rfl) (by kernel_rfl) ?_
      refine tr_ret (q_r (rg_r ?_))
      obtain rfl := Option.some.inj hM
      exact retg (names := []) .nil (by kernel_rfl)
    · have hM := ite_false' hM h4
      refine tr_condFe (e := decide (v3 > 5000)) h4 (by kernel_rfl) ?_
      refine tr_skip (q_n ?_)
      refine tr_sr hT hm [] [4, 6] [(4, .d (iv v3)), (6, .d (iv 0))] .nil (by kernel_rfl) (by kernel_rfl) ?_
      refine tr_ret (rg_r ?_)
      obtain rfl := Option.some.inj hM
      exact retg (names := []) .nil (by kernel_rfl)
  · have hM := ite_false' hM h2
    refine tr_condTe (e := !v1) (congrArg not h2) (by kernel_rfl) ?_
    refine tr_sr hT hm [] [4, 6] [(4, .d (iv 0)), (6, .d (iv 1))] .nil (by kernel_rfl) (by kernel_rfl) ?_
    refine tr_ret (q_r (rg_r ?_))
    obtain rfl := Option.some.inj hM
    exact retg (names := []) .nil (by kernel_rfl)
theorem ok104 : CallOk Try.prog 104 := callOk_of Try.func104 (by kernel_rfl) (by kernel_rfl)
theorem iC_numberings_1_c (a0 : Int) (a1 : Int) (r : Int) (hM : M.iC_numberings_1 a0 a1 = some r) :
    FnC Try.prog 104 [(1, .arr 1 [iv a1] [])] [iv a0, .rp 1 0] [(1, .arr 1 [iv r] [])] (.tup []) := by
  refine fnc_startG (N := 13) (np := 500) hT Try.func104 rfl rfl (by kernel_rfl) ?_
  unfold M.iC_numberings_1 at hM
  refine tr_start (ks := [0, 2, 3]) (st' := [(0, .d (iv a0)), (2, .d (.rp 1 0)), (3, .r (.arr 1 [iv a1] []))]) (by kernel_rfl) ?_
  refine tr_sr hT hm [] [0, 2, 3, 6] [(0, .d (iv a0)), (2, .d (.rp 1 0)), (3, .r (.arr 1 [iv a1] [])), (6, .d (iv 2))] .nil (by kernel_rfl) (by kernel_rfl) ?_
  refine tr_block ?_
  refine tr_iterS (fun (s1 : Int × Int) => [(0, .d (iv a0)), (2, .d (.rp 1 0)), (3, .r (.arr 1 [iv s1.1] [])), (6, .d (iv s1.2))]) (a1, 2) [0, 2, 3, 6] (by kernel_rfl) hM ?_
  intro n4 next2 ih3 s1 hM
  refine tr_seq ?_
  refine tr_sr hT hm [] [0, 2, 3, 6, 12] [(0, .d (iv a0)), (2, .d (.rp 1 0)), (3, .r (.arr 1 [iv s1.1] [])), (6, .d (iv s1.2)), (12, .d (bv (decide (s1.2 ≤ a0))))] .nil (by kernel_rfl) (by kernel_rfl) ?_
  rcases Bool.eq_false_or_eq_true (decide (s1.2 ≤ a0)) with h5 | h5
  · have hM := ite_true' hM h5
    refine tr_condTe (e := decide (s1.2 ≤ a0)) h5 (by kernel_rfl) ?_
    refine tr_skip (q_n ?_)
    refine tr_seq ?_
    refine tr_block ?_
    refine tr_r hT hm [] [0, 2, 3, 6] [(0, .d (iv a0)), (2, .d (.rp 1 0)), (3, .r (.arr 1 [iv (if (5001 : Int) < (IntKind.i64.wrap (s1.1 * s1.2)) then 5001 else (IntKind.i64.wrap (s1.1 * s1.2)))] [])), (6, .d (iv s1.2))] (.cons (Nat.le_of_ble_eq_true (n := 1) (m := 1) rfl) .nil) (by kernel_rfl) (by kernel_rfl) (b_n (q_n ?_))
    refine tr_r hT hm [] [0, 2, 3, 6] [(0, .d (iv a0)), (2, .d (.rp 1 0)), (3, .r (.arr 1 [iv (if (5001 : Int) < (IntKind.i64.wrap (s1.1 * s1.2)) then 5001 else (IntKind.i64.wrap (s1.1 * s1.2)))] [])), (6, .d (iv (IntKind.i64.wrap (s1.2 + 1))))] .nil (by kernel_rfl) (by kernel_rfl) (l_n ?_)
    exact trl_start (ks := [0, 2, 3, 6]) (by kernel_rfl) (ih3 (if (5001 : Int) < (IntKind.i64.wrap (s1.1 * s1.2)) then 5001 else (IntKind.i64.wrap (s1.1 * s1.2)), IntKind.i64.wrap (s1.2 + 1)) hM)
  · have hM := ite_false' hM h5
    refine tr_condFe (e := decide (s1.2 ≤ a0)) h5 (by kernel_rfl) ?_
    refine tr_exit (q_x (l_x (b_h (rg_n ?_))))
    obtain rfl := Option.some.inj hM
    exact retg (names := [1]) .nil (by kernel_rfl)
theorem ok105 : CallOk Try.prog 105 := callOk_of Try.func105 (by kernel_rfl) (by kernel_rfl)
theorem iC_homSizes_c (a0 : XCategory) (r : (Nat → Int)) (hM : M.iC_homSizes a0 = some r) :
    FnC Try.prog 105 [] [.pt (eXCategory.b a0) 0] [] (.agg ((eAr 64).o r)) := by
  refine fnc_startG (N := 36) (np := 500) hT Try.func105 rfl rfl (by kernel_rfl) ?_
  unfold M.iC_homSizes at hM
  refine tr_start (ks := [0]) (st' := [(0, .d (.pt (eXCategory.b a0) 0))]) (by kernel_rfl) ?_
  refine tr_srN hT hm [] [0, 4, 2005] [(0, .d (.pt (eXCategory.b a0) 0)), (4, .d (.rp 1002 0)), (2005, .r (.arr 1 ((eAr 64).o (fun _ => (0 : Int))) []))] .nil (by kernel_rfl) (by kernel_rfl) ?_
  refine tr_srN hT hm [] [0, 4, 6, 2005, 2007] [(0, .d (.pt (eXCategory.b a0) 0)), (4, .d (.rp 1002 0)), (6, .d (.rp 1003 0)), (2005, .r (.arr 1 ((eAr 64).o (fun _ => (0 : Int))) [])), (2007, .r (.arr 1 ((eAr 64).o (fun _ => (0 : Int))) []))] (.cons (Nat.le_of_ble_eq_true (n := 64) (m := 64) rfl) .nil) (by kernel_rfl) (by kernel_rfl) ?_
  refine tr_seq ?_
  refine tr_srN hT hm [] [0, 4, 6, 20, 22, 2005, 2007] [(0, .d (.pt (eXCategory.b a0) 0)), (4, .d (.rp 1002 0)), (6, .d (.rp 1003 0)), (20, .d (iv (a0.From.length : Int))), (22, .d (iv 0)), (2005, .r (.arr 1 ((eAr 64).o (fun _ => (0 : Int))) [])), (2007, .r (.arr 1 ((eAr 64).o (fun _ => (0 : Int))) []))] .nil (by kernel_rfl) (by kernel_rfl) ?_
  refine tr_block ?_
  refine tr_iterS (fun (s1 : (Nat → Int) × Int) => [(0, .d (.pt (eXCategory.b a0) 0)), (4, .d (.rp 1002 0)), (6, .d (.rp 1003 0)), (20, .d (iv (a0.From.length : Int))), (22, .d (iv s1.2)), (2005, .r (.arr 1 ((eAr 64).o (fun _ => (0 : Int))) [])), (2007, .r (.arr 1 ((eAr 64).o s1.1) []))]) (fun _ => (0 : Int), 0) [0, 4, 6, 20, 22, 2005, 2007] (by kernel_rfl) hM ?_
  intro n4 next2 ih3 s1 hM
  refine tr_srN hT hm [] [0, 4, 6, 20, 22, 24, 2005, 2007] [(0, .d (.pt (eXCategory.b a0) 0)), (4, .d (.rp 1002 0)), (6, .d (.rp 1003 0)), (20, .d (iv (a0.From.length : Int))), (22, .d (iv s1.2)), (24, .d (bv (decide (s1.2 < (a0.From.length : Int))))), (2005, .r (.arr 1 ((eAr 64).o (fun _ => (0 : Int))) [])), (2007, .r (.arr 1 ((eAr 64).o s1.1) []))] .nil (by kernel_rfl) (by kernel_rfl) ?_
  refine tr_seq ?_
  rcases Bool.eq_false_or_eq_true (decide (s1.2 < (a0.From.length : Int))) with h5 | h5
  · have hM := ite_true' hM h5
    refine tr_condTe (e := decide (s1.2 < (a0.From.length : Int))) h5 (by kernel_rfl) ?_
    refine tr_skip (q_n ?_)
    refine tr_seq ?_
    refine tr_block ?_
    refine tr_srN hT hm [] [0, 4, 6, 8, 20, 22, 2005, 2007] [(0, .d (.pt (eXCategory.b a0) 0)), (4, .d (.rp 1002 0)), (6, .d (.rp 1003 0)), (8, .d (iv s1.2)), (20, .d (iv (a0.From.length : Int))), (22, .d (iv s1.2)), (2005, .r (.arr 1 ((eAr 64).o (fun _ => (0 : Int))) [])), (2007, .r (.arr 1 ((eAr 64).o s1.1) []))] .nil (by kernel_rfl) (by kernel_rfl) ?_
    obtain ⟨y6, hy6, hM⟩ := bind_some' hM
    have hy6' := idx_some hy6
    obtain ⟨y7, hy7, hM⟩ := bind_some' hM
    have hy7' := idx_some hy7
    obtain ⟨h8, hM⟩ := chk_some hM
    obtain ⟨h9, hM⟩ := chk_some hM
    refine tr_rN hT hm [(6, .val (iv y6)), (13, .val (iv y7)), (14, .val (.rp 1003 (0 + y6.toNat * 8))), (15, .val (.rp 1003 (0 + y6.toNat * 8 + y7.toNat * 1))), (16, .val (iv (s1.1 (0 + y6.toNat * 8 + y7.toNat * 1)))), (18, .val (.rp 1003 (0 + y6.toNat * 8))), (19, .val (.rp 1003 (0 + y6.toNat * 8 + y7.toNat * 1)))] [0, 4, 6, 20, 22, 2005, 2007] [(0, .d (.pt (eXCategory.b a0) 0)), (4, .d (.rp 1002 0)), (6, .d (.rp 1003 0)), (20, .d (iv (a0.From.length : Int))), (22, .d (iv s1.2)), (2005, .r (.arr 1 ((eAr 64).o (fun _ => (0 : Int))) [])), (2007, .r (.arr 1 (((eAr 64).o s1.1).take (0 + y6.toNat * 8 + y7.toNat * 1) ++ [iv (IntKind.i64.wrap ((s1.1 (0 + y6.toNat * 8 + y7.toNat * 1)) + 1))] ++ ((eAr 64).o s1.1).drop (0 + y6.toNat * 8 + y7.toNat * 1 + 1)) []))] (.cons hy6'.1 (.cons hy6'.2.1 (.cons (at_b0 eI_ok hy6'.2.2 (d := iv y6) (by kernel_rfl)) (.cons hy7'.1 (.cons hy7'.2.1 (.cons (at_b0 eI_ok hy7'.2.2 (d := iv y7) (by kernel_rfl)) (.cons h8.1 (.cons h8.2 (.cons (rfl : (.rp 1003 (0 + y6.toNat * 8) : D) = .rp 1003 (0 + y6.toNat * 8)) (.cons h9.1 (.cons h9.2 (.cons (rfl : (.rp 1003 (0 + y6.toNat * 8 + y7.toNat * 1) : D) = .rp 1003 (0 + y6.toNat * 8 + y7.toNat * 1)) (.cons (ar_at (n := 64) (f := s1.1) (k := 0 + y6.toNat * 8 + y7.toNat * 1) (by omega)) (.cons h8.1 (.cons h8.2 (.cons (rfl : (.rp 1003 (0 + y6.toNat * 8) : D) = .rp 1003 (0 + y6.toNat * 8)) (.cons h9.1 (.cons h9.2 (.cons (rfl : (.rp 1003 (0 + y6.toNat * 8 + y7.toNat * 1) : D) = .rp 1003 (0 + y6.toNat * 8 + y7.toNat * 1)) (.cons (ar_le (n := 64) (f := s1.1) (k := 0 + y6.toNat * 8 + y7.toNat * 1) (by omega)) .nil)))))))))))))))))))) (by kernel_rfl) (by kernel_rfl) (b_n (q_n ?_))
    refine Tr.by (imp_cvE (r := 1003) (sz := 1) (refs := []) (ar_set (n := 64) (f := s1.1) (k := 0 + y6.toNat * 8 + y7.toNat * 1) (v := (IntKind.i64.wrap ((s1.1 (0 + y6.toNat * 8 + y7.toNat * 1)) + 1))) (by omega)) ((eAr_ok 64).menO _) (by kernel_rfl)) ?_
    refine tr_rN hT hm [] [0, 4, 6, 20, 22, 2005, 2007] [(0, .d (.pt (eXCategory.b a0) 0)), (4, .d (.rp 1002 0)), (6, .d (.rp 1003 0)), (20, .d (iv (a0.From.length : Int))), (22, .d (iv (IntKind.i64.wrap (s1.2 + 1)))), (2005, .r (.arr 1 ((eAr 64).o (fun _ => (0 : Int))) [])), (2007, .r (.arr 1 ((eAr 64).o (upN s1.1 (0 + y6.toNat * 8 + y7.toNat * 1) (IntKind.i64.wrap ((s1.1 (0 + y6.toNat * 8 + y7.toNat * 1)) + 1)))) []))] .nil (by kernel_rfl) (by kernel_rfl) (l_n ?_)
    exact trl_start (ks := [0, 4, 6, 20, 22, 2005, 2007]) (by kernel_rfl) (ih3 (upN s1.1 (0 + y6.toNat * 8 + y7.toNat * 1) (IntKind.i64.wrap ((s1.1 (0 + y6.toNat * 8 + y7.toNat * 1)) + 1)), IntKind.i64.wrap (s1.2 + 1)) hM)
  · have hM := ite_false' hM h5
    refine tr_condFe (e := decide (s1.2 < (a0.From.length : Int))) h5 (by kernel_rfl) ?_
    refine tr_exit (q_x (l_x (b_h (q_n ?_))))
    refine tr_srN hT hm [] [4, 2005] [(4, .d (.rp 1002 0)), (2005, .r (.arr 1 ((eAr 64).o s1.1) []))] (.cons (Nat.le_of_ble_eq_true (n := 64) (m := 64) rfl) .nil) (by kernel_rfl) (by kernel_rfl) ?_
    refine tr_ret (rg_r ?_)
    obtain rfl := Option.some.inj hM
    exact retg (names := []) .nil (by kernel_rfl)
theorem ok57 : CallOk Try.prog 57 := callOk_of Try.func57 (by kernel_rfl) (by kernel_rfl)
theorem iC_numberings_c (a0 : XCategory) (r : Int) (hM : M.iC_numberings a0 = some r) :
    FnC Try.prog 57 [] [.pt (eXCategory.b a0) 0] [] (iv r) := by
  refine fnc_startG (N := 38) (np := 500) hT Try.func57 rfl rfl (by kernel_rfl) ?_
  unfold M.iC_numberings at hM
  refine tr_start (ks := [0]) (st' := [(0, .d (.pt (eXCategory.b a0) 0))]) (by kernel_rfl) ?_
  refine tr_sr hT hm [] [0] [(0, .d (.pt (eXCategory.b a0) 0))] .nil (by kernel_rfl) (by kernel_rfl) ?_
  refine tr_sr hT hm [] [0, 6, 2007] [(0, .d (.pt (eXCategory.b a0) 0)), (6, .d (.rp 1003 0)), (2007, .r (.arr 1 [iv 1] []))] (.cons (Nat.le_of_ble_eq_true (n := 1) (m := 1) rfl) .nil) (by kernel_rfl) (by kernel_rfl) ?_
  refine tr_sr hT hm [] [0, 6, 8, 2007] [(0, .d (.pt (eXCategory.b a0) 0)), (6, .d (.rp 1003 0)), (8, .d (.fn 104 [.rp 1003 0])), (2007, .r (.arr 1 [iv 1] []))] .nil (by kernel_rfl) (by kernel_rfl) ?_
  obtain ⟨v1, hv1, hM⟩ := bind_some' hM
  refine tr_sr hT hm [(5, .call [] [(1, 1003)] [iv a0.Objects, .rp 1 0] [(1, .arr 1 [iv v1] [])] (.tup []))] [0, 6, 8, 2007] [(0, .d (.pt (eXCategory.b a0) 0)), (6, .d (.rp 1003 0)), (8, .d (.fn 104 [.rp 1003 0])), (2007, .r (.arr 1 [iv v1] []))] (cc (B := []) (ρ := [(1, 1003)]) (rB := []) ok104 (iC_numberings_1_c a0.Objects 1 _ hv1) (.cons (.same rfl) (.cons (.pass (.rp rfl)) .nil)) (.inl rfl) .nil) (by kernel_rfl) (by kernel_rfl) ?_
  refine tr_seq ?_
  obtain ⟨v2, hv2, hM⟩ := bind_some' hM
  refine tr_sr hT hm [(1, .call [] [] [.pt (eXCategory.b a0) 0] [] (.agg ((eAr 64).o v2)))] [6, 8, 34, 36, 2007] [(6, .d (.rp 1003 0)), (8, .d (.fn 104 [.rp 1003 0])), (34, .d (.agg ((eAr 64).b v2))), (36, .d (iv 0)), (2007, .r (.arr 1 [iv v1] []))] (cc0 ok105 (iC_homSizes_c a0 _ hv2) (by kernel_rfl) .nil) (by kernel_rfl) (by kernel_rfl) ?_
  refine tr_block ?_
  refine tr_iterS (fun (s3 : Int × Int) => [(6, .d (.rp 1003 0)), (8, .d (.fn 104 [.rp 1003 0])), (34, .d (.agg ((eAr 64).b v2))), (36, .d (iv s3.2)), (2007, .r (.arr 1 [iv s3.1] []))]) (v1, 0) [6, 8, 34, 36, 2007] (by kernel_rfl) hM ?_
  intro n6 next4 ih5 s3 hM
  refine tr_sr hT hm [] [6, 8, 34, 36, 38, 2007] [(6, .d (.rp 1003 0)), (8, .d (.fn 104 [.rp 1003 0])), (34, .d (.agg ((eAr 64).b v2))), (36, .d (iv s3.2)), (38, .d (bv (decide (s3.2 < 8)))), (2007, .r (.arr 1 [iv s3.1] []))] .nil (by kernel_rfl) (by kernel_rfl) ?_
  refine tr_seq ?_
  rcases Bool.eq_false_or_eq_true (decide (s3.2 < 8)) with h7 | h7
  · have hM := ite_true' hM h7
    refine tr_condTe (e := decide (s3.2 < 8)) h7 (by kernel_rfl) ?_
    refine tr_skip (q_n ?_)
    refine tr_seq ?_
    refine tr_block ?_
    obtain ⟨h8, hM⟩ := chk_some hM
    refine tr_sr hT hm [(1, .val (.agg ((eAr 8).b (fun q => v2 (s3.2.toNat * 8 + q)))))] [6, 8, 10, 12, 34, 36, 2007, 2013] [(6, .d (.rp 1003 0)), (8, .d (.fn 104 [.rp 1003 0])), (10, .d (iv s3.2)), (12, .d (.rp 1006 0)), (34, .d (.agg ((eAr 64).b v2))), (36, .d (iv s3.2)), (2007, .r (.arr 1 [iv s3.1] [])), (2013, .r (.arr 1 ((eAr 8).o (fun q => v2 (s3.2.toNat * 8 + q))) []))] (.cons h8.1 (.cons h8.2 (.cons (part_ar (T := T) (E := 150) (n := 64) (m := 8) (off := s3.2.toNat * 8) (f := v2) (by kernel_rfl) (by omega)) (.cons (Nat.le_of_ble_eq_true (n := 8) (m := 8) rfl) .nil)))) (by kernel_rfl) (by kernel_rfl) ?_
    refine tr_sr hT hm [] [6, 8, 10, 34, 36, 44, 46, 2007] [(6, .d (.rp 1003 0)), (8, .d (.fn 104 [.rp 1003 0])), (10, .d (iv s3.2)), (34, .d (.agg ((eAr 64).b v2))), (36, .d (iv s3.2)), (44, .d (.agg ((eAr 8).b (fun q => v2 (s3.2.toNat * 8 + q))))), (46, .d (iv 0)), (2007, .r (.arr 1 [iv s3.1] []))] .nil (by kernel_rfl) (by kernel_rfl) ?_
    refine tr_block ?_
    refine tr_iterS (fun (s9 : Int × Int) => [(6, .d (.rp 1003 0)), (8, .d (.fn 104 [.rp 1003 0])), (10, .d (iv s3.2)), (34, .d (.agg ((eAr 64).b v2))), (36, .d (iv s3.2)), (44, .d (.agg ((eAr 8).b (fun q => v2 (s3.2.toNat * 8 + q))))), (46, .d (iv s9.2)), (2007, .r (.arr 1 [iv s9.1] []))]) (s3.1, 0) [6, 8, 10, 34, 36, 44, 46, 2007] (by kernel_rfl) hM ?_
    intro n12 next10 ih11 s9 hM
    refine tr_sr hT hm [] [6, 8, 10, 34, 36, 44, 46, 48, 2007] [(6, .d (.rp 1003 0)), (8, .d (.fn 104 [.rp 1003 0])), (10, .d (iv s3.2)), (34, .d (.agg ((eAr 64).b v2))), (36, .d (iv s3.2)), (44, .d (.agg ((eAr 8).b (fun q => v2 (s3.2.toNat * 8 + q))))), (46, .d (iv s9.2)), (48, .d (bv (decide (s9.2 < 8)))), (2007, .r (.arr 1 [iv s9.1] []))] .nil (by kernel_rfl) (by kernel_rfl) ?_
    refine tr_seq ?_
    rcases Bool.eq_false_or_eq_true (decide (s9.2 < 8)) with h13 | h13
    · have hM := ite_true' hM h13
      refine tr_condTe (e := decide (s9.2 < 8)) h13 (by kernel_rfl) ?_
      refine tr_skip (q_n ?_)
      refine tr_seq ?_
      refine tr_block ?_
      obtain ⟨h14, hM⟩ := chk_some hM
      refine tr_sr hT hm [(1, .val (iv ((fun q => v2 (s3.2.toNat * 8 + q)) (s9.2.toNat * 1))))] [6, 8, 10, 14, 16, 34, 36, 44, 46, 2007] [(6, .d (.rp 1003 0)), (8, .d (.fn 104 [.rp 1003 0])), (10, .d (iv s3.2)), (14, .d (iv s9.2)), (16, .d (iv ((fun q => v2 (s3.2.toNat * 8 + q)) (s9.2.toNat * 1)))), (34, .d (.agg ((eAr 64).b v2))), (36, .d (iv s3.2)), (44, .d (.agg ((eAr 8).b (fun q => v2 (s3.2.toNat * 8 + q))))), (46, .d (iv s9.2)), (2007, .r (.arr 1 [iv s9.1] []))] (.cons h14.1 (.cons h14.2 (.cons (part_ar1 (T := T) (E := 2) (n := 8) (off := s9.2.toNat * 1) (f := (fun q => v2 (s3.2.toNat * 8 + q))) (by kernel_rfl) (by omega)) .nil))) (by kernel_rfl) (by kernel_rfl) ?_
      refine tr_seq ?_
      refine tr_sr hT hm [] [6, 8, 10, 16, 34, 36, 44, 46, 58, 2007] [(6, .d (.rp 1003 0)), (8, .d (.fn 104 [.rp 1003 0])), (10, .d (iv s3.2)), (16, .d (iv ((fun q => v2 (s3.2.toNat * 8 + q)) (s9.2.toNat * 1)))), (34, .d (.agg ((eAr 64).b v2))), (36, .d (iv s3.2)), (44, .d (.agg ((eAr 8).b (fun q => v2 (s3.2.toNat * 8 + q))))), (46, .d (iv s9.2)), (58, .d (bv (s3.2 == s9.2))), (2007, .r (.arr 1 [iv s9.1] []))] .nil (by kernel_rfl) (by kernel_rfl) ?_
      rcases Bool.eq_false_or_eq_true (s3.2 == s9.2) with h15 | h15
      · have hM := ite_true' hM h15
        refine tr_condTe (e := s3.2 == s9.2) h15 (by kernel_rfl) ?_
        refine tr_r hT hm [] [6, 8, 10, 16, 34, 36, 44, 46, 2007] [(6, .d (.rp 1003 0)), (8, .d (.fn 104 [.rp 1003 0])), (10, .d (iv s3.2)), (16, .d (iv (IntKind.i64.wrap (((fun q => v2 (s3.2.toNat * 8 + q)) (s9.2.toNat * 1)) - 1)))), (34, .d (.agg ((eAr 64).b v2))), (36, .d (iv s3.2)), (44, .d (.agg ((eAr 8).b (fun q => v2 (s3.2.toNat * 8 + q))))), (46, .d (iv s9.2)), (2007, .r (.arr 1 [iv s9.1] []))] .nil (by kernel_rfl) (by kernel_rfl) (q_n ?_)
        obtain ⟨v16, hv16, hM⟩ := bind_some' hM
        refine tr_r hT hm [(2, .call [] [(1, 1003)] [iv (IntKind.i64.wrap (((fun q => v2 (s3.2.toNat * 8 + q)) (s9.2.toNat * 1)) - 1)), .rp 1 0] [(1, .arr 1 [iv v16] [])] (.tup []))] [6, 8, 10, 34, 36, 44, 46, 2007] [(6, .d (.rp 1003 0)), (8, .d (.fn 104 [.rp 1003 0])), (10, .d (iv s3.2)), (34, .d (.agg ((eAr 64).b v2))), (36, .d (iv s3.2)), (44, .d (.agg ((eAr 8).b (fun q => v2 (s3.2.toNat * 8 + q))))), (46, .d (iv s9.2)), (2007, .r (.arr 1 [iv v16] []))] (cc (B := []) (ρ := [(1, 1003)]) (rB := []) ok104 (iC_numberings_1_c (IntKind.i64.wrap (((fun q => v2 (s3.2.toNat * 8 + q)) (s9.2.toNat * 1)) - 1)) s9.1 _ hv16) (.cons (.same rfl) (.cons (.pass (.rp rfl)) .nil)) (.inl rfl) .nil) (by kernel_rfl) (by kernel_rfl) (b_n (q_n ?_))
        refine tr_r hT hm [] [6, 8, 10, 34, 36, 44, 46, 2007] [(6, .d (.rp 1003 0)), (8, .d (.fn 104 [.rp 1003 0])), (10, .d (iv s3.2)), (34, .d (.agg ((eAr 64).b v2))), (36, .d (iv s3.2)), (44, .d (.agg ((eAr 8).b (fun q => v2 (s3.2.toNat * 8 + q))))), (46, .d (iv (IntKind.i64.wrap (s9.2 + 1)))), (2007, .r (.arr 1 [iv v16] []))] .nil (by kernel_rfl) (by kernel_rfl) (l_n ?_)
        exact trl_start (ks := [6, 8, 10, 34, 36, 44, 46, 2007]) (by kernel_rfl) (ih11 (v16, IntKind.i64.wrap (s9.2 + 1)) hM)
      · have hM := ite_false' hM h15
        refine tr_condFe (e := s3.2 == s9.2) h15 (by kernel_rfl) ?_
        refine tr_skip (q_n ?_)
        obtain ⟨v17, hv17, hM⟩ := bind_some' hM
        refine tr_r hT hm [(2, .call [] [(1, 1003)] [iv ((fun q => v2 (s3.2.toNat * 8 + q)) (s9.2.toNat * 1)), .rp 1 0] [(1, .arr 1 [iv v17] [])] (.tup []))] [6, 8, 10, 34, 36, 44, 46, 2007] [(6, .d (.rp 1003 0)), (8, .d (.fn 104 [.rp 1003 0])), (10, .d (iv s3.2)), (34, .d (.agg ((eAr 64).b v2))), (36, .d (iv s3.2)), (44, .d (.agg ((eAr 8).b (fun q => v2 (s3.2.toNat * 8 + q))))), (46, .d (iv s9.2)), (2007, .r (.arr 1 [iv v17] []))] (cc (B := []) (ρ := [(1, 1003)]) (rB := []) ok104 (iC_numberings_1_c ((fun q => v2 (s3.2.toNat * 8 + q)) (s9.2.toNat * 1)) s9.1 _ hv17) (.cons (.same rfl) (.cons (.pass (.rp rfl)) .nil)) (.inl rfl) .nil) (by kernel_rfl) (by kernel_rfl) (b_n (q_n ?_))
        refine tr_r hT hm [] [6, 8, 10, 34, 36, 44, 46, 2007] [(6, .d (.rp 1003 0)), (8, .d (.fn 104 [.rp 1003 0])), (10, .d (iv s3.2)), (34, .d (.agg ((eAr 64).b v2))), (36, .d (iv s3.2)), (44, .d (.agg ((eAr 8).b (fun q => v2 (s3.2.toNat * 8 + q))))), (46, .d (iv (IntKind.i64.wrap (s9.2 + 1)))), (2007, .r (.arr 1 [iv v17] []))] .nil (by kernel_rfl) (by kernel_rfl) (l_n ?_)
        exact trl_start (ks := [6, 8, 10, 34, 36, 44, 46, 2007]) (by kernel_rfl) (ih11 (v17, IntKind.i64.wrap (s9.2 + 1)) hM)
    · have hM := ite_false' hM h13
      refine tr_condFe (e := decide (s9.2 < 8)) h13 (by kernel_rfl) ?_
      refine tr_exit (q_x (l_x (b_h (b_n (q_n ?_)))))
      refine tr_r hT hm [] [6, 8, 34, 36, 2007] [(6, .d (.rp 1003 0)), (8, .d (.fn 104 [.rp 1003 0])), (34, .d (.agg ((eAr 64).b v2))), (36, .d (iv (IntKind.i64.wrap (s3.2 + 1)))), (2007, .r (.arr 1 [iv s9.1] []))] .nil (by kernel_rfl) (by kernel_rfl) (l_n ?_)
      exact trl_start (ks := [6, 8, 34, 36, 2007]) (by kernel_rfl) (ih5 (s9.1, IntKind.i64.wrap (s3.2 + 1)) hM)
  · have hM := ite_false' hM h7
    refine tr_condFe (e := decide (s3.2 < 8)) h7 (by kernel_rfl) ?_
    refine tr_exit (q_x (l_x (b_h (q_n ?_))))
    refine tr_sr hT hm [] [4] [(4, .d (iv s3.1))] .nil (by kernel_rfl) (by kernel_rfl) ?_
    refine tr_ret (rg_r ?_)
    obtain rfl := Option.some.inj hM
    exact retg (names := []) .nil (by kernel_rfl)
end Go.Proofs.Ythafadgnjkmfkaa.WzF
