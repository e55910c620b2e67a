/- Walks. Printed by wip/gen. -/
import Derived.Test.YthafadgnjkmfkaaGxEM0
import Derived.Test.YthafadgnjkmfkaaGxEO0
import Derived.Test.YthafadgnjkmfkaaGxvSW
import Derived.Test.YthafadgnjkmfkaaGxyNW
import Derived.KernelRfl
namespace Go.Proofs.Ythafadgnjkmfkaa.WvQ
open Go.Gx Go.Proofs.Ythafadgnjkmfkaa.WvB Go.Proofs.Ythafadgnjkmfkaa.WvS Go.Proofs.Ythafadgnjkmfkaa.WyN

theorem eXCategory_r : EncR eXCategory := (eA_r (eC_r eI_r _) (eA_r (eC_r (eS_r eI_ok) _) (eA_r (eC_r (eS_r eI_ok) _) (eA_r (eC_r (eS_r eI_ok) _) (eC_r (eS_r (eS_ok eI_ok)) _)))))
theorem eXFunctor_r : EncR eXFunctor := (eA_r (eC_r eXCategory_r _) (eA_r (eC_r eXCategory_r _) (eA_r (eC_r (eS_r eI_ok) _) (eC_r (eS_r eI_ok) _))))
theorem eXSetFunctor_r : EncR eXSetFunctor := (eA_r (eC_r eXCategory_r _) (eA_r (eC_r (eS_r eI_ok) _) (eC_r (eS_r (eS_ok eI_ok)) _)))
def T : Tab := [(2, ⟨.int .i64, 1, 8, [.int .i64 0]⟩),
  (3, ⟨.int .i64, 1, 8, [.int .i64 0]⟩),
  (22, ⟨.slice 2, 1, 24, [.slice .none 0 0]⟩),
  (23, ⟨.slice 22, 1, 24, [.slice .none 0 0]⟩),
  (25, ⟨.struct #[⟨"Objects", 2, 0, false, "", "", 0⟩, ⟨"From", 22, 1, false, "", "", 8⟩, ⟨"To", 22, 2, false, "", "", 32⟩, ⟨"Identity", 22, 3, false, "", "", 56⟩, ⟨"Composites", 23, 4, false, "", "", 80⟩], 5, 104, [.int .i64 0, .slice .none 0 0, .slice .none 0 0, .slice .none 0 0, .slice .none 0 0]⟩),
  (27, ⟨.struct #[⟨"Shape", 25, 0, false, "", "", 0⟩, ⟨"Sizes", 22, 5, false, "", "", 104⟩, ⟨"Actions", 23, 6, false, "", "", 128⟩], 7, 152, [.int .i64 0, .slice .none 0 0, .slice .none 0 0, .slice .none 0 0, .slice .none 0 0, .slice .none 0 0, .slice .none 0 0]⟩),
  (29, ⟨.struct #[⟨"Objects", 2, 0, false, "", "", 0⟩, ⟨"From", 22, 1, false, "", "", 8⟩, ⟨"To", 22, 2, false, "", "", 32⟩, ⟨"Identity", 22, 3, false, "", "", 56⟩, ⟨"Composites", 23, 4, false, "", "", 80⟩], 5, 104, [.int .i64 0, .slice .none 0 0, .slice .none 0 0, .slice .none 0 0, .slice .none 0 0]⟩),
  (35, ⟨.struct #[⟨"Shape", 29, 0, false, "", "", 0⟩, ⟨"Sizes", 22, 5, false, "", "", 104⟩, ⟨"Actions", 23, 6, false, "", "", 128⟩], 7, 152, [.int .i64 0, .slice .none 0 0, .slice .none 0 0, .slice .none 0 0, .slice .none 0 0, .slice .none 0 0, .slice .none 0 0]⟩)]
theorem hT : TabOk Try.prog T := ⟨tiok (by kernel_rfl) (by kernel_rfl), tiok (by kernel_rfl) (by kernel_rfl), tiok (by kernel_rfl) (by kernel_rfl), tiok (by kernel_rfl) (by kernel_rfl), tiok (by kernel_rfl) (by kernel_rfl), tiok (by kernel_rfl) (by kernel_rfl), tiok (by kernel_rfl) (by kernel_rfl), tiok (by kernel_rfl) (by kernel_rfl), trivial⟩
theorem hm : Try.prog.follows .mixedOrders = true := by kernel_rfl

theorem ok6 : CallOk Try.prog 6 := callOk_of Try.func6 (by kernel_rfl) (by kernel_rfl)
theorem laws_szSetFunctor_c (a0 : XSetFunctor) (a1 : Int) (r : Int) (hM : M.laws_szSetFunctor a0 a1 = some r) :
    FnC Try.prog 6 [] [.agg (eXSetFunctor.b a0), iv a1] [] (iv r) := by
  refine fnc_startG (N := 24) (np := 500) hT Try.func6 rfl rfl (by kernel_rfl) ?_
  unfold M.laws_szSetFunctor at hM
  refine tr_start (ks := [0, 2]) (st' := [(0, .d (.agg (eXSetFunctor.b a0))), (2, .d (iv a1))]) (by kernel_rfl) ?_
  refine tr_sr hT hm [] [2, 4, 2005] [(2, .d (iv a1)), (4, .d (.rp 1002 0)), bxB 2005 (eXSetFunctor.b a0)] .nil (by kernel_rfl) (by kernel_rfl) ?_
  obtain ⟨v1, hv1, hM⟩ := bind_some' hM
  refine tr_sr hT hm [(3, .call [] [] [.agg (eXCategory.b a0.Shape), iv a1] [] (iv v1))] [2, 4, 2005] [(2, .d (iv v1)), (4, .d (.rp 1002 0)), bxB 2005 (eXSetFunctor.b a0)] (cc0 ok15 (laws_szCategory_c a0.Shape a1 _ hv1) (by kernel_rfl) .nil) (by kernel_rfl) (by kernel_rfl) ?_
  refine tr_seq ?_
  refine tr_sr hT hm [] [2, 4, 20, 2005] [(2, .d (iv v1)), (4, .d (.rp 1002 0)), (20, .d (bv (decide (v1 < 0)))), bxB 2005 (eXSetFunctor.b a0)] .nil (by kernel_rfl) (by kernel_rfl) ?_
  rcases Bool.eq_false_or_eq_true (decide (v1 < 0)) with h2 | h2
  · have hM := ite_true' hM h2
    refine tr_condTe (e := decide (v1 < 0)) h2 (by kernel_rfl) ?_
    refine tr_sr hT hm [] [8] [(8, .d (iv (-1)))] .nil (by kernel_rfl) (by kernel_rfl) ?_
    refine tr_ret (q_r (rg_r ?_))
    obtain rfl := Option.some.inj hM
    exact retg (names := []) .nil (by kernel_rfl)
  · have hM := ite_false' hM h2
    refine tr_condFe (e := decide (v1 < 0)) h2 (by kernel_rfl) ?_
    refine tr_skip (q_n ?_)
    obtain ⟨v3, hv3, hM⟩ := bind_some' hM
    refine tr_sr hT hm [(3, .call [] [] [.sl a0.Sizes.length 0 (a0.Sizes.flatMap eI.b), iv v1] [] (iv v3))] [2, 4, 2005] [(2, .d (iv v3)), (4, .d (.rp 1002 0)), bxB 2005 (eXSetFunctor.b a0)] (cc0 ok28 (laws_szInt64S_c a0.Sizes v1 _ hv3) (by kernel_rfl) .nil) (by kernel_rfl) (by kernel_rfl) ?_
    refine tr_seq ?_
    refine tr_sr hT hm [] [2, 4, 32, 2005] [(2, .d (iv v3)), (4, .d (.rp 1002 0)), (32, .d (bv (decide (v3 < 0)))), bxB 2005 (eXSetFunctor.b a0)] .nil (by kernel_rfl) (by kernel_rfl) ?_
    rcases Bool.eq_false_or_eq_true (decide (v3 < 0)) with h4 | h4
    · have hM := ite_true' hM h4
      refine tr_condTe (e := decide (v3 < 0)) h4 (by kernel_rfl) ?_
      refine tr_sr hT hm [] [8] [(8, .d (iv (-1)))] .nil (by kernel_rfl) (by kernel_rfl) ?_
      refine tr_ret (q_r (rg_r ?_))
      obtain rfl := Option.some.inj hM
      exact retg (names := []) .nil (by kernel_rfl)
    · have hM := ite_false' hM h4
      refine tr_condFe (e := decide (v3 < 0)) h4 (by kernel_rfl) ?_
      refine tr_skip (q_n ?_)
      obtain ⟨v5, hv5, hM⟩ := bind_some' hM
      refine tr_sr hT hm [(3, .call [] [] [.sl a0.Actions.length 0 (a0.Actions.flatMap (eS eI).b), iv v3] [] (iv v5))] [2] [(2, .d (iv v5))] (cc0 ok29 (laws_szInt64SS_c a0.Actions v3 _ hv5) (by kernel_rfl) .nil) (by kernel_rfl) (by kernel_rfl) ?_
      refine tr_seq ?_
      refine tr_sr hT hm [] [2, 44] [(2, .d (iv v5)), (44, .d (bv (decide (v5 < 0))))] .nil (by kernel_rfl) (by kernel_rfl) ?_
      rcases Bool.eq_false_or_eq_true (decide (v5 < 0)) with h6 | h6
      · have hM := ite_true' hM h6
        refine tr_condTe (e := decide (v5 < 0)) h6 (by kernel_rfl) ?_
        refine tr_sr hT hm [] [8] [(8, .d (iv (-1)))] .nil (by kernel_rfl) (by kernel_rfl) ?_
        refine tr_ret (q_r (rg_r ?_))
        obtain rfl := Option.some.inj hM
        exact retg (names := []) .nil (by kernel_rfl)
      · have hM := ite_false' hM h6
        refine tr_condFe (e := decide (v5 < 0)) h6 (by kernel_rfl) ?_
        refine tr_skip (q_n ?_)
        refine tr_sr hT hm [] [8] [(8, .d (iv v5))] .nil (by kernel_rfl) (by kernel_rfl) ?_
        refine tr_ret (rg_r ?_)
        obtain rfl := Option.some.inj hM
        exact retg (names := []) .nil (by kernel_rfl)

theorem ok8 : CallOk Try.prog 8 := callOk_of Try.func8 (by kernel_rfl) (by kernel_rfl)
theorem laws_toSetFunctor_c (a0 : XSetFunctor) (r : XSetFunctor) (hM : M.laws_toSetFunctor a0 = some r) :
    FnC Try.prog 8 [] [.agg (eXSetFunctor.b a0)] [] (.agg (eXSetFunctor.o r)) := by
  refine fnc_startG (N := 17) (np := 500) hT Try.func8 rfl rfl (by kernel_rfl) ?_
  unfold M.laws_toSetFunctor at hM
  refine tr_start (ks := [0]) (st' := [(0, .d (.agg (eXSetFunctor.b a0)))]) (by kernel_rfl) ?_
  refine tr_sr hT hm [] [2, 4, 2003, 2005] [(2, .d (.rp 1001 0)), (4, .d (.rp 1002 0)), bxB 2003 (eXSetFunctor.b a0), (2005, .r (.arr 1 [iv 0, nilv, nilv, nilv, nilv, nilv, nilv] []))] .nil (by kernel_rfl) (by kernel_rfl) ?_
  refine tr_sr hT hm [] [2, 4, 6, 2003, 2005, 2007] [(2, .d (.rp 1001 0)), (4, .d (.rp 1002 0)), (6, .d (.rp 1003 0)), bxB 2003 (eXSetFunctor.b a0), (2005, .r (.arr 1 [iv 0, nilv, nilv, nilv, nilv, nilv, nilv] [])), (2007, .r (.arr 1 [iv 0, nilv, nilv, nilv, nilv, nilv, nilv] []))] .nil (by kernel_rfl) (by kernel_rfl) ?_
  obtain ⟨v1, hv1, hM⟩ := bind_some' hM
  refine tr_sr hT hm [(2, .call [] [] [.agg (eXCategory.b a0.Shape)] [] (.agg (eXCategory.o v1)))] [2, 4, 6, 2003, 2005, 2007, 16003, 16005, 16007, 16009] ([(2, .d (.rp 1001 0)), (4, .d (.rp 1002 0)), (6, .d (.rp 1003 0)), bxB 2003 (eXSetFunctor.b a0), (2005, .r (.arr 1 [iv 0, nilv, nilv, nilv, nilv, nilv, nilv] [])), (2007, .r (.arr 1 [iv v1.Objects, .rs 8001 0 v1.From.length, .rs 8002 0 v1.To.length, .rs 8003 0 v1.Identity.length, .rs 8004 0 v1.Composites.length, nilv, nilv] [8001, 8002, 8003, 8004]))] ++ rsS 8000 (eXCategory.o v1)) (cc0 ok18 (laws_toCategory_c a0.Shape _ hv1) (by kernel_rfl) (.cons (Nat.le_of_ble_eq_true (n := 5) (m := 7) rfl) .nil)) (by kernel_rfl) (by kernel_rfl) ?_
  obtain ⟨v2, hv2, hM⟩ := bind_some' hM
  refine tr_sr hT hm [(2, .call [] [] [.sl a0.Sizes.length 0 (a0.Sizes.flatMap eI.b)] [] (.fr 1 v2.length (v2.flatMap eI.o)))] [2, 4, 6, 2003, 2005, 2007, 16003, 16005, 16007, 16009, 24001] ([(2, .d (.rp 1001 0)), (4, .d (.rp 1002 0)), (6, .d (.rp 1003 0)), bxB 2003 (eXSetFunctor.b a0), (2005, .r (.arr 1 [iv 0, nilv, nilv, nilv, nilv, nilv, nilv] [])), (2007, .r (.arr 1 [iv v1.Objects, .rs 8001 0 v1.From.length, .rs 8002 0 v1.To.length, .rs 8003 0 v1.Identity.length, .rs 8004 0 v1.Composites.length, .rs 12000 0 v2.length, nilv] [8001, 8002, 8003, 8004, 12000]))] ++ rsS 8000 (eXCategory.o v1) ++ [(24001, .r (.arr 1 (v2.flatMap eI.o) []))]) (cc0 ok33 (laws_toInt64S_c a0.Sizes _ hv2) (by kernel_rfl) (.cons (Nat.le_of_ble_eq_true (n := 6) (m := 7) rfl) .nil)) (by kernel_rfl) (by kernel_rfl) ?_
  obtain ⟨v3, hv3, hM⟩ := bind_some' hM
  refine tr_sr hT hm [(2, .call [] [] [.sl a0.Actions.length 0 (a0.Actions.flatMap (eS eI).b)] [] (.fr 1 v3.length (v3.flatMap (eS eI).o)))] [4, 6, 2005, 2007, 16003, 16005, 16007, 16009, 24001, 32001] ([(4, .d (.rp 1002 0)), (6, .d (.rp 1003 0)), (2005, .r (.arr 1 [iv 0, nilv, nilv, nilv, nilv, nilv, nilv] [])), (2007, .r (.arr 1 [iv v1.Objects, .rs 8001 0 v1.From.length, .rs 8002 0 v1.To.length, .rs 8003 0 v1.Identity.length, .rs 8004 0 v1.Composites.length, .rs 12000 0 v2.length, .rs 16000 0 v3.length] [8001, 8002, 8003, 8004, 12000, 16000]))] ++ rsS 8000 (eXCategory.o v1) ++ [(24001, .r (.arr 1 (v2.flatMap eI.o) [])), (32001, .r (.arr 1 (v3.flatMap (eS eI).o) []))]) (cc0 ok34 (laws_toInt64SS_c a0.Actions _ hv3) (by kernel_rfl) (.cons (Nat.le_of_ble_eq_true (n := 7) (m := 7) rfl) .nil)) (by kernel_rfl) (by kernel_rfl) ?_
  refine tr_sr hT hm [] [4, 2005, 16003, 16005, 16007, 16009, 24001, 32001] ([(4, .d (.rp 1002 0)), (2005, .r (.arr 1 [iv v1.Objects, .rs 8001 0 v1.From.length, .rs 8002 0 v1.To.length, .rs 8003 0 v1.Identity.length, .rs 8004 0 v1.Composites.length, .rs 12000 0 v2.length, .rs 16000 0 v3.length] [8001, 8002, 8003, 8004, 12000, 16000]))] ++ rsS 8000 (eXCategory.o v1) ++ [(24001, .r (.arr 1 (v2.flatMap eI.o) [])), (32001, .r (.arr 1 (v3.flatMap (eS eI).o) []))]) (.cons (Nat.le_of_ble_eq_true (n := 7) (m := 7) rfl) .nil) (by kernel_rfl) (by kernel_rfl) ?_
  refine tr_ret (rg_r ?_)
  obtain rfl := Option.some.inj hM
  exact retg (names := []) (.cons (lenO_flat eI_ok v1.From) (.cons (lenO_flat eI_ok v1.To) (.cons (lenO_flat eI_ok v1.Identity) (.cons (lenO_flat (eS_ok eI_ok) v1.Composites) (.cons (lenO_flat eI_ok v2) (.cons (lenO_flat (eS_ok eI_ok) v3) .nil)))))) (by kernel_rfl)

theorem ok60 : CallOk Try.prog 60 := callOk_of Try.func60 (by kernel_rfl) (by kernel_rfl)
theorem spec_l19Shape_c (a0 : XSetFunctor) (r : Bool) (hM : M.spec_l19Shape a0 = some r) :
    FnC Try.prog 60 [] [.agg (eXSetFunctor.b a0)] [] (bv r) := by
  refine fnc_startG (N := 85) (np := 500) hT Try.func60 rfl rfl (by kernel_rfl) ?_
  unfold M.spec_l19Shape at hM
  refine tr_start (ks := [0]) (st' := [(0, .d (.agg (eXSetFunctor.b a0)))]) (by kernel_rfl) ?_
  refine tr_sr hT hm [] [2, 2003] [(2, .d (.rp 1001 0)), bxB 2003 (eXSetFunctor.b a0)] .nil (by kernel_rfl) (by kernel_rfl) ?_
  refine tr_seq ?_
  obtain ⟨v1, hv1, hM⟩ := bind_some' hM
  rcases Bool.eq_false_or_eq_true v1 with h2 | h2
  · have hM := ite_true' hM h2
    rcases Bool.eq_false_or_eq_true ((a0.Sizes.length : Int) != a0.Shape.Objects) with h3 | h3
    · have hM := ite_true' hM h3
      refine tr_sr hT hm [(2, .call [] [] [.agg (eXCategory.b a0.Shape)] [] (bv v1)), (4, .val (bv false)), (13, .val (bv true))] [2, 54, 2003] [(2, .d (.rp 1001 0)), (54, .d (bv true)), bxB 2003 (eXSetFunctor.b a0)] (cc0 ok79 (spec_l02Is_c a0.Shape _ hv1) (by kernel_rfl) (.cons (congrArg (fun b => bv b) (congrArg not h2)) (.cons (congrArg (fun b => bv b) h3) .nil))) (by kernel_rfl) (by kernel_rfl) ?_
      refine tr_condT (by kernel_rfl) ?_
      refine tr_sr hT hm [] [4] [(4, .d (bv false))] .nil (by kernel_rfl) (by kernel_rfl) ?_
      refine tr_ret (q_r (rg_r ?_))
      obtain rfl := Option.some.inj hM
      exact retg (names := []) .nil (by kernel_rfl)
    · have hM := ite_false' hM h3
      refine tr_sr hT hm [(2, .call [] [] [.agg (eXCategory.b a0.Shape)] [] (bv v1)), (4, .val (bv false)), (13, .val (bv false))] [2, 54, 2003] [(2, .d (.rp 1001 0)), (54, .d (bv ((a0.Actions.length : Int) != (a0.Shape.From.length : Int)))), bxB 2003 (eXSetFunctor.b a0)] (cc0 ok79 (spec_l02Is_c a0.Shape _ hv1) (by kernel_rfl) (.cons (congrArg (fun b => bv b) (congrArg not h2)) (.cons (congrArg (fun b => bv b) h3) .nil))) (by kernel_rfl) (by kernel_rfl) ?_
      rcases Bool.eq_false_or_eq_true ((a0.Actions.length : Int) != (a0.Shape.From.length : Int)) with h4 | h4
      · have hM := ite_true' hM h4
        refine tr_condTe (e := (a0.Actions.length : Int) != (a0.Shape.From.length : Int)) h4 (by kernel_rfl) ?_
        refine tr_sr hT hm [] [4] [(4, .d (bv false))] .nil (by kernel_rfl) (by kernel_rfl) ?_
        refine tr_ret (q_r (rg_r ?_))
        obtain rfl := Option.some.inj hM
        exact retg (names := []) .nil (by kernel_rfl)
      · have hM := ite_false' hM h4
        refine tr_condFe (e := (a0.Actions.length : Int) != (a0.Shape.From.length : Int)) h4 (by kernel_rfl) ?_
        refine tr_skip (q_n ?_)
        refine tr_seq ?_
        refine tr_sr hT hm [] [2, 6, 2003] [(2, .d (.rp 1001 0)), (6, .d (iv 0)), bxB 2003 (eXSetFunctor.b a0)] .nil (by kernel_rfl) (by kernel_rfl) ?_
        refine tr_block ?_
        refine tr_iterS (fun (s5 : Int) => [(2, .d (.rp 1001 0)), (6, .d (iv s5)), bxB 2003 (eXSetFunctor.b a0)]) 0 [2, 6, 2003] (by kernel_rfl) hM ?_
        intro n8 next6 ih7 s5 hM
        refine tr_seq ?_
        refine tr_sr hT hm [] [2, 6, 64, 2003] [(2, .d (.rp 1001 0)), (6, .d (iv s5)), (64, .d (bv (decide (s5 < (a0.Sizes.length : Int))))), bxB 2003 (eXSetFunctor.b a0)] .nil (by kernel_rfl) (by kernel_rfl) ?_
        rcases Bool.eq_false_or_eq_true (decide (s5 < (a0.Sizes.length : Int))) with h9 | h9
        · have hM := ite_true' hM h9
          refine tr_condTe (e := decide (s5 < (a0.Sizes.length : Int))) h9 (by kernel_rfl) ?_
          refine tr_skip (q_n ?_)
          refine tr_seq ?_
          refine tr_block ?_
          obtain ⟨y10, hy10, hM⟩ := bind_some' hM
          have hy10' := idx_some hy10
          obtain ⟨v11, hv11, hM⟩ := bind_some' hM
          refine tr_sr hT hm [(4, .val (iv y10)), (5, .call [] [] [iv y10, iv 0, iv 16] [] (bv v11))] [2, 6, 82, 2003] [(2, .d (.rp 1001 0)), (6, .d (iv s5)), (82, .d (bv (!v11))), bxB 2003 (eXSetFunctor.b a0)] (.cons hy10'.1 (.cons hy10'.2.1 (.cons (at_b0 eI_ok hy10'.2.2 (d := iv y10) (by kernel_rfl)) (cc0 ok81 (spec_l01In_c y10 0 16 _ hv11) (by kernel_rfl) .nil)))) (by kernel_rfl) (by kernel_rfl) ?_
          rcases Bool.eq_false_or_eq_true v11 with h12 | h12
          · have hM := ite_true' hM h12
            refine tr_condFe (e := !v11) (congrArg not h12) (by kernel_rfl) ?_
            refine tr_skip (b_n (q_n ?_))
            refine tr_r hT hm [] [2, 6, 2003] [(2, .d (.rp 1001 0)), (6, .d (iv (IntKind.i64.wrap (s5 + 1)))), bxB 2003 (eXSetFunctor.b a0)] .nil (by kernel_rfl) (by kernel_rfl) (l_n ?_)
            exact trl_start (ks := [2, 6, 2003]) (by kernel_rfl) (ih7 (IntKind.i64.wrap (s5 + 1)) hM)
          · have hM := ite_false' hM h12
            refine tr_condTe (e := !v11) (congrArg not h12) (by kernel_rfl) ?_
            refine tr_sr hT hm [] [4] [(4, .d (bv false))] .nil (by kernel_rfl) (by kernel_rfl) ?_
            refine tr_ret (b_r (q_r (l_r (b_r (q_r (rg_r ?_))))))
            obtain rfl := Option.some.inj hM
            exact retg (names := []) .nil (by kernel_rfl)
        · have hM := ite_false' hM h9
          refine tr_condFe (e := decide (s5 < (a0.Sizes.length : Int))) h9 (by kernel_rfl) ?_
          refine tr_exit (q_x (l_x (b_h (q_n ?_))))
          refine tr_seq ?_
          refine tr_sr hT hm [] [2, 8, 2003] [(2, .d (.rp 1001 0)), (8, .d (iv 0)), bxB 2003 (eXSetFunctor.b a0)] .nil (by kernel_rfl) (by kernel_rfl) ?_
          refine tr_block ?_
          refine tr_iterS (fun (s13 : Int) => [(2, .d (.rp 1001 0)), (8, .d (iv s13)), bxB 2003 (eXSetFunctor.b a0)]) 0 [2, 8, 2003] (by kernel_rfl) hM ?_
          intro n16 next14 ih15 s13 hM
          refine tr_seq ?_
          refine tr_sr hT hm [] [2, 8, 92, 2003] [(2, .d (.rp 1001 0)), (8, .d (iv s13)), (92, .d (bv (decide (s13 < (a0.Actions.length : Int))))), bxB 2003 (eXSetFunctor.b a0)] .nil (by kernel_rfl) (by kernel_rfl) ?_
          rcases Bool.eq_false_or_eq_true (decide (s13 < (a0.Actions.length : Int))) with h17 | h17
          · have hM := ite_true' hM h17
            refine tr_condTe (e := decide (s13 < (a0.Actions.length : Int))) h17 (by kernel_rfl) ?_
            refine tr_skip (q_n ?_)
            refine tr_seq ?_
            refine tr_block ?_
            obtain ⟨y18, hy18, hM⟩ := bind_some' hM
            have hy18' := idx_some hy18
            obtain ⟨y19, hy19, hM⟩ := bind_some' hM
            have hy19' := idx_some hy19
            obtain ⟨y20, hy20, hM⟩ := bind_some' hM
            have hy20' := idx_some hy20
            rcases Bool.eq_false_or_eq_true ((y18.length : Int) != y20) with h21 | h21
            · have hM := ite_true' hM h21
              refine tr_sr hT hm [(4, .val (.sl y18.length 0 (y18.flatMap eI.b))), (13, .val (iv y19)), (15, .val (iv y20)), (17, .val (bv true))] [2, 8, 168, 2003] [(2, .d (.rp 1001 0)), (8, .d (iv s13)), (168, .d (bv true)), bxB 2003 (eXSetFunctor.b a0)] (.cons hy18'.1 (.cons hy18'.2.1 (.cons (at_b0 (eS_ok eI_ok) hy18'.2.2 (d := .sl y18.length 0 (y18.flatMap eI.b)) (by kernel_rfl)) (.cons hy19'.1 (.cons hy19'.2.1 (.cons (at_b0 eI_ok hy19'.2.2 (d := iv y19) (by kernel_rfl)) (.cons hy20'.1 (.cons hy20'.2.1 (.cons (at_b0 eI_ok hy20'.2.2 (d := iv y20) (by kernel_rfl)) (.cons (congrArg (fun b => bv b) h21) .nil)))))))))) (by kernel_rfl) (by kernel_rfl) ?_
              refine tr_condT (by kernel_rfl) ?_
              refine tr_sr hT hm [] [4] [(4, .d (bv false))] .nil (by kernel_rfl) (by kernel_rfl) ?_
              refine tr_ret (b_r (q_r (l_r (b_r (q_r (rg_r ?_))))))
              obtain rfl := Option.some.inj hM
              exact retg (names := []) .nil (by kernel_rfl)
            · have hM := ite_false' hM h21
              obtain ⟨y22, hy22, hM⟩ := bind_some' hM
              have hy22' := idx_some hy22
              obtain ⟨y23, hy23, hM⟩ := bind_some' hM
              have hy23' := idx_some hy23
              obtain ⟨v24, hv24, hM⟩ := bind_some' hM
              refine tr_sr hT hm [(4, .val (.sl y18.length 0 (y18.flatMap eI.b))), (13, .val (iv y19)), (15, .val (iv y20)), (17, .val (bv false)), (25, .val (iv y22)), (27, .val (iv y23)), (32, .val (.sl y18.length 0 (y18.flatMap eI.b))), (33, .call [] [] [iv y23, .sl y18.length 0 (y18.flatMap eI.b)] [] (bv v24))] [2, 8, 168, 2003] [(2, .d (.rp 1001 0)), (8, .d (iv s13)), (168, .d (bv (!v24))), bxB 2003 (eXSetFunctor.b a0)] (.cons hy18'.1 (.cons hy18'.2.1 (.cons (at_b0 (eS_ok eI_ok) hy18'.2.2 (d := .sl y18.length 0 (y18.flatMap eI.b)) (by kernel_rfl)) (.cons hy19'.1 (.cons hy19'.2.1 (.cons (at_b0 eI_ok hy19'.2.2 (d := iv y19) (by kernel_rfl)) (.cons hy20'.1 (.cons hy20'.2.1 (.cons (at_b0 eI_ok hy20'.2.2 (d := iv y20) (by kernel_rfl)) (.cons (congrArg (fun b => bv b) h21) (.cons hy22'.1 (.cons hy22'.2.1 (.cons (at_b0 eI_ok hy22'.2.2 (d := iv y22) (by kernel_rfl)) (.cons hy23'.1 (.cons hy23'.2.1 (.cons (at_b0 eI_ok hy23'.2.2 (d := iv y23) (by kernel_rfl)) (.cons hy18'.1 (.cons hy18'.2.1 (.cons (at_b0 (eS_ok eI_ok) hy18'.2.2 (d := .sl y18.length 0 (y18.flatMap eI.b)) (by kernel_rfl)) (cc0 ok80 (spec_l01Map_c y23 y18 _ hv24) (by kernel_rfl) .nil)))))))))))))))))))) (by kernel_rfl) (by kernel_rfl) ?_
              rcases Bool.eq_false_or_eq_true v24 with h25 | h25
              · have hM := ite_true' hM h25
                refine tr_condFe (e := !v24) (congrArg not h25) (by kernel_rfl) ?_
                refine tr_skip (b_n (q_n ?_))
                refine tr_r hT hm [] [2, 8, 2003] [(2, .d (.rp 1001 0)), (8, .d (iv (IntKind.i64.wrap (s13 + 1)))), bxB 2003 (eXSetFunctor.b a0)] .nil (by kernel_rfl) (by kernel_rfl) (l_n ?_)
                exact trl_start (ks := [2, 8, 2003]) (by kernel_rfl) (ih15 (IntKind.i64.wrap (s13 + 1)) hM)
              · have hM := ite_false' hM h25
                refine tr_condTe (e := !v24) (congrArg not h25) (by kernel_rfl) ?_
                refine tr_sr hT hm [] [4] [(4, .d (bv false))] .nil (by kernel_rfl) (by kernel_rfl) ?_
                refine tr_ret (b_r (q_r (l_r (b_r (q_r (rg_r ?_))))))
                obtain rfl := Option.some.inj hM
                exact retg (names := []) .nil (by kernel_rfl)
          · have hM := ite_false' hM h17
            refine tr_condFe (e := decide (s13 < (a0.Actions.length : Int))) h17 (by kernel_rfl) ?_
            refine tr_exit (q_x (l_x (b_h (q_n ?_))))
            refine tr_sr hT hm [] [4] [(4, .d (bv true))] .nil (by kernel_rfl) (by kernel_rfl) ?_
            refine tr_ret (rg_r ?_)
            obtain rfl := Option.some.inj hM
            exact retg (names := []) .nil (by kernel_rfl)
  · have hM := ite_false' hM h2
    refine tr_sr hT hm [(2, .call [] [] [.agg (eXCategory.b a0.Shape)] [] (bv v1)), (4, .val (bv true))] [2, 54, 2003] [(2, .d (.rp 1001 0)), (54, .d (bv true)), bxB 2003 (eXSetFunctor.b a0)] (cc0 ok79 (spec_l02Is_c a0.Shape _ hv1) (by kernel_rfl) (.cons (congrArg (fun b => bv b) (congrArg not h2)) .nil)) (by kernel_rfl) (by kernel_rfl) ?_
    refine tr_condT (by kernel_rfl) ?_
    refine tr_sr hT hm [] [4] [(4, .d (bv false))] .nil (by kernel_rfl) (by kernel_rfl) ?_
    refine tr_ret (q_r (rg_r ?_))
    obtain rfl := Option.some.inj hM
    exact retg (names := []) .nil (by kernel_rfl)

theorem ok61 : CallOk Try.prog 61 := callOk_of Try.func61 (by kernel_rfl) (by kernel_rfl)
theorem spec_l19Fault_c (a0 : XSetFunctor) (r : Int × Int × Int × Int) (hM : M.spec_l19Fault a0 = some r) :
    FnC Try.prog 61 [] [.agg (eXSetFunctor.b a0)] [] (.tup [iv r.1, iv r.2.1, iv r.2.2.1, iv r.2.2.2]) := by
  refine fnc_startG (N := 117) (np := 500) hT Try.func61 rfl rfl (by kernel_rfl) ?_
  unfold M.spec_l19Fault at hM
  refine tr_start (ks := [0]) (st' := [(0, .d (.agg (eXSetFunctor.b a0)))]) (by kernel_rfl) ?_
  refine tr_sr hT hm [] [2, 2003] [(2, .d (.rp 1001 0)), bxB 2003 (eXSetFunctor.b a0)] .nil (by kernel_rfl) (by kernel_rfl) ?_
  refine tr_sr hT hm [] [2, 12, 2003, 2013] [(2, .d (.rp 1001 0)), (12, .d (.rp 1006 0)), bxB 2003 (eXSetFunctor.b a0), bxB 2013 (eXCategory.b a0.Shape)] (.cons (Nat.le_of_ble_eq_true (n := 5) (m := 5) rfl) .nil) (by kernel_rfl) (by kernel_rfl) ?_
  refine tr_seq ?_
  refine tr_sr hT hm [] [2, 12, 14, 2003, 2013] [(2, .d (.rp 1001 0)), (12, .d (.rp 1006 0)), (14, .d (iv 0)), bxB 2003 (eXSetFunctor.b a0), bxB 2013 (eXCategory.b a0.Shape)] .nil (by kernel_rfl) (by kernel_rfl) ?_
  refine tr_block ?_
  refine tr_iterS (fun (s1 : Int) => [(2, .d (.rp 1001 0)), (12, .d (.rp 1006 0)), (14, .d (iv s1)), bxB 2003 (eXSetFunctor.b a0), bxB 2013 (eXCategory.b a0.Shape)]) 0 [2, 12, 14, 2003, 2013] (by kernel_rfl) hM ?_
  intro n4 next2 ih3 s1 hM
  refine tr_seq ?_
  refine tr_sr hT hm [] [2, 12, 14, 34, 2003, 2013] [(2, .d (.rp 1001 0)), (12, .d (.rp 1006 0)), (14, .d (iv s1)), (34, .d (bv (decide (s1 < a0.Shape.Objects)))), bxB 2003 (eXSetFunctor.b a0), bxB 2013 (eXCategory.b a0.Shape)] .nil (by kernel_rfl) (by kernel_rfl) ?_
  rcases Bool.eq_false_or_eq_true (decide (s1 < a0.Shape.Objects)) with h5 | h5
  · have hM := ite_true' hM h5
    refine tr_condTe (e := decide (s1 < a0.Shape.Objects)) h5 (by kernel_rfl) ?_
    refine tr_skip (q_n ?_)
    refine tr_seq ?_
    refine tr_block ?_
    refine tr_sr hT hm [] [2, 12, 14, 16, 2003, 2013] [(2, .d (.rp 1001 0)), (12, .d (.rp 1006 0)), (14, .d (iv s1)), (16, .d (iv 0)), bxB 2003 (eXSetFunctor.b a0), bxB 2013 (eXCategory.b a0.Shape)] .nil (by kernel_rfl) (by kernel_rfl) ?_
    refine tr_block ?_
    refine tr_iterS (fun (s6 : Int) => [(2, .d (.rp 1001 0)), (12, .d (.rp 1006 0)), (14, .d (iv s1)), (16, .d (iv s6)), bxB 2003 (eXSetFunctor.b a0), bxB 2013 (eXCategory.b a0.Shape)]) 0 [2, 12, 14, 16, 2003, 2013] (by kernel_rfl) hM ?_
    intro n9 next7 ih8 s6 hM
    refine tr_seq ?_
    obtain ⟨y10, hy10, hM⟩ := bind_some' hM
    have hy10' := idx_some hy10
    refine tr_sr hT hm [(5, .val (iv y10))] [2, 12, 14, 16, 52, 2003, 2013] [(2, .d (.rp 1001 0)), (12, .d (.rp 1006 0)), (14, .d (iv s1)), (16, .d (iv s6)), (52, .d (bv (decide (s6 < y10)))), bxB 2003 (eXSetFunctor.b a0), bxB 2013 (eXCategory.b a0.Shape)] (.cons hy10'.1 (.cons hy10'.2.1 (.cons (at_b0 eI_ok hy10'.2.2 (d := iv y10) (by kernel_rfl)) .nil))) (by kernel_rfl) (by kernel_rfl) ?_
    rcases Bool.eq_false_or_eq_true (decide (s6 < y10)) with h11 | h11
    · have hM := ite_true' hM h11
      refine tr_condTe (e := decide (s6 < y10)) h11 (by kernel_rfl) ?_
      refine tr_skip (q_n ?_)
      refine tr_seq ?_
      refine tr_block ?_
      obtain ⟨y12, hy12, hM⟩ := bind_some' hM
      have hy12' := idx_some hy12
      obtain ⟨y13, hy13, hM⟩ := bind_some' hM
      have hy13' := idx_some hy13
      obtain ⟨y14, hy14, hM⟩ := bind_some' hM
      have hy14' := idx_some hy14
      refine tr_sr hT hm [(6, .val (iv y12)), (8, .val (.sl y13.length 0 (y13.flatMap eI.b))), (11, .val (iv y14))] [2, 12, 14, 16, 84, 2003, 2013] [(2, .d (.rp 1001 0)), (12, .d (.rp 1006 0)), (14, .d (iv s1)), (16, .d (iv s6)), (84, .d (bv (y14 != s6))), bxB 2003 (eXSetFunctor.b a0), bxB 2013 (eXCategory.b a0.Shape)] (.cons hy12'.1 (.cons hy12'.2.1 (.cons (at_b0 eI_ok hy12'.2.2 (d := iv y12) (by kernel_rfl)) (.cons hy13'.1 (.cons hy13'.2.1 (.cons (at_b0 (eS_ok eI_ok) hy13'.2.2 (d := .sl y13.length 0 (y13.flatMap eI.b)) (by kernel_rfl)) (.cons hy14'.1 (.cons hy14'.2.1 (.cons (at_b0 eI_ok hy14'.2.2 (d := iv y14) (by kernel_rfl)) .nil))))))))) (by kernel_rfl) (by kernel_rfl) ?_
      rcases Bool.eq_false_or_eq_true (y14 != s6) with h15 | h15
      · have hM := ite_true' hM h15
        refine tr_condTe (e := y14 != s6) h15 (by kernel_rfl) ?_
        refine tr_sr hT hm [] [4, 6, 8, 10] [(4, .d (iv 1)), (6, .d (iv s1)), (8, .d (iv s6)), (10, .d (iv 0))] .nil (by kernel_rfl) (by kernel_rfl) ?_
        refine tr_ret (b_r (q_r (l_r (b_r (b_r (q_r (l_r (b_r (q_r (rg_r ?_))))))))))
        obtain rfl := Option.some.inj hM
        exact retg (names := []) .nil (by kernel_rfl)
      · have hM := ite_false' hM h15
        refine tr_condFe (e := y14 != s6) h15 (by kernel_rfl) ?_
        refine tr_skip (b_n (q_n ?_))
        refine tr_r hT hm [] [2, 12, 14, 16, 2003, 2013] [(2, .d (.rp 1001 0)), (12, .d (.rp 1006 0)), (14, .d (iv s1)), (16, .d (iv (IntKind.i64.wrap (s6 + 1)))), bxB 2003 (eXSetFunctor.b a0), bxB 2013 (eXCategory.b a0.Shape)] .nil (by kernel_rfl) (by kernel_rfl) (l_n ?_)
        exact trl_start (ks := [2, 12, 14, 16, 2003, 2013]) (by kernel_rfl) (ih8 (IntKind.i64.wrap (s6 + 1)) hM)
    · have hM := ite_false' hM h11
      refine tr_condFe (e := decide (s6 < y10)) h11 (by kernel_rfl) ?_
      refine tr_exit (q_x (l_x (b_h (b_n (q_n ?_)))))
      refine tr_r hT hm [] [2, 12, 14, 2003, 2013] [(2, .d (.rp 1001 0)), (12, .d (.rp 1006 0)), (14, .d (iv (IntKind.i64.wrap (s1 + 1)))), bxB 2003 (eXSetFunctor.b a0), bxB 2013 (eXCategory.b a0.Shape)] .nil (by kernel_rfl) (by kernel_rfl) (l_n ?_)
      exact trl_start (ks := [2, 12, 14, 2003, 2013]) (by kernel_rfl) (ih3 (IntKind.i64.wrap (s1 + 1)) hM)
  · have hM := ite_false' hM h5
    refine tr_condFe (e := decide (s1 < a0.Shape.Objects)) h5 (by kernel_rfl) ?_
    refine tr_exit (q_x (l_x (b_h (q_n ?_))))
    refine tr_seq ?_
    refine tr_sr hT hm [] [2, 12, 18, 2003, 2013] [(2, .d (.rp 1001 0)), (12, .d (.rp 1006 0)), (18, .d (iv 0)), bxB 2003 (eXSetFunctor.b a0), bxB 2013 (eXCategory.b a0.Shape)] .nil (by kernel_rfl) (by kernel_rfl) ?_
    refine tr_block ?_
    refine tr_iterS (fun (s16 : Int) => [(2, .d (.rp 1001 0)), (12, .d (.rp 1006 0)), (18, .d (iv s16)), bxB 2003 (eXSetFunctor.b a0), bxB 2013 (eXCategory.b a0.Shape)]) 0 [2, 12, 18, 2003, 2013] (by kernel_rfl) hM ?_
    intro n19 next17 ih18 s16 hM
    refine tr_seq ?_
    refine tr_sr hT hm [] [2, 12, 18, 98, 2003, 2013] [(2, .d (.rp 1001 0)), (12, .d (.rp 1006 0)), (18, .d (iv s16)), (98, .d (bv (decide (s16 < (a0.Shape.From.length : Int))))), bxB 2003 (eXSetFunctor.b a0), bxB 2013 (eXCategory.b a0.Shape)] .nil (by kernel_rfl) (by kernel_rfl) ?_
    rcases Bool.eq_false_or_eq_true (decide (s16 < (a0.Shape.From.length : Int))) with h20 | h20
    · have hM := ite_true' hM h20
      refine tr_condTe (e := decide (s16 < (a0.Shape.From.length : Int))) h20 (by kernel_rfl) ?_
      refine tr_skip (q_n ?_)
      refine tr_seq ?_
      refine tr_block ?_
      refine tr_sr hT hm [] [2, 12, 18, 20, 2003, 2013] [(2, .d (.rp 1001 0)), (12, .d (.rp 1006 0)), (18, .d (iv s16)), (20, .d (iv 0)), bxB 2003 (eXSetFunctor.b a0), bxB 2013 (eXCategory.b a0.Shape)] .nil (by kernel_rfl) (by kernel_rfl) ?_
      refine tr_block ?_
      refine tr_iterS (fun (s21 : Int) => [(2, .d (.rp 1001 0)), (12, .d (.rp 1006 0)), (18, .d (iv s16)), (20, .d (iv s21)), bxB 2003 (eXSetFunctor.b a0), bxB 2013 (eXCategory.b a0.Shape)]) 0 [2, 12, 18, 20, 2003, 2013] (by kernel_rfl) hM ?_
      intro n24 next22 ih23 s21 hM
      refine tr_seq ?_
      refine tr_sr hT hm [] [2, 12, 18, 20, 112, 2003, 2013] [(2, .d (.rp 1001 0)), (12, .d (.rp 1006 0)), (18, .d (iv s16)), (20, .d (iv s21)), (112, .d (bv (decide (s21 < (a0.Shape.From.length : Int))))), bxB 2003 (eXSetFunctor.b a0), bxB 2013 (eXCategory.b a0.Shape)] .nil (by kernel_rfl) (by kernel_rfl) ?_
      rcases Bool.eq_false_or_eq_true (decide (s21 < (a0.Shape.From.length : Int))) with h25 | h25
      · have hM := ite_true' hM h25
        refine tr_condTe (e := decide (s21 < (a0.Shape.From.length : Int))) h25 (by kernel_rfl) ?_
        refine tr_skip (q_n ?_)
        refine tr_seq ?_
        refine tr_block ?_
        refine tr_seq ?_
        obtain ⟨y26, hy26, hM⟩ := bind_some' hM
        have hy26' := idx_some hy26
        obtain ⟨y27, hy27, hM⟩ := bind_some' hM
        have hy27' := idx_some hy27
        refine tr_sr hT hm [(4, .val (iv y26)), (9, .val (iv y27))] [2, 12, 18, 20, 138, 2003, 2013] [(2, .d (.rp 1001 0)), (12, .d (.rp 1006 0)), (18, .d (iv s16)), (20, .d (iv s21)), (138, .d (bv (y26 != y27))), bxB 2003 (eXSetFunctor.b a0), bxB 2013 (eXCategory.b a0.Shape)] (.cons hy26'.1 (.cons hy26'.2.1 (.cons (at_b0 eI_ok hy26'.2.2 (d := iv y26) (by kernel_rfl)) (.cons hy27'.1 (.cons hy27'.2.1 (.cons (at_b0 eI_ok hy27'.2.2 (d := iv y27) (by kernel_rfl)) .nil)))))) (by kernel_rfl) (by kernel_rfl) ?_
        rcases Bool.eq_false_or_eq_true (y26 != y27) with h28 | h28
        · have hM := ite_true' hM h28
          refine tr_condTe (e := y26 != y27) h28 (by kernel_rfl) ?_
          refine tr_exit (q_x (b_h (q_n ?_)))
          refine tr_r hT hm [] [2, 12, 18, 20, 2003, 2013] [(2, .d (.rp 1001 0)), (12, .d (.rp 1006 0)), (18, .d (iv s16)), (20, .d (iv (IntKind.i64.wrap (s21 + 1)))), bxB 2003 (eXSetFunctor.b a0), bxB 2013 (eXCategory.b a0.Shape)] .nil (by kernel_rfl) (by kernel_rfl) (l_n ?_)
          exact trl_start (ks := [2, 12, 18, 20, 2003, 2013]) (by kernel_rfl) (ih23 (IntKind.i64.wrap (s21 + 1)) hM)
        · have hM := ite_false' hM h28
          refine tr_condFe (e := y26 != y27) h28 (by kernel_rfl) ?_
          refine tr_skip (q_n ?_)
          refine tr_sr hT hm [] [2, 12, 18, 20, 22, 2003, 2013] [(2, .d (.rp 1001 0)), (12, .d (.rp 1006 0)), (18, .d (iv s16)), (20, .d (iv s21)), (22, .d (iv 0)), bxB 2003 (eXSetFunctor.b a0), bxB 2013 (eXCategory.b a0.Shape)] .nil (by kernel_rfl) (by kernel_rfl) ?_
          refine tr_block ?_
          refine tr_iterS (fun (s29 : Int) => [(2, .d (.rp 1001 0)), (12, .d (.rp 1006 0)), (18, .d (iv s16)), (20, .d (iv s21)), (22, .d (iv s29)), bxB 2003 (eXSetFunctor.b a0), bxB 2013 (eXCategory.b a0.Shape)]) 0 [2, 12, 18, 20, 22, 2003, 2013] (by kernel_rfl) hM ?_
          intro n32 next30 ih31 s29 hM
          refine tr_seq ?_
          obtain ⟨y33, hy33, hM⟩ := bind_some' hM
          have hy33' := idx_some hy33
          obtain ⟨y34, hy34, hM⟩ := bind_some' hM
          have hy34' := idx_some hy34
          refine tr_sr hT hm [(7, .val (iv y33)), (9, .val (iv y34))] [2, 12, 18, 20, 22, 160, 2003, 2013] [(2, .d (.rp 1001 0)), (12, .d (.rp 1006 0)), (18, .d (iv s16)), (20, .d (iv s21)), (22, .d (iv s29)), (160, .d (bv (decide (s29 < y34)))), bxB 2003 (eXSetFunctor.b a0), bxB 2013 (eXCategory.b a0.Shape)] (.cons hy33'.1 (.cons hy33'.2.1 (.cons (at_b0 eI_ok hy33'.2.2 (d := iv y33) (by kernel_rfl)) (.cons hy34'.1 (.cons hy34'.2.1 (.cons (at_b0 eI_ok hy34'.2.2 (d := iv y34) (by kernel_rfl)) .nil)))))) (by kernel_rfl) (by kernel_rfl) ?_
          rcases Bool.eq_false_or_eq_true (decide (s29 < y34)) with h35 | h35
          · have hM := ite_true' hM h35
            refine tr_condTe (e := decide (s29 < y34)) h35 (by kernel_rfl) ?_
            refine tr_skip (q_n ?_)
            refine tr_seq ?_
            refine tr_block ?_
            obtain ⟨y36, hy36, hM⟩ := bind_some' hM
            have hy36' := idx_some hy36
            obtain ⟨y37, hy37, hM⟩ := bind_some' hM
            have hy37' := idx_some hy37
            obtain ⟨y38, hy38, hM⟩ := bind_some' hM
            have hy38' := idx_some hy38
            obtain ⟨y39, hy39, hM⟩ := bind_some' hM
            have hy39' := idx_some hy39
            obtain ⟨y40, hy40, hM⟩ := bind_some' hM
            have hy40' := idx_some hy40
            obtain ⟨y41, hy41, hM⟩ := bind_some' hM
            have hy41' := idx_some hy41
            obtain ⟨y42, hy42, hM⟩ := bind_some' hM
            have hy42' := idx_some hy42
            obtain ⟨y43, hy43, hM⟩ := bind_some' hM
            have hy43' := idx_some hy43
            refine tr_sr hT hm [(6, .val (.sl y36.length 0 (y36.flatMap eI.b))), (9, .val (iv y37)), (11, .val (.sl y38.length 0 (y38.flatMap eI.b))), (14, .val (iv y39)), (19, .val (.sl y40.length 0 (y40.flatMap eI.b))), (24, .val (.sl y41.length 0 (y41.flatMap eI.b))), (27, .val (iv y42)), (29, .val (iv y43))] [2, 12, 18, 20, 22, 226, 2003, 2013] [(2, .d (.rp 1001 0)), (12, .d (.rp 1006 0)), (18, .d (iv s16)), (20, .d (iv s21)), (22, .d (iv s29)), (226, .d (bv (y39 != y43))), bxB 2003 (eXSetFunctor.b a0), bxB 2013 (eXCategory.b a0.Shape)] (.cons hy36'.1 (.cons hy36'.2.1 (.cons (at_b0 (eS_ok eI_ok) hy36'.2.2 (d := .sl y36.length 0 (y36.flatMap eI.b)) (by kernel_rfl)) (.cons hy37'.1 (.cons hy37'.2.1 (.cons (at_b0 eI_ok hy37'.2.2 (d := iv y37) (by kernel_rfl)) (.cons hy38'.1 (.cons hy38'.2.1 (.cons (at_b0 (eS_ok eI_ok) hy38'.2.2 (d := .sl y38.length 0 (y38.flatMap eI.b)) (by kernel_rfl)) (.cons hy39'.1 (.cons hy39'.2.1 (.cons (at_b0 eI_ok hy39'.2.2 (d := iv y39) (by kernel_rfl)) (.cons hy40'.1 (.cons hy40'.2.1 (.cons (at_b0 (eS_ok eI_ok) hy40'.2.2 (d := .sl y40.length 0 (y40.flatMap eI.b)) (by kernel_rfl)) (.cons hy41'.1 (.cons hy41'.2.1 (.cons (at_b0 (eS_ok eI_ok) hy41'.2.2 (d := .sl y41.length 0 (y41.flatMap eI.b)) (by kernel_rfl)) (.cons hy42'.1 (.cons hy42'.2.1 (.cons (at_b0 eI_ok hy42'.2.2 (d := iv y42) (by kernel_rfl)) (.cons hy43'.1 (.cons hy43'.2.1 (.cons (at_b0 eI_ok hy43'.2.2 (d := iv y43) (by kernel_rfl)) .nil)))))))))))))))))))))))) (by kernel_rfl) (by kernel_rfl) ?_
            rcases Bool.eq_false_or_eq_true (y39 != y43) with h44 | h44
            · have hM := ite_true' hM h44
              refine tr_condTe (e := y39 != y43) h44 (by kernel_rfl) ?_
              refine tr_sr hT hm [] [4, 6, 8, 10] [(4, .d (iv 2)), (6, .d (iv s16)), (8, .d (iv s21)), (10, .d (iv s29))] .nil (by kernel_rfl) (by kernel_rfl) ?_
              refine tr_ret (b_r (q_r (l_r (b_r (b_r (q_r (l_r (b_r (b_r (q_r (l_r (b_r (q_r (rg_r ?_))))))))))))))
              obtain rfl := Option.some.inj hM
              exact retg (names := []) .nil (by kernel_rfl)
            · have hM := ite_false' hM h44
              refine tr_condFe (e := y39 != y43) h44 (by kernel_rfl) ?_
              refine tr_skip (b_n (q_n ?_))
              refine tr_r hT hm [] [2, 12, 18, 20, 22, 2003, 2013] [(2, .d (.rp 1001 0)), (12, .d (.rp 1006 0)), (18, .d (iv s16)), (20, .d (iv s21)), (22, .d (iv (IntKind.i64.wrap (s29 + 1)))), bxB 2003 (eXSetFunctor.b a0), bxB 2013 (eXCategory.b a0.Shape)] .nil (by kernel_rfl) (by kernel_rfl) (l_n ?_)
              exact trl_start (ks := [2, 12, 18, 20, 22, 2003, 2013]) (by kernel_rfl) (ih31 (IntKind.i64.wrap (s29 + 1)) hM)
          · have hM := ite_false' hM h35
            refine tr_condFe (e := decide (s29 < y34)) h35 (by kernel_rfl) ?_
            refine tr_exit (q_x (l_x (b_h (b_n (q_n ?_)))))
            refine tr_r hT hm [] [2, 12, 18, 20, 2003, 2013] [(2, .d (.rp 1001 0)), (12, .d (.rp 1006 0)), (18, .d (iv s16)), (20, .d (iv (IntKind.i64.wrap (s21 + 1)))), bxB 2003 (eXSetFunctor.b a0), bxB 2013 (eXCategory.b a0.Shape)] .nil (by kernel_rfl) (by kernel_rfl) (l_n ?_)
            exact trl_start (ks := [2, 12, 18, 20, 2003, 2013]) (by kernel_rfl) (ih23 (IntKind.i64.wrap (s21 + 1)) hM)
      · have hM := ite_false' hM h25
        refine tr_condFe (e := decide (s21 < (a0.Shape.From.length : Int))) h25 (by kernel_rfl) ?_
        refine tr_exit (q_x (l_x (b_h (b_n (q_n ?_)))))
        refine tr_r hT hm [] [2, 12, 18, 2003, 2013] [(2, .d (.rp 1001 0)), (12, .d (.rp 1006 0)), (18, .d (iv (IntKind.i64.wrap (s16 + 1)))), bxB 2003 (eXSetFunctor.b a0), bxB 2013 (eXCategory.b a0.Shape)] .nil (by kernel_rfl) (by kernel_rfl) (l_n ?_)
        exact trl_start (ks := [2, 12, 18, 2003, 2013]) (by kernel_rfl) (ih18 (IntKind.i64.wrap (s16 + 1)) hM)
    · have hM := ite_false' hM h20
      refine tr_condFe (e := decide (s16 < (a0.Shape.From.length : Int))) h20 (by kernel_rfl) ?_
      refine tr_exit (q_x (l_x (b_h (q_n ?_))))
      refine tr_sr hT hm [] [4, 6, 8, 10] [(4, .d (iv 0)), (6, .d (iv 0)), (8, .d (iv 0)), (10, .d (iv 0))] .nil (by kernel_rfl) (by kernel_rfl) ?_
      refine tr_ret (rg_r ?_)
      obtain rfl := Option.some.inj hM
      exact retg (names := []) .nil (by kernel_rfl)

theorem ok30 : CallOk Try.prog 30 := callOk_of Try.func30 (by kernel_rfl) (by kernel_rfl)
theorem spec_l19Is_c (a0 : XSetFunctor) (r : Bool) (hM : M.spec_l19Is a0 = some r) :
    FnC Try.prog 30 [] [.agg (eXSetFunctor.b a0)] [] (bv r) := by
  refine fnc_startG (N := 19) (np := 500) hT Try.func30 rfl rfl (by kernel_rfl) ?_
  unfold M.spec_l19Is at hM
  refine tr_start (ks := [0]) (st' := [(0, .d (.agg (eXSetFunctor.b a0)))]) (by kernel_rfl) ?_
  refine tr_sr hT hm [] [2, 2003] [(2, .d (.rp 1001 0)), bxB 2003 (eXSetFunctor.b a0)] .nil (by kernel_rfl) (by kernel_rfl) ?_
  refine tr_seq ?_
  obtain ⟨v1, hv1, hM⟩ := bind_some' hM
  refine tr_sr hT hm [(1, .call [] [] [.agg (eXSetFunctor.b a0)] [] (bv v1))] [2, 18, 2003] [(2, .d (.rp 1001 0)), (18, .d (bv (!v1))), bxB 2003 (eXSetFunctor.b a0)] (cc0 ok60 (spec_l19Shape_c a0 _ hv1) (by kernel_rfl) .nil) (by kernel_rfl) (by kernel_rfl) ?_
  rcases Bool.eq_false_or_eq_true v1 with h2 | h2
  · have hM := ite_true' hM h2
    refine tr_condFe (e := !v1) (congrArg not h2) (by kernel_rfl) ?_
    refine tr_skip (q_n ?_)
    obtain ⟨v3, hv3, hM⟩ := bind_some' hM
    refine tr_sr hT hm [(1, .call [] [] [.agg (eXSetFunctor.b a0)] [] (.tup [iv v3.1, iv v3.2.1, iv v3.2.2.1, iv v3.2.2.2]))] [6] [(6, .d (iv v3.1))] (cc0 ok61 (spec_l19Fault_c a0 _ hv3) (by kernel_rfl) .nil) (by kernel_rfl) (by kernel_rfl) ?_
    refine tr_sr hT hm [] [4] [(4, .d (bv (v3.1 == 0)))] .nil (by kernel_rfl) (by kernel_rfl) ?_
    refine tr_ret (rg_r ?_)
    obtain rfl := Option.some.inj hM
    exact retg (names := []) .nil (by kernel_rfl)
  · have hM := ite_false' hM h2
    refine tr_condTe (e := !v1) (congrArg not h2) (by kernel_rfl) ?_
    refine tr_sr hT hm [] [4] [(4, .d (bv false))] .nil (by kernel_rfl) (by kernel_rfl) ?_
    refine tr_ret (q_r (rg_r ?_))
    obtain rfl := Option.some.inj hM
    exact retg (names := []) .nil (by kernel_rfl)

theorem ok115 : CallOk Try.prog 115 := callOk_of Try.func115 (by kernel_rfl) (by kernel_rfl)
theorem impl_isMapOf_c (a0 : List Int) (a1 : Int) (a2 : Int) (r : Bool) (hM : M.impl_isMapOf a0 a1 a2 = some r) :
    FnC Try.prog 115 [] [.sl a0.length 0 (a0.flatMap eI.b), iv a1, iv a2] [] (bv r) := by
  refine fnc_startG (N := 16) (np := 500) hT Try.func115 rfl rfl (by kernel_rfl) ?_
  unfold M.impl_isMapOf at hM
  refine tr_start (ks := [0, 2, 4]) (st' := [(0, .d (.sl a0.length 0 (a0.flatMap eI.b))), (2, .d (iv a1)), (4, .d (iv a2))]) (by kernel_rfl) ?_
  refine tr_sr hT hm [] [0, 2, 4] [(0, .d (.sl a0.length 0 (a0.flatMap eI.b))), (2, .d (iv a1)), (4, .d (iv a2))] .nil (by kernel_rfl) (by kernel_rfl) ?_
  rcases Bool.eq_false_or_eq_true ((a0.length : Int) == a1) with h1 | h1
  · have hM := ite_true' hM h1
    obtain ⟨v2, hv2, hM⟩ := bind_some' hM
    refine tr_sr hT hm [(4, .val (bv true)), (7, .call [] [] [.sl a0.length 0 (a0.flatMap eI.b), iv a2] [] (bv v2))] [12] [(12, .d (bv v2))] (.cons (congrArg (fun b => bv b) h1) (cc0 ok113 (impl_within_c a0 a2 _ hv2) (by kernel_rfl) .nil)) (by kernel_rfl) (by kernel_rfl) ?_
    refine tr_ret (rg_r ?_)
    obtain rfl := Option.some.inj hM
    exact retg (names := []) .nil (by kernel_rfl)
  · have hM := ite_false' hM h1
    refine tr_sr hT hm [(4, .val (bv false))] [12] [(12, .d (bv false))] (.cons (congrArg (fun b => bv b) h1) .nil) (by kernel_rfl) (by kernel_rfl) ?_
    refine tr_ret (rg_r ?_)
    obtain rfl := Option.some.inj hM
    exact retg (names := []) .nil (by kernel_rfl)

theorem ok67 : CallOk Try.prog 67 := callOk_of Try.func67 (by kernel_rfl) (by kernel_rfl)
theorem impl_SetFunctor_isShape_c (a0 : XSetFunctor) (r : Bool) (hM : M.impl_SetFunctor_isShape a0 = some r) :
    FnC Try.prog 67 [] [.pt (eXSetFunctor.b a0) 0] [] (bv r) := by
  refine fnc_startG (N := 82) (np := 500) hT Try.func67 rfl rfl (by kernel_rfl) ?_
  unfold M.impl_SetFunctor_isShape at hM
  refine tr_start (ks := [0]) (st' := [(0, .d (.pt (eXSetFunctor.b a0) 0))]) (by kernel_rfl) ?_
  refine tr_sr hT hm [] [0] [(0, .d (.pt (eXSetFunctor.b a0) 0))] .nil (by kernel_rfl) (by kernel_rfl) ?_
  refine tr_sr hT hm [] [0, 6] [(0, .d (.pt (eXSetFunctor.b a0) 0)), (6, .d (.pt (eXSetFunctor.b a0) 0))] .nil (by kernel_rfl) (by kernel_rfl) ?_
  refine tr_seq ?_
  obtain ⟨v1, hv1, hM⟩ := bind_some' hM
  rcases Bool.eq_false_or_eq_true v1 with h2 | h2
  · have hM := ite_true' hM h2
    rcases Bool.eq_false_or_eq_true ((a0.Sizes.length : Int) != a0.Shape.Objects) with h3 | h3
    · have hM := ite_true' hM h3
      refine tr_sr hT hm [(1, .call [] [] [.pt (eXCategory.b a0.Shape) 0] [] (bv v1)), (3, .val (bv false)), (15, .val (bv true))] [0, 6, 82] [(0, .d (.pt (eXSetFunctor.b a0) 0)), (6, .d (.pt (eXSetFunctor.b a0) 0)), (82, .d (bv true))] (cc (B := []) (ρ := []) (rB := []) ok56 (impl_Category_isCategory_c a0.Shape _ hv1) (.cons (.pass (.ptk (ds := eXSetFunctor.b a0) (ds' := eXCategory.b a0.Shape) (off := 0) (n := 5) (by kernel_rfl) (by kernel_rfl) (by kernel_rfl))) .nil) (.inl rfl) (.cons (congrArg (fun b => bv b) (congrArg not h2)) (.cons (congrArg (fun b => bv b) h3) .nil))) (by kernel_rfl) (by kernel_rfl) ?_
      refine tr_condT (by kernel_rfl) ?_
      refine tr_sr hT hm [] [4] [(4, .d (bv false))] .nil (by kernel_rfl) (by kernel_rfl) ?_
      refine tr_ret (q_r (rg_r ?_))
      obtain rfl := Option.some.inj hM
      exact retg (names := []) .nil (by kernel_rfl)
    · have hM := ite_false' hM h3
      obtain ⟨v4, hv4, hM⟩ := bind_some' hM
      rcases Bool.eq_false_or_eq_true v4 with h5 | h5
      · have hM := ite_true' hM h5
        obtain ⟨v6, hv6, hM⟩ := bind_some' hM
        refine tr_sr hT hm [(1, .call [] [] [.pt (eXCategory.b a0.Shape) 0] [] (bv v1)), (3, .val (bv false)), (15, .val (bv false)), (20, .call [] [] [.sl a0.Sizes.length 0 (a0.Sizes.flatMap eI.b), iv 17] [] (bv v4)), (23, .val (bv false)), (30, .call [] [] [.pt (eXCategory.b a0.Shape) 0] [] (iv v6))] [0, 6, 82] [(0, .d (.pt (eXSetFunctor.b a0) 0)), (6, .d (.pt (eXSetFunctor.b a0) 0)), (82, .d (bv ((a0.Actions.length : Int) != v6)))] (cc (B := []) (ρ := []) (rB := []) ok56 (impl_Category_isCategory_c a0.Shape _ hv1) (.cons (.pass (.ptk (ds := eXSetFunctor.b a0) (ds' := eXCategory.b a0.Shape) (off := 0) (n := 5) (by kernel_rfl) (by kernel_rfl) (by kernel_rfl))) .nil) (.inl rfl) (.cons (congrArg (fun b => bv b) (congrArg not h2)) (.cons (congrArg (fun b => bv b) h3) (cc0 ok113 (impl_within_c a0.Sizes 17 _ hv4) (by kernel_rfl) (.cons (congrArg (fun b => bv b) (congrArg not h5)) (cc (B := []) (ρ := []) (rB := []) ok114 (impl_Category_arrows_c a0.Shape _ hv6) (.cons (.pass (.ptk (ds := eXSetFunctor.b a0) (ds' := eXCategory.b a0.Shape) (off := 0) (n := 5) (by kernel_rfl) (by kernel_rfl) (by kernel_rfl))) .nil) (.inl rfl) .nil)))))) (by kernel_rfl) (by kernel_rfl) ?_
        rcases Bool.eq_false_or_eq_true ((a0.Actions.length : Int) != v6) with h7 | h7
        · have hM := ite_true' hM h7
          refine tr_condTe (e := (a0.Actions.length : Int) != v6) h7 (by kernel_rfl) ?_
          refine tr_sr hT hm [] [4] [(4, .d (bv false))] .nil (by kernel_rfl) (by kernel_rfl) ?_
          refine tr_ret (q_r (rg_r ?_))
          obtain rfl := Option.some.inj hM
          exact retg (names := []) .nil (by kernel_rfl)
        · have hM := ite_false' hM h7
          refine tr_condFe (e := (a0.Actions.length : Int) != v6) h7 (by kernel_rfl) ?_
          refine tr_skip (q_n ?_)
          refine tr_seq ?_
          refine tr_sr hT hm [] [0, 6, 90, 92, 94] [(0, .d (.pt (eXSetFunctor.b a0) 0)), (6, .d (.pt (eXSetFunctor.b a0) 0)), (90, .d (.sl a0.Actions.length 0 (a0.Actions.flatMap (eS eI).b))), (92, .d (iv (a0.Actions.length : Int))), (94, .d (iv 0))] .nil (by kernel_rfl) (by kernel_rfl) ?_
          refine tr_block ?_
          refine tr_iterS (fun (s8 : Int) => [(0, .d (.pt (eXSetFunctor.b a0) 0)), (6, .d (.pt (eXSetFunctor.b a0) 0)), (90, .d (.sl a0.Actions.length 0 (a0.Actions.flatMap (eS eI).b))), (92, .d (iv (a0.Actions.length : Int))), (94, .d (iv s8))]) 0 [0, 6, 90, 92, 94] (by kernel_rfl) hM ?_
          intro n11 next9 ih10 s8 hM
          refine tr_sr hT hm [] [0, 6, 90, 92, 94, 96] [(0, .d (.pt (eXSetFunctor.b a0) 0)), (6, .d (.pt (eXSetFunctor.b a0) 0)), (90, .d (.sl a0.Actions.length 0 (a0.Actions.flatMap (eS eI).b))), (92, .d (iv (a0.Actions.length : Int))), (94, .d (iv s8)), (96, .d (bv (decide (s8 < (a0.Actions.length : Int)))))] .nil (by kernel_rfl) (by kernel_rfl) ?_
          refine tr_seq ?_
          rcases Bool.eq_false_or_eq_true (decide (s8 < (a0.Actions.length : Int))) with h12 | h12
          · have hM := ite_true' hM h12
            refine tr_condTe (e := decide (s8 < (a0.Actions.length : Int))) h12 (by kernel_rfl) ?_
            refine tr_skip (q_n ?_)
            refine tr_seq ?_
            refine tr_block ?_
            obtain ⟨y13, hy13, hM⟩ := bind_some' hM
            have hy13' := idx_some hy13
            refine tr_sr hT hm [(2, .val (.sl y13.length 0 (y13.flatMap eI.b)))] [0, 6, 8, 10, 90, 92, 94] [(0, .d (.pt (eXSetFunctor.b a0) 0)), (6, .d (.pt (eXSetFunctor.b a0) 0)), (8, .d (iv s8)), (10, .d (.sl y13.length 0 (y13.flatMap eI.b))), (90, .d (.sl a0.Actions.length 0 (a0.Actions.flatMap (eS eI).b))), (92, .d (iv (a0.Actions.length : Int))), (94, .d (iv s8))] (.cons hy13'.1 (.cons hy13'.2.1 (.cons (at_b0 (eS_ok eI_ok) hy13'.2.2 (d := .sl y13.length 0 (y13.flatMap eI.b)) (by kernel_rfl)) .nil))) (by kernel_rfl) (by kernel_rfl) ?_
            obtain ⟨y14, hy14, hM⟩ := bind_some' hM
            have hy14' := idx_some hy14
            obtain ⟨y15, hy15, hM⟩ := bind_some' hM
            have hy15' := idx_some hy15
            obtain ⟨y16, hy16, hM⟩ := bind_some' hM
            have hy16' := idx_some hy16
            obtain ⟨y17, hy17, hM⟩ := bind_some' hM
            have hy17' := idx_some hy17
            obtain ⟨v18, hv18, hM⟩ := bind_some' hM
            refine tr_sr hT hm [(11, .val (iv y14)), (13, .val (iv y15)), (24, .val (iv y16)), (26, .val (iv y17)), (27, .call [] [] [.sl y13.length 0 (y13.flatMap eI.b), iv y15, iv y17] [] (bv v18))] [0, 6, 90, 92, 94, 160] [(0, .d (.pt (eXSetFunctor.b a0) 0)), (6, .d (.pt (eXSetFunctor.b a0) 0)), (90, .d (.sl a0.Actions.length 0 (a0.Actions.flatMap (eS eI).b))), (92, .d (iv (a0.Actions.length : Int))), (94, .d (iv s8)), (160, .d (bv (!v18)))] (.cons hy14'.1 (.cons hy14'.2.1 (.cons (at_b0 eI_ok hy14'.2.2 (d := iv y14) (by kernel_rfl)) (.cons hy15'.1 (.cons hy15'.2.1 (.cons (at_b0 eI_ok hy15'.2.2 (d := iv y15) (by kernel_rfl)) (.cons hy16'.1 (.cons hy16'.2.1 (.cons (at_b0 eI_ok hy16'.2.2 (d := iv y16) (by kernel_rfl)) (.cons hy17'.1 (.cons hy17'.2.1 (.cons (at_b0 eI_ok hy17'.2.2 (d := iv y17) (by kernel_rfl)) (cc0 ok115 (impl_isMapOf_c y13 y15 y17 _ hv18) (by kernel_rfl) .nil))))))))))))) (by kernel_rfl) (by kernel_rfl) ?_
            rcases Bool.eq_false_or_eq_true v18 with h19 | h19
            · have hM := ite_true' hM h19
              refine tr_condFe (e := !v18) (congrArg not h19) (by kernel_rfl) ?_
              refine tr_skip (b_n (q_n ?_))
              refine tr_r hT hm [] [0, 6, 90, 92, 94] [(0, .d (.pt (eXSetFunctor.b a0) 0)), (6, .d (.pt (eXSetFunctor.b a0) 0)), (90, .d (.sl a0.Actions.length 0 (a0.Actions.flatMap (eS eI).b))), (92, .d (iv (a0.Actions.length : Int))), (94, .d (iv (IntKind.i64.wrap (s8 + 1))))] .nil (by kernel_rfl) (by kernel_rfl) (l_n ?_)
              exact trl_start (ks := [0, 6, 90, 92, 94]) (by kernel_rfl) (ih10 (IntKind.i64.wrap (s8 + 1)) hM)
            · have hM := ite_false' hM h19
              refine tr_condTe (e := !v18) (congrArg not h19) (by kernel_rfl) ?_
              refine tr_sr hT hm [] [4] [(4, .d (bv false))] .nil (by kernel_rfl) (by kernel_rfl) ?_
              refine tr_ret (b_r (q_r (l_r (b_r (q_r (rg_r ?_))))))
              obtain rfl := Option.some.inj hM
              exact retg (names := []) .nil (by kernel_rfl)
          · have hM := ite_false' hM h12
            refine tr_condFe (e := decide (s8 < (a0.Actions.length : Int))) h12 (by kernel_rfl) ?_
            refine tr_exit (q_x (l_x (b_h (q_n ?_))))
            refine tr_sr hT hm [] [4] [(4, .d (bv true))] .nil (by kernel_rfl) (by kernel_rfl) ?_
            refine tr_ret (rg_r ?_)
            obtain rfl := Option.some.inj hM
            exact retg (names := []) .nil (by kernel_rfl)
      · have hM := ite_false' hM h5
        refine tr_sr hT hm [(1, .call [] [] [.pt (eXCategory.b a0.Shape) 0] [] (bv v1)), (3, .val (bv false)), (15, .val (bv false)), (20, .call [] [] [.sl a0.Sizes.length 0 (a0.Sizes.flatMap eI.b), iv 17] [] (bv v4)), (23, .val (bv true))] [0, 6, 82] [(0, .d (.pt (eXSetFunctor.b a0) 0)), (6, .d (.pt (eXSetFunctor.b a0) 0)), (82, .d (bv true))] (cc (B := []) (ρ := []) (rB := []) ok56 (impl_Category_isCategory_c a0.Shape _ hv1) (.cons (.pass (.ptk (ds := eXSetFunctor.b a0) (ds' := eXCategory.b a0.Shape) (off := 0) (n := 5) (by kernel_rfl) (by kernel_rfl) (by kernel_rfl))) .nil) (.inl rfl) (.cons (congrArg (fun b => bv b) (congrArg not h2)) (.cons (congrArg (fun b => bv b) h3) (cc0 ok113 (impl_within_c a0.Sizes 17 _ hv4) (by kernel_rfl) (.cons (congrArg (fun b => bv b) (congrArg not h5)) .nil))))) (by kernel_rfl) (by kernel_rfl) ?_
        refine tr_condT (by kernel_rfl) ?_
        refine tr_sr hT hm [] [4] [(4, .d (bv false))] .nil (by kernel_rfl) (by kernel_rfl) ?_
        refine tr_ret (q_r (rg_r ?_))
        obtain rfl := Option.some.inj hM
        exact retg (names := []) .nil (by kernel_rfl)
  · have hM := ite_false' hM h2
    refine tr_sr hT hm [(1, .call [] [] [.pt (eXCategory.b a0.Shape) 0] [] (bv v1)), (3, .val (bv true))] [0, 6, 82] [(0, .d (.pt (eXSetFunctor.b a0) 0)), (6, .d (.pt (eXSetFunctor.b a0) 0)), (82, .d (bv true))] (cc (B := []) (ρ := []) (rB := []) ok56 (impl_Category_isCategory_c a0.Shape _ hv1) (.cons (.pass (.ptk (ds := eXSetFunctor.b a0) (ds' := eXCategory.b a0.Shape) (off := 0) (n := 5) (by kernel_rfl) (by kernel_rfl) (by kernel_rfl))) .nil) (.inl rfl) (.cons (congrArg (fun b => bv b) (congrArg not h2)) .nil)) (by kernel_rfl) (by kernel_rfl) ?_
    refine tr_condT (by kernel_rfl) ?_
    refine tr_sr hT hm [] [4] [(4, .d (bv false))] .nil (by kernel_rfl) (by kernel_rfl) ?_
    refine tr_ret (q_r (rg_r ?_))
    obtain rfl := Option.some.inj hM
    exact retg (names := []) .nil (by kernel_rfl)

theorem ok68 : CallOk Try.prog 68 := callOk_of Try.func68 (by kernel_rfl) (by kernel_rfl)
theorem impl_SetFunctor_fault_c (a0 : XSetFunctor) (r : Int × Int × Int × Int) (hM : M.impl_SetFunctor_fault a0 = some r) :
    FnC Try.prog 68 [] [.pt (eXSetFunctor.b a0) 0] [] (.tup [iv r.1, iv r.2.1, iv r.2.2.1, iv r.2.2.2]) := by
  refine fnc_startG (N := 109) (np := 500) hT Try.func68 rfl rfl (by kernel_rfl) ?_
  unfold M.impl_SetFunctor_fault at hM
  refine tr_start (ks := [0]) (st' := [(0, .d (.pt (eXSetFunctor.b a0) 0))]) (by kernel_rfl) ?_
  refine tr_sr hT hm [] [0] [(0, .d (.pt (eXSetFunctor.b a0) 0))] .nil (by kernel_rfl) (by kernel_rfl) ?_
  refine tr_sr hT hm [] [0, 12] [(0, .d (.pt (eXSetFunctor.b a0) 0)), (12, .d (.pt (eXSetFunctor.b a0) 0))] .nil (by kernel_rfl) (by kernel_rfl) ?_
  refine tr_seq ?_
  refine tr_sr hT hm [] [0, 12, 46, 48, 50] [(0, .d (.pt (eXSetFunctor.b a0) 0)), (12, .d (.pt (eXSetFunctor.b a0) 0)), (46, .d (.sl a0.Shape.Identity.length 0 (a0.Shape.Identity.flatMap eI.b))), (48, .d (iv (a0.Shape.Identity.length : Int))), (50, .d (iv 0))] .nil (by kernel_rfl) (by kernel_rfl) ?_
  refine tr_block ?_
  refine tr_iterS (fun (s1 : Int) => [(0, .d (.pt (eXSetFunctor.b a0) 0)), (12, .d (.pt (eXSetFunctor.b a0) 0)), (46, .d (.sl a0.Shape.Identity.length 0 (a0.Shape.Identity.flatMap eI.b))), (48, .d (iv (a0.Shape.Identity.length : Int))), (50, .d (iv s1))]) 0 [0, 12, 46, 48, 50] (by kernel_rfl) hM ?_
  intro n4 next2 ih3 s1 hM
  refine tr_sr hT hm [] [0, 12, 46, 48, 50, 52] [(0, .d (.pt (eXSetFunctor.b a0) 0)), (12, .d (.pt (eXSetFunctor.b a0) 0)), (46, .d (.sl a0.Shape.Identity.length 0 (a0.Shape.Identity.flatMap eI.b))), (48, .d (iv (a0.Shape.Identity.length : Int))), (50, .d (iv s1)), (52, .d (bv (decide (s1 < (a0.Shape.Identity.length : Int)))))] .nil (by kernel_rfl) (by kernel_rfl) ?_
  refine tr_seq ?_
  rcases Bool.eq_false_or_eq_true (decide (s1 < (a0.Shape.Identity.length : Int))) with h5 | h5
  · have hM := ite_true' hM h5
    refine tr_condTe (e := decide (s1 < (a0.Shape.Identity.length : Int))) h5 (by kernel_rfl) ?_
    refine tr_skip (q_n ?_)
    refine tr_seq ?_
    refine tr_block ?_
    obtain ⟨y6, hy6, hM⟩ := bind_some' hM
    have hy6' := idx_some hy6
    refine tr_sr hT hm [(2, .val (iv y6))] [0, 12, 14, 16, 46, 48, 50] [(0, .d (.pt (eXSetFunctor.b a0) 0)), (12, .d (.pt (eXSetFunctor.b a0) 0)), (14, .d (iv s1)), (16, .d (iv y6)), (46, .d (.sl a0.Shape.Identity.length 0 (a0.Shape.Identity.flatMap eI.b))), (48, .d (iv (a0.Shape.Identity.length : Int))), (50, .d (iv s1))] (.cons hy6'.1 (.cons hy6'.2.1 (.cons (at_b0 eI_ok hy6'.2.2 (d := iv y6) (by kernel_rfl)) .nil))) (by kernel_rfl) (by kernel_rfl) ?_
    obtain ⟨y7, hy7, hM⟩ := bind_some' hM
    have hy7' := idx_some hy7
    refine tr_sr hT hm [(6, .val (.sl y7.length 0 (y7.flatMap eI.b)))] [0, 12, 14, 46, 48, 50, 72, 74, 76] [(0, .d (.pt (eXSetFunctor.b a0) 0)), (12, .d (.pt (eXSetFunctor.b a0) 0)), (14, .d (iv s1)), (46, .d (.sl a0.Shape.Identity.length 0 (a0.Shape.Identity.flatMap eI.b))), (48, .d (iv (a0.Shape.Identity.length : Int))), (50, .d (iv s1)), (72, .d (.sl y7.length 0 (y7.flatMap eI.b))), (74, .d (iv (y7.length : Int))), (76, .d (iv 0))] (.cons hy7'.1 (.cons hy7'.2.1 (.cons (at_b0 (eS_ok eI_ok) hy7'.2.2 (d := .sl y7.length 0 (y7.flatMap eI.b)) (by kernel_rfl)) .nil))) (by kernel_rfl) (by kernel_rfl) ?_
    refine tr_block ?_
    refine tr_iterS (fun (s8 : Int) => [(0, .d (.pt (eXSetFunctor.b a0) 0)), (12, .d (.pt (eXSetFunctor.b a0) 0)), (14, .d (iv s1)), (46, .d (.sl a0.Shape.Identity.length 0 (a0.Shape.Identity.flatMap eI.b))), (48, .d (iv (a0.Shape.Identity.length : Int))), (50, .d (iv s1)), (72, .d (.sl y7.length 0 (y7.flatMap eI.b))), (74, .d (iv (y7.length : Int))), (76, .d (iv s8))]) 0 [0, 12, 14, 46, 48, 50, 72, 74, 76] (by kernel_rfl) hM ?_
    intro n11 next9 ih10 s8 hM
    refine tr_sr hT hm [] [0, 12, 14, 46, 48, 50, 72, 74, 76, 78] [(0, .d (.pt (eXSetFunctor.b a0) 0)), (12, .d (.pt (eXSetFunctor.b a0) 0)), (14, .d (iv s1)), (46, .d (.sl a0.Shape.Identity.length 0 (a0.Shape.Identity.flatMap eI.b))), (48, .d (iv (a0.Shape.Identity.length : Int))), (50, .d (iv s1)), (72, .d (.sl y7.length 0 (y7.flatMap eI.b))), (74, .d (iv (y7.length : Int))), (76, .d (iv s8)), (78, .d (bv (decide (s8 < (y7.length : Int)))))] .nil (by kernel_rfl) (by kernel_rfl) ?_
    refine tr_seq ?_
    rcases Bool.eq_false_or_eq_true (decide (s8 < (y7.length : Int))) with h12 | h12
    · have hM := ite_true' hM h12
      refine tr_condTe (e := decide (s8 < (y7.length : Int))) h12 (by kernel_rfl) ?_
      refine tr_skip (q_n ?_)
      refine tr_seq ?_
      refine tr_block ?_
      obtain ⟨y13, hy13, hM⟩ := bind_some' hM
      have hy13' := idx_some hy13
      refine tr_sr hT hm [(2, .val (iv y13))] [0, 12, 14, 18, 20, 46, 48, 50, 72, 74, 76] [(0, .d (.pt (eXSetFunctor.b a0) 0)), (12, .d (.pt (eXSetFunctor.b a0) 0)), (14, .d (iv s1)), (18, .d (iv s8)), (20, .d (iv y13)), (46, .d (.sl a0.Shape.Identity.length 0 (a0.Shape.Identity.flatMap eI.b))), (48, .d (iv (a0.Shape.Identity.length : Int))), (50, .d (iv s1)), (72, .d (.sl y7.length 0 (y7.flatMap eI.b))), (74, .d (iv (y7.length : Int))), (76, .d (iv s8))] (.cons hy13'.1 (.cons hy13'.2.1 (.cons (at_b0 eI_ok hy13'.2.2 (d := iv y13) (by kernel_rfl)) .nil))) (by kernel_rfl) (by kernel_rfl) ?_
      refine tr_sr hT hm [] [0, 12, 14, 18, 46, 48, 50, 72, 74, 76, 90] [(0, .d (.pt (eXSetFunctor.b a0) 0)), (12, .d (.pt (eXSetFunctor.b a0) 0)), (14, .d (iv s1)), (18, .d (iv s8)), (46, .d (.sl a0.Shape.Identity.length 0 (a0.Shape.Identity.flatMap eI.b))), (48, .d (iv (a0.Shape.Identity.length : Int))), (50, .d (iv s1)), (72, .d (.sl y7.length 0 (y7.flatMap eI.b))), (74, .d (iv (y7.length : Int))), (76, .d (iv s8)), (90, .d (bv (y13 != s8)))] .nil (by kernel_rfl) (by kernel_rfl) ?_
      rcases Bool.eq_false_or_eq_true (y13 != s8) with h14 | h14
      · have hM := ite_true' hM h14
        refine tr_condTe (e := y13 != s8) h14 (by kernel_rfl) ?_
        refine tr_sr hT hm [] [4, 6, 8, 10] [(4, .d (iv 1)), (6, .d (iv s1)), (8, .d (iv s8)), (10, .d (iv 0))] .nil (by kernel_rfl) (by kernel_rfl) ?_
        refine tr_ret (b_r (q_r (l_r (b_r (b_r (q_r (l_r (b_r (q_r (rg_r ?_))))))))))
        obtain rfl := Option.some.inj hM
        exact retg (names := []) .nil (by kernel_rfl)
      · have hM := ite_false' hM h14
        refine tr_condFe (e := y13 != s8) h14 (by kernel_rfl) ?_
        refine tr_skip (b_n (q_n ?_))
        refine tr_r hT hm [] [0, 12, 14, 46, 48, 50, 72, 74, 76] [(0, .d (.pt (eXSetFunctor.b a0) 0)), (12, .d (.pt (eXSetFunctor.b a0) 0)), (14, .d (iv s1)), (46, .d (.sl a0.Shape.Identity.length 0 (a0.Shape.Identity.flatMap eI.b))), (48, .d (iv (a0.Shape.Identity.length : Int))), (50, .d (iv s1)), (72, .d (.sl y7.length 0 (y7.flatMap eI.b))), (74, .d (iv (y7.length : Int))), (76, .d (iv (IntKind.i64.wrap (s8 + 1))))] .nil (by kernel_rfl) (by kernel_rfl) (l_n ?_)
        exact trl_start (ks := [0, 12, 14, 46, 48, 50, 72, 74, 76]) (by kernel_rfl) (ih10 (IntKind.i64.wrap (s8 + 1)) hM)
    · have hM := ite_false' hM h12
      refine tr_condFe (e := decide (s8 < (y7.length : Int))) h12 (by kernel_rfl) ?_
      refine tr_exit (q_x (l_x (b_h (b_n (q_n ?_)))))
      refine tr_r hT hm [] [0, 12, 46, 48, 50] [(0, .d (.pt (eXSetFunctor.b a0) 0)), (12, .d (.pt (eXSetFunctor.b a0) 0)), (46, .d (.sl a0.Shape.Identity.length 0 (a0.Shape.Identity.flatMap eI.b))), (48, .d (iv (a0.Shape.Identity.length : Int))), (50, .d (iv (IntKind.i64.wrap (s1 + 1))))] .nil (by kernel_rfl) (by kernel_rfl) (l_n ?_)
      exact trl_start (ks := [0, 12, 46, 48, 50]) (by kernel_rfl) (ih3 (IntKind.i64.wrap (s1 + 1)) hM)
  · have hM := ite_false' hM h5
    refine tr_condFe (e := decide (s1 < (a0.Shape.Identity.length : Int))) h5 (by kernel_rfl) ?_
    refine tr_exit (q_x (l_x (b_h (q_n ?_))))
    refine tr_seq ?_
    refine tr_sr hT hm [] [0, 106, 108, 110] [(0, .d (.pt (eXSetFunctor.b a0) 0)), (106, .d (.sl a0.Shape.Composites.length 0 (a0.Shape.Composites.flatMap (eS eI).b))), (108, .d (iv (a0.Shape.Composites.length : Int))), (110, .d (iv 0))] .nil (by kernel_rfl) (by kernel_rfl) ?_
    refine tr_block ?_
    refine tr_iterS (fun (s15 : Int) => [(0, .d (.pt (eXSetFunctor.b a0) 0)), (106, .d (.sl a0.Shape.Composites.length 0 (a0.Shape.Composites.flatMap (eS eI).b))), (108, .d (iv (a0.Shape.Composites.length : Int))), (110, .d (iv s15))]) 0 [0, 106, 108, 110] (by kernel_rfl) hM ?_
    intro n18 next16 ih17 s15 hM
    refine tr_sr hT hm [] [0, 106, 108, 110, 112] [(0, .d (.pt (eXSetFunctor.b a0) 0)), (106, .d (.sl a0.Shape.Composites.length 0 (a0.Shape.Composites.flatMap (eS eI).b))), (108, .d (iv (a0.Shape.Composites.length : Int))), (110, .d (iv s15)), (112, .d (bv (decide (s15 < (a0.Shape.Composites.length : Int)))))] .nil (by kernel_rfl) (by kernel_rfl) ?_
    refine tr_seq ?_
    rcases Bool.eq_false_or_eq_true (decide (s15 < (a0.Shape.Composites.length : Int))) with h19 | h19
    · have hM := ite_true' hM h19
      refine tr_condTe (e := decide (s15 < (a0.Shape.Composites.length : Int))) h19 (by kernel_rfl) ?_
      refine tr_skip (q_n ?_)
      refine tr_seq ?_
      refine tr_block ?_
      obtain ⟨y20, hy20, hM⟩ := bind_some' hM
      have hy20' := idx_some hy20
      refine tr_sr hT hm [(2, .val (.sl y20.length 0 (y20.flatMap eI.b)))] [0, 22, 24, 106, 108, 110] [(0, .d (.pt (eXSetFunctor.b a0) 0)), (22, .d (iv s15)), (24, .d (.sl y20.length 0 (y20.flatMap eI.b))), (106, .d (.sl a0.Shape.Composites.length 0 (a0.Shape.Composites.flatMap (eS eI).b))), (108, .d (iv (a0.Shape.Composites.length : Int))), (110, .d (iv s15))] (.cons hy20'.1 (.cons hy20'.2.1 (.cons (at_b0 (eS_ok eI_ok) hy20'.2.2 (d := .sl y20.length 0 (y20.flatMap eI.b)) (by kernel_rfl)) .nil))) (by kernel_rfl) (by kernel_rfl) ?_
      refine tr_sr hT hm [] [0, 22, 106, 108, 110, 120, 122, 124] [(0, .d (.pt (eXSetFunctor.b a0) 0)), (22, .d (iv s15)), (106, .d (.sl a0.Shape.Composites.length 0 (a0.Shape.Composites.flatMap (eS eI).b))), (108, .d (iv (a0.Shape.Composites.length : Int))), (110, .d (iv s15)), (120, .d (.sl y20.length 0 (y20.flatMap eI.b))), (122, .d (iv (y20.length : Int))), (124, .d (iv 0))] .nil (by kernel_rfl) (by kernel_rfl) ?_
      refine tr_block ?_
      refine tr_iterS (fun (s21 : Int) => [(0, .d (.pt (eXSetFunctor.b a0) 0)), (22, .d (iv s15)), (106, .d (.sl a0.Shape.Composites.length 0 (a0.Shape.Composites.flatMap (eS eI).b))), (108, .d (iv (a0.Shape.Composites.length : Int))), (110, .d (iv s15)), (120, .d (.sl y20.length 0 (y20.flatMap eI.b))), (122, .d (iv (y20.length : Int))), (124, .d (iv s21))]) 0 [0, 22, 106, 108, 110, 120, 122, 124] (by kernel_rfl) hM ?_
      intro n24 next22 ih23 s21 hM
      refine tr_sr hT hm [] [0, 22, 106, 108, 110, 120, 122, 124, 126] [(0, .d (.pt (eXSetFunctor.b a0) 0)), (22, .d (iv s15)), (106, .d (.sl a0.Shape.Composites.length 0 (a0.Shape.Composites.flatMap (eS eI).b))), (108, .d (iv (a0.Shape.Composites.length : Int))), (110, .d (iv s15)), (120, .d (.sl y20.length 0 (y20.flatMap eI.b))), (122, .d (iv (y20.length : Int))), (124, .d (iv s21)), (126, .d (bv (decide (s21 < (y20.length : Int)))))] .nil (by kernel_rfl) (by kernel_rfl) ?_
      refine tr_seq ?_
      rcases Bool.eq_false_or_eq_true (decide (s21 < (y20.length : Int))) with h25 | h25
      · have hM := ite_true' hM h25
        refine tr_condTe (e := decide (s21 < (y20.length : Int))) h25 (by kernel_rfl) ?_
        refine tr_skip (q_n ?_)
        refine tr_seq ?_
        refine tr_block ?_
        obtain ⟨y26, hy26, hM⟩ := bind_some' hM
        have hy26' := idx_some hy26
        refine tr_sr hT hm [(2, .val (iv y26))] [0, 22, 26, 28, 106, 108, 110, 120, 122, 124] [(0, .d (.pt (eXSetFunctor.b a0) 0)), (22, .d (iv s15)), (26, .d (iv s21)), (28, .d (iv y26)), (106, .d (.sl a0.Shape.Composites.length 0 (a0.Shape.Composites.flatMap (eS eI).b))), (108, .d (iv (a0.Shape.Composites.length : Int))), (110, .d (iv s15)), (120, .d (.sl y20.length 0 (y20.flatMap eI.b))), (122, .d (iv (y20.length : Int))), (124, .d (iv s21))] (.cons hy26'.1 (.cons hy26'.2.1 (.cons (at_b0 eI_ok hy26'.2.2 (d := iv y26) (by kernel_rfl)) .nil))) (by kernel_rfl) (by kernel_rfl) ?_
        refine tr_seq ?_
        refine tr_sr hT hm [] [0, 22, 26, 28, 106, 108, 110, 120, 122, 124, 136] [(0, .d (.pt (eXSetFunctor.b a0) 0)), (22, .d (iv s15)), (26, .d (iv s21)), (28, .d (iv y26)), (106, .d (.sl a0.Shape.Composites.length 0 (a0.Shape.Composites.flatMap (eS eI).b))), (108, .d (iv (a0.Shape.Composites.length : Int))), (110, .d (iv s15)), (120, .d (.sl y20.length 0 (y20.flatMap eI.b))), (122, .d (iv (y20.length : Int))), (124, .d (iv s21)), (136, .d (bv (decide (y26 < 0))))] .nil (by kernel_rfl) (by kernel_rfl) ?_
        rcases Bool.eq_false_or_eq_true (decide (y26 < 0)) with h27 | h27
        · have hM := ite_true' hM h27
          refine tr_condTe (e := decide (y26 < 0)) h27 (by kernel_rfl) ?_
          refine tr_exit (q_x (b_h (q_n ?_)))
          refine tr_r hT hm [] [0, 22, 106, 108, 110, 120, 122, 124] [(0, .d (.pt (eXSetFunctor.b a0) 0)), (22, .d (iv s15)), (106, .d (.sl a0.Shape.Composites.length 0 (a0.Shape.Composites.flatMap (eS eI).b))), (108, .d (iv (a0.Shape.Composites.length : Int))), (110, .d (iv s15)), (120, .d (.sl y20.length 0 (y20.flatMap eI.b))), (122, .d (iv (y20.length : Int))), (124, .d (iv (IntKind.i64.wrap (s21 + 1))))] .nil (by kernel_rfl) (by kernel_rfl) (l_n ?_)
          exact trl_start (ks := [0, 22, 106, 108, 110, 120, 122, 124]) (by kernel_rfl) (ih23 (IntKind.i64.wrap (s21 + 1)) hM)
        · have hM := ite_false' hM h27
          refine tr_condFe (e := decide (y26 < 0)) h27 (by kernel_rfl) ?_
          refine tr_skip (q_n ?_)
          obtain ⟨y28, hy28, hM⟩ := bind_some' hM
          have hy28' := idx_some hy28
          refine tr_sr hT hm [(6, .val (.sl y28.length 0 (y28.flatMap eI.b)))] [0, 22, 26, 28, 106, 108, 110, 120, 122, 124, 150, 152, 154] [(0, .d (.pt (eXSetFunctor.b a0) 0)), (22, .d (iv s15)), (26, .d (iv s21)), (28, .d (iv y26)), (106, .d (.sl a0.Shape.Composites.length 0 (a0.Shape.Composites.flatMap (eS eI).b))), (108, .d (iv (a0.Shape.Composites.length : Int))), (110, .d (iv s15)), (120, .d (.sl y20.length 0 (y20.flatMap eI.b))), (122, .d (iv (y20.length : Int))), (124, .d (iv s21)), (150, .d (.sl y28.length 0 (y28.flatMap eI.b))), (152, .d (iv (y28.length : Int))), (154, .d (iv 0))] (.cons hy28'.1 (.cons hy28'.2.1 (.cons (at_b0 (eS_ok eI_ok) hy28'.2.2 (d := .sl y28.length 0 (y28.flatMap eI.b)) (by kernel_rfl)) .nil))) (by kernel_rfl) (by kernel_rfl) ?_
          refine tr_block ?_
          refine tr_iterS (fun (s29 : Int) => [(0, .d (.pt (eXSetFunctor.b a0) 0)), (22, .d (iv s15)), (26, .d (iv s21)), (28, .d (iv y26)), (106, .d (.sl a0.Shape.Composites.length 0 (a0.Shape.Composites.flatMap (eS eI).b))), (108, .d (iv (a0.Shape.Composites.length : Int))), (110, .d (iv s15)), (120, .d (.sl y20.length 0 (y20.flatMap eI.b))), (122, .d (iv (y20.length : Int))), (124, .d (iv s21)), (150, .d (.sl y28.length 0 (y28.flatMap eI.b))), (152, .d (iv (y28.length : Int))), (154, .d (iv s29))]) 0 [0, 22, 26, 28, 106, 108, 110, 120, 122, 124, 150, 152, 154] (by kernel_rfl) hM ?_
          intro n32 next30 ih31 s29 hM
          refine tr_sr hT hm [] [0, 22, 26, 28, 106, 108, 110, 120, 122, 124, 150, 152, 154, 156] [(0, .d (.pt (eXSetFunctor.b a0) 0)), (22, .d (iv s15)), (26, .d (iv s21)), (28, .d (iv y26)), (106, .d (.sl a0.Shape.Composites.length 0 (a0.Shape.Composites.flatMap (eS eI).b))), (108, .d (iv (a0.Shape.Composites.length : Int))), (110, .d (iv s15)), (120, .d (.sl y20.length 0 (y20.flatMap eI.b))), (122, .d (iv (y20.length : Int))), (124, .d (iv s21)), (150, .d (.sl y28.length 0 (y28.flatMap eI.b))), (152, .d (iv (y28.length : Int))), (154, .d (iv s29)), (156, .d (bv (decide (s29 < (y28.length : Int)))))] .nil (by kernel_rfl) (by kernel_rfl) ?_
          refine tr_seq ?_
          rcases Bool.eq_false_or_eq_true (decide (s29 < (y28.length : Int))) with h33 | h33
          · have hM := ite_true' hM h33
            refine tr_condTe (e := decide (s29 < (y28.length : Int))) h33 (by kernel_rfl) ?_
            refine tr_skip (q_n ?_)
            refine tr_seq ?_
            refine tr_block ?_
            obtain ⟨y34, hy34, hM⟩ := bind_some' hM
            have hy34' := idx_some hy34
            refine tr_sr hT hm [(2, .val (iv y34))] [0, 22, 26, 28, 30, 32, 106, 108, 110, 120, 122, 124, 150, 152, 154] [(0, .d (.pt (eXSetFunctor.b a0) 0)), (22, .d (iv s15)), (26, .d (iv s21)), (28, .d (iv y26)), (30, .d (iv s29)), (32, .d (iv y34)), (106, .d (.sl a0.Shape.Composites.length 0 (a0.Shape.Composites.flatMap (eS eI).b))), (108, .d (iv (a0.Shape.Composites.length : Int))), (110, .d (iv s15)), (120, .d (.sl y20.length 0 (y20.flatMap eI.b))), (122, .d (iv (y20.length : Int))), (124, .d (iv s21)), (150, .d (.sl y28.length 0 (y28.flatMap eI.b))), (152, .d (iv (y28.length : Int))), (154, .d (iv s29))] (.cons hy34'.1 (.cons hy34'.2.1 (.cons (at_b0 eI_ok hy34'.2.2 (d := iv y34) (by kernel_rfl)) .nil))) (by kernel_rfl) (by kernel_rfl) ?_
            obtain ⟨y35, hy35, hM⟩ := bind_some' hM
            have hy35' := idx_some hy35
            obtain ⟨y36, hy36, hM⟩ := bind_some' hM
            have hy36' := idx_some hy36
            obtain ⟨y37, hy37, hM⟩ := bind_some' hM
            have hy37' := idx_some hy37
            obtain ⟨y38, hy38, hM⟩ := bind_some' hM
            have hy38' := idx_some hy38
            refine tr_sr hT hm [(6, .val (.sl y35.length 0 (y35.flatMap eI.b))), (9, .val (iv y36)), (16, .val (.sl y37.length 0 (y37.flatMap eI.b))), (19, .val (iv y38))] [0, 22, 26, 28, 30, 106, 108, 110, 120, 122, 124, 150, 152, 154, 204] [(0, .d (.pt (eXSetFunctor.b a0) 0)), (22, .d (iv s15)), (26, .d (iv s21)), (28, .d (iv y26)), (30, .d (iv s29)), (106, .d (.sl a0.Shape.Composites.length 0 (a0.Shape.Composites.flatMap (eS eI).b))), (108, .d (iv (a0.Shape.Composites.length : Int))), (110, .d (iv s15)), (120, .d (.sl y20.length 0 (y20.flatMap eI.b))), (122, .d (iv (y20.length : Int))), (124, .d (iv s21)), (150, .d (.sl y28.length 0 (y28.flatMap eI.b))), (152, .d (iv (y28.length : Int))), (154, .d (iv s29)), (204, .d (bv (y36 != y38)))] (.cons hy35'.1 (.cons hy35'.2.1 (.cons (at_b0 (eS_ok eI_ok) hy35'.2.2 (d := .sl y35.length 0 (y35.flatMap eI.b)) (by kernel_rfl)) (.cons hy36'.1 (.cons hy36'.2.1 (.cons (at_b0 eI_ok hy36'.2.2 (d := iv y36) (by kernel_rfl)) (.cons hy37'.1 (.cons hy37'.2.1 (.cons (at_b0 (eS_ok eI_ok) hy37'.2.2 (d := .sl y37.length 0 (y37.flatMap eI.b)) (by kernel_rfl)) (.cons hy38'.1 (.cons hy38'.2.1 (.cons (at_b0 eI_ok hy38'.2.2 (d := iv y38) (by kernel_rfl)) .nil)))))))))))) (by kernel_rfl) (by kernel_rfl) ?_
            rcases Bool.eq_false_or_eq_true (y36 != y38) with h39 | h39
            · have hM := ite_true' hM h39
              refine tr_condTe (e := y36 != y38) h39 (by kernel_rfl) ?_
              refine tr_sr hT hm [] [4, 6, 8, 10] [(4, .d (iv 2)), (6, .d (iv s15)), (8, .d (iv s21)), (10, .d (iv s29))] .nil (by kernel_rfl) (by kernel_rfl) ?_
              refine tr_ret (b_r (q_r (l_r (b_r (b_r (q_r (l_r (b_r (b_r (q_r (l_r (b_r (q_r (rg_r ?_))))))))))))))
              obtain rfl := Option.some.inj hM
              exact retg (names := []) .nil (by kernel_rfl)
            · have hM := ite_false' hM h39
              refine tr_condFe (e := y36 != y38) h39 (by kernel_rfl) ?_
              refine tr_skip (b_n (q_n ?_))
              refine tr_r hT hm [] [0, 22, 26, 28, 106, 108, 110, 120, 122, 124, 150, 152, 154] [(0, .d (.pt (eXSetFunctor.b a0) 0)), (22, .d (iv s15)), (26, .d (iv s21)), (28, .d (iv y26)), (106, .d (.sl a0.Shape.Composites.length 0 (a0.Shape.Composites.flatMap (eS eI).b))), (108, .d (iv (a0.Shape.Composites.length : Int))), (110, .d (iv s15)), (120, .d (.sl y20.length 0 (y20.flatMap eI.b))), (122, .d (iv (y20.length : Int))), (124, .d (iv s21)), (150, .d (.sl y28.length 0 (y28.flatMap eI.b))), (152, .d (iv (y28.length : Int))), (154, .d (iv (IntKind.i64.wrap (s29 + 1))))] .nil (by kernel_rfl) (by kernel_rfl) (l_n ?_)
              exact trl_start (ks := [0, 22, 26, 28, 106, 108, 110, 120, 122, 124, 150, 152, 154]) (by kernel_rfl) (ih31 (IntKind.i64.wrap (s29 + 1)) hM)
          · have hM := ite_false' hM h33
            refine tr_condFe (e := decide (s29 < (y28.length : Int))) h33 (by kernel_rfl) ?_
            refine tr_exit (q_x (l_x (b_h (b_n (q_n ?_)))))
            refine tr_r hT hm [] [0, 22, 106, 108, 110, 120, 122, 124] [(0, .d (.pt (eXSetFunctor.b a0) 0)), (22, .d (iv s15)), (106, .d (.sl a0.Shape.Composites.length 0 (a0.Shape.Composites.flatMap (eS eI).b))), (108, .d (iv (a0.Shape.Composites.length : Int))), (110, .d (iv s15)), (120, .d (.sl y20.length 0 (y20.flatMap eI.b))), (122, .d (iv (y20.length : Int))), (124, .d (iv (IntKind.i64.wrap (s21 + 1))))] .nil (by kernel_rfl) (by kernel_rfl) (l_n ?_)
            exact trl_start (ks := [0, 22, 106, 108, 110, 120, 122, 124]) (by kernel_rfl) (ih23 (IntKind.i64.wrap (s21 + 1)) hM)
      · have hM := ite_false' hM h25
        refine tr_condFe (e := decide (s21 < (y20.length : Int))) h25 (by kernel_rfl) ?_
        refine tr_exit (q_x (l_x (b_h (b_n (q_n ?_)))))
        refine tr_r hT hm [] [0, 106, 108, 110] [(0, .d (.pt (eXSetFunctor.b a0) 0)), (106, .d (.sl a0.Shape.Composites.length 0 (a0.Shape.Composites.flatMap (eS eI).b))), (108, .d (iv (a0.Shape.Composites.length : Int))), (110, .d (iv (IntKind.i64.wrap (s15 + 1))))] .nil (by kernel_rfl) (by kernel_rfl) (l_n ?_)
        exact trl_start (ks := [0, 106, 108, 110]) (by kernel_rfl) (ih17 (IntKind.i64.wrap (s15 + 1)) hM)
    · have hM := ite_false' hM h19
      refine tr_condFe (e := decide (s15 < (a0.Shape.Composites.length : Int))) h19 (by kernel_rfl) ?_
      refine tr_exit (q_x (l_x (b_h (q_n ?_))))
      refine tr_sr hT hm [] [4, 6, 8, 10] [(4, .d (iv 0)), (6, .d (iv 0)), (8, .d (iv 0)), (10, .d (iv 0))] .nil (by kernel_rfl) (by kernel_rfl) ?_
      refine tr_ret (rg_r ?_)
      obtain rfl := Option.some.inj hM
      exact retg (names := []) .nil (by kernel_rfl)

theorem ok35 : CallOk Try.prog 35 := callOk_of Try.func35 (by kernel_rfl) (by kernel_rfl)
theorem impl_SetFunctor_isSetFunctor_c (a0 : XSetFunctor) (r : Bool) (hM : M.impl_SetFunctor_isSetFunctor a0 = some r) :
    FnC Try.prog 35 [] [.pt (eXSetFunctor.b a0) 0] [] (bv r) := by
  refine fnc_startG (N := 19) (np := 500) hT Try.func35 rfl rfl (by kernel_rfl) ?_
  unfold M.impl_SetFunctor_isSetFunctor at hM
  refine tr_start (ks := [0]) (st' := [(0, .d (.pt (eXSetFunctor.b a0) 0))]) (by kernel_rfl) ?_
  refine tr_sr hT hm [] [0] [(0, .d (.pt (eXSetFunctor.b a0) 0))] .nil (by kernel_rfl) (by kernel_rfl) ?_
  refine tr_seq ?_
  obtain ⟨v1, hv1, hM⟩ := bind_some' hM
  refine tr_sr hT hm [(1, .call [] [] [.pt (eXSetFunctor.b a0) 0] [] (bv v1))] [0, 18] [(0, .d (.pt (eXSetFunctor.b a0) 0)), (18, .d (bv (!v1)))] (cc0 ok67 (impl_SetFunctor_isShape_c a0 _ hv1) (by kernel_rfl) .nil) (by kernel_rfl) (by kernel_rfl) ?_
  rcases Bool.eq_false_or_eq_true v1 with h2 | h2
  · have hM := ite_true' hM h2
    refine tr_condFe (e := !v1) (congrArg not h2) (by kernel_rfl) ?_
    refine tr_skip (q_n ?_)
    obtain ⟨v3, hv3, hM⟩ := bind_some' hM
    refine tr_sr hT hm [(1, .call [] [] [.pt (eXSetFunctor.b a0) 0] [] (.tup [iv v3.1, iv v3.2.1, iv v3.2.2.1, iv v3.2.2.2]))] [6] [(6, .d (iv v3.1))] (cc0 ok68 (impl_SetFunctor_fault_c a0 _ hv3) (by kernel_rfl) .nil) (by kernel_rfl) (by kernel_rfl) ?_
    refine tr_sr hT hm [] [4] [(4, .d (bv (v3.1 == 0)))] .nil (by kernel_rfl) (by kernel_rfl) ?_
    refine tr_ret (rg_r ?_)
    obtain rfl := Option.some.inj hM
    exact retg (names := []) .nil (by kernel_rfl)
  · have hM := ite_false' hM h2
    refine tr_condTe (e := !v1) (congrArg not h2) (by kernel_rfl) ?_
    refine tr_sr hT hm [] [4] [(4, .d (bv false))] .nil (by kernel_rfl) (by kernel_rfl) ?_
    refine tr_ret (q_r (rg_r ?_))
    obtain rfl := Option.some.inj hM
    exact retg (names := []) .nil (by kernel_rfl)

theorem ok11 : CallOk Try.prog 11 := callOk_of Try.func11 (by kernel_rfl) (by kernel_rfl)
theorem laws_eqSetFunctor_c (a0 : XSetFunctor) (a1 : XSetFunctor) (r : Bool) (hM : M.laws_eqSetFunctor a0 a1 = some r) :
    FnC Try.prog 11 [] [.agg (eXSetFunctor.b a0), .agg (eXSetFunctor.b a1)] [] (bv r) := by
  refine fnc_startG (N := 23) (np := 500) hT Try.func11 rfl rfl (by kernel_rfl) ?_
  unfold M.laws_eqSetFunctor at hM
  refine tr_start (ks := [0, 2]) (st' := [(0, .d (.agg (eXSetFunctor.b a0))), (2, .d (.agg (eXSetFunctor.b a1)))]) (by kernel_rfl) ?_
  refine tr_sr hT hm [] [4, 6, 2005, 2007] [(4, .d (.rp 1002 0)), (6, .d (.rp 1003 0)), bxB 2005 (eXSetFunctor.b a0), bxB 2007 (eXSetFunctor.b a1)] .nil (by kernel_rfl) (by kernel_rfl) ?_
  refine tr_seq ?_
  obtain ⟨v1, hv1, hM⟩ := bind_some' hM
  refine tr_sr hT hm [(4, .call [] [] [.agg (eXCategory.b a0.Shape), .agg (eXCategory.b a1.Shape)] [] (bv v1))] [4, 6, 20, 2005, 2007] [(4, .d (.rp 1002 0)), (6, .d (.rp 1003 0)), (20, .d (bv (!v1))), bxB 2005 (eXSetFunctor.b a0), bxB 2007 (eXSetFunctor.b a1)] (cc0 ok22 (laws_eqCategory_c a0.Shape a1.Shape _ hv1) (by kernel_rfl) .nil) (by kernel_rfl) (by kernel_rfl) ?_
  rcases Bool.eq_false_or_eq_true v1 with h2 | h2
  · have hM := ite_true' hM h2
    refine tr_condFe (e := !v1) (congrArg not h2) (by kernel_rfl) ?_
    refine tr_skip (q_n ?_)
    refine tr_seq ?_
    obtain ⟨v3, hv3, hM⟩ := bind_some' hM
    refine tr_sr hT hm [(4, .call [] [] [.sl a0.Sizes.length 0 (a0.Sizes.flatMap eI.b), .sl a1.Sizes.length 0 (a1.Sizes.flatMap eI.b)] [] (bv v3))] [4, 6, 32, 2005, 2007] [(4, .d (.rp 1002 0)), (6, .d (.rp 1003 0)), (32, .d (bv (!v3))), bxB 2005 (eXSetFunctor.b a0), bxB 2007 (eXSetFunctor.b a1)] (cc0 ok39 (laws_eqInt64S_c a0.Sizes a1.Sizes _ hv3) (by kernel_rfl) .nil) (by kernel_rfl) (by kernel_rfl) ?_
    rcases Bool.eq_false_or_eq_true v3 with h4 | h4
    · have hM := ite_true' hM h4
      refine tr_condFe (e := !v3) (congrArg not h4) (by kernel_rfl) ?_
      refine tr_skip (q_n ?_)
      refine tr_seq ?_
      obtain ⟨v5, hv5, hM⟩ := bind_some' hM
      refine tr_sr hT hm [(4, .call [] [] [.sl a0.Actions.length 0 (a0.Actions.flatMap (eS eI).b), .sl a1.Actions.length 0 (a1.Actions.flatMap (eS eI).b)] [] (bv v5))] [44] [(44, .d (bv (!v5)))] (cc0 ok40 (laws_eqInt64SS_c a0.Actions a1.Actions _ hv5) (by kernel_rfl) .nil) (by kernel_rfl) (by kernel_rfl) ?_
      rcases Bool.eq_false_or_eq_true v5 with h6 | h6
      · have hM := ite_true' hM h6
        refine tr_condFe (e := !v5) (congrArg not h6) (by kernel_rfl) ?_
        refine tr_skip (q_n ?_)
        refine tr_sr hT hm [] [8] [(8, .d (bv true))] .nil (by kernel_rfl) (by kernel_rfl) ?_
        refine tr_ret (rg_r ?_)
        obtain rfl := Option.some.inj hM
        exact retg (names := []) .nil (by kernel_rfl)
      · have hM := ite_false' hM h6
        refine tr_condTe (e := !v5) (congrArg not h6) (by kernel_rfl) ?_
        refine tr_sr hT hm [] [8] [(8, .d (bv false))] .nil (by kernel_rfl) (by kernel_rfl) ?_
        refine tr_ret (q_r (rg_r ?_))
        obtain rfl := Option.some.inj hM
        exact retg (names := []) .nil (by kernel_rfl)
    · have hM := ite_false' hM h4
      refine tr_condTe (e := !v3) (congrArg not h4) (by kernel_rfl) ?_
      refine tr_sr hT hm [] [8] [(8, .d (bv false))] .nil (by kernel_rfl) (by kernel_rfl) ?_
      refine tr_ret (q_r (rg_r ?_))
      obtain rfl := Option.some.inj hM
      exact retg (names := []) .nil (by kernel_rfl)
  · have hM := ite_false' hM h2
    refine tr_condTe (e := !v1) (congrArg not h2) (by kernel_rfl) ?_
    refine tr_sr hT hm [] [8] [(8, .d (bv false))] .nil (by kernel_rfl) (by kernel_rfl) ?_
    refine tr_ret (q_r (rg_r ?_))
    obtain rfl := Option.some.inj hM
    exact retg (names := []) .nil (by kernel_rfl)

theorem ok12 : CallOk Try.prog 12 := callOk_of Try.func12 (by kernel_rfl) (by kernel_rfl)
theorem laws_markSetFunctor_c (a0 : XSetFunctor) (a1 : Int) (r : Int × XSetFunctor) (hM : M.laws_markSetFunctor a0 a1 = some r) :
    FnC Try.prog 12 [(101, .arr 1 (a0.Shape.From.flatMap eI.o) []), (102, .arr 1 (a0.Shape.To.flatMap eI.o) []), (103, .arr 1 (a0.Shape.Identity.flatMap eI.o) []), (104, .arr 1 (a0.Shape.Composites.flatMap (eS eI).o) []), (105, .arr 1 (a0.Sizes.flatMap eI.o) []), (106, .arr 1 (a0.Actions.flatMap (eS eI).o) [])] [.agg [iv a0.Shape.Objects, .rs 101 0 a0.Shape.From.length, .rs 102 0 a0.Shape.To.length, .rs 103 0 a0.Shape.Identity.length, .rs 104 0 a0.Shape.Composites.length, .rs 105 0 a0.Sizes.length, .rs 106 0 a0.Actions.length], iv a1] [(101, .arr 1 (r.2.Shape.From.flatMap eI.o) []), (102, .arr 1 (r.2.Shape.To.flatMap eI.o) []), (103, .arr 1 (r.2.Shape.Identity.flatMap eI.o) []), (104, .arr 1 (r.2.Shape.Composites.flatMap (eS eI).o) []), (105, .arr 1 (r.2.Sizes.flatMap eI.o) []), (106, .arr 1 (r.2.Actions.flatMap (eS eI).o) [])] (iv r.1) := by
  refine fnc_startG (N := 18) (np := 500) hT Try.func12 rfl rfl (by kernel_rfl) ?_
  unfold M.laws_markSetFunctor at hM
  refine tr_start (ks := [0, 2, 203, 205, 207, 209, 211, 213]) (st' := ([(0, .d (.agg (rsC 100 (eXSetFunctor.o a0)))), (2, .d (iv a1))] ++ rsS 100 (eXSetFunctor.o a0))) (by kernel_rfl) ?_
  refine tr_sr hT hm [] [2, 4, 203, 205, 207, 209, 211, 213, 2005] ([(2, .d (iv a1)), (4, .d (.rp 1002 0))] ++ rsS 100 (eXSetFunctor.o a0) ++ [bxO 2005 100 (eXSetFunctor.o a0)]) .nil (by kernel_rfl) (by kernel_rfl) ?_
  obtain ⟨v1, hv1, hM⟩ := bind_some' hM
  refine tr_sr hT hm [(3, .call [] [(101, 101), (102, 102), (103, 103), (104, 104)] [.agg [iv a0.Shape.Objects, .rs 101 0 a0.Shape.From.length, .rs 102 0 a0.Shape.To.length, .rs 103 0 a0.Shape.Identity.length, .rs 104 0 a0.Shape.Composites.length], iv a1] [(101, .arr 1 (v1.2.From.flatMap eI.o) []), (102, .arr 1 (v1.2.To.flatMap eI.o) []), (103, .arr 1 (v1.2.Identity.flatMap eI.o) []), (104, .arr 1 (v1.2.Composites.flatMap (eS eI).o) [])] (iv v1.1))] [2, 4, 203, 205, 207, 209, 211, 213, 2005] [(2, .d (iv v1.1)), (4, .d (.rp 1002 0)), (203, .r (.arr 1 (v1.2.From.flatMap eI.o) [])), (205, .r (.arr 1 (v1.2.To.flatMap eI.o) [])), (207, .r (.arr 1 (v1.2.Identity.flatMap eI.o) [])), (209, .r (.arr 1 (v1.2.Composites.flatMap (eS eI).o) [])), (211, .r (.arr 1 (a0.Sizes.flatMap eI.o) [])), (213, .r (.arr 1 (a0.Actions.flatMap (eS eI).o) [])), bxO 2005 100 (eXSetFunctor.o a0)] (cc (B := []) (ρ := [(101, 101), (102, 102), (103, 103), (104, 104)]) (rB := []) ok26 (laws_markCategory_c a0.Shape a1 _ hv1) (.cons (.aggA (.cons (.same rfl) (.cons (.pass (.rs rfl)) (.cons (.pass (.rs rfl)) (.cons (.pass (.rs rfl)) (.cons (.pass (.rs rfl)) .nil)))))) (.cons (.same rfl) .nil)) (.inl rfl) .nil) (by kernel_rfl) (by kernel_rfl) ?_
  refine Tr.by (imp_cvB (r := 1002) (sz := 1) (cells := [iv a0.Shape.Objects, .rs 101 0 a0.Shape.From.length, .rs 102 0 a0.Shape.To.length, .rs 103 0 a0.Shape.Identity.length, .rs 104 0 a0.Shape.Composites.length, .rs 105 0 a0.Sizes.length, .rs 106 0 a0.Actions.length]) (cells' := [iv a0.Shape.Objects, .rs 101 0 v1.2.From.length, .rs 102 0 a0.Shape.To.length, .rs 103 0 a0.Shape.Identity.length, .rs 104 0 a0.Shape.Composites.length, .rs 105 0 a0.Sizes.length, .rs 106 0 a0.Actions.length]) (refs := [101, 102, 103, 104, 105, 106]) (refs' := [101, 102, 103, 104, 105, 106]) (.cons (.refl _) (.cons (Sub.of_eq (congrArg (D.rs 101 0) ((M.len_markCategory hv1).2.1 : a0.Shape.From.length = v1.2.From.length))) (.cons (.refl _) (.cons (.refl _) (.cons (.refl _) (.cons (.refl _) (.cons (.refl _) .nil))))))) (by kernel_rfl) (by kernel_rfl) (by kernel_rfl)) ?_
  refine Tr.by (imp_cvB (r := 1002) (sz := 1) (cells := [iv a0.Shape.Objects, .rs 101 0 v1.2.From.length, .rs 102 0 a0.Shape.To.length, .rs 103 0 a0.Shape.Identity.length, .rs 104 0 a0.Shape.Composites.length, .rs 105 0 a0.Sizes.length, .rs 106 0 a0.Actions.length]) (cells' := [iv a0.Shape.Objects, .rs 101 0 v1.2.From.length, .rs 102 0 v1.2.To.length, .rs 103 0 a0.Shape.Identity.length, .rs 104 0 a0.Shape.Composites.length, .rs 105 0 a0.Sizes.length, .rs 106 0 a0.Actions.length]) (refs := [101, 102, 103, 104, 105, 106]) (refs' := [101, 102, 103, 104, 105, 106]) (.cons (.refl _) (.cons (.refl _) (.cons (Sub.of_eq (congrArg (D.rs 102 0) ((M.len_markCategory hv1).2.2.1 : a0.Shape.To.length = v1.2.To.length))) (.cons (.refl _) (.cons (.refl _) (.cons (.refl _) (.cons (.refl _) .nil))))))) (by kernel_rfl) (by kernel_rfl) (by kernel_rfl)) ?_
  refine Tr.by (imp_cvB (r := 1002) (sz := 1) (cells := [iv a0.Shape.Objects, .rs 101 0 v1.2.From.length, .rs 102 0 v1.2.To.length, .rs 103 0 a0.Shape.Identity.length, .rs 104 0 a0.Shape.Composites.length, .rs 105 0 a0.Sizes.length, .rs 106 0 a0.Actions.length]) (cells' := [iv a0.Shape.Objects, .rs 101 0 v1.2.From.length, .rs 102 0 v1.2.To.length, .rs 103 0 v1.2.Identity.length, .rs 104 0 a0.Shape.Composites.length, .rs 105 0 a0.Sizes.length, .rs 106 0 a0.Actions.length]) (refs := [101, 102, 103, 104, 105, 106]) (refs' := [101, 102, 103, 104, 105, 106]) (.cons (.refl _) (.cons (.refl _) (.cons (.refl _) (.cons (Sub.of_eq (congrArg (D.rs 103 0) ((M.len_markCategory hv1).2.2.2.1 : a0.Shape.Identity.length = v1.2.Identity.length))) (.cons (.refl _) (.cons (.refl _) (.cons (.refl _) .nil))))))) (by kernel_rfl) (by kernel_rfl) (by kernel_rfl)) ?_
  refine Tr.by (imp_cvB (r := 1002) (sz := 1) (cells := [iv a0.Shape.Objects, .rs 101 0 v1.2.From.length, .rs 102 0 v1.2.To.length, .rs 103 0 v1.2.Identity.length, .rs 104 0 a0.Shape.Composites.length, .rs 105 0 a0.Sizes.length, .rs 106 0 a0.Actions.length]) (cells' := [iv a0.Shape.Objects, .rs 101 0 v1.2.From.length, .rs 102 0 v1.2.To.length, .rs 103 0 v1.2.Identity.length, .rs 104 0 v1.2.Composites.length, .rs 105 0 a0.Sizes.length, .rs 106 0 a0.Actions.length]) (refs := [101, 102, 103, 104, 105, 106]) (refs' := [101, 102, 103, 104, 105, 106]) (.cons (.refl _) (.cons (.refl _) (.cons (.refl _) (.cons (.refl _) (.cons (Sub.of_eq (congrArg (D.rs 104 0) ((M.len_markCategory hv1).2.2.2.2 : a0.Shape.Composites.length = v1.2.Composites.length))) (.cons (.refl _) (.cons (.refl _) .nil))))))) (by kernel_rfl) (by kernel_rfl) (by kernel_rfl)) ?_
  obtain ⟨v2, hv2, hM⟩ := bind_some' hM
  refine tr_sr hT hm [(3, .call [] [(0, 105)] [.rs 0 0 a0.Sizes.length, iv v1.1] [(0, .arr 1 (v2.2.flatMap eI.o) [])] (iv v2.1))] [2, 4, 203, 205, 207, 209, 211, 213, 2005] [(2, .d (iv v2.1)), (4, .d (.rp 1002 0)), (203, .r (.arr 1 (v1.2.From.flatMap eI.o) [])), (205, .r (.arr 1 (v1.2.To.flatMap eI.o) [])), (207, .r (.arr 1 (v1.2.Identity.flatMap eI.o) [])), (209, .r (.arr 1 (v1.2.Composites.flatMap (eS eI).o) [])), (211, .r (.arr 1 (v2.2.flatMap eI.o) [])), (213, .r (.arr 1 (a0.Actions.flatMap (eS eI).o) [])), (2005, .r (.arr 1 [iv a0.Shape.Objects, .rs 101 0 v1.2.From.length, .rs 102 0 v1.2.To.length, .rs 103 0 v1.2.Identity.length, .rs 104 0 v1.2.Composites.length, .rs 105 0 a0.Sizes.length, .rs 106 0 a0.Actions.length] [101, 102, 103, 104, 105, 106]))] (cc (B := []) (ρ := [(0, 105)]) (rB := []) ok41 (laws_markInt64S_c a0.Sizes v1.1 _ hv2) (.cons (.pass (.rs rfl)) (.cons (.same rfl) .nil)) (.inl rfl) .nil) (by kernel_rfl) (by kernel_rfl) ?_
  refine Tr.by (imp_cvB (r := 1002) (sz := 1) (cells := [iv a0.Shape.Objects, .rs 101 0 v1.2.From.length, .rs 102 0 v1.2.To.length, .rs 103 0 v1.2.Identity.length, .rs 104 0 v1.2.Composites.length, .rs 105 0 a0.Sizes.length, .rs 106 0 a0.Actions.length]) (cells' := [iv a0.Shape.Objects, .rs 101 0 v1.2.From.length, .rs 102 0 v1.2.To.length, .rs 103 0 v1.2.Identity.length, .rs 104 0 v1.2.Composites.length, .rs 105 0 v2.2.length, .rs 106 0 a0.Actions.length]) (refs := [101, 102, 103, 104, 105, 106]) (refs' := [101, 102, 103, 104, 105, 106]) (.cons (.refl _) (.cons (.refl _) (.cons (.refl _) (.cons (.refl _) (.cons (.refl _) (.cons (Sub.of_eq (congrArg (D.rs 105 0) ((M.len_markInt64S hv2) : a0.Sizes.length = v2.2.length))) (.cons (.refl _) .nil))))))) (by kernel_rfl) (by kernel_rfl) (by kernel_rfl)) ?_
  obtain ⟨v3, hv3, hM⟩ := bind_some' hM
  refine tr_sr hT hm [(3, .call [] [(0, 106)] [.rs 0 0 a0.Actions.length, iv v2.1] [(0, .arr 1 (v3.2.flatMap (eS eI).o) [])] (iv v3.1))] [2, 203, 205, 207, 209, 211, 213] [(2, .d (iv v3.1)), (203, .r (.arr 1 (v1.2.From.flatMap eI.o) [])), (205, .r (.arr 1 (v1.2.To.flatMap eI.o) [])), (207, .r (.arr 1 (v1.2.Identity.flatMap eI.o) [])), (209, .r (.arr 1 (v1.2.Composites.flatMap (eS eI).o) [])), (211, .r (.arr 1 (v2.2.flatMap eI.o) [])), (213, .r (.arr 1 (v3.2.flatMap (eS eI).o) []))] (cc (B := []) (ρ := [(0, 106)]) (rB := []) ok42 (laws_markInt64SS_c a0.Actions v2.1 _ hv3) (.cons (.pass (.rs rfl)) (.cons (.same rfl) .nil)) (.inl rfl) .nil) (by kernel_rfl) (by kernel_rfl) ?_
  refine tr_sr hT hm [] [8, 203, 205, 207, 209, 211, 213] [(8, .d (iv v3.1)), (203, .r (.arr 1 (v1.2.From.flatMap eI.o) [])), (205, .r (.arr 1 (v1.2.To.flatMap eI.o) [])), (207, .r (.arr 1 (v1.2.Identity.flatMap eI.o) [])), (209, .r (.arr 1 (v1.2.Composites.flatMap (eS eI).o) [])), (211, .r (.arr 1 (v2.2.flatMap eI.o) [])), (213, .r (.arr 1 (v3.2.flatMap (eS eI).o) []))] .nil (by kernel_rfl) (by kernel_rfl) ?_
  refine tr_ret (rg_r ?_)
  obtain rfl := Option.some.inj hM
  exact retg (names := [101, 102, 103, 104, 105, 106]) .nil (by kernel_rfl)

end Go.Proofs.Ythafadgnjkmfkaa.WvQ
