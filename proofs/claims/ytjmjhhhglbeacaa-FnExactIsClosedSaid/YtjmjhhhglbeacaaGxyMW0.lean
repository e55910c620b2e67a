/- Walks. Printed by wip/gen. -/
import Derived.Test.YtjmjhhhglbeacaaGxyMW
namespace Go.Proofs.Ytjmjhhhglbeacaa.WyM
open Go.Gx Go.Proofs.Ytjmjhhhglbeacaa.WvB Go.Proofs.Ytjmjhhhglbeacaa.WyO Go.Proofs.Ytjmjhhhglbeacaa.WyN

theorem ok15 : CallOk Try.prog 15 := callOk_of Try.func15 (by kernel_rfl) (by kernel_rfl)
theorem laws_szMonoidal_c (a0 : XMonoidal) (a1 : Int) (r : Int) (hM : M.laws_szMonoidal a0 a1 = some r) :
    FnC Try.prog 15 [] [.agg (eXMonoidal.b a0), iv a1] [] (iv r) := by
  refine fnc_startG (N := 24) (np := 500) hT Try.func15 rfl rfl (by kernel_rfl) ?_
  unfold M.laws_szMonoidal at hM
  refine tr_start (ks := [0, 2]) (st' := [(0, .d (.agg (eXMonoidal.b a0))), (2, .d (iv a1))]) (by kernel_rfl) ?_
  refine tr_sr hT hm [] [2, 4, 2005] [(2, .d (iv a1)), (4, .d (.rp 1002 0)), bxB 2005 (eXMonoidal.b a0)] .nil (by kernel_rfl) (by kernel_rfl) ?_
  obtain ⟨v1, hv1, hM⟩ := bind_some' hM
  refine tr_sr hT hm [(3, .call [] [] [.agg (eXCategory.b a0.On), iv a1] [] (iv v1))] [2, 4, 2005] [(2, .d (iv v1)), (4, .d (.rp 1002 0)), bxB 2005 (eXMonoidal.b a0)] (cc0 ok47 (laws_szCategory_c a0.On a1 _ hv1) (by kernel_rfl) .nil) (by kernel_rfl) (by kernel_rfl) ?_
  refine tr_seq ?_
  refine tr_sr hT hm [] [2, 4, 20, 2005] [(2, .d (iv v1)), (4, .d (.rp 1002 0)), (20, .d (bv (decide (v1 < 0)))), bxB 2005 (eXMonoidal.b a0)] .nil (by kernel_rfl) (by kernel_rfl) ?_
  rcases Bool.eq_false_or_eq_true (decide (v1 < 0)) with h2 | h2
  · have hM := ite_true' hM h2
    refine tr_condTe (e := decide (v1 < 0)) h2 (by kernel_rfl) ?_
    refine tr_sr hT hm [] [8] [(8, .d (iv (-1)))] .nil (by kernel_rfl) (by kernel_rfl) ?_
    refine tr_ret (q_r (rg_r ?_))
    obtain rfl := Option.some.inj hM
    exact retg (names := []) .nil (by kernel_rfl)
  · have hM := ite_false' hM h2
    refine tr_condFe (e := decide (v1 < 0)) h2 (by kernel_rfl) ?_
    refine tr_skip (q_n ?_)
    obtain ⟨v3, hv3, hM⟩ := bind_some' hM
    refine tr_sr hT hm [(3, .call [] [] [.sl a0.Objects.length 0 (a0.Objects.flatMap (eS eI).b), iv v1] [] (iv v3))] [2, 4, 2005] [(2, .d (iv v3)), (4, .d (.rp 1002 0)), bxB 2005 (eXMonoidal.b a0)] (cc0 ok66 (laws_szInt64SS_c a0.Objects v1 _ hv3) (by kernel_rfl) .nil) (by kernel_rfl) (by kernel_rfl) ?_
    refine tr_seq ?_
    refine tr_sr hT hm [] [2, 4, 32, 2005] [(2, .d (iv v3)), (4, .d (.rp 1002 0)), (32, .d (bv (decide (v3 < 0)))), bxB 2005 (eXMonoidal.b a0)] .nil (by kernel_rfl) (by kernel_rfl) ?_
    rcases Bool.eq_false_or_eq_true (decide (v3 < 0)) with h4 | h4
    · have hM := ite_true' hM h4
      refine tr_condTe (e := decide (v3 < 0)) h4 (by kernel_rfl) ?_
      refine tr_sr hT hm [] [8] [(8, .d (iv (-1)))] .nil (by kernel_rfl) (by kernel_rfl) ?_
      refine tr_ret (q_r (rg_r ?_))
      obtain rfl := Option.some.inj hM
      exact retg (names := []) .nil (by kernel_rfl)
    · have hM := ite_false' hM h4
      refine tr_condFe (e := decide (v3 < 0)) h4 (by kernel_rfl) ?_
      refine tr_skip (q_n ?_)
      obtain ⟨v5, hv5, hM⟩ := bind_some' hM
      refine tr_sr hT hm [(3, .call [] [] [.sl a0.Arrows.length 0 (a0.Arrows.flatMap (eS eI).b), iv v3] [] (iv v5))] [2] [(2, .d (iv v5))] (cc0 ok66 (laws_szInt64SS_c a0.Arrows v3 _ hv5) (by kernel_rfl) .nil) (by kernel_rfl) (by kernel_rfl) ?_
      refine tr_seq ?_
      refine tr_sr hT hm [] [2, 44] [(2, .d (iv v5)), (44, .d (bv (decide (v5 < 0))))] .nil (by kernel_rfl) (by kernel_rfl) ?_
      rcases Bool.eq_false_or_eq_true (decide (v5 < 0)) with h6 | h6
      · have hM := ite_true' hM h6
        refine tr_condTe (e := decide (v5 < 0)) h6 (by kernel_rfl) ?_
        refine tr_sr hT hm [] [8] [(8, .d (iv (-1)))] .nil (by kernel_rfl) (by kernel_rfl) ?_
        refine tr_ret (q_r (rg_r ?_))
        obtain rfl := Option.some.inj hM
        exact retg (names := []) .nil (by kernel_rfl)
      · have hM := ite_false' hM h6
        refine tr_condFe (e := decide (v5 < 0)) h6 (by kernel_rfl) ?_
        refine tr_skip (q_n ?_)
        refine tr_sr hT hm [] [8] [(8, .d (iv v5))] .nil (by kernel_rfl) (by kernel_rfl) ?_
        refine tr_ret (rg_r ?_)
        obtain rfl := Option.some.inj hM
        exact retg (names := []) .nil (by kernel_rfl)

theorem ok17 : CallOk Try.prog 17 := callOk_of Try.func17 (by kernel_rfl) (by kernel_rfl)
theorem laws_toMonoidal_c (a0 : XMonoidal) (r : XMonoidal) (hM : M.laws_toMonoidal a0 = some r) :
    FnC Try.prog 17 [] [.agg (eXMonoidal.b a0)] [] (.agg (eXMonoidal.o r)) := by
  refine fnc_startG (N := 20) (np := 500) hT Try.func17 rfl rfl (by kernel_rfl) ?_
  unfold M.laws_toMonoidal at hM
  refine tr_start (ks := [0]) (st' := [(0, .d (.agg (eXMonoidal.b a0)))]) (by kernel_rfl) ?_
  refine tr_sr hT hm [] [2, 4, 2003, 2005] [(2, .d (.rp 1001 0)), (4, .d (.rp 1002 0)), bxB 2003 (eXMonoidal.b a0), (2005, .r (.arr 1 [iv 0, nilv, nilv, nilv, nilv, iv 0, nilv, nilv] []))] .nil (by kernel_rfl) (by kernel_rfl) ?_
  refine tr_sr hT hm [] [2, 4, 6, 2003, 2005, 2007] [(2, .d (.rp 1001 0)), (4, .d (.rp 1002 0)), (6, .d (.rp 1003 0)), bxB 2003 (eXMonoidal.b a0), (2005, .r (.arr 1 [iv 0, nilv, nilv, nilv, nilv, iv 0, nilv, nilv] [])), (2007, .r (.arr 1 [iv 0, nilv, nilv, nilv, nilv, iv 0, nilv, nilv] []))] .nil (by kernel_rfl) (by kernel_rfl) ?_
  obtain ⟨v1, hv1, hM⟩ := bind_some' hM
  refine tr_sr hT hm [(2, .call [] [] [.agg (eXCategory.b a0.On)] [] (.agg (eXCategory.o v1)))] [2, 4, 6, 2003, 2005, 2007, 16003, 16005, 16007, 16009] ([(2, .d (.rp 1001 0)), (4, .d (.rp 1002 0)), (6, .d (.rp 1003 0)), bxB 2003 (eXMonoidal.b a0), (2005, .r (.arr 1 [iv 0, nilv, nilv, nilv, nilv, iv 0, nilv, nilv] [])), (2007, .r (.arr 1 [iv v1.Objects, .rs 8001 0 v1.From.length, .rs 8002 0 v1.To.length, .rs 8003 0 v1.Identity.length, .rs 8004 0 v1.Composites.length, iv 0, nilv, nilv] [8001, 8002, 8003, 8004]))] ++ rsS 8000 (eXCategory.o v1)) (cc0 ok49 (laws_toCategory_c a0.On _ hv1) (by kernel_rfl) (.cons (Nat.le_of_ble_eq_true (n := 5) (m := 8) rfl) .nil)) (by kernel_rfl) (by kernel_rfl) ?_
  refine tr_sr hT hm [] [2, 4, 6, 2003, 2005, 2007, 16003, 16005, 16007, 16009] ([(2, .d (.rp 1001 0)), (4, .d (.rp 1002 0)), (6, .d (.rp 1003 0)), bxB 2003 (eXMonoidal.b a0), (2005, .r (.arr 1 [iv 0, nilv, nilv, nilv, nilv, iv 0, nilv, nilv] [])), (2007, .r (.arr 1 [iv v1.Objects, .rs 8001 0 v1.From.length, .rs 8002 0 v1.To.length, .rs 8003 0 v1.Identity.length, .rs 8004 0 v1.Composites.length, iv a0.Unit, nilv, nilv] [8001, 8002, 8003, 8004]))] ++ rsS 8000 (eXCategory.o v1)) (.cons (Nat.le_of_ble_eq_true (n := 6) (m := 8) rfl) .nil) (by kernel_rfl) (by kernel_rfl) ?_
  obtain ⟨v2, hv2, hM⟩ := bind_some' hM
  refine tr_sr hT hm [(2, .call [] [] [.sl a0.Objects.length 0 (a0.Objects.flatMap (eS eI).b)] [] (.fr 1 v2.length (v2.flatMap (eS eI).o)))] [2, 4, 6, 2003, 2005, 2007, 16003, 16005, 16007, 16009, 30001] ([(2, .d (.rp 1001 0)), (4, .d (.rp 1002 0)), (6, .d (.rp 1003 0)), bxB 2003 (eXMonoidal.b a0), (2005, .r (.arr 1 [iv 0, nilv, nilv, nilv, nilv, iv 0, nilv, nilv] [])), (2007, .r (.arr 1 [iv v1.Objects, .rs 8001 0 v1.From.length, .rs 8002 0 v1.To.length, .rs 8003 0 v1.Identity.length, .rs 8004 0 v1.Composites.length, iv a0.Unit, .rs 15000 0 v2.length, nilv] [8001, 8002, 8003, 8004, 15000]))] ++ rsS 8000 (eXCategory.o v1) ++ [(30001, .r (.arr 1 (v2.flatMap (eS eI).o) []))]) (cc0 ok70 (laws_toInt64SS_c a0.Objects _ hv2) (by kernel_rfl) (.cons (Nat.le_of_ble_eq_true (n := 7) (m := 8) rfl) .nil)) (by kernel_rfl) (by kernel_rfl) ?_
  obtain ⟨v3, hv3, hM⟩ := bind_some' hM
  refine tr_sr hT hm [(2, .call [] [] [.sl a0.Arrows.length 0 (a0.Arrows.flatMap (eS eI).b)] [] (.fr 1 v3.length (v3.flatMap (eS eI).o)))] [4, 6, 2005, 2007, 16003, 16005, 16007, 16009, 30001, 38001] ([(4, .d (.rp 1002 0)), (6, .d (.rp 1003 0)), (2005, .r (.arr 1 [iv 0, nilv, nilv, nilv, nilv, iv 0, nilv, nilv] [])), (2007, .r (.arr 1 [iv v1.Objects, .rs 8001 0 v1.From.length, .rs 8002 0 v1.To.length, .rs 8003 0 v1.Identity.length, .rs 8004 0 v1.Composites.length, iv a0.Unit, .rs 15000 0 v2.length, .rs 19000 0 v3.length] [8001, 8002, 8003, 8004, 15000, 19000]))] ++ rsS 8000 (eXCategory.o v1) ++ [(30001, .r (.arr 1 (v2.flatMap (eS eI).o) [])), (38001, .r (.arr 1 (v3.flatMap (eS eI).o) []))]) (cc0 ok70 (laws_toInt64SS_c a0.Arrows _ hv3) (by kernel_rfl) (.cons (Nat.le_of_ble_eq_true (n := 8) (m := 8) rfl) .nil)) (by kernel_rfl) (by kernel_rfl) ?_
  refine tr_sr hT hm [] [4, 2005, 16003, 16005, 16007, 16009, 30001, 38001] ([(4, .d (.rp 1002 0)), (2005, .r (.arr 1 [iv v1.Objects, .rs 8001 0 v1.From.length, .rs 8002 0 v1.To.length, .rs 8003 0 v1.Identity.length, .rs 8004 0 v1.Composites.length, iv a0.Unit, .rs 15000 0 v2.length, .rs 19000 0 v3.length] [8001, 8002, 8003, 8004, 15000, 19000]))] ++ rsS 8000 (eXCategory.o v1) ++ [(30001, .r (.arr 1 (v2.flatMap (eS eI).o) [])), (38001, .r (.arr 1 (v3.flatMap (eS eI).o) []))]) (.cons (Nat.le_of_ble_eq_true (n := 8) (m := 8) rfl) .nil) (by kernel_rfl) (by kernel_rfl) ?_
  refine tr_ret (rg_r ?_)
  obtain rfl := Option.some.inj hM
  exact retg (names := []) (.cons (lenO_flat eI_ok v1.From) (.cons (lenO_flat eI_ok v1.To) (.cons (lenO_flat eI_ok v1.Identity) (.cons (lenO_flat (eS_ok eI_ok) v1.Composites) (.cons (lenO_flat (eS_ok eI_ok) v2) (.cons (lenO_flat (eS_ok eI_ok) v3) .nil)))))) (by kernel_rfl)

theorem ok216 : CallOk Try.prog 216 := callOk_of Try.func216 (by kernel_rfl) (by kernel_rfl)
theorem spec_l03Square_c (a0 : List (List Int)) (a1 : Int) (r : Bool) (hM : M.spec_l03Square a0 a1 = some r) :
    FnC Try.prog 216 [] [.sl a0.length 0 (a0.flatMap (eS eI).b), iv a1] [] (bv r) := by
  refine fnc_startG (N := 29) (np := 500) hT Try.func216 rfl rfl (by kernel_rfl) ?_
  unfold M.spec_l03Square at hM
  refine tr_start (ks := [0, 2]) (st' := [(0, .d (.sl a0.length 0 (a0.flatMap (eS eI).b))), (2, .d (iv a1))]) (by kernel_rfl) ?_
  refine tr_sr hT hm [] [0, 2] [(0, .d (.sl a0.length 0 (a0.flatMap (eS eI).b))), (2, .d (iv a1))] .nil (by kernel_rfl) (by kernel_rfl) ?_
  refine tr_seq ?_
  refine tr_sr hT hm [] [0, 2, 10] [(0, .d (.sl a0.length 0 (a0.flatMap (eS eI).b))), (2, .d (iv a1)), (10, .d (iv 0))] .nil (by kernel_rfl) (by kernel_rfl) ?_
  refine tr_block ?_
  refine tr_iterS (fun (s1 : Int) => [(0, .d (.sl a0.length 0 (a0.flatMap (eS eI).b))), (2, .d (iv a1)), (10, .d (iv s1))]) 0 [0, 2, 10] (by kernel_rfl) hM ?_
  intro n4 next2 ih3 s1 hM
  refine tr_seq ?_
  refine tr_sr hT hm [] [0, 2, 10, 18] [(0, .d (.sl a0.length 0 (a0.flatMap (eS eI).b))), (2, .d (iv a1)), (10, .d (iv s1)), (18, .d (bv (decide (s1 < (a0.length : Int)))))] .nil (by kernel_rfl) (by kernel_rfl) ?_
  rcases Bool.eq_false_or_eq_true (decide (s1 < (a0.length : Int))) with h5 | h5
  · have hM := ite_true' hM h5
    refine tr_condTe (e := decide (s1 < (a0.length : Int))) h5 (by kernel_rfl) ?_
    refine tr_skip (q_n ?_)
    refine tr_seq ?_
    refine tr_block ?_
    obtain ⟨y6, hy6, hM⟩ := bind_some' hM
    have hy6' := idx_some hy6
    rcases Bool.eq_false_or_eq_true ((y6.length : Int) != (a0.length : Int)) with h7 | h7
    · have hM := ite_true' hM h7
      refine tr_sr hT hm [(3, .val (.sl y6.length 0 (y6.flatMap eI.b))), (8, .val (bv true))] [0, 2, 10, 56] [(0, .d (.sl a0.length 0 (a0.flatMap (eS eI).b))), (2, .d (iv a1)), (10, .d (iv s1)), (56, .d (bv true))] (.cons hy6'.1 (.cons hy6'.2.1 (.cons (at_b0 (eS_ok eI_ok) hy6'.2.2 (d := .sl y6.length 0 (y6.flatMap eI.b)) (by kernel_rfl)) (.cons (congrArg (fun b => bv b) h7) .nil)))) (by kernel_rfl) (by kernel_rfl) ?_
      refine tr_condT (by kernel_rfl) ?_
      refine tr_sr hT hm [] [8] [(8, .d (bv false))] .nil (by kernel_rfl) (by kernel_rfl) ?_
      refine tr_ret (b_r (q_r (l_r (b_r (q_r (rg_r ?_))))))
      obtain rfl := Option.some.inj hM
      exact retg (names := []) .nil (by kernel_rfl)
    · have hM := ite_false' hM h7
      obtain ⟨v8, hv8, hM⟩ := bind_some' hM
      refine tr_sr hT hm [(3, .val (.sl y6.length 0 (y6.flatMap eI.b))), (8, .val (bv false)), (13, .val (.sl y6.length 0 (y6.flatMap eI.b))), (14, .call [] [] [iv a1, .sl y6.length 0 (y6.flatMap eI.b)] [] (bv v8))] [0, 2, 10, 42, 44, 46, 48, 50, 52, 54, 56] [(0, .d (.sl a0.length 0 (a0.flatMap (eS eI).b))), (2, .d (iv a1)), (10, .d (iv s1)), (42, .d (iv a1)), (44, .d (.sl a0.length 0 (a0.flatMap (eS eI).b))), (46, .d (iv s1)), (48, .d (.pt (a0.flatMap (eS eI).b) (0 + s1.toNat * 1))), (50, .d (.sl y6.length 0 (y6.flatMap eI.b))), (52, .d (bv v8)), (54, .d (bv (!v8))), (56, .d (bv (!v8)))] (.cons hy6'.1 (.cons hy6'.2.1 (.cons (at_b0 (eS_ok eI_ok) hy6'.2.2 (d := .sl y6.length 0 (y6.flatMap eI.b)) (by kernel_rfl)) (.cons (congrArg (fun b => bv b) h7) (.cons hy6'.1 (.cons hy6'.2.1 (.cons (at_b0 (eS_ok eI_ok) hy6'.2.2 (d := .sl y6.length 0 (y6.flatMap eI.b)) (by kernel_rfl)) (cc0 ok180 (spec_l01Map_c a1 y6 _ hv8) (by kernel_rfl) .nil)))))))) (by kernel_rfl) (by kernel_rfl) ?_
      rcases Bool.eq_false_or_eq_true v8 with h9 | h9
      · have hM := ite_true' hM h9
        refine tr_condFe (e := !v8) (congrArg not h9) (by kernel_rfl) ?_
        refine tr_skip (b_n (q_n ?_))
        refine tr_r hT hm [] [0, 2, 10, 42, 44, 46, 48, 50, 52, 54] [(0, .d (.sl a0.length 0 (a0.flatMap (eS eI).b))), (2, .d (iv a1)), (10, .d (iv (IntKind.i64.wrap (s1 + 1)))), (42, .d (iv a1)), (44, .d (.sl a0.length 0 (a0.flatMap (eS eI).b))), (46, .d (iv s1)), (48, .d (.pt (a0.flatMap (eS eI).b) (0 + s1.toNat * 1))), (50, .d (.sl y6.length 0 (y6.flatMap eI.b))), (52, .d (bv v8)), (54, .d (bv (!v8)))] .nil (by kernel_rfl) (by kernel_rfl) (l_n ?_)
        exact trl_start (ks := [0, 2, 10]) (by kernel_rfl) (ih3 (IntKind.i64.wrap (s1 + 1)) hM)
      · have hM := ite_false' hM h9
        refine tr_condTe (e := !v8) (congrArg not h9) (by kernel_rfl) ?_
        refine tr_sr hT hm [] [8] [(8, .d (bv false))] .nil (by kernel_rfl) (by kernel_rfl) ?_
        refine tr_ret (b_r (q_r (l_r (b_r (q_r (rg_r ?_))))))
        obtain rfl := Option.some.inj hM
        exact retg (names := []) .nil (by kernel_rfl)
  · have hM := ite_false' hM h5
    refine tr_condFe (e := decide (s1 < (a0.length : Int))) h5 (by kernel_rfl) ?_
    refine tr_exit (q_x (l_x (b_h (q_n ?_))))
    refine tr_sr hT hm [] [8] [(8, .d (bv true))] .nil (by kernel_rfl) (by kernel_rfl) ?_
    refine tr_ret (rg_r ?_)
    obtain rfl := Option.some.inj hM
    exact retg (names := []) .nil (by kernel_rfl)

theorem ok167 : CallOk Try.prog 167 := callOk_of Try.func167 (by kernel_rfl) (by kernel_rfl)
theorem spec_l35Table_c (a0 : List (List Int)) (a1 : Int) (a2 : Int) (r : Bool) (hM : M.spec_l35Table a0 a1 a2 = some r) :
    FnC Try.prog 167 [] [.sl a0.length 0 (a0.flatMap (eS eI).b), iv a1, iv a2] [] (bv r) := by
  refine fnc_startG (N := 16) (np := 500) hT Try.func167 rfl rfl (by kernel_rfl) ?_
  unfold M.spec_l35Table at hM
  refine tr_start (ks := [0, 2, 4]) (st' := [(0, .d (.sl a0.length 0 (a0.flatMap (eS eI).b))), (2, .d (iv a1)), (4, .d (iv a2))]) (by kernel_rfl) ?_
  refine tr_sr hT hm [] [0, 2, 4] [(0, .d (.sl a0.length 0 (a0.flatMap (eS eI).b))), (2, .d (iv a1)), (4, .d (iv a2))] .nil (by kernel_rfl) (by kernel_rfl) ?_
  rcases Bool.eq_false_or_eq_true ((a0.length : Int) == a1) with h1 | h1
  · have hM := ite_true' hM h1
    obtain ⟨v2, hv2, hM⟩ := bind_some' hM
    refine tr_sr hT hm [(4, .val (bv true)), (7, .call [] [] [.sl a0.length 0 (a0.flatMap (eS eI).b), iv a2] [] (bv v2))] [12] [(12, .d (bv v2))] (.cons (congrArg (fun b => bv b) h1) (cc0 ok216 (spec_l03Square_c a0 a2 _ hv2) (by kernel_rfl) .nil)) (by kernel_rfl) (by kernel_rfl) ?_
    refine tr_ret (rg_r ?_)
    obtain rfl := Option.some.inj hM
    exact retg (names := []) .nil (by kernel_rfl)
  · have hM := ite_false' hM h1
    refine tr_sr hT hm [(4, .val (bv false))] [12] [(12, .d (bv false))] (.cons (congrArg (fun b => bv b) h1) .nil) (by kernel_rfl) (by kernel_rfl) ?_
    refine tr_ret (rg_r ?_)
    obtain rfl := Option.some.inj hM
    exact retg (names := []) .nil (by kernel_rfl)

theorem ok168 : CallOk Try.prog 168 := callOk_of Try.func168 (by kernel_rfl) (by kernel_rfl)
theorem spec_l35Ends_c (a0 : XMonoidal) (r : Bool) (hM : M.spec_l35Ends a0 = some r) :
    FnC Try.prog 168 [] [.agg (eXMonoidal.b a0)] [] (bv r) := by
  refine fnc_startG (N := 77) (np := 500) hT Try.func168 rfl rfl (by kernel_rfl) ?_
  unfold M.spec_l35Ends at hM
  refine tr_start (ks := [0]) (st' := [(0, .d (.agg (eXMonoidal.b a0)))]) (by kernel_rfl) ?_
  refine tr_sr hT hm [] [2, 2003] [(2, .d (.rp 1001 0)), bxB 2003 (eXMonoidal.b a0)] .nil (by kernel_rfl) (by kernel_rfl) ?_
  refine tr_sr hT hm [] [2, 6, 2003, 2007] [(2, .d (.rp 1001 0)), (6, .d (.rp 1003 0)), bxB 2003 (eXMonoidal.b a0), bxB 2007 (eXCategory.b a0.On)] (.cons (Nat.le_of_ble_eq_true (n := 5) (m := 5) rfl) .nil) (by kernel_rfl) (by kernel_rfl) ?_
  refine tr_seq ?_
  refine tr_sr hT hm [] [2, 6, 8, 2003, 2007] [(2, .d (.rp 1001 0)), (6, .d (.rp 1003 0)), (8, .d (iv 0)), bxB 2003 (eXMonoidal.b a0), bxB 2007 (eXCategory.b a0.On)] .nil (by kernel_rfl) (by kernel_rfl) ?_
  refine tr_block ?_
  refine tr_iterS (fun (s1 : Int) => [(2, .d (.rp 1001 0)), (6, .d (.rp 1003 0)), (8, .d (iv s1)), bxB 2003 (eXMonoidal.b a0), bxB 2007 (eXCategory.b a0.On)]) 0 [2, 6, 8, 2003, 2007] (by kernel_rfl) hM ?_
  intro n4 next2 ih3 s1 hM
  refine tr_seq ?_
  refine tr_sr hT hm [] [2, 6, 8, 26, 2003, 2007] [(2, .d (.rp 1001 0)), (6, .d (.rp 1003 0)), (8, .d (iv s1)), (26, .d (bv (decide (s1 < (a0.On.From.length : Int))))), bxB 2003 (eXMonoidal.b a0), bxB 2007 (eXCategory.b a0.On)] .nil (by kernel_rfl) (by kernel_rfl) ?_
  rcases Bool.eq_false_or_eq_true (decide (s1 < (a0.On.From.length : Int))) with h5 | h5
  · have hM := ite_true' hM h5
    refine tr_condTe (e := decide (s1 < (a0.On.From.length : Int))) h5 (by kernel_rfl) ?_
    refine tr_skip (q_n ?_)
    refine tr_seq ?_
    refine tr_block ?_
    refine tr_sr hT hm [] [2, 6, 8, 10, 2003, 2007] [(2, .d (.rp 1001 0)), (6, .d (.rp 1003 0)), (8, .d (iv s1)), (10, .d (iv 0)), bxB 2003 (eXMonoidal.b a0), bxB 2007 (eXCategory.b a0.On)] .nil (by kernel_rfl) (by kernel_rfl) ?_
    refine tr_block ?_
    refine tr_iterS (fun (s6 : Int) => [(2, .d (.rp 1001 0)), (6, .d (.rp 1003 0)), (8, .d (iv s1)), (10, .d (iv s6)), bxB 2003 (eXMonoidal.b a0), bxB 2007 (eXCategory.b a0.On)]) 0 [2, 6, 8, 10, 2003, 2007] (by kernel_rfl) hM ?_
    intro n9 next7 ih8 s6 hM
    refine tr_seq ?_
    refine tr_sr hT hm [] [2, 6, 8, 10, 40, 2003, 2007] [(2, .d (.rp 1001 0)), (6, .d (.rp 1003 0)), (8, .d (iv s1)), (10, .d (iv s6)), (40, .d (bv (decide (s6 < (a0.On.From.length : Int))))), bxB 2003 (eXMonoidal.b a0), bxB 2007 (eXCategory.b a0.On)] .nil (by kernel_rfl) (by kernel_rfl) ?_
    rcases Bool.eq_false_or_eq_true (decide (s6 < (a0.On.From.length : Int))) with h10 | h10
    · have hM := ite_true' hM h10
      refine tr_condTe (e := decide (s6 < (a0.On.From.length : Int))) h10 (by kernel_rfl) ?_
      refine tr_skip (q_n ?_)
      refine tr_seq ?_
      refine tr_block ?_
      obtain ⟨y11, hy11, hM⟩ := bind_some' hM
      have hy11' := idx_some hy11
      obtain ⟨y12, hy12, hM⟩ := bind_some' hM
      have hy12' := idx_some hy12
      refine tr_sr hT hm [(4, .val (.sl y11.length 0 (y11.flatMap eI.b))), (7, .val (iv y12))] [2, 6, 8, 10, 12, 2003, 2007] [(2, .d (.rp 1001 0)), (6, .d (.rp 1003 0)), (8, .d (iv s1)), (10, .d (iv s6)), (12, .d (iv y12)), bxB 2003 (eXMonoidal.b a0), bxB 2007 (eXCategory.b a0.On)] (.cons hy11'.1 (.cons hy11'.2.1 (.cons (at_b0 (eS_ok eI_ok) hy11'.2.2 (d := .sl y11.length 0 (y11.flatMap eI.b)) (by kernel_rfl)) (.cons hy12'.1 (.cons hy12'.2.1 (.cons (at_b0 eI_ok hy12'.2.2 (d := iv y12) (by kernel_rfl)) .nil)))))) (by kernel_rfl) (by kernel_rfl) ?_
      obtain ⟨y13, hy13, hM⟩ := bind_some' hM
      have hy13' := idx_some hy13
      obtain ⟨y14, hy14, hM⟩ := bind_some' hM
      have hy14' := idx_some hy14
      obtain ⟨y15, hy15, hM⟩ := bind_some' hM
      have hy15' := idx_some hy15
      obtain ⟨y16, hy16, hM⟩ := bind_some' hM
      have hy16' := idx_some hy16
      obtain ⟨y17, hy17, hM⟩ := bind_some' hM
      have hy17' := idx_some hy17
      rcases Bool.eq_false_or_eq_true (y13 != y17) with h18 | h18
      · have hM := ite_true' hM h18
        refine tr_sr hT hm [(4, .val (iv y13)), (11, .val (iv y14)), (13, .val (.sl y15.length 0 (y15.flatMap eI.b))), (18, .val (iv y16)), (20, .val (iv y17)), (22, .val (bv true))] [2, 6, 8, 10, 152, 2003, 2007] [(2, .d (.rp 1001 0)), (6, .d (.rp 1003 0)), (8, .d (iv s1)), (10, .d (iv s6)), (152, .d (bv true)), bxB 2003 (eXMonoidal.b a0), bxB 2007 (eXCategory.b a0.On)] (.cons hy13'.1 (.cons hy13'.2.1 (.cons (at_b0 eI_ok hy13'.2.2 (d := iv y13) (by kernel_rfl)) (.cons hy14'.1 (.cons hy14'.2.1 (.cons (at_b0 eI_ok hy14'.2.2 (d := iv y14) (by kernel_rfl)) (.cons hy15'.1 (.cons hy15'.2.1 (.cons (at_b0 (eS_ok eI_ok) hy15'.2.2 (d := .sl y15.length 0 (y15.flatMap eI.b)) (by kernel_rfl)) (.cons hy16'.1 (.cons hy16'.2.1 (.cons (at_b0 eI_ok hy16'.2.2 (d := iv y16) (by kernel_rfl)) (.cons hy17'.1 (.cons hy17'.2.1 (.cons (at_b0 eI_ok hy17'.2.2 (d := iv y17) (by kernel_rfl)) (.cons (congrArg (fun b => bv b) h18) .nil)))))))))))))))) (by kernel_rfl) (by kernel_rfl) ?_
        refine tr_condT (by kernel_rfl) ?_
        refine tr_sr hT hm [] [4] [(4, .d (bv false))] .nil (by kernel_rfl) (by kernel_rfl) ?_
        refine tr_ret (b_r (q_r (l_r (b_r (b_r (q_r (l_r (b_r (q_r (rg_r ?_))))))))))
        obtain rfl := Option.some.inj hM
        exact retg (names := []) .nil (by kernel_rfl)
      · have hM := ite_false' hM h18
        obtain ⟨y19, hy19, hM⟩ := bind_some' hM
        have hy19' := idx_some hy19
        obtain ⟨y20, hy20, hM⟩ := bind_some' hM
        have hy20' := idx_some hy20
        obtain ⟨y21, hy21, hM⟩ := bind_some' hM
        have hy21' := idx_some hy21
        obtain ⟨y22, hy22, hM⟩ := bind_some' hM
        have hy22' := idx_some hy22
        obtain ⟨y23, hy23, hM⟩ := bind_some' hM
        have hy23' := idx_some hy23
        refine tr_sr hT hm [(4, .val (iv y13)), (11, .val (iv y14)), (13, .val (.sl y15.length 0 (y15.flatMap eI.b))), (18, .val (iv y16)), (20, .val (iv y17)), (22, .val (bv false)), (27, .val (iv y19)), (34, .val (iv y20)), (36, .val (.sl y21.length 0 (y21.flatMap eI.b))), (41, .val (iv y22)), (43, .val (iv y23))] [2, 6, 8, 10, 108, 110, 112, 114, 116, 118, 120, 122, 124, 126, 128, 130, 132, 134, 136, 138, 140, 142, 144, 146, 148, 150, 152, 2003, 2007] [(2, .d (.rp 1001 0)), (6, .d (.rp 1003 0)), (8, .d (iv s1)), (10, .d (iv s6)), (108, .d (.rp 1003 2)), (110, .d (.sl a0.On.To.length 0 (a0.On.To.flatMap eI.b))), (112, .d (iv y12)), (114, .d (.pt (a0.On.To.flatMap eI.b) (0 + y12.toNat * 1))), (116, .d (iv y19)), (118, .d (.rp 1001 6)), (120, .d (.sl a0.Objects.length 0 (a0.Objects.flatMap (eS eI).b))), (122, .d (.rp 1003 2)), (124, .d (.sl a0.On.To.length 0 (a0.On.To.flatMap eI.b))), (126, .d (iv s1)), (128, .d (.pt (a0.On.To.flatMap eI.b) (0 + s1.toNat * 1))), (130, .d (iv y20)), (132, .d (.pt (a0.Objects.flatMap (eS eI).b) (0 + y20.toNat * 1))), (134, .d (.sl y21.length 0 (y21.flatMap eI.b))), (136, .d (.rp 1003 2)), (138, .d (.sl a0.On.To.length 0 (a0.On.To.flatMap eI.b))), (140, .d (iv s6)), (142, .d (.pt (a0.On.To.flatMap eI.b) (0 + s6.toNat * 1))), (144, .d (iv y22)), (146, .d (.pt (y21.flatMap eI.b) (0 + y22.toNat * 1))), (148, .d (iv y23)), (150, .d (bv (y19 != y23))), (152, .d (bv (y19 != y23))), bxB 2003 (eXMonoidal.b a0), bxB 2007 (eXCategory.b a0.On)] (.cons hy13'.1 (.cons hy13'.2.1 (.cons (at_b0 eI_ok hy13'.2.2 (d := iv y13) (by kernel_rfl)) (.cons hy14'.1 (.cons hy14'.2.1 (.cons (at_b0 eI_ok hy14'.2.2 (d := iv y14) (by kernel_rfl)) (.cons hy15'.1 (.cons hy15'.2.1 (.cons (at_b0 (eS_ok eI_ok) hy15'.2.2 (d := .sl y15.length 0 (y15.flatMap eI.b)) (by kernel_rfl)) (.cons hy16'.1 (.cons hy16'.2.1 (.cons (at_b0 eI_ok hy16'.2.2 (d := iv y16) (by kernel_rfl)) (.cons hy17'.1 (.cons hy17'.2.1 (.cons (at_b0 eI_ok hy17'.2.2 (d := iv y17) (by kernel_rfl)) (.cons (congrArg (fun b => bv b) h18) (.cons hy19'.1 (.cons hy19'.2.1 (.cons (at_b0 eI_ok hy19'.2.2 (d := iv y19) (by kernel_rfl)) (.cons hy20'.1 (.cons hy20'.2.1 (.cons (at_b0 eI_ok hy20'.2.2 (d := iv y20) (by kernel_rfl)) (.cons hy21'.1 (.cons hy21'.2.1 (.cons (at_b0 (eS_ok eI_ok) hy21'.2.2 (d := .sl y21.length 0 (y21.flatMap eI.b)) (by kernel_rfl)) (.cons hy22'.1 (.cons hy22'.2.1 (.cons (at_b0 eI_ok hy22'.2.2 (d := iv y22) (by kernel_rfl)) (.cons hy23'.1 (.cons hy23'.2.1 (.cons (at_b0 eI_ok hy23'.2.2 (d := iv y23) (by kernel_rfl)) .nil))))))))))))))))))))))))))))))) (by kernel_rfl) (by kernel_rfl) ?_
        rcases Bool.eq_false_or_eq_true (y19 != y23) with h24 | h24
        · have hM := ite_true' hM h24
          refine tr_condTe (e := y19 != y23) h24 (by kernel_rfl) ?_
          refine tr_sr hT hm [] [4] [(4, .d (bv false))] .nil (by kernel_rfl) (by kernel_rfl) ?_
          refine tr_ret (b_r (q_r (l_r (b_r (b_r (q_r (l_r (b_r (q_r (rg_r ?_))))))))))
          obtain rfl := Option.some.inj hM
          exact retg (names := []) .nil (by kernel_rfl)
        · have hM := ite_false' hM h24
          refine tr_condFe (e := y19 != y23) h24 (by kernel_rfl) ?_
          refine tr_skip (b_n (q_n ?_))
          refine tr_r hT hm [] [2, 6, 8, 10, 108, 110, 112, 114, 116, 118, 120, 122, 124, 126, 128, 130, 132, 134, 136, 138, 140, 142, 144, 146, 148, 150, 2003, 2007] [(2, .d (.rp 1001 0)), (6, .d (.rp 1003 0)), (8, .d (iv s1)), (10, .d (iv (IntKind.i64.wrap (s6 + 1)))), (108, .d (.rp 1003 2)), (110, .d (.sl a0.On.To.length 0 (a0.On.To.flatMap eI.b))), (112, .d (iv y12)), (114, .d (.pt (a0.On.To.flatMap eI.b) (0 + y12.toNat * 1))), (116, .d (iv y19)), (118, .d (.rp 1001 6)), (120, .d (.sl a0.Objects.length 0 (a0.Objects.flatMap (eS eI).b))), (122, .d (.rp 1003 2)), (124, .d (.sl a0.On.To.length 0 (a0.On.To.flatMap eI.b))), (126, .d (iv s1)), (128, .d (.pt (a0.On.To.flatMap eI.b) (0 + s1.toNat * 1))), (130, .d (iv y20)), (132, .d (.pt (a0.Objects.flatMap (eS eI).b) (0 + y20.toNat * 1))), (134, .d (.sl y21.length 0 (y21.flatMap eI.b))), (136, .d (.rp 1003 2)), (138, .d (.sl a0.On.To.length 0 (a0.On.To.flatMap eI.b))), (140, .d (iv s6)), (142, .d (.pt (a0.On.To.flatMap eI.b) (0 + s6.toNat * 1))), (144, .d (iv y22)), (146, .d (.pt (y21.flatMap eI.b) (0 + y22.toNat * 1))), (148, .d (iv y23)), (150, .d (bv (y19 != y23))), bxB 2003 (eXMonoidal.b a0), bxB 2007 (eXCategory.b a0.On)] .nil (by kernel_rfl) (by kernel_rfl) (l_n ?_)
          exact trl_start (ks := [2, 6, 8, 10, 2003, 2007]) (by kernel_rfl) (ih8 (IntKind.i64.wrap (s6 + 1)) hM)
    · have hM := ite_false' hM h10
      refine tr_condFe (e := decide (s6 < (a0.On.From.length : Int))) h10 (by kernel_rfl) ?_
      refine tr_exit (q_x (l_x (b_h (b_n (q_n ?_)))))
      refine tr_r hT hm [] [2, 6, 8, 2003, 2007] [(2, .d (.rp 1001 0)), (6, .d (.rp 1003 0)), (8, .d (iv (IntKind.i64.wrap (s1 + 1)))), bxB 2003 (eXMonoidal.b a0), bxB 2007 (eXCategory.b a0.On)] .nil (by kernel_rfl) (by kernel_rfl) (l_n ?_)
      exact trl_start (ks := [2, 6, 8, 2003, 2007]) (by kernel_rfl) (ih3 (IntKind.i64.wrap (s1 + 1)) hM)
  · have hM := ite_false' hM h5
    refine tr_condFe (e := decide (s1 < (a0.On.From.length : Int))) h5 (by kernel_rfl) ?_
    refine tr_exit (q_x (l_x (b_h (q_n ?_))))
    refine tr_sr hT hm [] [4] [(4, .d (bv true))] .nil (by kernel_rfl) (by kernel_rfl) ?_
    refine tr_ret (rg_r ?_)
    obtain rfl := Option.some.inj hM
    exact retg (names := []) .nil (by kernel_rfl)

theorem ok169 : CallOk Try.prog 169 := callOk_of Try.func169 (by kernel_rfl) (by kernel_rfl)
theorem spec_l35Whole_c (a0 : List (List Int)) (a1 : Int) (r : Bool) (hM : M.spec_l35Whole a0 a1 = some r) :
    FnC Try.prog 169 [] [.sl a0.length 0 (a0.flatMap (eS eI).b), iv a1] [] (bv r) := by
  refine fnc_startG (N := 73) (np := 500) hT Try.func169 rfl rfl (by kernel_rfl) ?_
  unfold M.spec_l35Whole at hM
  refine tr_start (ks := [0, 2]) (st' := [(0, .d (.sl a0.length 0 (a0.flatMap (eS eI).b))), (2, .d (iv a1))]) (by kernel_rfl) ?_
  refine tr_sr hT hm [] [0, 2] [(0, .d (.sl a0.length 0 (a0.flatMap (eS eI).b))), (2, .d (iv a1))] .nil (by kernel_rfl) (by kernel_rfl) ?_
  refine tr_seq ?_
  refine tr_sr hT hm [] [0, 2, 10] [(0, .d (.sl a0.length 0 (a0.flatMap (eS eI).b))), (2, .d (iv a1)), (10, .d (iv 0))] .nil (by kernel_rfl) (by kernel_rfl) ?_
  refine tr_block ?_
  refine tr_iterS (fun (s1 : Int) => [(0, .d (.sl a0.length 0 (a0.flatMap (eS eI).b))), (2, .d (iv a1)), (10, .d (iv s1))]) 0 [0, 2, 10] (by kernel_rfl) hM ?_
  intro n4 next2 ih3 s1 hM
  refine tr_seq ?_
  refine tr_sr hT hm [] [0, 2, 10, 22] [(0, .d (.sl a0.length 0 (a0.flatMap (eS eI).b))), (2, .d (iv a1)), (10, .d (iv s1)), (22, .d (bv (decide (s1 < (a0.length : Int)))))] .nil (by kernel_rfl) (by kernel_rfl) ?_
  rcases Bool.eq_false_or_eq_true (decide (s1 < (a0.length : Int))) with h5 | h5
  · have hM := ite_true' hM h5
    refine tr_condTe (e := decide (s1 < (a0.length : Int))) h5 (by kernel_rfl) ?_
    refine tr_skip (q_n ?_)
    refine tr_seq ?_
    refine tr_block ?_
    refine tr_seq ?_
    obtain ⟨y6, hy6, hM⟩ := bind_some' hM
    have hy6' := idx_some hy6
    obtain ⟨y7, hy7, hM⟩ := bind_some' hM
    have hy7' := idx_some hy7
    rcases Bool.eq_false_or_eq_true (y7 != s1) with h8 | h8
    · have hM := ite_true' hM h8
      refine tr_sr hT hm [(3, .val (.sl y6.length 0 (y6.flatMap eI.b))), (6, .val (iv y7)), (9, .val (bv true))] [0, 2, 10, 66] [(0, .d (.sl a0.length 0 (a0.flatMap (eS eI).b))), (2, .d (iv a1)), (10, .d (iv s1)), (66, .d (bv true))] (.cons hy6'.1 (.cons hy6'.2.1 (.cons (at_b0 (eS_ok eI_ok) hy6'.2.2 (d := .sl y6.length 0 (y6.flatMap eI.b)) (by kernel_rfl)) (.cons hy7'.1 (.cons hy7'.2.1 (.cons (at_b0 eI_ok hy7'.2.2 (d := iv y7) (by kernel_rfl)) (.cons (congrArg (fun b => bv b) h8) .nil))))))) (by kernel_rfl) (by kernel_rfl) ?_
      refine tr_condT (by kernel_rfl) ?_
      refine tr_sr hT hm [] [8] [(8, .d (bv false))] .nil (by kernel_rfl) (by kernel_rfl) ?_
      refine tr_ret (q_r (b_r (q_r (l_r (b_r (q_r (rg_r ?_)))))))
      obtain rfl := Option.some.inj hM
      exact retg (names := []) .nil (by kernel_rfl)
    · have hM := ite_false' hM h8
      obtain ⟨y9, hy9, hM⟩ := bind_some' hM
      have hy9' := idx_some hy9
      obtain ⟨y10, hy10, hM⟩ := bind_some' hM
      have hy10' := idx_some hy10
      refine tr_sr hT hm [(3, .val (.sl y6.length 0 (y6.flatMap eI.b))), (6, .val (iv y7)), (9, .val (bv false)), (13, .val (.sl y9.length 0 (y9.flatMap eI.b))), (16, .val (iv y10))] [0, 2, 10, 48, 50, 52, 54, 56, 58, 60, 62, 64, 66] [(0, .d (.sl a0.length 0 (a0.flatMap (eS eI).b))), (2, .d (iv a1)), (10, .d (iv s1)), (48, .d (.sl a0.length 0 (a0.flatMap (eS eI).b))), (50, .d (iv s1)), (52, .d (.pt (a0.flatMap (eS eI).b) (0 + s1.toNat * 1))), (54, .d (.sl y9.length 0 (y9.flatMap eI.b))), (56, .d (iv a1)), (58, .d (.pt (y9.flatMap eI.b) (0 + a1.toNat * 1))), (60, .d (iv y10)), (62, .d (iv s1)), (64, .d (bv (y10 != s1))), (66, .d (bv (y10 != s1)))] (.cons hy6'.1 (.cons hy6'.2.1 (.cons (at_b0 (eS_ok eI_ok) hy6'.2.2 (d := .sl y6.length 0 (y6.flatMap eI.b)) (by kernel_rfl)) (.cons hy7'.1 (.cons hy7'.2.1 (.cons (at_b0 eI_ok hy7'.2.2 (d := iv y7) (by kernel_rfl)) (.cons (congrArg (fun b => bv b) h8) (.cons hy9'.1 (.cons hy9'.2.1 (.cons (at_b0 (eS_ok eI_ok) hy9'.2.2 (d := .sl y9.length 0 (y9.flatMap eI.b)) (by kernel_rfl)) (.cons hy10'.1 (.cons hy10'.2.1 (.cons (at_b0 eI_ok hy10'.2.2 (d := iv y10) (by kernel_rfl)) .nil))))))))))))) (by kernel_rfl) (by kernel_rfl) ?_
      rcases Bool.eq_false_or_eq_true (y10 != s1) with h11 | h11
      · have hM := ite_true' hM h11
        refine tr_condTe (e := y10 != s1) h11 (by kernel_rfl) ?_
        refine tr_sr hT hm [] [8] [(8, .d (bv false))] .nil (by kernel_rfl) (by kernel_rfl) ?_
        refine tr_ret (q_r (b_r (q_r (l_r (b_r (q_r (rg_r ?_)))))))
        obtain rfl := Option.some.inj hM
        exact retg (names := []) .nil (by kernel_rfl)
      · have hM := ite_false' hM h11
        refine tr_condFe (e := y10 != s1) h11 (by kernel_rfl) ?_
        refine tr_skip (q_n ?_)
        refine tr_sr hT hm [] [0, 2, 10, 12, 48, 50, 52, 54, 56, 58, 60, 62, 64] [(0, .d (.sl a0.length 0 (a0.flatMap (eS eI).b))), (2, .d (iv a1)), (10, .d (iv s1)), (12, .d (iv 0)), (48, .d (.sl a0.length 0 (a0.flatMap (eS eI).b))), (50, .d (iv s1)), (52, .d (.pt (a0.flatMap (eS eI).b) (0 + s1.toNat * 1))), (54, .d (.sl y9.length 0 (y9.flatMap eI.b))), (56, .d (iv a1)), (58, .d (.pt (y9.flatMap eI.b) (0 + a1.toNat * 1))), (60, .d (iv y10)), (62, .d (iv s1)), (64, .d (bv (y10 != s1)))] .nil (by kernel_rfl) (by kernel_rfl) ?_
        refine tr_block ?_
        refine tr_iterS (fun (s12 : Int) => [(0, .d (.sl a0.length 0 (a0.flatMap (eS eI).b))), (2, .d (iv a1)), (10, .d (iv s1)), (12, .d (iv s12)), (48, .d (.sl a0.length 0 (a0.flatMap (eS eI).b))), (50, .d (iv s1)), (52, .d (.pt (a0.flatMap (eS eI).b) (0 + s1.toNat * 1))), (54, .d (.sl y9.length 0 (y9.flatMap eI.b))), (56, .d (iv a1)), (58, .d (.pt (y9.flatMap eI.b) (0 + a1.toNat * 1))), (60, .d (iv y10)), (62, .d (iv s1)), (64, .d (bv (y10 != s1)))]) 0 [0, 2, 10, 12, 48, 50, 52, 54, 56, 58, 60, 62, 64] (by kernel_rfl) hM ?_
        intro n15 next13 ih14 s12 hM
        refine tr_seq ?_
        refine tr_sr hT hm [] [0, 2, 10, 12, 48, 50, 52, 54, 56, 58, 60, 62, 64, 74] [(0, .d (.sl a0.length 0 (a0.flatMap (eS eI).b))), (2, .d (iv a1)), (10, .d (iv s1)), (12, .d (iv s12)), (48, .d (.sl a0.length 0 (a0.flatMap (eS eI).b))), (50, .d (iv s1)), (52, .d (.pt (a0.flatMap (eS eI).b) (0 + s1.toNat * 1))), (54, .d (.sl y9.length 0 (y9.flatMap eI.b))), (56, .d (iv a1)), (58, .d (.pt (y9.flatMap eI.b) (0 + a1.toNat * 1))), (60, .d (iv y10)), (62, .d (iv s1)), (64, .d (bv (y10 != s1))), (74, .d (bv (decide (s12 < (a0.length : Int)))))] .nil (by kernel_rfl) (by kernel_rfl) ?_
        rcases Bool.eq_false_or_eq_true (decide (s12 < (a0.length : Int))) with h16 | h16
        · have hM := ite_true' hM h16
          refine tr_condTe (e := decide (s12 < (a0.length : Int))) h16 (by kernel_rfl) ?_
          refine tr_skip (q_n ?_)
          refine tr_seq ?_
          refine tr_block ?_
          refine tr_sr hT hm [] [0, 2, 10, 12, 14, 48, 50, 52, 54, 56, 58, 60, 62, 64] [(0, .d (.sl a0.length 0 (a0.flatMap (eS eI).b))), (2, .d (iv a1)), (10, .d (iv s1)), (12, .d (iv s12)), (14, .d (iv 0)), (48, .d (.sl a0.length 0 (a0.flatMap (eS eI).b))), (50, .d (iv s1)), (52, .d (.pt (a0.flatMap (eS eI).b) (0 + s1.toNat * 1))), (54, .d (.sl y9.length 0 (y9.flatMap eI.b))), (56, .d (iv a1)), (58, .d (.pt (y9.flatMap eI.b) (0 + a1.toNat * 1))), (60, .d (iv y10)), (62, .d (iv s1)), (64, .d (bv (y10 != s1)))] .nil (by kernel_rfl) (by kernel_rfl) ?_
          refine tr_block ?_
          refine tr_iterS (fun (s17 : Int) => [(0, .d (.sl a0.length 0 (a0.flatMap (eS eI).b))), (2, .d (iv a1)), (10, .d (iv s1)), (12, .d (iv s12)), (14, .d (iv s17)), (48, .d (.sl a0.length 0 (a0.flatMap (eS eI).b))), (50, .d (iv s1)), (52, .d (.pt (a0.flatMap (eS eI).b) (0 + s1.toNat * 1))), (54, .d (.sl y9.length 0 (y9.flatMap eI.b))), (56, .d (iv a1)), (58, .d (.pt (y9.flatMap eI.b) (0 + a1.toNat * 1))), (60, .d (iv y10)), (62, .d (iv s1)), (64, .d (bv (y10 != s1)))]) 0 [0, 2, 10, 12, 14, 48, 50, 52, 54, 56, 58, 60, 62, 64] (by kernel_rfl) hM ?_
          intro n20 next18 ih19 s17 hM
          refine tr_seq ?_
          refine tr_sr hT hm [] [0, 2, 10, 12, 14, 48, 50, 52, 54, 56, 58, 60, 62, 64, 86] [(0, .d (.sl a0.length 0 (a0.flatMap (eS eI).b))), (2, .d (iv a1)), (10, .d (iv s1)), (12, .d (iv s12)), (14, .d (iv s17)), (48, .d (.sl a0.length 0 (a0.flatMap (eS eI).b))), (50, .d (iv s1)), (52, .d (.pt (a0.flatMap (eS eI).b) (0 + s1.toNat * 1))), (54, .d (.sl y9.length 0 (y9.flatMap eI.b))), (56, .d (iv a1)), (58, .d (.pt (y9.flatMap eI.b) (0 + a1.toNat * 1))), (60, .d (iv y10)), (62, .d (iv s1)), (64, .d (bv (y10 != s1))), (86, .d (bv (decide (s17 < (a0.length : Int)))))] .nil (by kernel_rfl) (by kernel_rfl) ?_
          rcases Bool.eq_false_or_eq_true (decide (s17 < (a0.length : Int))) with h21 | h21
          · have hM := ite_true' hM h21
            refine tr_condTe (e := decide (s17 < (a0.length : Int))) h21 (by kernel_rfl) ?_
            refine tr_skip (q_n ?_)
            refine tr_seq ?_
            refine tr_block ?_
            obtain ⟨y22, hy22, hM⟩ := bind_some' hM
            have hy22' := idx_some hy22
            obtain ⟨y23, hy23, hM⟩ := bind_some' hM
            have hy23' := idx_some hy23
            obtain ⟨y24, hy24, hM⟩ := bind_some' hM
            have hy24' := idx_some hy24
            obtain ⟨y25, hy25, hM⟩ := bind_some' hM
            have hy25' := idx_some hy25
            obtain ⟨y26, hy26, hM⟩ := bind_some' hM
            have hy26' := idx_some hy26
            obtain ⟨y27, hy27, hM⟩ := bind_some' hM
            have hy27' := idx_some hy27
            refine tr_sr hT hm [(4, .val (.sl y9.length 0 (y9.flatMap eI.b))), (7, .val (iv y22)), (9, .val (.sl y23.length 0 (y23.flatMap eI.b))), (12, .val (iv y24)), (16, .val (.sl y9.length 0 (y9.flatMap eI.b))), (20, .val (.sl y25.length 0 (y25.flatMap eI.b))), (23, .val (iv y26)), (25, .val (iv y27))] [0, 2, 10, 12, 14, 48, 50, 52, 54, 56, 58, 60, 62, 64, 144] [(0, .d (.sl a0.length 0 (a0.flatMap (eS eI).b))), (2, .d (iv a1)), (10, .d (iv s1)), (12, .d (iv s12)), (14, .d (iv s17)), (48, .d (.sl a0.length 0 (a0.flatMap (eS eI).b))), (50, .d (iv s1)), (52, .d (.pt (a0.flatMap (eS eI).b) (0 + s1.toNat * 1))), (54, .d (.sl y9.length 0 (y9.flatMap eI.b))), (56, .d (iv a1)), (58, .d (.pt (y9.flatMap eI.b) (0 + a1.toNat * 1))), (60, .d (iv y10)), (62, .d (iv s1)), (64, .d (bv (y10 != s1))), (144, .d (bv (y24 != y27)))] (.cons hy9'.1 (.cons hy9'.2.1 (.cons (at_b0 (eS_ok eI_ok) hy9'.2.2 (d := .sl y9.length 0 (y9.flatMap eI.b)) (by kernel_rfl)) (.cons hy22'.1 (.cons hy22'.2.1 (.cons (at_b0 eI_ok hy22'.2.2 (d := iv y22) (by kernel_rfl)) (.cons hy23'.1 (.cons hy23'.2.1 (.cons (at_b0 (eS_ok eI_ok) hy23'.2.2 (d := .sl y23.length 0 (y23.flatMap eI.b)) (by kernel_rfl)) (.cons hy24'.1 (.cons hy24'.2.1 (.cons (at_b0 eI_ok hy24'.2.2 (d := iv y24) (by kernel_rfl)) (.cons hy9'.1 (.cons hy9'.2.1 (.cons (at_b0 (eS_ok eI_ok) hy9'.2.2 (d := .sl y9.length 0 (y9.flatMap eI.b)) (by kernel_rfl)) (.cons hy25'.1 (.cons hy25'.2.1 (.cons (at_b0 (eS_ok eI_ok) hy25'.2.2 (d := .sl y25.length 0 (y25.flatMap eI.b)) (by kernel_rfl)) (.cons hy26'.1 (.cons hy26'.2.1 (.cons (at_b0 eI_ok hy26'.2.2 (d := iv y26) (by kernel_rfl)) (.cons hy27'.1 (.cons hy27'.2.1 (.cons (at_b0 eI_ok hy27'.2.2 (d := iv y27) (by kernel_rfl)) .nil)))))))))))))))))))))))) (by kernel_rfl) (by kernel_rfl) ?_
            rcases Bool.eq_false_or_eq_true (y24 != y27) with h28 | h28
            · have hM := ite_true' hM h28
              refine tr_condTe (e := y24 != y27) h28 (by kernel_rfl) ?_
              refine tr_sr hT hm [] [8] [(8, .d (bv false))] .nil (by kernel_rfl) (by kernel_rfl) ?_
              refine tr_ret (b_r (q_r (l_r (b_r (b_r (q_r (l_r (b_r (b_r (q_r (l_r (b_r (q_r (rg_r ?_))))))))))))))
              obtain rfl := Option.some.inj hM
              exact retg (names := []) .nil (by kernel_rfl)
            · have hM := ite_false' hM h28
              refine tr_condFe (e := y24 != y27) h28 (by kernel_rfl) ?_
              refine tr_skip (b_n (q_n ?_))
              refine tr_r hT hm [] [0, 2, 10, 12, 14, 48, 50, 52, 54, 56, 58, 60, 62, 64] [(0, .d (.sl a0.length 0 (a0.flatMap (eS eI).b))), (2, .d (iv a1)), (10, .d (iv s1)), (12, .d (iv s12)), (14, .d (iv (IntKind.i64.wrap (s17 + 1)))), (48, .d (.sl a0.length 0 (a0.flatMap (eS eI).b))), (50, .d (iv s1)), (52, .d (.pt (a0.flatMap (eS eI).b) (0 + s1.toNat * 1))), (54, .d (.sl y9.length 0 (y9.flatMap eI.b))), (56, .d (iv a1)), (58, .d (.pt (y9.flatMap eI.b) (0 + a1.toNat * 1))), (60, .d (iv y10)), (62, .d (iv s1)), (64, .d (bv (y10 != s1)))] .nil (by kernel_rfl) (by kernel_rfl) (l_n ?_)
              exact trl_start (ks := [0, 2, 10, 12, 14, 48, 50, 52, 54, 56, 58, 60, 62, 64]) (by kernel_rfl) (ih19 (IntKind.i64.wrap (s17 + 1)) hM)
          · have hM := ite_false' hM h21
            refine tr_condFe (e := decide (s17 < (a0.length : Int))) h21 (by kernel_rfl) ?_
            refine tr_exit (q_x (l_x (b_h (b_n (q_n ?_)))))
            refine tr_r hT hm [] [0, 2, 10, 12, 48, 50, 52, 54, 56, 58, 60, 62, 64] [(0, .d (.sl a0.length 0 (a0.flatMap (eS eI).b))), (2, .d (iv a1)), (10, .d (iv s1)), (12, .d (iv (IntKind.i64.wrap (s12 + 1)))), (48, .d (.sl a0.length 0 (a0.flatMap (eS eI).b))), (50, .d (iv s1)), (52, .d (.pt (a0.flatMap (eS eI).b) (0 + s1.toNat * 1))), (54, .d (.sl y9.length 0 (y9.flatMap eI.b))), (56, .d (iv a1)), (58, .d (.pt (y9.flatMap eI.b) (0 + a1.toNat * 1))), (60, .d (iv y10)), (62, .d (iv s1)), (64, .d (bv (y10 != s1)))] .nil (by kernel_rfl) (by kernel_rfl) (l_n ?_)
            exact trl_start (ks := [0, 2, 10, 12, 48, 50, 52, 54, 56, 58, 60, 62, 64]) (by kernel_rfl) (ih14 (IntKind.i64.wrap (s12 + 1)) hM)
        · have hM := ite_false' hM h16
          refine tr_condFe (e := decide (s12 < (a0.length : Int))) h16 (by kernel_rfl) ?_
          refine tr_exit (q_x (l_x (b_h (b_n (q_n ?_)))))
          refine tr_r hT hm [] [0, 2, 10, 48, 50, 52, 54, 56, 58, 60, 62, 64] [(0, .d (.sl a0.length 0 (a0.flatMap (eS eI).b))), (2, .d (iv a1)), (10, .d (iv (IntKind.i64.wrap (s1 + 1)))), (48, .d (.sl a0.length 0 (a0.flatMap (eS eI).b))), (50, .d (iv s1)), (52, .d (.pt (a0.flatMap (eS eI).b) (0 + s1.toNat * 1))), (54, .d (.sl y9.length 0 (y9.flatMap eI.b))), (56, .d (iv a1)), (58, .d (.pt (y9.flatMap eI.b) (0 + a1.toNat * 1))), (60, .d (iv y10)), (62, .d (iv s1)), (64, .d (bv (y10 != s1)))] .nil (by kernel_rfl) (by kernel_rfl) (l_n ?_)
          exact trl_start (ks := [0, 2, 10]) (by kernel_rfl) (ih3 (IntKind.i64.wrap (s1 + 1)) hM)
  · have hM := ite_false' hM h5
    refine tr_condFe (e := decide (s1 < (a0.length : Int))) h5 (by kernel_rfl) ?_
    refine tr_exit (q_x (l_x (b_h (q_n ?_))))
    refine tr_sr hT hm [] [8] [(8, .d (bv true))] .nil (by kernel_rfl) (by kernel_rfl) ?_
    refine tr_ret (rg_r ?_)
    obtain rfl := Option.some.inj hM
    exact retg (names := []) .nil (by kernel_rfl)

theorem ok67 : CallOk Try.prog 67 := callOk_of Try.func67 (by kernel_rfl) (by kernel_rfl)
theorem spec_l35Is_c (a0 : XMonoidal) (r : Bool) (hM : M.spec_l35Is a0 = some r) :
    FnC Try.prog 67 [] [.agg (eXMonoidal.b a0)] [] (bv r) := by
  refine fnc_startG (N := 201) (np := 500) hT Try.func67 rfl rfl (by kernel_rfl) ?_
  unfold M.spec_l35Is at hM
  refine tr_start (ks := [0]) (st' := [(0, .d (.agg (eXMonoidal.b a0)))]) (by kernel_rfl) ?_
  refine tr_sr hT hm [] [2, 2003] [(2, .d (.rp 1001 0)), bxB 2003 (eXMonoidal.b a0)] .nil (by kernel_rfl) (by kernel_rfl) ?_
  refine tr_sr hT hm [] [2, 6, 2003, 2007] [(2, .d (.rp 1001 0)), (6, .d (.rp 1003 0)), bxB 2003 (eXMonoidal.b a0), bxB 2007 (eXCategory.b a0.On)] (.cons (Nat.le_of_ble_eq_true (n := 5) (m := 5) rfl) .nil) (by kernel_rfl) (by kernel_rfl) ?_
  refine tr_seq ?_
  obtain ⟨v1, hv1, hM⟩ := bind_some' hM
  rcases Bool.eq_false_or_eq_true v1 with h2 | h2
  · have hM := ite_true' hM h2
    obtain ⟨v3, hv3, hM⟩ := bind_some' hM
    rcases Bool.eq_false_or_eq_true v3 with h4 | h4
    · have hM := ite_true' hM h4
      obtain ⟨v5, hv5, hM⟩ := bind_some' hM
      rcases Bool.eq_false_or_eq_true v5 with h6 | h6
      · have hM := ite_true' hM h6
        obtain ⟨v7, hv7, hM⟩ := bind_some' hM
        refine tr_sr hT hm [(1, .call [] [] [.agg (eXCategory.b a0.On)] [] (bv v1)), (3, .val (bv false)), (7, .call [] [] [.agg (eXCategory.b a0.On), iv a0.Unit] [] (bv v3)), (10, .val (bv false)), (17, .call [] [] [.sl a0.Objects.length 0 (a0.Objects.flatMap (eS eI).b), iv a0.On.Objects, iv a0.On.Objects] [] (bv v5)), (20, .val (bv false)), (29, .call [] [] [.sl a0.Arrows.length 0 (a0.Arrows.flatMap (eS eI).b), iv (a0.On.From.length : Int), iv (a0.On.From.length : Int)] [] (bv v7))] [2, 6, 86, 2003, 2007] [(2, .d (.rp 1001 0)), (6, .d (.rp 1003 0)), (86, .d (bv (!v7))), bxB 2003 (eXMonoidal.b a0), bxB 2007 (eXCategory.b a0.On)] (cc0 ok107 (spec_l02Is_c a0.On _ hv1) (by kernel_rfl) (.cons (congrArg (fun b => bv b) (congrArg not h2)) (cc0 ok166 (spec_l02Object_c a0.On a0.Unit _ hv3) (by kernel_rfl) (.cons (congrArg (fun b => bv b) (congrArg not h4)) (cc0 ok167 (spec_l35Table_c a0.Objects a0.On.Objects a0.On.Objects _ hv5) (by kernel_rfl) (.cons (congrArg (fun b => bv b) (congrArg not h6)) (cc0 ok167 (spec_l35Table_c a0.Arrows (a0.On.From.length : Int) (a0.On.From.length : Int) _ hv7) (by kernel_rfl) .nil))))))) (by kernel_rfl) (by kernel_rfl) ?_
        rcases Bool.eq_false_or_eq_true v7 with h8 | h8
        · have hM := ite_true' hM h8
          refine tr_condFe (e := !v7) (congrArg not h8) (by kernel_rfl) ?_
          refine tr_skip (q_n ?_)
          refine tr_seq ?_
          obtain ⟨v9, hv9, hM⟩ := bind_some' hM
          rcases Bool.eq_false_or_eq_true v9 with h10 | h10
          · have hM := ite_true' hM h10
            obtain ⟨v11, hv11, hM⟩ := bind_some' hM
            rcases Bool.eq_false_or_eq_true v11 with h12 | h12
            · have hM := ite_true' hM h12
              obtain ⟨y13, hy13, hM⟩ := bind_some' hM
              have hy13' := idx_some hy13
              obtain ⟨v14, hv14, hM⟩ := bind_some' hM
              refine tr_sr hT hm [(1, .call [] [] [.agg (eXMonoidal.b a0)] [] (bv v9)), (3, .val (bv false)), (8, .call [] [] [.sl a0.Objects.length 0 (a0.Objects.flatMap (eS eI).b), iv a0.Unit] [] (bv v11)), (11, .val (bv false)), (19, .val (iv y13)), (20, .call [] [] [.sl a0.Arrows.length 0 (a0.Arrows.flatMap (eS eI).b), iv y13] [] (bv v14))] [2, 6, 132, 2003, 2007] [(2, .d (.rp 1001 0)), (6, .d (.rp 1003 0)), (132, .d (bv (!v14))), bxB 2003 (eXMonoidal.b a0), bxB 2007 (eXCategory.b a0.On)] (cc0 ok168 (spec_l35Ends_c a0 _ hv9) (by kernel_rfl) (.cons (congrArg (fun b => bv b) (congrArg not h10)) (cc0 ok169 (spec_l35Whole_c a0.Objects a0.Unit _ hv11) (by kernel_rfl) (.cons (congrArg (fun b => bv b) (congrArg not h12)) (.cons hy13'.1 (.cons hy13'.2.1 (.cons (at_b0 eI_ok hy13'.2.2 (d := iv y13) (by kernel_rfl)) (cc0 ok169 (spec_l35Whole_c a0.Arrows y13 _ hv14) (by kernel_rfl) .nil)))))))) (by kernel_rfl) (by kernel_rfl) ?_
              rcases Bool.eq_false_or_eq_true v14 with h15 | h15
              · have hM := ite_true' hM h15
                refine tr_condFe (e := !v14) (congrArg not h15) (by kernel_rfl) ?_
                refine tr_skip (q_n ?_)
                refine tr_seq ?_
                refine tr_sr hT hm [] [2, 6, 8, 2003, 2007] [(2, .d (.rp 1001 0)), (6, .d (.rp 1003 0)), (8, .d (iv 0)), bxB 2003 (eXMonoidal.b a0), bxB 2007 (eXCategory.b a0.On)] .nil (by kernel_rfl) (by kernel_rfl) ?_
                refine tr_block ?_
                refine tr_iterS (fun (s16 : Int) => [(2, .d (.rp 1001 0)), (6, .d (.rp 1003 0)), (8, .d (iv s16)), bxB 2003 (eXMonoidal.b a0), bxB 2007 (eXCategory.b a0.On)]) 0 [2, 6, 8, 2003, 2007] (by kernel_rfl) hM ?_
                intro n19 next17 ih18 s16 hM
                refine tr_seq ?_
                refine tr_sr hT hm [] [2, 6, 8, 140, 2003, 2007] [(2, .d (.rp 1001 0)), (6, .d (.rp 1003 0)), (8, .d (iv s16)), (140, .d (bv (decide (s16 < a0.On.Objects)))), bxB 2003 (eXMonoidal.b a0), bxB 2007 (eXCategory.b a0.On)] .nil (by kernel_rfl) (by kernel_rfl) ?_
                rcases Bool.eq_false_or_eq_true (decide (s16 < a0.On.Objects)) with h20 | h20
                · have hM := ite_true' hM h20
                  refine tr_condTe (e := decide (s16 < a0.On.Objects)) h20 (by kernel_rfl) ?_
                  refine tr_skip (q_n ?_)
                  refine tr_seq ?_
                  refine tr_block ?_
                  refine tr_sr hT hm [] [2, 6, 8, 10, 2003, 2007] [(2, .d (.rp 1001 0)), (6, .d (.rp 1003 0)), (8, .d (iv s16)), (10, .d (iv 0)), bxB 2003 (eXMonoidal.b a0), bxB 2007 (eXCategory.b a0.On)] .nil (by kernel_rfl) (by kernel_rfl) ?_
                  refine tr_block ?_
                  refine tr_iterS (fun (s21 : Int) => [(2, .d (.rp 1001 0)), (6, .d (.rp 1003 0)), (8, .d (iv s16)), (10, .d (iv s21)), bxB 2003 (eXMonoidal.b a0), bxB 2007 (eXCategory.b a0.On)]) 0 [2, 6, 8, 10, 2003, 2007] (by kernel_rfl) hM ?_
                  intro n24 next22 ih23 s21 hM
                  refine tr_seq ?_
                  refine tr_sr hT hm [] [2, 6, 8, 10, 152, 2003, 2007] [(2, .d (.rp 1001 0)), (6, .d (.rp 1003 0)), (8, .d (iv s16)), (10, .d (iv s21)), (152, .d (bv (decide (s21 < a0.On.Objects)))), bxB 2003 (eXMonoidal.b a0), bxB 2007 (eXCategory.b a0.On)] .nil (by kernel_rfl) (by kernel_rfl) ?_
                  rcases Bool.eq_false_or_eq_true (decide (s21 < a0.On.Objects)) with h25 | h25
                  · have hM := ite_true' hM h25
                    refine tr_condTe (e := decide (s21 < a0.On.Objects)) h25 (by kernel_rfl) ?_
                    refine tr_skip (q_n ?_)
                    refine tr_seq ?_
                    refine tr_block ?_
                    obtain ⟨y26, hy26, hM⟩ := bind_some' hM
                    have hy26' := idx_some hy26
                    obtain ⟨y27, hy27, hM⟩ := bind_some' hM
                    have hy27' := idx_some hy27
                    obtain ⟨y28, hy28, hM⟩ := bind_some' hM
                    have hy28' := idx_some hy28
                    obtain ⟨y29, hy29, hM⟩ := bind_some' hM
                    have hy29' := idx_some hy29
                    obtain ⟨y30, hy30, hM⟩ := bind_some' hM
                    have hy30' := idx_some hy30
                    obtain ⟨y31, hy31, hM⟩ := bind_some' hM
                    have hy31' := idx_some hy31
                    obtain ⟨y32, hy32, hM⟩ := bind_some' hM
                    have hy32' := idx_some hy32
                    refine tr_sr hT hm [(6, .val (iv y26)), (8, .val (.sl y27.length 0 (y27.flatMap eI.b))), (13, .val (iv y28)), (15, .val (iv y29)), (22, .val (.sl y30.length 0 (y30.flatMap eI.b))), (25, .val (iv y31)), (27, .val (iv y32))] [2, 6, 8, 10, 214, 2003, 2007] [(2, .d (.rp 1001 0)), (6, .d (.rp 1003 0)), (8, .d (iv s16)), (10, .d (iv s21)), (214, .d (bv (y29 != y32))), bxB 2003 (eXMonoidal.b a0), bxB 2007 (eXCategory.b a0.On)] (.cons hy26'.1 (.cons hy26'.2.1 (.cons (at_b0 eI_ok hy26'.2.2 (d := iv y26) (by kernel_rfl)) (.cons hy27'.1 (.cons hy27'.2.1 (.cons (at_b0 (eS_ok eI_ok) hy27'.2.2 (d := .sl y27.length 0 (y27.flatMap eI.b)) (by kernel_rfl)) (.cons hy28'.1 (.cons hy28'.2.1 (.cons (at_b0 eI_ok hy28'.2.2 (d := iv y28) (by kernel_rfl)) (.cons hy29'.1 (.cons hy29'.2.1 (.cons (at_b0 eI_ok hy29'.2.2 (d := iv y29) (by kernel_rfl)) (.cons hy30'.1 (.cons hy30'.2.1 (.cons (at_b0 (eS_ok eI_ok) hy30'.2.2 (d := .sl y30.length 0 (y30.flatMap eI.b)) (by kernel_rfl)) (.cons hy31'.1 (.cons hy31'.2.1 (.cons (at_b0 eI_ok hy31'.2.2 (d := iv y31) (by kernel_rfl)) (.cons hy32'.1 (.cons hy32'.2.1 (.cons (at_b0 eI_ok hy32'.2.2 (d := iv y32) (by kernel_rfl)) .nil))))))))))))))))))))) (by kernel_rfl) (by kernel_rfl) ?_
                    rcases Bool.eq_false_or_eq_true (y29 != y32) with h33 | h33
                    · have hM := ite_true' hM h33
                      refine tr_condTe (e := y29 != y32) h33 (by kernel_rfl) ?_
                      refine tr_sr hT hm [] [4] [(4, .d (bv false))] .nil (by kernel_rfl) (by kernel_rfl) ?_
                      refine tr_ret (b_r (q_r (l_r (b_r (b_r (q_r (l_r (b_r (q_r (rg_r ?_))))))))))
                      obtain rfl := Option.some.inj hM
                      exact retg (names := []) .nil (by kernel_rfl)
                    · have hM := ite_false' hM h33
                      refine tr_condFe (e := y29 != y32) h33 (by kernel_rfl) ?_
                      refine tr_skip (b_n (q_n ?_))
                      refine tr_r hT hm [] [2, 6, 8, 10, 2003, 2007] [(2, .d (.rp 1001 0)), (6, .d (.rp 1003 0)), (8, .d (iv s16)), (10, .d (iv (IntKind.i64.wrap (s21 + 1)))), bxB 2003 (eXMonoidal.b a0), bxB 2007 (eXCategory.b a0.On)] .nil (by kernel_rfl) (by kernel_rfl) (l_n ?_)
                      exact trl_start (ks := [2, 6, 8, 10, 2003, 2007]) (by kernel_rfl) (ih23 (IntKind.i64.wrap (s21 + 1)) hM)
                  · have hM := ite_false' hM h25
                    refine tr_condFe (e := decide (s21 < a0.On.Objects)) h25 (by kernel_rfl) ?_
                    refine tr_exit (q_x (l_x (b_h (b_n (q_n ?_)))))
                    refine tr_r hT hm [] [2, 6, 8, 2003, 2007] [(2, .d (.rp 1001 0)), (6, .d (.rp 1003 0)), (8, .d (iv (IntKind.i64.wrap (s16 + 1)))), bxB 2003 (eXMonoidal.b a0), bxB 2007 (eXCategory.b a0.On)] .nil (by kernel_rfl) (by kernel_rfl) (l_n ?_)
                    exact trl_start (ks := [2, 6, 8, 2003, 2007]) (by kernel_rfl) (ih18 (IntKind.i64.wrap (s16 + 1)) hM)
                · have hM := ite_false' hM h20
                  refine tr_condFe (e := decide (s16 < a0.On.Objects)) h20 (by kernel_rfl) ?_
                  refine tr_exit (q_x (l_x (b_h (q_n ?_))))
                  refine tr_seq ?_
                  refine tr_sr hT hm [] [2, 6, 12, 2003, 2007] [(2, .d (.rp 1001 0)), (6, .d (.rp 1003 0)), (12, .d (iv 0)), bxB 2003 (eXMonoidal.b a0), bxB 2007 (eXCategory.b a0.On)] .nil (by kernel_rfl) (by kernel_rfl) ?_
                  refine tr_block ?_
                  refine tr_iterS (fun (s34 : Int) => [(2, .d (.rp 1001 0)), (6, .d (.rp 1003 0)), (12, .d (iv s34)), bxB 2003 (eXMonoidal.b a0), bxB 2007 (eXCategory.b a0.On)]) 0 [2, 6, 12, 2003, 2007] (by kernel_rfl) hM ?_
                  intro n37 next35 ih36 s34 hM
                  refine tr_seq ?_
                  refine tr_sr hT hm [] [2, 6, 12, 224, 2003, 2007] [(2, .d (.rp 1001 0)), (6, .d (.rp 1003 0)), (12, .d (iv s34)), (224, .d (bv (decide (s34 < (a0.On.From.length : Int))))), bxB 2003 (eXMonoidal.b a0), bxB 2007 (eXCategory.b a0.On)] .nil (by kernel_rfl) (by kernel_rfl) ?_
                  rcases Bool.eq_false_or_eq_true (decide (s34 < (a0.On.From.length : Int))) with h38 | h38
                  · have hM := ite_true' hM h38
                    refine tr_condTe (e := decide (s34 < (a0.On.From.length : Int))) h38 (by kernel_rfl) ?_
                    refine tr_skip (q_n ?_)
                    refine tr_seq ?_
                    refine tr_block ?_
                    refine tr_sr hT hm [] [2, 6, 12, 14, 2003, 2007] [(2, .d (.rp 1001 0)), (6, .d (.rp 1003 0)), (12, .d (iv s34)), (14, .d (iv 0)), bxB 2003 (eXMonoidal.b a0), bxB 2007 (eXCategory.b a0.On)] .nil (by kernel_rfl) (by kernel_rfl) ?_
                    refine tr_block ?_
                    refine tr_iterS (fun (s39 : Int) => [(2, .d (.rp 1001 0)), (6, .d (.rp 1003 0)), (12, .d (iv s34)), (14, .d (iv s39)), bxB 2003 (eXMonoidal.b a0), bxB 2007 (eXCategory.b a0.On)]) 0 [2, 6, 12, 14, 2003, 2007] (by kernel_rfl) hM ?_
                    intro n42 next40 ih41 s39 hM
                    refine tr_seq ?_
                    refine tr_sr hT hm [] [2, 6, 12, 14, 238, 2003, 2007] [(2, .d (.rp 1001 0)), (6, .d (.rp 1003 0)), (12, .d (iv s34)), (14, .d (iv s39)), (238, .d (bv (decide (s39 < (a0.On.From.length : Int))))), bxB 2003 (eXMonoidal.b a0), bxB 2007 (eXCategory.b a0.On)] .nil (by kernel_rfl) (by kernel_rfl) ?_
                    rcases Bool.eq_false_or_eq_true (decide (s39 < (a0.On.From.length : Int))) with h43 | h43
                    · have hM := ite_true' hM h43
                      refine tr_condTe (e := decide (s39 < (a0.On.From.length : Int))) h43 (by kernel_rfl) ?_
                      refine tr_skip (q_n ?_)
                      refine tr_seq ?_
                      refine tr_block ?_
                      refine tr_seq ?_
                      obtain ⟨y44, hy44, hM⟩ := bind_some' hM
                      have hy44' := idx_some hy44
                      obtain ⟨y45, hy45, hM⟩ := bind_some' hM
                      have hy45' := idx_some hy45
                      refine tr_sr hT hm [(4, .val (.sl y44.length 0 (y44.flatMap eI.b))), (7, .val (iv y45))] [2, 6, 12, 14, 260, 2003, 2007] [(2, .d (.rp 1001 0)), (6, .d (.rp 1003 0)), (12, .d (iv s34)), (14, .d (iv s39)), (260, .d (bv (decide (y45 < 0)))), bxB 2003 (eXMonoidal.b a0), bxB 2007 (eXCategory.b a0.On)] (.cons hy44'.1 (.cons hy44'.2.1 (.cons (at_b0 (eS_ok eI_ok) hy44'.2.2 (d := .sl y44.length 0 (y44.flatMap eI.b)) (by kernel_rfl)) (.cons hy45'.1 (.cons hy45'.2.1 (.cons (at_b0 eI_ok hy45'.2.2 (d := iv y45) (by kernel_rfl)) .nil)))))) (by kernel_rfl) (by kernel_rfl) ?_
                      rcases Bool.eq_false_or_eq_true (decide (y45 < 0)) with h46 | h46
                      · have hM := ite_true' hM h46
                        refine tr_condTe (e := decide (y45 < 0)) h46 (by kernel_rfl) ?_
                        refine tr_exit (q_x (b_h (q_n ?_)))
                        refine tr_r hT hm [] [2, 6, 12, 14, 2003, 2007] [(2, .d (.rp 1001 0)), (6, .d (.rp 1003 0)), (12, .d (iv s34)), (14, .d (iv (IntKind.i64.wrap (s39 + 1)))), bxB 2003 (eXMonoidal.b a0), bxB 2007 (eXCategory.b a0.On)] .nil (by kernel_rfl) (by kernel_rfl) (l_n ?_)
                        exact trl_start (ks := [2, 6, 12, 14, 2003, 2007]) (by kernel_rfl) (ih41 (IntKind.i64.wrap (s39 + 1)) hM)
                      · have hM := ite_false' hM h46
                        refine tr_condFe (e := decide (y45 < 0)) h46 (by kernel_rfl) ?_
                        refine tr_skip (q_n ?_)
                        refine tr_sr hT hm [] [2, 6, 12, 14, 16, 2003, 2007] [(2, .d (.rp 1001 0)), (6, .d (.rp 1003 0)), (12, .d (iv s34)), (14, .d (iv s39)), (16, .d (iv 0)), bxB 2003 (eXMonoidal.b a0), bxB 2007 (eXCategory.b a0.On)] .nil (by kernel_rfl) (by kernel_rfl) ?_
                        refine tr_block ?_
                        refine tr_iterS (fun (s47 : Int) => [(2, .d (.rp 1001 0)), (6, .d (.rp 1003 0)), (12, .d (iv s34)), (14, .d (iv s39)), (16, .d (iv s47)), bxB 2003 (eXMonoidal.b a0), bxB 2007 (eXCategory.b a0.On)]) 0 [2, 6, 12, 14, 16, 2003, 2007] (by kernel_rfl) hM ?_
                        intro n50 next48 ih49 s47 hM
                        refine tr_seq ?_
                        refine tr_sr hT hm [] [2, 6, 12, 14, 16, 270, 2003, 2007] [(2, .d (.rp 1001 0)), (6, .d (.rp 1003 0)), (12, .d (iv s34)), (14, .d (iv s39)), (16, .d (iv s47)), (270, .d (bv (decide (s47 < (a0.On.From.length : Int))))), bxB 2003 (eXMonoidal.b a0), bxB 2007 (eXCategory.b a0.On)] .nil (by kernel_rfl) (by kernel_rfl) ?_
                        rcases Bool.eq_false_or_eq_true (decide (s47 < (a0.On.From.length : Int))) with h51 | h51
                        · have hM := ite_true' hM h51
                          refine tr_condTe (e := decide (s47 < (a0.On.From.length : Int))) h51 (by kernel_rfl) ?_
                          refine tr_skip (q_n ?_)
                          refine tr_seq ?_
                          refine tr_block ?_
                          refine tr_sr hT hm [] [2, 6, 12, 14, 16, 18, 2003, 2007] [(2, .d (.rp 1001 0)), (6, .d (.rp 1003 0)), (12, .d (iv s34)), (14, .d (iv s39)), (16, .d (iv s47)), (18, .d (iv 0)), bxB 2003 (eXMonoidal.b a0), bxB 2007 (eXCategory.b a0.On)] .nil (by kernel_rfl) (by kernel_rfl) ?_
                          refine tr_block ?_
                          refine tr_iterS (fun (s52 : Int) => [(2, .d (.rp 1001 0)), (6, .d (.rp 1003 0)), (12, .d (iv s34)), (14, .d (iv s39)), (16, .d (iv s47)), (18, .d (iv s52)), bxB 2003 (eXMonoidal.b a0), bxB 2007 (eXCategory.b a0.On)]) 0 [2, 6, 12, 14, 16, 18, 2003, 2007] (by kernel_rfl) hM ?_
                          intro n55 next53 ih54 s52 hM
                          refine tr_seq ?_
                          refine tr_sr hT hm [] [2, 6, 12, 14, 16, 18, 284, 2003, 2007] [(2, .d (.rp 1001 0)), (6, .d (.rp 1003 0)), (12, .d (iv s34)), (14, .d (iv s39)), (16, .d (iv s47)), (18, .d (iv s52)), (284, .d (bv (decide (s52 < (a0.On.From.length : Int))))), bxB 2003 (eXMonoidal.b a0), bxB 2007 (eXCategory.b a0.On)] .nil (by kernel_rfl) (by kernel_rfl) ?_
                          rcases Bool.eq_false_or_eq_true (decide (s52 < (a0.On.From.length : Int))) with h56 | h56
                          · have hM := ite_true' hM h56
                            refine tr_condTe (e := decide (s52 < (a0.On.From.length : Int))) h56 (by kernel_rfl) ?_
                            refine tr_skip (q_n ?_)
                            refine tr_seq ?_
                            refine tr_block ?_
                            obtain ⟨y57, hy57, hM⟩ := bind_some' hM
                            have hy57' := idx_some hy57
                            obtain ⟨y58, hy58, hM⟩ := bind_some' hM
                            have hy58' := idx_some hy58
                            rcases Bool.eq_false_or_eq_true (decide (y58 ≥ 0)) with h59 | h59
                            · have hM := ite_true' hM h59
                              obtain ⟨y60, hy60, hM⟩ := bind_some' hM
                              have hy60' := idx_some hy60
                              obtain ⟨y61, hy61, hM⟩ := bind_some' hM
                              have hy61' := idx_some hy61
                              obtain ⟨y62, hy62, hM⟩ := bind_some' hM
                              have hy62' := idx_some hy62
                              obtain ⟨y63, hy63, hM⟩ := bind_some' hM
                              have hy63' := idx_some hy63
                              obtain ⟨y64, hy64, hM⟩ := bind_some' hM
                              have hy64' := idx_some hy64
                              obtain ⟨y65, hy65, hM⟩ := bind_some' hM
                              have hy65' := idx_some hy65
                              obtain ⟨y66, hy66, hM⟩ := bind_some' hM
                              have hy66' := idx_some hy66
                              obtain ⟨y67, hy67, hM⟩ := bind_some' hM
                              have hy67' := idx_some hy67
                              refine tr_sr hT hm [(4, .val (.sl y57.length 0 (y57.flatMap eI.b))), (7, .val (iv y58)), (9, .val (bv true)), (16, .val (.sl y44.length 0 (y44.flatMap eI.b))), (19, .val (iv y45)), (21, .val (.sl y60.length 0 (y60.flatMap eI.b))), (26, .val (.sl y57.length 0 (y57.flatMap eI.b))), (29, .val (iv y58)), (31, .val (iv y61)), (38, .val (.sl y62.length 0 (y62.flatMap eI.b))), (41, .val (iv y63)), (43, .val (.sl y64.length 0 (y64.flatMap eI.b))), (48, .val (.sl y65.length 0 (y65.flatMap eI.b))), (51, .val (iv y66)), (53, .val (iv y67))] [2, 6, 12, 14, 16, 18, 310, 312, 314, 316, 318, 320, 322, 324, 326, 328, 330, 332, 334, 336, 338, 340, 342, 344, 346, 348, 350, 352, 354, 356, 358, 360, 362, 364, 366, 368, 370, 372, 374, 376, 378, 380, 382, 384, 386, 388, 390, 392, 394, 396, 398, 400, 2003, 2007] [(2, .d (.rp 1001 0)), (6, .d (.rp 1003 0)), (12, .d (iv s34)), (14, .d (iv s39)), (16, .d (iv s47)), (18, .d (iv s52)), (310, .d (.rp 1001 7)), (312, .d (.sl a0.Arrows.length 0 (a0.Arrows.flatMap (eS eI).b))), (314, .d (.rp 1003 4)), (316, .d (.sl a0.On.Composites.length 0 (a0.On.Composites.flatMap (eS eI).b))), (318, .d (iv s34)), (320, .d (.pt (a0.On.Composites.flatMap (eS eI).b) (0 + s34.toNat * 1))), (322, .d (.sl y44.length 0 (y44.flatMap eI.b))), (324, .d (iv s39)), (326, .d (.pt (y44.flatMap eI.b) (0 + s39.toNat * 1))), (328, .d (iv y45)), (330, .d (.pt (a0.Arrows.flatMap (eS eI).b) (0 + y45.toNat * 1))), (332, .d (.sl y60.length 0 (y60.flatMap eI.b))), (334, .d (.rp 1003 4)), (336, .d (.sl a0.On.Composites.length 0 (a0.On.Composites.flatMap (eS eI).b))), (338, .d (iv s47)), (340, .d (.pt (a0.On.Composites.flatMap (eS eI).b) (0 + s47.toNat * 1))), (342, .d (.sl y57.length 0 (y57.flatMap eI.b))), (344, .d (iv s52)), (346, .d (.pt (y57.flatMap eI.b) (0 + s52.toNat * 1))), (348, .d (iv y58)), (350, .d (.pt (y60.flatMap eI.b) (0 + y58.toNat * 1))), (352, .d (iv y61)), (354, .d (.rp 1003 4)), (356, .d (.sl a0.On.Composites.length 0 (a0.On.Composites.flatMap (eS eI).b))), (358, .d (.rp 1001 7)), (360, .d (.sl a0.Arrows.length 0 (a0.Arrows.flatMap (eS eI).b))), (362, .d (iv s34)), (364, .d (.pt (a0.Arrows.flatMap (eS eI).b) (0 + s34.toNat * 1))), (366, .d (.sl y62.length 0 (y62.flatMap eI.b))), (368, .d (iv s47)), (370, .d (.pt (y62.flatMap eI.b) (0 + s47.toNat * 1))), (372, .d (iv y63)), (374, .d (.pt (a0.On.Composites.flatMap (eS eI).b) (0 + y63.toNat * 1))), (376, .d (.sl y64.length 0 (y64.flatMap eI.b))), (378, .d (.rp 1001 7)), (380, .d (.sl a0.Arrows.length 0 (a0.Arrows.flatMap (eS eI).b))), (382, .d (iv s39)), (384, .d (.pt (a0.Arrows.flatMap (eS eI).b) (0 + s39.toNat * 1))), (386, .d (.sl y65.length 0 (y65.flatMap eI.b))), (388, .d (iv s52)), (390, .d (.pt (y65.flatMap eI.b) (0 + s52.toNat * 1))), (392, .d (iv y66)), (394, .d (.pt (y64.flatMap eI.b) (0 + y66.toNat * 1))), (396, .d (iv y67)), (398, .d (bv (y61 != y67))), (400, .d (bv (y61 != y67))), bxB 2003 (eXMonoidal.b a0), bxB 2007 (eXCategory.b a0.On)] (.cons hy57'.1 (.cons hy57'.2.1 (.cons (at_b0 (eS_ok eI_ok) hy57'.2.2 (d := .sl y57.length 0 (y57.flatMap eI.b)) (by kernel_rfl)) (.cons hy58'.1 (.cons hy58'.2.1 (.cons (at_b0 eI_ok hy58'.2.2 (d := iv y58) (by kernel_rfl)) (.cons (congrArg (fun b => bv b) h59) (.cons hy44'.1 (.cons hy44'.2.1 (.cons (at_b0 (eS_ok eI_ok) hy44'.2.2 (d := .sl y44.length 0 (y44.flatMap eI.b)) (by kernel_rfl)) (.cons hy45'.1 (.cons hy45'.2.1 (.cons (at_b0 eI_ok hy45'.2.2 (d := iv y45) (by kernel_rfl)) (.cons hy60'.1 (.cons hy60'.2.1 (.cons (at_b0 (eS_ok eI_ok) hy60'.2.2 (d := .sl y60.length 0 (y60.flatMap eI.b)) (by kernel_rfl)) (.cons hy57'.1 (.cons hy57'.2.1 (.cons (at_b0 (eS_ok eI_ok) hy57'.2.2 (d := .sl y57.length 0 (y57.flatMap eI.b)) (by kernel_rfl)) (.cons hy58'.1 (.cons hy58'.2.1 (.cons (at_b0 eI_ok hy58'.2.2 (d := iv y58) (by kernel_rfl)) (.cons hy61'.1 (.cons hy61'.2.1 (.cons (at_b0 eI_ok hy61'.2.2 (d := iv y61) (by kernel_rfl)) (.cons hy62'.1 (.cons hy62'.2.1 (.cons (at_b0 (eS_ok eI_ok) hy62'.2.2 (d := .sl y62.length 0 (y62.flatMap eI.b)) (by kernel_rfl)) (.cons hy63'.1 (.cons hy63'.2.1 (.cons (at_b0 eI_ok hy63'.2.2 (d := iv y63) (by kernel_rfl)) (.cons hy64'.1 (.cons hy64'.2.1 (.cons (at_b0 (eS_ok eI_ok) hy64'.2.2 (d := .sl y64.length 0 (y64.flatMap eI.b)) (by kernel_rfl)) (.cons hy65'.1 (.cons hy65'.2.1 (.cons (at_b0 (eS_ok eI_ok) hy65'.2.2 (d := .sl y65.length 0 (y65.flatMap eI.b)) (by kernel_rfl)) (.cons hy66'.1 (.cons hy66'.2.1 (.cons (at_b0 eI_ok hy66'.2.2 (d := iv y66) (by kernel_rfl)) (.cons hy67'.1 (.cons hy67'.2.1 (.cons (at_b0 eI_ok hy67'.2.2 (d := iv y67) (by kernel_rfl)) .nil))))))))))))))))))))))))))))))))))))))))))) (by kernel_rfl) (by kernel_rfl) ?_
                              rcases Bool.eq_false_or_eq_true (y61 != y67) with h68 | h68
                              · have hM := ite_true' hM h68
                                refine tr_condTe (e := y61 != y67) h68 (by kernel_rfl) ?_
                                refine tr_sr hT hm [] [4] [(4, .d (bv false))] .nil (by kernel_rfl) (by kernel_rfl) ?_
                                refine tr_ret (b_r (q_r (l_r (b_r (b_r (q_r (l_r (b_r (b_r (q_r (l_r (b_r (b_r (q_r (l_r (b_r (q_r (rg_r ?_))))))))))))))))))
                                obtain rfl := Option.some.inj hM
                                exact retg (names := []) .nil (by kernel_rfl)
                              · have hM := ite_false' hM h68
                                refine tr_condFe (e := y61 != y67) h68 (by kernel_rfl) ?_
                                refine tr_skip (b_n (q_n ?_))
                                refine tr_r hT hm [] [2, 6, 12, 14, 16, 18, 310, 312, 314, 316, 318, 320, 322, 324, 326, 328, 330, 332, 334, 336, 338, 340, 342, 344, 346, 348, 350, 352, 354, 356, 358, 360, 362, 364, 366, 368, 370, 372, 374, 376, 378, 380, 382, 384, 386, 388, 390, 392, 394, 396, 398, 2003, 2007] [(2, .d (.rp 1001 0)), (6, .d (.rp 1003 0)), (12, .d (iv s34)), (14, .d (iv s39)), (16, .d (iv s47)), (18, .d (iv (IntKind.i64.wrap (s52 + 1)))), (310, .d (.rp 1001 7)), (312, .d (.sl a0.Arrows.length 0 (a0.Arrows.flatMap (eS eI).b))), (314, .d (.rp 1003 4)), (316, .d (.sl a0.On.Composites.length 0 (a0.On.Composites.flatMap (eS eI).b))), (318, .d (iv s34)), (320, .d (.pt (a0.On.Composites.flatMap (eS eI).b) (0 + s34.toNat * 1))), (322, .d (.sl y44.length 0 (y44.flatMap eI.b))), (324, .d (iv s39)), (326, .d (.pt (y44.flatMap eI.b) (0 + s39.toNat * 1))), (328, .d (iv y45)), (330, .d (.pt (a0.Arrows.flatMap (eS eI).b) (0 + y45.toNat * 1))), (332, .d (.sl y60.length 0 (y60.flatMap eI.b))), (334, .d (.rp 1003 4)), (336, .d (.sl a0.On.Composites.length 0 (a0.On.Composites.flatMap (eS eI).b))), (338, .d (iv s47)), (340, .d (.pt (a0.On.Composites.flatMap (eS eI).b) (0 + s47.toNat * 1))), (342, .d (.sl y57.length 0 (y57.flatMap eI.b))), (344, .d (iv s52)), (346, .d (.pt (y57.flatMap eI.b) (0 + s52.toNat * 1))), (348, .d (iv y58)), (350, .d (.pt (y60.flatMap eI.b) (0 + y58.toNat * 1))), (352, .d (iv y61)), (354, .d (.rp 1003 4)), (356, .d (.sl a0.On.Composites.length 0 (a0.On.Composites.flatMap (eS eI).b))), (358, .d (.rp 1001 7)), (360, .d (.sl a0.Arrows.length 0 (a0.Arrows.flatMap (eS eI).b))), (362, .d (iv s34)), (364, .d (.pt (a0.Arrows.flatMap (eS eI).b) (0 + s34.toNat * 1))), (366, .d (.sl y62.length 0 (y62.flatMap eI.b))), (368, .d (iv s47)), (370, .d (.pt (y62.flatMap eI.b) (0 + s47.toNat * 1))), (372, .d (iv y63)), (374, .d (.pt (a0.On.Composites.flatMap (eS eI).b) (0 + y63.toNat * 1))), (376, .d (.sl y64.length 0 (y64.flatMap eI.b))), (378, .d (.rp 1001 7)), (380, .d (.sl a0.Arrows.length 0 (a0.Arrows.flatMap (eS eI).b))), (382, .d (iv s39)), (384, .d (.pt (a0.Arrows.flatMap (eS eI).b) (0 + s39.toNat * 1))), (386, .d (.sl y65.length 0 (y65.flatMap eI.b))), (388, .d (iv s52)), (390, .d (.pt (y65.flatMap eI.b) (0 + s52.toNat * 1))), (392, .d (iv y66)), (394, .d (.pt (y64.flatMap eI.b) (0 + y66.toNat * 1))), (396, .d (iv y67)), (398, .d (bv (y61 != y67))), bxB 2003 (eXMonoidal.b a0), bxB 2007 (eXCategory.b a0.On)] .nil (by kernel_rfl) (by kernel_rfl) (l_n ?_)
                                exact trl_start (ks := [2, 6, 12, 14, 16, 18, 2003, 2007]) (by kernel_rfl) (ih54 (IntKind.i64.wrap (s52 + 1)) hM)
                            · have hM := ite_false' hM h59
                              refine tr_sr hT hm [(4, .val (.sl y57.length 0 (y57.flatMap eI.b))), (7, .val (iv y58)), (9, .val (bv false))] [2, 6, 12, 14, 16, 18, 400, 2003, 2007] [(2, .d (.rp 1001 0)), (6, .d (.rp 1003 0)), (12, .d (iv s34)), (14, .d (iv s39)), (16, .d (iv s47)), (18, .d (iv s52)), (400, .d (bv false)), bxB 2003 (eXMonoidal.b a0), bxB 2007 (eXCategory.b a0.On)] (.cons hy57'.1 (.cons hy57'.2.1 (.cons (at_b0 (eS_ok eI_ok) hy57'.2.2 (d := .sl y57.length 0 (y57.flatMap eI.b)) (by kernel_rfl)) (.cons hy58'.1 (.cons hy58'.2.1 (.cons (at_b0 eI_ok hy58'.2.2 (d := iv y58) (by kernel_rfl)) (.cons (congrArg (fun b => bv b) h59) .nil))))))) (by kernel_rfl) (by kernel_rfl) ?_
                              refine tr_condF (by kernel_rfl) ?_
                              refine tr_skip (b_n (q_n ?_))
                              refine tr_r hT hm [] [2, 6, 12, 14, 16, 18, 2003, 2007] [(2, .d (.rp 1001 0)), (6, .d (.rp 1003 0)), (12, .d (iv s34)), (14, .d (iv s39)), (16, .d (iv s47)), (18, .d (iv (IntKind.i64.wrap (s52 + 1)))), bxB 2003 (eXMonoidal.b a0), bxB 2007 (eXCategory.b a0.On)] .nil (by kernel_rfl) (by kernel_rfl) (l_n ?_)
                              exact trl_start (ks := [2, 6, 12, 14, 16, 18, 2003, 2007]) (by kernel_rfl) (ih54 (IntKind.i64.wrap (s52 + 1)) hM)
                          · have hM := ite_false' hM h56
                            refine tr_condFe (e := decide (s52 < (a0.On.From.length : Int))) h56 (by kernel_rfl) ?_
                            refine tr_exit (q_x (l_x (b_h (b_n (q_n ?_)))))
                            refine tr_r hT hm [] [2, 6, 12, 14, 16, 2003, 2007] [(2, .d (.rp 1001 0)), (6, .d (.rp 1003 0)), (12, .d (iv s34)), (14, .d (iv s39)), (16, .d (iv (IntKind.i64.wrap (s47 + 1)))), bxB 2003 (eXMonoidal.b a0), bxB 2007 (eXCategory.b a0.On)] .nil (by kernel_rfl) (by kernel_rfl) (l_n ?_)
                            exact trl_start (ks := [2, 6, 12, 14, 16, 2003, 2007]) (by kernel_rfl) (ih49 (IntKind.i64.wrap (s47 + 1)) hM)
                        · have hM := ite_false' hM h51
                          refine tr_condFe (e := decide (s47 < (a0.On.From.length : Int))) h51 (by kernel_rfl) ?_
                          refine tr_exit (q_x (l_x (b_h (b_n (q_n ?_)))))
                          refine tr_r hT hm [] [2, 6, 12, 14, 2003, 2007] [(2, .d (.rp 1001 0)), (6, .d (.rp 1003 0)), (12, .d (iv s34)), (14, .d (iv (IntKind.i64.wrap (s39 + 1)))), bxB 2003 (eXMonoidal.b a0), bxB 2007 (eXCategory.b a0.On)] .nil (by kernel_rfl) (by kernel_rfl) (l_n ?_)
                          exact trl_start (ks := [2, 6, 12, 14, 2003, 2007]) (by kernel_rfl) (ih41 (IntKind.i64.wrap (s39 + 1)) hM)
                    · have hM := ite_false' hM h43
                      refine tr_condFe (e := decide (s39 < (a0.On.From.length : Int))) h43 (by kernel_rfl) ?_
                      refine tr_exit (q_x (l_x (b_h (b_n (q_n ?_)))))
                      refine tr_r hT hm [] [2, 6, 12, 2003, 2007] [(2, .d (.rp 1001 0)), (6, .d (.rp 1003 0)), (12, .d (iv (IntKind.i64.wrap (s34 + 1)))), bxB 2003 (eXMonoidal.b a0), bxB 2007 (eXCategory.b a0.On)] .nil (by kernel_rfl) (by kernel_rfl) (l_n ?_)
                      exact trl_start (ks := [2, 6, 12, 2003, 2007]) (by kernel_rfl) (ih36 (IntKind.i64.wrap (s34 + 1)) hM)
                  · have hM := ite_false' hM h38
                    refine tr_condFe (e := decide (s34 < (a0.On.From.length : Int))) h38 (by kernel_rfl) ?_
                    refine tr_exit (q_x (l_x (b_h (q_n ?_))))
                    refine tr_sr hT hm [] [4] [(4, .d (bv true))] .nil (by kernel_rfl) (by kernel_rfl) ?_
                    refine tr_ret (rg_r ?_)
                    obtain rfl := Option.some.inj hM
                    exact retg (names := []) .nil (by kernel_rfl)
              · have hM := ite_false' hM h15
                refine tr_condTe (e := !v14) (congrArg not h15) (by kernel_rfl) ?_
                refine tr_sr hT hm [] [4] [(4, .d (bv false))] .nil (by kernel_rfl) (by kernel_rfl) ?_
                refine tr_ret (q_r (rg_r ?_))
                obtain rfl := Option.some.inj hM
                exact retg (names := []) .nil (by kernel_rfl)
            · have hM := ite_false' hM h12
              refine tr_sr hT hm [(1, .call [] [] [.agg (eXMonoidal.b a0)] [] (bv v9)), (3, .val (bv false)), (8, .call [] [] [.sl a0.Objects.length 0 (a0.Objects.flatMap (eS eI).b), iv a0.Unit] [] (bv v11)), (11, .val (bv true))] [2, 6, 132, 2003, 2007] [(2, .d (.rp 1001 0)), (6, .d (.rp 1003 0)), (132, .d (bv true)), bxB 2003 (eXMonoidal.b a0), bxB 2007 (eXCategory.b a0.On)] (cc0 ok168 (spec_l35Ends_c a0 _ hv9) (by kernel_rfl) (.cons (congrArg (fun b => bv b) (congrArg not h10)) (cc0 ok169 (spec_l35Whole_c a0.Objects a0.Unit _ hv11) (by kernel_rfl) (.cons (congrArg (fun b => bv b) (congrArg not h12)) .nil)))) (by kernel_rfl) (by kernel_rfl) ?_
              refine tr_condT (by kernel_rfl) ?_
              refine tr_sr hT hm [] [4] [(4, .d (bv false))] .nil (by kernel_rfl) (by kernel_rfl) ?_
              refine tr_ret (q_r (rg_r ?_))
              obtain rfl := Option.some.inj hM
              exact retg (names := []) .nil (by kernel_rfl)
          · have hM := ite_false' hM h10
            refine tr_sr hT hm [(1, .call [] [] [.agg (eXMonoidal.b a0)] [] (bv v9)), (3, .val (bv true))] [2, 6, 132, 2003, 2007] [(2, .d (.rp 1001 0)), (6, .d (.rp 1003 0)), (132, .d (bv true)), bxB 2003 (eXMonoidal.b a0), bxB 2007 (eXCategory.b a0.On)] (cc0 ok168 (spec_l35Ends_c a0 _ hv9) (by kernel_rfl) (.cons (congrArg (fun b => bv b) (congrArg not h10)) .nil)) (by kernel_rfl) (by kernel_rfl) ?_
            refine tr_condT (by kernel_rfl) ?_
            refine tr_sr hT hm [] [4] [(4, .d (bv false))] .nil (by kernel_rfl) (by kernel_rfl) ?_
            refine tr_ret (q_r (rg_r ?_))
            obtain rfl := Option.some.inj hM
            exact retg (names := []) .nil (by kernel_rfl)
        · have hM := ite_false' hM h8
          refine tr_condTe (e := !v7) (congrArg not h8) (by kernel_rfl) ?_
          refine tr_sr hT hm [] [4] [(4, .d (bv false))] .nil (by kernel_rfl) (by kernel_rfl) ?_
          refine tr_ret (q_r (rg_r ?_))
          obtain rfl := Option.some.inj hM
          exact retg (names := []) .nil (by kernel_rfl)
      · have hM := ite_false' hM h6
        refine tr_sr hT hm [(1, .call [] [] [.agg (eXCategory.b a0.On)] [] (bv v1)), (3, .val (bv false)), (7, .call [] [] [.agg (eXCategory.b a0.On), iv a0.Unit] [] (bv v3)), (10, .val (bv false)), (17, .call [] [] [.sl a0.Objects.length 0 (a0.Objects.flatMap (eS eI).b), iv a0.On.Objects, iv a0.On.Objects] [] (bv v5)), (20, .val (bv true))] [2, 6, 86, 2003, 2007] [(2, .d (.rp 1001 0)), (6, .d (.rp 1003 0)), (86, .d (bv true)), bxB 2003 (eXMonoidal.b a0), bxB 2007 (eXCategory.b a0.On)] (cc0 ok107 (spec_l02Is_c a0.On _ hv1) (by kernel_rfl) (.cons (congrArg (fun b => bv b) (congrArg not h2)) (cc0 ok166 (spec_l02Object_c a0.On a0.Unit _ hv3) (by kernel_rfl) (.cons (congrArg (fun b => bv b) (congrArg not h4)) (cc0 ok167 (spec_l35Table_c a0.Objects a0.On.Objects a0.On.Objects _ hv5) (by kernel_rfl) (.cons (congrArg (fun b => bv b) (congrArg not h6)) .nil)))))) (by kernel_rfl) (by kernel_rfl) ?_
        refine tr_condT (by kernel_rfl) ?_
        refine tr_sr hT hm [] [4] [(4, .d (bv false))] .nil (by kernel_rfl) (by kernel_rfl) ?_
        refine tr_ret (q_r (rg_r ?_))
        obtain rfl := Option.some.inj hM
        exact retg (names := []) .nil (by kernel_rfl)
    · have hM := ite_false' hM h4
      refine tr_sr hT hm [(1, .call [] [] [.agg (eXCategory.b a0.On)] [] (bv v1)), (3, .val (bv false)), (7, .call [] [] [.agg (eXCategory.b a0.On), iv a0.Unit] [] (bv v3)), (10, .val (bv true))] [2, 6, 86, 2003, 2007] [(2, .d (.rp 1001 0)), (6, .d (.rp 1003 0)), (86, .d (bv true)), bxB 2003 (eXMonoidal.b a0), bxB 2007 (eXCategory.b a0.On)] (cc0 ok107 (spec_l02Is_c a0.On _ hv1) (by kernel_rfl) (.cons (congrArg (fun b => bv b) (congrArg not h2)) (cc0 ok166 (spec_l02Object_c a0.On a0.Unit _ hv3) (by kernel_rfl) (.cons (congrArg (fun b => bv b) (congrArg not h4)) .nil)))) (by kernel_rfl) (by kernel_rfl) ?_
      refine tr_condT (by kernel_rfl) ?_
      refine tr_sr hT hm [] [4] [(4, .d (bv false))] .nil (by kernel_rfl) (by kernel_rfl) ?_
      refine tr_ret (q_r (rg_r ?_))
      obtain rfl := Option.some.inj hM
      exact retg (names := []) .nil (by kernel_rfl)
  · have hM := ite_false' hM h2
    refine tr_sr hT hm [(1, .call [] [] [.agg (eXCategory.b a0.On)] [] (bv v1)), (3, .val (bv true))] [2, 6, 86, 2003, 2007] [(2, .d (.rp 1001 0)), (6, .d (.rp 1003 0)), (86, .d (bv true)), bxB 2003 (eXMonoidal.b a0), bxB 2007 (eXCategory.b a0.On)] (cc0 ok107 (spec_l02Is_c a0.On _ hv1) (by kernel_rfl) (.cons (congrArg (fun b => bv b) (congrArg not h2)) .nil)) (by kernel_rfl) (by kernel_rfl) ?_
    refine tr_condT (by kernel_rfl) ?_
    refine tr_sr hT hm [] [4] [(4, .d (bv false))] .nil (by kernel_rfl) (by kernel_rfl) ?_
    refine tr_ret (q_r (rg_r ?_))
    obtain rfl := Option.some.inj hM
    exact retg (names := []) .nil (by kernel_rfl)

end Go.Proofs.Ytjmjhhhglbeacaa.WyM
