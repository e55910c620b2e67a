/- Walks. Printed by wip/gen. -/
import Derived.Test.YtjmjhhhglbeacaaGxy52W0
namespace Go.Proofs.Ytjmjhhhglbeacaa.Wy52
open Go.Gx Go.Proofs.Ytjmjhhhglbeacaa.WvB Go.Proofs.Ytjmjhhhglbeacaa.WvS Go.Proofs.Ytjmjhhhglbeacaa.WvQ Go.Proofs.Ytjmjhhhglbeacaa.WyG Go.Proofs.Ytjmjhhhglbeacaa.WvI Go.Proofs.Ytjmjhhhglbeacaa.WyX Go.Proofs.Ytjmjhhhglbeacaa.WyT Go.Proofs.Ytjmjhhhglbeacaa.WyP

theorem ok143 : CallOk Try.prog 143 := callOk_of Try.func143 (by kernel_rfl) (by kernel_rfl)
theorem spec_l22Fits_c (a0 : XProfunctor) (r : Bool) (hM : M.spec_l22Fits a0 = some r) :
    FnC Try.prog 143 [] [.agg (eXProfunctor.b a0)] [] (bv r) := by
  refine fnc_startG (N := 31) (np := 500) hT Try.func143 rfl rfl (by kernel_rfl) ?_
  unfold M.spec_l22Fits at hM
  refine tr_start (ks := [0]) (st' := [(0, .d (.agg (eXProfunctor.b a0)))]) (by kernel_rfl) ?_
  refine tr_sr hT hm [] [2, 2003] [(2, .d (.rp 1001 0)), bxB 2003 (eXProfunctor.b a0)] .nil (by kernel_rfl) (by kernel_rfl) ?_
  refine tr_seq ?_
  refine tr_sr hT hm [] [2, 6, 2003] [(2, .d (.rp 1001 0)), (6, .d (iv 0)), bxB 2003 (eXProfunctor.b a0)] .nil (by kernel_rfl) (by kernel_rfl) ?_
  refine tr_block ?_
  refine tr_iterS (fun (s1 : Int) => [(2, .d (.rp 1001 0)), (6, .d (iv s1)), bxB 2003 (eXProfunctor.b a0)]) 0 [2, 6, 2003] (by kernel_rfl) hM ?_
  intro n4 next2 ih3 s1 hM
  refine tr_seq ?_
  refine tr_sr hT hm [] [2, 6, 18, 2003] [(2, .d (.rp 1001 0)), (6, .d (iv s1)), (18, .d (bv (decide (s1 < (a0.Sizes.length : Int))))), bxB 2003 (eXProfunctor.b a0)] .nil (by kernel_rfl) (by kernel_rfl) ?_
  rcases Bool.eq_false_or_eq_true (decide (s1 < (a0.Sizes.length : Int))) with h5 | h5
  · have hM := ite_true' hM h5
    refine tr_condTe (e := decide (s1 < (a0.Sizes.length : Int))) h5 (by kernel_rfl) ?_
    refine tr_skip (q_n ?_)
    refine tr_seq ?_
    refine tr_block ?_
    refine tr_sr hT hm [] [2, 6, 8, 2003] [(2, .d (.rp 1001 0)), (6, .d (iv s1)), (8, .d (iv 0)), bxB 2003 (eXProfunctor.b a0)] .nil (by kernel_rfl) (by kernel_rfl) ?_
    refine tr_block ?_
    refine tr_iterS (fun (s6 : Int) => [(2, .d (.rp 1001 0)), (6, .d (iv s1)), (8, .d (iv s6)), bxB 2003 (eXProfunctor.b a0)]) 0 [2, 6, 8, 2003] (by kernel_rfl) hM ?_
    intro n9 next7 ih8 s6 hM
    refine tr_seq ?_
    obtain ⟨y10, hy10, hM⟩ := bind_some' hM
    have hy10' := idx_some hy10
    refine tr_sr hT hm [(5, .val (.sl y10.length 0 (y10.flatMap eI.b)))] [2, 6, 8, 38, 2003] [(2, .d (.rp 1001 0)), (6, .d (iv s1)), (8, .d (iv s6)), (38, .d (bv (decide (s6 < (y10.length : Int))))), bxB 2003 (eXProfunctor.b a0)] (.cons hy10'.1 (.cons hy10'.2.1 (.cons (at_b0 (eS_ok eI_ok) hy10'.2.2 (d := .sl y10.length 0 (y10.flatMap eI.b)) (by kernel_rfl)) .nil))) (by kernel_rfl) (by kernel_rfl) ?_
    rcases Bool.eq_false_or_eq_true (decide (s6 < (y10.length : Int))) with h11 | h11
    · have hM := ite_true' hM h11
      refine tr_condTe (e := decide (s6 < (y10.length : Int))) h11 (by kernel_rfl) ?_
      refine tr_skip (q_n ?_)
      refine tr_seq ?_
      refine tr_block ?_
      obtain ⟨y12, hy12, hM⟩ := bind_some' hM
      have hy12' := idx_some hy12
      refine tr_sr hT hm [(4, .val (.sl y10.length 0 (y10.flatMap eI.b))), (7, .val (iv y12))] [2, 6, 8, 60, 2003] [(2, .d (.rp 1001 0)), (6, .d (iv s1)), (8, .d (iv s6)), (60, .d (bv (decide (y12 > 64)))), bxB 2003 (eXProfunctor.b a0)] (.cons hy10'.1 (.cons hy10'.2.1 (.cons (at_b0 (eS_ok eI_ok) hy10'.2.2 (d := .sl y10.length 0 (y10.flatMap eI.b)) (by kernel_rfl)) (.cons hy12'.1 (.cons hy12'.2.1 (.cons (at_b0 eI_ok hy12'.2.2 (d := iv y12) (by kernel_rfl)) .nil)))))) (by kernel_rfl) (by kernel_rfl) ?_
      rcases Bool.eq_false_or_eq_true (decide (y12 > 64)) with h13 | h13
      · have hM := ite_true' hM h13
        refine tr_condTe (e := decide (y12 > 64)) h13 (by kernel_rfl) ?_
        refine tr_sr hT hm [] [4] [(4, .d (bv false))] .nil (by kernel_rfl) (by kernel_rfl) ?_
        refine tr_ret (b_r (q_r (l_r (b_r (b_r (q_r (l_r (b_r (q_r (rg_r ?_))))))))))
        obtain rfl := Option.some.inj hM
        exact retg (names := []) .nil (by kernel_rfl)
      · have hM := ite_false' hM h13
        refine tr_condFe (e := decide (y12 > 64)) h13 (by kernel_rfl) ?_
        refine tr_skip (b_n (q_n ?_))
        refine tr_r hT hm [] [2, 6, 8, 2003] [(2, .d (.rp 1001 0)), (6, .d (iv s1)), (8, .d (iv (IntKind.i64.wrap (s6 + 1)))), bxB 2003 (eXProfunctor.b a0)] .nil (by kernel_rfl) (by kernel_rfl) (l_n ?_)
        exact trl_start (ks := [2, 6, 8, 2003]) (by kernel_rfl) (ih8 (IntKind.i64.wrap (s6 + 1)) hM)
    · have hM := ite_false' hM h11
      refine tr_condFe (e := decide (s6 < (y10.length : Int))) h11 (by kernel_rfl) ?_
      refine tr_exit (q_x (l_x (b_h (b_n (q_n ?_)))))
      refine tr_r hT hm [] [2, 6, 2003] [(2, .d (.rp 1001 0)), (6, .d (iv (IntKind.i64.wrap (s1 + 1)))), bxB 2003 (eXProfunctor.b a0)] .nil (by kernel_rfl) (by kernel_rfl) (l_n ?_)
      exact trl_start (ks := [2, 6, 2003]) (by kernel_rfl) (ih3 (IntKind.i64.wrap (s1 + 1)) hM)
  · have hM := ite_false' hM h5
    refine tr_condFe (e := decide (s1 < (a0.Sizes.length : Int))) h5 (by kernel_rfl) ?_
    refine tr_exit (q_x (l_x (b_h (q_n ?_))))
    refine tr_sr hT hm [] [4] [(4, .d (bv true))] .nil (by kernel_rfl) (by kernel_rfl) ?_
    refine tr_ret (rg_r ?_)
    obtain rfl := Option.some.inj hM
    exact retg (names := []) .nil (by kernel_rfl)

theorem ok60 : CallOk Try.prog 60 := callOk_of Try.func60 (by kernel_rfl) (by kernel_rfl)
theorem spec_PairsProfunctor_c (a0 : XSetFunctor) (a1 : XSetFunctor) (r : XProfunctor × Int) (hM : M.spec_PairsProfunctor a0 a1 = some r) :
    FnC Try.prog 60 [] [.agg (eXSetFunctor.b a0), .agg (eXSetFunctor.b a1)] [] (.tup [.agg (eXProfunctor.o r.1), iv r.2]) := by
  refine fnc_startG (N := 24) (np := 500) hT Try.func60 rfl rfl (by kernel_rfl) ?_
  unfold M.spec_PairsProfunctor at hM
  refine tr_start (ks := [0, 2]) (st' := [(0, .d (.agg (eXSetFunctor.b a0))), (2, .d (.agg (eXSetFunctor.b a1)))]) (by kernel_rfl) ?_
  refine tr_sr hT hm [] [4, 6, 8, 2005, 2007, 2009] [(4, .d (.rp 1002 0)), (6, .d (.rp 1003 0)), (8, .d (.rp 1004 0)), bxB 2005 (eXSetFunctor.b a0), bxB 2007 (eXSetFunctor.b a1), (2009, .r (.arr 1 [iv 0, nilv, nilv, nilv, nilv, iv 0, nilv, nilv, nilv, nilv, nilv, nilv, nilv] []))] .nil (by kernel_rfl) (by kernel_rfl) ?_
  refine tr_seq ?_
  obtain ⟨v1, hv1, hM⟩ := bind_some' hM
  rcases Bool.eq_false_or_eq_true v1 with h2 | h2
  · have hM := ite_true' hM h2
    obtain ⟨v3, hv3, hM⟩ := bind_some' hM
    refine tr_sr hT hm [(1, .call [] [] [.agg (eXSetFunctor.b a0)] [] (bv v1)), (3, .val (bv false)), (5, .call [] [] [.agg (eXSetFunctor.b a1)] [] (bv v3))] [4, 6, 8, 28, 2005, 2007, 2009] [(4, .d (.rp 1002 0)), (6, .d (.rp 1003 0)), (8, .d (.rp 1004 0)), (28, .d (bv (!v3))), bxB 2005 (eXSetFunctor.b a0), bxB 2007 (eXSetFunctor.b a1), (2009, .r (.arr 1 [iv 0, nilv, nilv, nilv, nilv, iv 0, nilv, nilv, nilv, nilv, nilv, nilv, nilv] []))] (cc0 ok141 (spec_l19Is_c a0 _ hv1) (by kernel_rfl) (.cons (congrArg (fun b => bv b) (congrArg not h2)) (cc0 ok141 (spec_l19Is_c a1 _ hv3) (by kernel_rfl) .nil))) (by kernel_rfl) (by kernel_rfl) ?_
    rcases Bool.eq_false_or_eq_true v3 with h4 | h4
    · have hM := ite_true' hM h4
      refine tr_condFe (e := !v3) (congrArg not h4) (by kernel_rfl) ?_
      refine tr_skip (q_n ?_)
      obtain ⟨v5, hv5, hM⟩ := bind_some' hM
      refine tr_sr hT hm [(2, .call [] [] [.agg (eXSetFunctor.b a0), .agg (eXSetFunctor.b a1)] [] (.agg (eXProfunctor.o v5)))] [8, 12, 2009, 2013, 40003, 40005, 40007, 40009, 40013, 40015, 40017, 40019, 40021, 40023, 40025] ([(8, .d (.rp 1004 0)), (12, .d (.rp 1006 0)), (2009, .r (.arr 1 [iv 0, nilv, nilv, nilv, nilv, iv 0, nilv, nilv, nilv, nilv, nilv, nilv, nilv] [])), bxO 2013 20000 (eXProfunctor.o v5)] ++ rsS 20000 (eXProfunctor.o v5)) (cc0 ok142 (spec_l22Pairs_c a0 a1 _ hv5) (by kernel_rfl) (.cons (Nat.le_of_ble_eq_true (n := 13) (m := 13) rfl) .nil)) (by kernel_rfl) (by kernel_rfl) ?_
      refine tr_seq ?_
      obtain ⟨v6, hv6, hM⟩ := bind_some' hM
      refine tr_sr hT hm [(1, .call (rsR 20000 (eXProfunctor.o v5)) [] [.agg (eXProfunctor.b v5)] [] (bv v6))] [8, 12, 42, 2009, 2013, 40003, 40005, 40007, 40009, 40013, 40015, 40017, 40019, 40021, 40023, 40025] ([(8, .d (.rp 1004 0)), (12, .d (.rp 1006 0)), (42, .d (bv (!v6))), (2009, .r (.arr 1 [iv 0, nilv, nilv, nilv, nilv, iv 0, nilv, nilv, nilv, nilv, nilv, nilv, nilv] [])), bxO 2013 20000 (eXProfunctor.o v5)] ++ rsS 20000 (eXProfunctor.o v5)) (cc (B := (rsR 20000 (eXProfunctor.o v5))) (ρ := []) (rB := (rsP 20000 (eXProfunctor.o v5))) ok143 (spec_l22Fits_c v5 _ hv6) (.cons (bor_rs eXProfunctor_r (q := 20000) (x := v5) (by kernel_rfl) (by kernel_rfl)) .nil) (.inr ⟨.v, trivial⟩) .nil) (by kernel_rfl) (by kernel_rfl) ?_
      rcases Bool.eq_false_or_eq_true v6 with h7 | h7
      · have hM := ite_true' hM h7
        refine tr_condFe (e := !v6) (congrArg not h7) (by kernel_rfl) ?_
        refine tr_skip (q_n ?_)
        refine tr_sr hT hm [] [8, 10, 2009, 40003, 40005, 40007, 40009, 40013, 40015, 40017, 40019, 40021, 40023, 40025] ([(8, .d (.rp 1004 0)), (10, .d (iv 0)), bxO 2009 20000 (eXProfunctor.o v5)] ++ rsS 20000 (eXProfunctor.o v5)) (.cons (Nat.le_of_ble_eq_true (n := 13) (m := 13) rfl) .nil) (by kernel_rfl) (by kernel_rfl) ?_
        refine tr_ret (rg_r ?_)
        obtain rfl := Option.some.inj hM
        exact retg (names := []) (.cons (lenO_flat eI_ok v5.Source.From) (.cons (lenO_flat eI_ok v5.Source.To) (.cons (lenO_flat eI_ok v5.Source.Identity) (.cons (lenO_flat (eS_ok eI_ok) v5.Source.Composites) (.cons (lenO_flat eI_ok v5.Target.From) (.cons (lenO_flat eI_ok v5.Target.To) (.cons (lenO_flat eI_ok v5.Target.Identity) (.cons (lenO_flat (eS_ok eI_ok) v5.Target.Composites) (.cons (lenO_flat (eS_ok eI_ok) v5.Sizes) (.cons (lenO_flat (eS_ok (eS_ok eI_ok)) v5.Before) (.cons (lenO_flat (eS_ok (eS_ok eI_ok)) v5.Behind) .nil))))))))))) (by kernel_rfl)
      · have hM := ite_false' hM h7
        refine tr_condTe (e := !v6) (congrArg not h7) (by kernel_rfl) ?_
        refine tr_sr hT hm [] [8, 10, 2009] [(8, .d (.rp 1004 0)), (10, .d (iv 3)), (2009, .r (.arr 1 [iv 0, nilv, nilv, nilv, nilv, iv 0, nilv, nilv, nilv, nilv, nilv, nilv, nilv] []))] (.cons (Nat.le_of_ble_eq_true (n := 13) (m := 13) rfl) .nil) (by kernel_rfl) (by kernel_rfl) ?_
        refine tr_ret (q_r (rg_r ?_))
        refine RetG.by (imp_cvB (r := 1004) (sz := 1) (cells := [iv 0, nilv, nilv, nilv, nilv, iv 0, nilv, nilv, nilv, nilv, nilv, nilv, nilv]) (cells' := [iv 0, .fr 1 ([] : List Int).length (([] : List Int).flatMap eI.o), .fr 1 ([] : List Int).length (([] : List Int).flatMap eI.o), .fr 1 ([] : List Int).length (([] : List Int).flatMap eI.o), .fr 1 ([] : List (List Int)).length (([] : List (List Int)).flatMap (eS eI).o), iv 0, .fr 1 ([] : List Int).length (([] : List Int).flatMap eI.o), .fr 1 ([] : List Int).length (([] : List Int).flatMap eI.o), .fr 1 ([] : List Int).length (([] : List Int).flatMap eI.o), .fr 1 ([] : List (List Int)).length (([] : List (List Int)).flatMap (eS eI).o), .fr 1 ([] : List (List Int)).length (([] : List (List Int)).flatMap (eS eI).o), .fr 1 ([] : List (List (List Int))).length (([] : List (List (List Int))).flatMap (eS (eS eI)).o), .fr 1 ([] : List (List (List Int))).length (([] : List (List (List Int))).flatMap (eS (eS eI)).o)]) (refs := []) (refs' := []) (.cons (.refl _) (.cons Sub.nil_fr (.cons Sub.nil_fr (.cons Sub.nil_fr (.cons Sub.nil_fr (.cons (.refl _) (.cons Sub.nil_fr (.cons Sub.nil_fr (.cons Sub.nil_fr (.cons Sub.nil_fr (.cons Sub.nil_fr (.cons Sub.nil_fr (.cons Sub.nil_fr .nil))))))))))))) (by kernel_rfl) (by kernel_rfl) (by kernel_rfl)) ?_
        obtain rfl := Option.some.inj hM
        exact retg (names := []) .nil (by kernel_rfl)
    · have hM := ite_false' hM h4
      refine tr_condTe (e := !v3) (congrArg not h4) (by kernel_rfl) ?_
      refine tr_sr hT hm [] [8, 10, 2009] [(8, .d (.rp 1004 0)), (10, .d (iv 1)), (2009, .r (.arr 1 [iv 0, nilv, nilv, nilv, nilv, iv 0, nilv, nilv, nilv, nilv, nilv, nilv, nilv] []))] (.cons (Nat.le_of_ble_eq_true (n := 13) (m := 13) rfl) .nil) (by kernel_rfl) (by kernel_rfl) ?_
      refine tr_ret (q_r (rg_r ?_))
      refine RetG.by (imp_cvB (r := 1004) (sz := 1) (cells := [iv 0, nilv, nilv, nilv, nilv, iv 0, nilv, nilv, nilv, nilv, nilv, nilv, nilv]) (cells' := [iv 0, .fr 1 ([] : List Int).length (([] : List Int).flatMap eI.o), .fr 1 ([] : List Int).length (([] : List Int).flatMap eI.o), .fr 1 ([] : List Int).length (([] : List Int).flatMap eI.o), .fr 1 ([] : List (List Int)).length (([] : List (List Int)).flatMap (eS eI).o), iv 0, .fr 1 ([] : List Int).length (([] : List Int).flatMap eI.o), .fr 1 ([] : List Int).length (([] : List Int).flatMap eI.o), .fr 1 ([] : List Int).length (([] : List Int).flatMap eI.o), .fr 1 ([] : List (List Int)).length (([] : List (List Int)).flatMap (eS eI).o), .fr 1 ([] : List (List Int)).length (([] : List (List Int)).flatMap (eS eI).o), .fr 1 ([] : List (List (List Int))).length (([] : List (List (List Int))).flatMap (eS (eS eI)).o), .fr 1 ([] : List (List (List Int))).length (([] : List (List (List Int))).flatMap (eS (eS eI)).o)]) (refs := []) (refs' := []) (.cons (.refl _) (.cons Sub.nil_fr (.cons Sub.nil_fr (.cons Sub.nil_fr (.cons Sub.nil_fr (.cons (.refl _) (.cons Sub.nil_fr (.cons Sub.nil_fr (.cons Sub.nil_fr (.cons Sub.nil_fr (.cons Sub.nil_fr (.cons Sub.nil_fr (.cons Sub.nil_fr .nil))))))))))))) (by kernel_rfl) (by kernel_rfl) (by kernel_rfl)) ?_
      obtain rfl := Option.some.inj hM
      exact retg (names := []) .nil (by kernel_rfl)
  · have hM := ite_false' hM h2
    refine tr_sr hT hm [(1, .call [] [] [.agg (eXSetFunctor.b a0)] [] (bv v1)), (3, .val (bv true))] [4, 6, 8, 28, 2005, 2007, 2009] [(4, .d (.rp 1002 0)), (6, .d (.rp 1003 0)), (8, .d (.rp 1004 0)), (28, .d (bv true)), bxB 2005 (eXSetFunctor.b a0), bxB 2007 (eXSetFunctor.b a1), (2009, .r (.arr 1 [iv 0, nilv, nilv, nilv, nilv, iv 0, nilv, nilv, nilv, nilv, nilv, nilv, nilv] []))] (cc0 ok141 (spec_l19Is_c a0 _ hv1) (by kernel_rfl) (.cons (congrArg (fun b => bv b) (congrArg not h2)) .nil)) (by kernel_rfl) (by kernel_rfl) ?_
    refine tr_condT (by kernel_rfl) ?_
    refine tr_sr hT hm [] [8, 10, 2009] [(8, .d (.rp 1004 0)), (10, .d (iv 1)), (2009, .r (.arr 1 [iv 0, nilv, nilv, nilv, nilv, iv 0, nilv, nilv, nilv, nilv, nilv, nilv, nilv] []))] (.cons (Nat.le_of_ble_eq_true (n := 13) (m := 13) rfl) .nil) (by kernel_rfl) (by kernel_rfl) ?_
    refine tr_ret (q_r (rg_r ?_))
    refine RetG.by (imp_cvB (r := 1004) (sz := 1) (cells := [iv 0, nilv, nilv, nilv, nilv, iv 0, nilv, nilv, nilv, nilv, nilv, nilv, nilv]) (cells' := [iv 0, .fr 1 ([] : List Int).length (([] : List Int).flatMap eI.o), .fr 1 ([] : List Int).length (([] : List Int).flatMap eI.o), .fr 1 ([] : List Int).length (([] : List Int).flatMap eI.o), .fr 1 ([] : List (List Int)).length (([] : List (List Int)).flatMap (eS eI).o), iv 0, .fr 1 ([] : List Int).length (([] : List Int).flatMap eI.o), .fr 1 ([] : List Int).length (([] : List Int).flatMap eI.o), .fr 1 ([] : List Int).length (([] : List Int).flatMap eI.o), .fr 1 ([] : List (List Int)).length (([] : List (List Int)).flatMap (eS eI).o), .fr 1 ([] : List (List Int)).length (([] : List (List Int)).flatMap (eS eI).o), .fr 1 ([] : List (List (List Int))).length (([] : List (List (List Int))).flatMap (eS (eS eI)).o), .fr 1 ([] : List (List (List Int))).length (([] : List (List (List Int))).flatMap (eS (eS eI)).o)]) (refs := []) (refs' := []) (.cons (.refl _) (.cons Sub.nil_fr (.cons Sub.nil_fr (.cons Sub.nil_fr (.cons Sub.nil_fr (.cons (.refl _) (.cons Sub.nil_fr (.cons Sub.nil_fr (.cons Sub.nil_fr (.cons Sub.nil_fr (.cons Sub.nil_fr (.cons Sub.nil_fr (.cons Sub.nil_fr .nil))))))))))))) (by kernel_rfl) (by kernel_rfl) (by kernel_rfl)) ?_
    obtain rfl := Option.some.inj hM
    exact retg (names := []) .nil (by kernel_rfl)

theorem ok146 : CallOk Try.prog 146 := callOk_of Try.func146 (by kernel_rfl) (by kernel_rfl)
theorem impl_PairsProfunctor_1_c (a0 : Int) (a1 : Int) (a2 : XSetFunctor) (a3 : XSetFunctor) (r : Int) (hM : M.impl_PairsProfunctor_1 a0 a1 a2 a3 = some r) :
    FnC Try.prog 146 [] [iv a0, iv a1, .pt (eXSetFunctor.b a2) 0, .pt (eXSetFunctor.b a3) 0] [] (iv r) := by
  refine fnc_startG (N := 18) (np := 500) hT Try.func146 rfl rfl (by kernel_rfl) ?_
  unfold M.impl_PairsProfunctor_1 at hM
  refine tr_start (ks := [0, 2, 4, 6]) (st' := [(0, .d (iv a0)), (2, .d (iv a1)), (4, .d (.pt (eXSetFunctor.b a2) 0)), (6, .d (.pt (eXSetFunctor.b a3) 0))]) (by kernel_rfl) ?_
  refine tr_sr hT hm [] [0, 2, 4, 6] [(0, .d (iv a0)), (2, .d (iv a1)), (4, .d (.pt (eXSetFunctor.b a2) 0)), (6, .d (.pt (eXSetFunctor.b a3) 0))] .nil (by kernel_rfl) (by kernel_rfl) ?_
  obtain ⟨y1, hy1, hM⟩ := bind_some' hM
  have hy1' := idx_some hy1
  obtain ⟨y2, hy2, hM⟩ := bind_some' hM
  have hy2' := idx_some hy2
  refine tr_sr hT hm [(4, .val (iv y1)), (9, .val (iv y2))] [12] [(12, .d (iv (IntKind.i64.wrap (y1 * y2))))] (.cons hy1'.1 (.cons hy1'.2.1 (.cons (at_b0 eI_ok hy1'.2.2 (d := iv y1) (by kernel_rfl)) (.cons hy2'.1 (.cons hy2'.2.1 (.cons (at_b0 eI_ok hy2'.2.2 (d := iv y2) (by kernel_rfl)) .nil)))))) (by kernel_rfl) (by kernel_rfl) ?_
  refine tr_ret (rg_r ?_)
  obtain rfl := Option.some.inj hM
  exact retg (names := []) .nil (by kernel_rfl)

theorem ok147 : CallOk Try.prog 147 := callOk_of Try.func147 (by kernel_rfl) (by kernel_rfl)
theorem impl_PairsProfunctor_2_c (a0 : Int) (a1 : Int) (a2 : XSetFunctor) (a3 : XSetFunctor) (r : (List Int)) (hM : M.impl_PairsProfunctor_2 a0 a1 a2 a3 = some r) :
    FnC Try.prog 147 [] [iv a0, iv a1, .pt (eXSetFunctor.b a2) 0, .pt (eXSetFunctor.b a3) 0] [] (.fr 1 r.length (r.flatMap eI.o)) := by
  refine fnc_startG (N := 39) (np := 500) hT Try.func147 rfl rfl (by kernel_rfl) ?_
  unfold M.impl_PairsProfunctor_2 at hM
  refine tr_start (ks := [0, 2, 4, 6]) (st' := [(0, .d (iv a0)), (2, .d (iv a1)), (4, .d (.pt (eXSetFunctor.b a2) 0)), (6, .d (.pt (eXSetFunctor.b a3) 0))]) (by kernel_rfl) ?_
  refine tr_sr hT hm [] [0, 2, 4, 6] [(0, .d (iv a0)), (2, .d (iv a1)), (4, .d (.pt (eXSetFunctor.b a2) 0)), (6, .d (.pt (eXSetFunctor.b a3) 0))] .nil (by kernel_rfl) (by kernel_rfl) ?_
  refine tr_sr hT hm [] [0, 2, 4, 6, 14, 2021] [(0, .d (iv a0)), (2, .d (iv a1)), (4, .d (.pt (eXSetFunctor.b a2) 0)), (6, .d (.pt (eXSetFunctor.b a3) 0)), (14, .d (.rs 1010 0 (([] : List Int).length))), (2021, .r (.arr 1 (([] : List Int).flatMap eI.o) []))] .nil (by kernel_rfl) (by kernel_rfl) ?_
  refine tr_seq ?_
  obtain ⟨y1, hy1, hM⟩ := bind_some' hM
  have hy1' := idx_some hy1
  refine tr_sr hT hm [(4, .val (.sl y1.length 0 (y1.flatMap eI.b)))] [2, 6, 14, 30, 32, 34, 2021] [(2, .d (iv a1)), (6, .d (.pt (eXSetFunctor.b a3) 0)), (14, .d (.rs 1010 0 (([] : List Int).length))), (30, .d (.sl y1.length 0 (y1.flatMap eI.b))), (32, .d (iv (y1.length : Int))), (34, .d (iv 0)), (2021, .r (.arr 1 (([] : List Int).flatMap eI.o) []))] (.cons hy1'.1 (.cons hy1'.2.1 (.cons (at_b0 (eS_ok eI_ok) hy1'.2.2 (d := .sl y1.length 0 (y1.flatMap eI.b)) (by kernel_rfl)) .nil))) (by kernel_rfl) (by kernel_rfl) ?_
  refine tr_block ?_
  refine tr_iterS (fun (s2 : (List Int) × Int) => [(2, .d (iv a1)), (6, .d (.pt (eXSetFunctor.b a3) 0)), (14, .d (.rs 1010 0 s2.1.length)), (30, .d (.sl y1.length 0 (y1.flatMap eI.b))), (32, .d (iv (y1.length : Int))), (34, .d (iv s2.2)), (2021, .r (.arr 1 (s2.1.flatMap eI.o) []))]) (([] : List Int), 0) [2, 6, 14, 30, 32, 34, 2021] (by kernel_rfl) hM ?_
  intro n5 next3 ih4 s2 hM
  refine tr_sr hT hm [] [2, 6, 14, 30, 32, 34, 36, 2021] [(2, .d (iv a1)), (6, .d (.pt (eXSetFunctor.b a3) 0)), (14, .d (.rs 1010 0 s2.1.length)), (30, .d (.sl y1.length 0 (y1.flatMap eI.b))), (32, .d (iv (y1.length : Int))), (34, .d (iv s2.2)), (36, .d (bv (decide (s2.2 < (y1.length : Int))))), (2021, .r (.arr 1 (s2.1.flatMap eI.o) []))] .nil (by kernel_rfl) (by kernel_rfl) ?_
  refine tr_seq ?_
  rcases Bool.eq_false_or_eq_true (decide (s2.2 < (y1.length : Int))) with h6 | h6
  · have hM := ite_true' hM h6
    refine tr_condTe (e := decide (s2.2 < (y1.length : Int))) h6 (by kernel_rfl) ?_
    refine tr_skip (q_n ?_)
    refine tr_seq ?_
    refine tr_block ?_
    obtain ⟨y7, hy7, hM⟩ := bind_some' hM
    have hy7' := idx_some hy7
    refine tr_sr hT hm [(1, .val (iv y7))] [2, 6, 14, 18, 30, 32, 34, 2021] [(2, .d (iv a1)), (6, .d (.pt (eXSetFunctor.b a3) 0)), (14, .d (.rs 1010 0 s2.1.length)), (18, .d (iv y7)), (30, .d (.sl y1.length 0 (y1.flatMap eI.b))), (32, .d (iv (y1.length : Int))), (34, .d (iv s2.2)), (2021, .r (.arr 1 (s2.1.flatMap eI.o) []))] (.cons hy7'.1 (.cons hy7'.2.1 (.cons (at_b0 eI_ok hy7'.2.2 (d := iv y7) (by kernel_rfl)) .nil))) (by kernel_rfl) (by kernel_rfl) ?_
    obtain ⟨y8, hy8, hM⟩ := bind_some' hM
    have hy8' := idx_some hy8
    obtain ⟨v9, hv9, hM⟩ := bind_some' hM
    obtain ⟨v10, hv10, hM⟩ := bind_some' hM
    obtain ⟨h11, hM⟩ := chk_some hM
    refine tr_r hT hm [(5, .val (iv y8)), (6, .call [] [] [iv y8] [] (.fr 1 v9.length (v9.flatMap eI.o))), (12, .val (iv y8)), (14, .call [29000] [] [.sl v9.length 0 (v9.flatMap eI.b), iv (IntKind.i64.wrap (y7 * y8))] [] (.fr 1 v10.length (v10.flatMap eI.o))), (15, .app true)] [2, 6, 14, 30, 32, 34, 2073] [(2, .d (iv a1)), (6, .d (.pt (eXSetFunctor.b a3) 0)), (14, .d (.rs 1036 0 (s2.1.length + v10.length))), (30, .d (.sl y1.length 0 (y1.flatMap eI.b))), (32, .d (iv (y1.length : Int))), (34, .d (iv s2.2)), (2073, .r (.arr 1 (s2.1.flatMap eI.o ++ v10.flatMap eI.o) []))] (.cons hy8'.1 (.cons hy8'.2.1 (.cons (at_b0 eI_ok hy8'.2.2 (d := iv y8) (by kernel_rfl)) (cc0 ok125 (impl_numbers_c y8 _ hv9) (by kernel_rfl) (.cons hy8'.1 (.cons hy8'.2.1 (.cons (at_b0 eI_ok hy8'.2.2 (d := iv y8) (by kernel_rfl)) (cc (B := [29000]) (ρ := []) (rB := [(29000, .arr 1 (v9.flatMap eI.o) [])]) ok126 (impl_shifted_c v9 (IntKind.i64.wrap (y7 * y8)) _ hv10) (.cons (.of1 (.rs (r := 29000) (sz := 1) (refs := []) (memB (by kernel_rfl)) (by kernel_rfl) (bor_flat eI_ok _ _ _))) (.cons (.same rfl) .nil)) (.inr ⟨(.fr (nb_flat eI_nb _)), trivial⟩) (.cons (lenO_flat eI_ok s2.1) (.cons (lenO_flat eI_ok v10) (.cons h11 .nil))))))))))) (by kernel_rfl) (by kernel_rfl) (b_n (q_n ?_))
    refine Tr.by (imp_cvE (r := 1036) (sz := 1) (refs := []) (flat_app eI.o s2.1 v10) (menO_flat eI_ok _) (by kernel_rfl)) ?_
    refine Tr.by (imp_cvD (k := 14) (congrArg (D.rs 1036 0) ((len_app s2.1 v10) : s2.1.length + v10.length = (s2.1 ++ v10).length)) (by kernel_rfl)) ?_
    refine tr_r hT hm [] [2, 6, 14, 30, 32, 34, 2073] [(2, .d (iv a1)), (6, .d (.pt (eXSetFunctor.b a3) 0)), (14, .d (.rs 1036 0 ((s2.1 ++ v10).length))), (30, .d (.sl y1.length 0 (y1.flatMap eI.b))), (32, .d (iv (y1.length : Int))), (34, .d (iv (IntKind.i64.wrap (s2.2 + 1)))), (2073, .r (.arr 1 ((s2.1 ++ v10).flatMap eI.o) []))] .nil (by kernel_rfl) (by kernel_rfl) (l_n ?_)
    refine TrL.by (imp_sel (ks := [2, 6, 14, 30, 32, 34, 2073]) (st' := [(2, .d (iv a1)), (6, .d (.pt (eXSetFunctor.b a3) 0)), (14, .d (.rs 1036 0 ((s2.1 ++ v10).length))), (30, .d (.sl y1.length 0 (y1.flatMap eI.b))), (32, .d (iv (y1.length : Int))), (34, .d (iv (IntKind.i64.wrap (s2.2 + 1)))), (2073, .r (.arr 1 ((s2.1 ++ v10).flatMap eI.o) []))]) (by kernel_rfl)) ?_
    refine TrL.by (imp_rename (r := 1036) (q := 1010) (by kernel_rfl) (Nat.le_of_ble_eq_true rfl)) ?_
    exact trl_start (ks := [2, 6, 14, 30, 32, 34, 2021]) (by kernel_rfl) (ih4 (s2.1 ++ v10, IntKind.i64.wrap (s2.2 + 1)) hM)
  · have hM := ite_false' hM h6
    refine tr_condFe (e := decide (s2.2 < (y1.length : Int))) h6 (by kernel_rfl) ?_
    refine tr_exit (q_x (l_x (b_h (q_n ?_))))
    refine tr_sr hT hm [] [12, 2021] [(12, .d (.rs 1010 0 s2.1.length)), (2021, .r (.arr 1 (s2.1.flatMap eI.o) []))] .nil (by kernel_rfl) (by kernel_rfl) ?_
    refine tr_ret (rg_r ?_)
    obtain rfl := Option.some.inj hM
    exact retg (names := []) (.cons (lenO_flat eI_ok s2.1) .nil) (by kernel_rfl)

theorem ok148 : CallOk Try.prog 148 := callOk_of Try.func148 (by kernel_rfl) (by kernel_rfl)
theorem impl_PairsProfunctor_3_c (a0 : Int) (a1 : Int) (a2 : XSetFunctor) (a3 : XSetFunctor) (r : (List Int)) (hM : M.impl_PairsProfunctor_3 a0 a1 a2 a3 = some r) :
    FnC Try.prog 148 [] [iv a0, iv a1, .pt (eXSetFunctor.b a2) 0, .pt (eXSetFunctor.b a3) 0] [] (.fr 1 r.length (r.flatMap eI.o)) := by
  refine fnc_startG (N := 40) (np := 500) hT Try.func148 rfl rfl (by kernel_rfl) ?_
  unfold M.impl_PairsProfunctor_3 at hM
  refine tr_start (ks := [0, 2, 4, 6]) (st' := [(0, .d (iv a0)), (2, .d (iv a1)), (4, .d (.pt (eXSetFunctor.b a2) 0)), (6, .d (.pt (eXSetFunctor.b a3) 0))]) (by kernel_rfl) ?_
  refine tr_sr hT hm [] [0, 2, 4, 6] [(0, .d (iv a0)), (2, .d (iv a1)), (4, .d (.pt (eXSetFunctor.b a2) 0)), (6, .d (.pt (eXSetFunctor.b a3) 0))] .nil (by kernel_rfl) (by kernel_rfl) ?_
  refine tr_sr hT hm [] [0, 2, 4, 6, 14, 2019] [(0, .d (iv a0)), (2, .d (iv a1)), (4, .d (.pt (eXSetFunctor.b a2) 0)), (6, .d (.pt (eXSetFunctor.b a3) 0)), (14, .d (.rs 1009 0 (([] : List Int).length))), (2019, .r (.arr 1 (([] : List Int).flatMap eI.o) []))] .nil (by kernel_rfl) (by kernel_rfl) ?_
  refine tr_seq ?_
  obtain ⟨y1, hy1, hM⟩ := bind_some' hM
  have hy1' := idx_some hy1
  refine tr_sr hT hm [(4, .val (iv y1))] [0, 6, 14, 28, 30, 2019] [(0, .d (iv a0)), (6, .d (.pt (eXSetFunctor.b a3) 0)), (14, .d (.rs 1009 0 (([] : List Int).length))), (28, .d (iv y1)), (30, .d (iv 0)), (2019, .r (.arr 1 (([] : List Int).flatMap eI.o) []))] (.cons hy1'.1 (.cons hy1'.2.1 (.cons (at_b0 eI_ok hy1'.2.2 (d := iv y1) (by kernel_rfl)) .nil))) (by kernel_rfl) (by kernel_rfl) ?_
  refine tr_block ?_
  refine tr_iterS (fun (s2 : (List Int) × Int) => [(0, .d (iv a0)), (6, .d (.pt (eXSetFunctor.b a3) 0)), (14, .d (.rs 1009 0 s2.1.length)), (28, .d (iv y1)), (30, .d (iv s2.2)), (2019, .r (.arr 1 (s2.1.flatMap eI.o) []))]) (([] : List Int), 0) [0, 6, 14, 28, 30, 2019] (by kernel_rfl) hM ?_
  intro n5 next3 ih4 s2 hM
  refine tr_sr hT hm [] [0, 6, 14, 28, 30, 32, 2019] [(0, .d (iv a0)), (6, .d (.pt (eXSetFunctor.b a3) 0)), (14, .d (.rs 1009 0 s2.1.length)), (28, .d (iv y1)), (30, .d (iv s2.2)), (32, .d (bv (decide (s2.2 < y1)))), (2019, .r (.arr 1 (s2.1.flatMap eI.o) []))] .nil (by kernel_rfl) (by kernel_rfl) ?_
  refine tr_seq ?_
  rcases Bool.eq_false_or_eq_true (decide (s2.2 < y1)) with h6 | h6
  · have hM := ite_true' hM h6
    refine tr_condTe (e := decide (s2.2 < y1)) h6 (by kernel_rfl) ?_
    refine tr_skip (q_n ?_)
    refine tr_seq ?_
    refine tr_block ?_
    refine tr_sr hT hm [] [0, 6, 14, 16, 28, 30, 2019] [(0, .d (iv a0)), (6, .d (.pt (eXSetFunctor.b a3) 0)), (14, .d (.rs 1009 0 s2.1.length)), (16, .d (iv s2.2)), (28, .d (iv y1)), (30, .d (iv s2.2)), (2019, .r (.arr 1 (s2.1.flatMap eI.o) []))] .nil (by kernel_rfl) (by kernel_rfl) ?_
    obtain ⟨y7, hy7, hM⟩ := bind_some' hM
    have hy7' := idx_some hy7
    obtain ⟨y8, hy8, hM⟩ := bind_some' hM
    have hy8' := idx_some hy8
    obtain ⟨y9, hy9, hM⟩ := bind_some' hM
    have hy9' := idx_some hy9
    obtain ⟨v10, hv10, hM⟩ := bind_some' hM
    obtain ⟨h11, hM⟩ := chk_some hM
    refine tr_r hT hm [(5, .val (.sl y7.length 0 (y7.flatMap eI.b))), (14, .val (iv y8)), (16, .val (iv y9)), (18, .call [] [] [.sl y7.length 0 (y7.flatMap eI.b), iv (IntKind.i64.wrap (s2.2 * y9))] [] (.fr 1 v10.length (v10.flatMap eI.o))), (19, .app true)] [0, 6, 14, 28, 30, 2075] [(0, .d (iv a0)), (6, .d (.pt (eXSetFunctor.b a3) 0)), (14, .d (.rs 1037 0 (s2.1.length + v10.length))), (28, .d (iv y1)), (30, .d (iv s2.2)), (2075, .r (.arr 1 (s2.1.flatMap eI.o ++ v10.flatMap eI.o) []))] (.cons hy7'.1 (.cons hy7'.2.1 (.cons (at_b0 (eS_ok eI_ok) hy7'.2.2 (d := .sl y7.length 0 (y7.flatMap eI.b)) (by kernel_rfl)) (.cons hy8'.1 (.cons hy8'.2.1 (.cons (at_b0 eI_ok hy8'.2.2 (d := iv y8) (by kernel_rfl)) (.cons hy9'.1 (.cons hy9'.2.1 (.cons (at_b0 eI_ok hy9'.2.2 (d := iv y9) (by kernel_rfl)) (cc0 ok126 (impl_shifted_c y7 (IntKind.i64.wrap (s2.2 * y9)) _ hv10) (by kernel_rfl) (.cons (lenO_flat eI_ok s2.1) (.cons (lenO_flat eI_ok v10) (.cons h11 .nil))))))))))))) (by kernel_rfl) (by kernel_rfl) (b_n (q_n ?_))
    refine Tr.by (imp_cvE (r := 1037) (sz := 1) (refs := []) (flat_app eI.o s2.1 v10) (menO_flat eI_ok _) (by kernel_rfl)) ?_
    refine Tr.by (imp_cvD (k := 14) (congrArg (D.rs 1037 0) ((len_app s2.1 v10) : s2.1.length + v10.length = (s2.1 ++ v10).length)) (by kernel_rfl)) ?_
    refine tr_r hT hm [] [0, 6, 14, 28, 30, 2075] [(0, .d (iv a0)), (6, .d (.pt (eXSetFunctor.b a3) 0)), (14, .d (.rs 1037 0 ((s2.1 ++ v10).length))), (28, .d (iv y1)), (30, .d (iv (IntKind.i64.wrap (s2.2 + 1)))), (2075, .r (.arr 1 ((s2.1 ++ v10).flatMap eI.o) []))] .nil (by kernel_rfl) (by kernel_rfl) (l_n ?_)
    refine TrL.by (imp_sel (ks := [0, 6, 14, 28, 30, 2075]) (st' := [(0, .d (iv a0)), (6, .d (.pt (eXSetFunctor.b a3) 0)), (14, .d (.rs 1037 0 ((s2.1 ++ v10).length))), (28, .d (iv y1)), (30, .d (iv (IntKind.i64.wrap (s2.2 + 1)))), (2075, .r (.arr 1 ((s2.1 ++ v10).flatMap eI.o) []))]) (by kernel_rfl)) ?_
    refine TrL.by (imp_rename (r := 1037) (q := 1009) (by kernel_rfl) (Nat.le_of_ble_eq_true rfl)) ?_
    exact trl_start (ks := [0, 6, 14, 28, 30, 2019]) (by kernel_rfl) (ih4 (s2.1 ++ v10, IntKind.i64.wrap (s2.2 + 1)) hM)
  · have hM := ite_false' hM h6
    refine tr_condFe (e := decide (s2.2 < y1)) h6 (by kernel_rfl) ?_
    refine tr_exit (q_x (l_x (b_h (q_n ?_))))
    refine tr_sr hT hm [] [12, 2019] [(12, .d (.rs 1009 0 s2.1.length)), (2019, .r (.arr 1 (s2.1.flatMap eI.o) []))] .nil (by kernel_rfl) (by kernel_rfl) ?_
    refine tr_ret (rg_r ?_)
    obtain rfl := Option.some.inj hM
    exact retg (names := []) (.cons (lenO_flat eI_ok s2.1) .nil) (by kernel_rfl)

theorem ok61 : CallOk Try.prog 61 := callOk_of Try.func61 (by kernel_rfl) (by kernel_rfl)
theorem impl_PairsProfunctor_c (a0 : XSetFunctor) (a1 : XSetFunctor) (r : XProfunctor × Int) (hM : M.impl_PairsProfunctor a0 a1 = some r) :
    FnC Try.prog 61 [] [.agg (eXSetFunctor.b a0), .agg (eXSetFunctor.b a1)] [] (.tup [.agg (eXProfunctor.o r.1), iv r.2]) := by
  refine fnc_startG (N := 27) (np := 500) hT Try.func61 rfl rfl (by kernel_rfl) ?_
  unfold M.impl_PairsProfunctor at hM
  refine tr_start (ks := [0, 2]) (st' := [(0, .d (.agg (eXSetFunctor.b a0))), (2, .d (.agg (eXSetFunctor.b a1)))]) (by kernel_rfl) ?_
  refine tr_sr hT hm [] [4, 6, 8, 2005, 2007, 2009] [(4, .d (.rp 1002 0)), (6, .d (.rp 1003 0)), (8, .d (.rp 1004 0)), bxB 2005 (eXSetFunctor.b a0), bxB 2007 (eXSetFunctor.b a1), (2009, .r (.arr 1 [iv 0, nilv, nilv, nilv, nilv, iv 0, nilv, nilv, nilv, nilv, nilv, nilv, nilv] []))] .nil (by kernel_rfl) (by kernel_rfl) ?_
  refine tr_seq ?_
  obtain ⟨v1, hv1, hM⟩ := bind_some' hM
  refine tr_sr hT hm [(1, .call [1009, 1002, 1003] [] [.sl ([a0, a1] : List XSetFunctor).length 0 (([a0, a1] : List XSetFunctor).flatMap (eP eXSetFunctor).b)] [] (bv v1))] [4, 6, 8, 22, 2005, 2007, 2009] [(4, .d (.rp 1002 0)), (6, .d (.rp 1003 0)), (8, .d (.rp 1004 0)), (22, .d (bv (!v1))), bxB 2005 (eXSetFunctor.b a0), bxB 2007 (eXSetFunctor.b a1), (2009, .r (.arr 1 [iv 0, nilv, nilv, nilv, nilv, iv 0, nilv, nilv, nilv, nilv, nilv, nilv, nilv] []))] (cc (B := [1009, 1002, 1003]) (ρ := []) (rB := [(1009, .arr 1 [.rp 1002 0, .rp 1003 0] [1002, 1003]), (1002, .arr 1 [iv a0.Shape.Objects, .sl a0.Shape.From.length 0 (a0.Shape.From.flatMap eI.b), .sl a0.Shape.To.length 0 (a0.Shape.To.flatMap eI.b), .sl a0.Shape.Identity.length 0 (a0.Shape.Identity.flatMap eI.b), .sl a0.Shape.Composites.length 0 (a0.Shape.Composites.flatMap (eS eI).b), .sl a0.Sizes.length 0 (a0.Sizes.flatMap eI.b), .sl a0.Actions.length 0 (a0.Actions.flatMap (eS eI).b)] []), (1003, .arr 1 [iv a1.Shape.Objects, .sl a1.Shape.From.length 0 (a1.Shape.From.flatMap eI.b), .sl a1.Shape.To.length 0 (a1.Shape.To.flatMap eI.b), .sl a1.Shape.Identity.length 0 (a1.Shape.Identity.flatMap eI.b), .sl a1.Shape.Composites.length 0 (a1.Shape.Composites.flatMap (eS eI).b), .sl a1.Sizes.length 0 (a1.Sizes.flatMap eI.b), .sl a1.Actions.length 0 (a1.Actions.flatMap (eS eI).b)] [])]) ok144 (impl_areSetFunctors_c ([a0, a1] : List XSetFunctor) _ hv1) (.cons (.of1 (.rs (r := 1009) (sz := 1) (cells := [.rp 1002 0, .rp 1003 0]) (refs := [1002, 1003]) (memB (by kernel_rfl)) (by kernel_rfl) (.cons (.rp (r := 1002) (sz := 1) (cells := [iv a0.Shape.Objects, .sl a0.Shape.From.length 0 (a0.Shape.From.flatMap eI.b), .sl a0.Shape.To.length 0 (a0.Shape.To.flatMap eI.b), .sl a0.Shape.Identity.length 0 (a0.Shape.Identity.flatMap eI.b), .sl a0.Shape.Composites.length 0 (a0.Shape.Composites.flatMap (eS eI).b), .sl a0.Sizes.length 0 (a0.Sizes.flatMap eI.b), .sl a0.Actions.length 0 (a0.Actions.flatMap (eS eI).b)]) (refs := []) (memB (by kernel_rfl)) (by kernel_rfl) (.cons .v (.cons (.same rfl rfl) (.cons (.same rfl rfl) (.cons (.same rfl rfl) (.cons (.same rfl rfl) (.cons (.same rfl rfl) (.cons (.same rfl rfl) .nil)))))))) (.cons (.rp (r := 1003) (sz := 1) (cells := [iv a1.Shape.Objects, .sl a1.Shape.From.length 0 (a1.Shape.From.flatMap eI.b), .sl a1.Shape.To.length 0 (a1.Shape.To.flatMap eI.b), .sl a1.Shape.Identity.length 0 (a1.Shape.Identity.flatMap eI.b), .sl a1.Shape.Composites.length 0 (a1.Shape.Composites.flatMap (eS eI).b), .sl a1.Sizes.length 0 (a1.Sizes.flatMap eI.b), .sl a1.Actions.length 0 (a1.Actions.flatMap (eS eI).b)]) (refs := []) (memB (by kernel_rfl)) (by kernel_rfl) (.cons .v (.cons (.same rfl rfl) (.cons (.same rfl rfl) (.cons (.same rfl rfl) (.cons (.same rfl rfl) (.cons (.same rfl rfl) (.cons (.same rfl rfl) .nil)))))))) .nil)))) .nil) (.inr ⟨.v, trivial⟩) .nil) (by kernel_rfl) (by kernel_rfl) ?_
  rcases Bool.eq_false_or_eq_true v1 with h2 | h2
  · have hM := ite_true' hM h2
    refine tr_condFe (e := !v1) (congrArg not h2) (by kernel_rfl) ?_
    refine tr_skip (q_n ?_)
    obtain ⟨v3, hv3, hM⟩ := bind_some' hM
    refine tr_sr hT hm [(1, .call [1002] [] [.pt (eXCategory.b a0.Shape) 0] [] (.agg (eXCategory.o v3)))] [4, 6, 8, 12, 2005, 2007, 2009, 2013, 32003, 32005, 32007, 32009] ([(4, .d (.rp 1002 0)), (6, .d (.rp 1003 0)), (8, .d (.rp 1004 0)), (12, .d (.rp 1006 0)), bxB 2005 (eXSetFunctor.b a0), bxB 2007 (eXSetFunctor.b a1), (2009, .r (.arr 1 [iv 0, nilv, nilv, nilv, nilv, iv 0, nilv, nilv, nilv, nilv, nilv, nilv, nilv] [])), bxO 2013 16000 (eXCategory.o v3)] ++ rsS 16000 (eXCategory.o v3)) (cc (B := [1002]) (ρ := []) (rB := [(1002, .arr 1 [iv a0.Shape.Objects, .sl a0.Shape.From.length 0 (a0.Shape.From.flatMap eI.b), .sl a0.Shape.To.length 0 (a0.Shape.To.flatMap eI.b), .sl a0.Shape.Identity.length 0 (a0.Shape.Identity.flatMap eI.b), .sl a0.Shape.Composites.length 0 (a0.Shape.Composites.flatMap (eS eI).b), .sl a0.Sizes.length 0 (a0.Sizes.flatMap eI.b), .sl a0.Actions.length 0 (a0.Actions.flatMap (eS eI).b)] [])]) ok145 (impl_opposite_c a0.Shape _ hv3) (.cons (.rpSub (r := 1002) (off := 0) (n := 5) (sz := 1) (cells := [iv a0.Shape.Objects, .sl a0.Shape.From.length 0 (a0.Shape.From.flatMap eI.b), .sl a0.Shape.To.length 0 (a0.Shape.To.flatMap eI.b), .sl a0.Shape.Identity.length 0 (a0.Shape.Identity.flatMap eI.b), .sl a0.Shape.Composites.length 0 (a0.Shape.Composites.flatMap (eS eI).b), .sl a0.Sizes.length 0 (a0.Sizes.flatMap eI.b), .sl a0.Actions.length 0 (a0.Actions.flatMap (eS eI).b)]) (refs := []) (ds' := eXCategory.b a0.Shape) (by kernel_rfl) (by kernel_rfl) (.cons .v (.cons (.same rfl rfl) (.cons (.same rfl rfl) (.cons (.same rfl rfl) (.cons (.same rfl rfl) (.cons (.same rfl rfl) (.cons (.same rfl rfl) .nil))))))) (Nat.le_of_ble_eq_true rfl) (by kernel_rfl) (by kernel_rfl)) .nil) (.inr ⟨(.agg (eXCategory_nb _)), trivial⟩) (.cons (Nat.le_of_ble_eq_true (n := 5) (m := 5) rfl) .nil)) (by kernel_rfl) (by kernel_rfl) ?_
    obtain ⟨v4, hv4, hM⟩ := bind_some' hM
    refine tr_sr hT hm [(4, .call ([1006] ++ rsR 16000 (eXCategory.o v3) ++ [1003, 1002]) [] [.pt (eXCategory.b v3) 0, .pt (eXCategory.b a1.Shape) 0, .fb 146 [.pt (eXSetFunctor.b a0) 0, .pt (eXSetFunctor.b a1) 0], .fb 147 [.pt (eXSetFunctor.b a0) 0, .pt (eXSetFunctor.b a1) 0], .fb 148 [.pt (eXSetFunctor.b a0) 0, .pt (eXSetFunctor.b a1) 0]] [] (.tup [.agg (eXProfunctor.o v4.1), bv v4.2]))] [8, 14, 16, 2009, 2015, 44003, 44005, 44007, 44009, 44013, 44015, 44017, 44019, 44021, 44023, 44025] ([(8, .d (.rp 1004 0)), (14, .d (.rp 1007 0)), (16, .d (bv v4.2)), (2009, .r (.arr 1 [iv 0, nilv, nilv, nilv, nilv, iv 0, nilv, nilv, nilv, nilv, nilv, nilv, nilv] [])), bxO 2015 22000 (eXProfunctor.o v4.1)] ++ rsS 22000 (eXProfunctor.o v4.1)) (cc (B := ([1006] ++ rsR 16000 (eXCategory.o v3) ++ [1003, 1002])) (ρ := []) (rB := ([(1006, .arr 1 [iv v3.Objects, .rs 16001 0 v3.From.length, .rs 16002 0 v3.To.length, .rs 16003 0 v3.Identity.length, .rs 16004 0 v3.Composites.length] [16001, 16002, 16003, 16004])] ++ rsP 16000 (eXCategory.o v3) ++ [(1003, .arr 1 [iv a1.Shape.Objects, .sl a1.Shape.From.length 0 (a1.Shape.From.flatMap eI.b), .sl a1.Shape.To.length 0 (a1.Shape.To.flatMap eI.b), .sl a1.Shape.Identity.length 0 (a1.Shape.Identity.flatMap eI.b), .sl a1.Shape.Composites.length 0 (a1.Shape.Composites.flatMap (eS eI).b), .sl a1.Sizes.length 0 (a1.Sizes.flatMap eI.b), .sl a1.Actions.length 0 (a1.Actions.flatMap (eS eI).b)] []), (1002, .arr 1 [iv a0.Shape.Objects, .sl a0.Shape.From.length 0 (a0.Shape.From.flatMap eI.b), .sl a0.Shape.To.length 0 (a0.Shape.To.flatMap eI.b), .sl a0.Shape.Identity.length 0 (a0.Shape.Identity.flatMap eI.b), .sl a0.Shape.Composites.length 0 (a0.Shape.Composites.flatMap (eS eI).b), .sl a0.Sizes.length 0 (a0.Sizes.flatMap eI.b), .sl a0.Actions.length 0 (a0.Actions.flatMap (eS eI).b)] [])])) ok128 (impl_profunctor_c v3 a1.Shape 146 ([.pt (eXSetFunctor.b a0) 0, .pt (eXSetFunctor.b a1) 0] : List D) (fun (x0 : Int) (x1 : Int) => M.impl_PairsProfunctor_1 x0 x1 a0 a1) ok146 (by kernel_rfl) (fun x0 x1 r h => impl_PairsProfunctor_1_c x0 x1 a0 a1 r h) 147 ([.pt (eXSetFunctor.b a0) 0, .pt (eXSetFunctor.b a1) 0] : List D) (fun (x0 : Int) (x1 : Int) => M.impl_PairsProfunctor_2 x0 x1 a0 a1) ok147 (by kernel_rfl) (fun x0 x1 r h => impl_PairsProfunctor_2_c x0 x1 a0 a1 r h) 148 ([.pt (eXSetFunctor.b a0) 0, .pt (eXSetFunctor.b a1) 0] : List D) (fun (x0 : Int) (x1 : Int) => M.impl_PairsProfunctor_3 x0 x1 a0 a1) ok148 (by kernel_rfl) (fun x0 x1 r h => impl_PairsProfunctor_3_c x0 x1 a0 a1 r h) _ hv4) (.cons (.of1 (.rp (r := 1006) (sz := 1) (cells := [iv v3.Objects, .rs 16001 0 v3.From.length, .rs 16002 0 v3.To.length, .rs 16003 0 v3.Identity.length, .rs 16004 0 v3.Composites.length]) (refs := [16001, 16002, 16003, 16004]) (memB (by kernel_rfl)) (by kernel_rfl) (.cons .v (.cons (.rs (r := 16001) (sz := 1) (refs := []) (memB (by kernel_rfl)) (by kernel_rfl) (bor_flat eI_ok _ _ _)) (.cons (.rs (r := 16002) (sz := 1) (refs := []) (memB (by kernel_rfl)) (by kernel_rfl) (bor_flat eI_ok _ _ _)) (.cons (.rs (r := 16003) (sz := 1) (refs := []) (memB (by kernel_rfl)) (by kernel_rfl) (bor_flat eI_ok _ _ _)) (.cons (.rs (r := 16004) (sz := 1) (refs := []) (memB (by kernel_rfl)) (by kernel_rfl) (bor_flat (eS_ok eI_ok) _ _ _)) .nil))))))) (.cons (.rpSub (r := 1003) (off := 0) (n := 5) (sz := 1) (cells := [iv a1.Shape.Objects, .sl a1.Shape.From.length 0 (a1.Shape.From.flatMap eI.b), .sl a1.Shape.To.length 0 (a1.Shape.To.flatMap eI.b), .sl a1.Shape.Identity.length 0 (a1.Shape.Identity.flatMap eI.b), .sl a1.Shape.Composites.length 0 (a1.Shape.Composites.flatMap (eS eI).b), .sl a1.Sizes.length 0 (a1.Sizes.flatMap eI.b), .sl a1.Actions.length 0 (a1.Actions.flatMap (eS eI).b)]) (refs := []) (ds' := eXCategory.b a1.Shape) (by kernel_rfl) (by kernel_rfl) (.cons .v (.cons (.same rfl rfl) (.cons (.same rfl rfl) (.cons (.same rfl rfl) (.cons (.same rfl rfl) (.cons (.same rfl rfl) (.cons (.same rfl rfl) .nil))))))) (Nat.le_of_ble_eq_true rfl) (by kernel_rfl) (by kernel_rfl)) (.cons (.fn (.cons (.rp (r := 1002) (sz := 1) (cells := [iv a0.Shape.Objects, .sl a0.Shape.From.length 0 (a0.Shape.From.flatMap eI.b), .sl a0.Shape.To.length 0 (a0.Shape.To.flatMap eI.b), .sl a0.Shape.Identity.length 0 (a0.Shape.Identity.flatMap eI.b), .sl a0.Shape.Composites.length 0 (a0.Shape.Composites.flatMap (eS eI).b), .sl a0.Sizes.length 0 (a0.Sizes.flatMap eI.b), .sl a0.Actions.length 0 (a0.Actions.flatMap (eS eI).b)]) (refs := []) (memB (by kernel_rfl)) (by kernel_rfl) (.cons .v (.cons (.same rfl rfl) (.cons (.same rfl rfl) (.cons (.same rfl rfl) (.cons (.same rfl rfl) (.cons (.same rfl rfl) (.cons (.same rfl rfl) .nil)))))))) (.cons (.rp (r := 1003) (sz := 1) (cells := [iv a1.Shape.Objects, .sl a1.Shape.From.length 0 (a1.Shape.From.flatMap eI.b), .sl a1.Shape.To.length 0 (a1.Shape.To.flatMap eI.b), .sl a1.Shape.Identity.length 0 (a1.Shape.Identity.flatMap eI.b), .sl a1.Shape.Composites.length 0 (a1.Shape.Composites.flatMap (eS eI).b), .sl a1.Sizes.length 0 (a1.Sizes.flatMap eI.b), .sl a1.Actions.length 0 (a1.Actions.flatMap (eS eI).b)]) (refs := []) (memB (by kernel_rfl)) (by kernel_rfl) (.cons .v (.cons (.same rfl rfl) (.cons (.same rfl rfl) (.cons (.same rfl rfl) (.cons (.same rfl rfl) (.cons (.same rfl rfl) (.cons (.same rfl rfl) .nil)))))))) .nil))) (.cons (.fn (.cons (.rp (r := 1002) (sz := 1) (cells := [iv a0.Shape.Objects, .sl a0.Shape.From.length 0 (a0.Shape.From.flatMap eI.b), .sl a0.Shape.To.length 0 (a0.Shape.To.flatMap eI.b), .sl a0.Shape.Identity.length 0 (a0.Shape.Identity.flatMap eI.b), .sl a0.Shape.Composites.length 0 (a0.Shape.Composites.flatMap (eS eI).b), .sl a0.Sizes.length 0 (a0.Sizes.flatMap eI.b), .sl a0.Actions.length 0 (a0.Actions.flatMap (eS eI).b)]) (refs := []) (memB (by kernel_rfl)) (by kernel_rfl) (.cons .v (.cons (.same rfl rfl) (.cons (.same rfl rfl) (.cons (.same rfl rfl) (.cons (.same rfl rfl) (.cons (.same rfl rfl) (.cons (.same rfl rfl) .nil)))))))) (.cons (.rp (r := 1003) (sz := 1) (cells := [iv a1.Shape.Objects, .sl a1.Shape.From.length 0 (a1.Shape.From.flatMap eI.b), .sl a1.Shape.To.length 0 (a1.Shape.To.flatMap eI.b), .sl a1.Shape.Identity.length 0 (a1.Shape.Identity.flatMap eI.b), .sl a1.Shape.Composites.length 0 (a1.Shape.Composites.flatMap (eS eI).b), .sl a1.Sizes.length 0 (a1.Sizes.flatMap eI.b), .sl a1.Actions.length 0 (a1.Actions.flatMap (eS eI).b)]) (refs := []) (memB (by kernel_rfl)) (by kernel_rfl) (.cons .v (.cons (.same rfl rfl) (.cons (.same rfl rfl) (.cons (.same rfl rfl) (.cons (.same rfl rfl) (.cons (.same rfl rfl) (.cons (.same rfl rfl) .nil)))))))) .nil))) (.cons (.fn (.cons (.rp (r := 1002) (sz := 1) (cells := [iv a0.Shape.Objects, .sl a0.Shape.From.length 0 (a0.Shape.From.flatMap eI.b), .sl a0.Shape.To.length 0 (a0.Shape.To.flatMap eI.b), .sl a0.Shape.Identity.length 0 (a0.Shape.Identity.flatMap eI.b), .sl a0.Shape.Composites.length 0 (a0.Shape.Composites.flatMap (eS eI).b), .sl a0.Sizes.length 0 (a0.Sizes.flatMap eI.b), .sl a0.Actions.length 0 (a0.Actions.flatMap (eS eI).b)]) (refs := []) (memB (by kernel_rfl)) (by kernel_rfl) (.cons .v (.cons (.same rfl rfl) (.cons (.same rfl rfl) (.cons (.same rfl rfl) (.cons (.same rfl rfl) (.cons (.same rfl rfl) (.cons (.same rfl rfl) .nil)))))))) (.cons (.rp (r := 1003) (sz := 1) (cells := [iv a1.Shape.Objects, .sl a1.Shape.From.length 0 (a1.Shape.From.flatMap eI.b), .sl a1.Shape.To.length 0 (a1.Shape.To.flatMap eI.b), .sl a1.Shape.Identity.length 0 (a1.Shape.Identity.flatMap eI.b), .sl a1.Shape.Composites.length 0 (a1.Shape.Composites.flatMap (eS eI).b), .sl a1.Sizes.length 0 (a1.Sizes.flatMap eI.b), .sl a1.Actions.length 0 (a1.Actions.flatMap (eS eI).b)]) (refs := []) (memB (by kernel_rfl)) (by kernel_rfl) (.cons .v (.cons (.same rfl rfl) (.cons (.same rfl rfl) (.cons (.same rfl rfl) (.cons (.same rfl rfl) (.cons (.same rfl rfl) (.cons (.same rfl rfl) .nil)))))))) .nil))) .nil))))) (.inr ⟨(nobor_tup (.cons (.agg (eXProfunctor_nb _)) (.cons .v .nil))), trivial⟩) (.cons (Nat.le_of_ble_eq_true (n := 13) (m := 13) rfl) .nil)) (by kernel_rfl) (by kernel_rfl) ?_
    refine tr_seq ?_
    refine tr_sr hT hm [] [8, 14, 48, 2009, 2015, 44003, 44005, 44007, 44009, 44013, 44015, 44017, 44019, 44021, 44023, 44025] ([(8, .d (.rp 1004 0)), (14, .d (.rp 1007 0)), (48, .d (bv (!v4.2))), (2009, .r (.arr 1 [iv 0, nilv, nilv, nilv, nilv, iv 0, nilv, nilv, nilv, nilv, nilv, nilv, nilv] [])), bxO 2015 22000 (eXProfunctor.o v4.1)] ++ rsS 22000 (eXProfunctor.o v4.1)) .nil (by kernel_rfl) (by kernel_rfl) ?_
    rcases Bool.eq_false_or_eq_true v4.2 with h5 | h5
    · have hM := ite_true' hM h5
      refine tr_condFe (e := !v4.2) (congrArg not h5) (by kernel_rfl) ?_
      refine tr_skip (q_n ?_)
      refine tr_sr hT hm [] [8, 10, 2009, 44003, 44005, 44007, 44009, 44013, 44015, 44017, 44019, 44021, 44023, 44025] ([(8, .d (.rp 1004 0)), (10, .d (iv 0)), bxO 2009 22000 (eXProfunctor.o v4.1)] ++ rsS 22000 (eXProfunctor.o v4.1)) (.cons (Nat.le_of_ble_eq_true (n := 13) (m := 13) rfl) .nil) (by kernel_rfl) (by kernel_rfl) ?_
      refine tr_ret (rg_r ?_)
      obtain rfl := Option.some.inj hM
      exact retg (names := []) (.cons (lenO_flat eI_ok v4.1.Source.From) (.cons (lenO_flat eI_ok v4.1.Source.To) (.cons (lenO_flat eI_ok v4.1.Source.Identity) (.cons (lenO_flat (eS_ok eI_ok) v4.1.Source.Composites) (.cons (lenO_flat eI_ok v4.1.Target.From) (.cons (lenO_flat eI_ok v4.1.Target.To) (.cons (lenO_flat eI_ok v4.1.Target.Identity) (.cons (lenO_flat (eS_ok eI_ok) v4.1.Target.Composites) (.cons (lenO_flat (eS_ok eI_ok) v4.1.Sizes) (.cons (lenO_flat (eS_ok (eS_ok eI_ok)) v4.1.Before) (.cons (lenO_flat (eS_ok (eS_ok eI_ok)) v4.1.Behind) .nil))))))))))) (by kernel_rfl)
    · have hM := ite_false' hM h5
      refine tr_condTe (e := !v4.2) (congrArg not h5) (by kernel_rfl) ?_
      refine tr_sr hT hm [] [8, 10, 2009] [(8, .d (.rp 1004 0)), (10, .d (iv 3)), (2009, .r (.arr 1 [iv 0, nilv, nilv, nilv, nilv, iv 0, nilv, nilv, nilv, nilv, nilv, nilv, nilv] []))] (.cons (Nat.le_of_ble_eq_true (n := 13) (m := 13) rfl) .nil) (by kernel_rfl) (by kernel_rfl) ?_
      refine tr_ret (q_r (rg_r ?_))
      refine RetG.by (imp_cvB (r := 1004) (sz := 1) (cells := [iv 0, nilv, nilv, nilv, nilv, iv 0, nilv, nilv, nilv, nilv, nilv, nilv, nilv]) (cells' := [iv 0, .fr 1 ([] : List Int).length (([] : List Int).flatMap eI.o), .fr 1 ([] : List Int).length (([] : List Int).flatMap eI.o), .fr 1 ([] : List Int).length (([] : List Int).flatMap eI.o), .fr 1 ([] : List (List Int)).length (([] : List (List Int)).flatMap (eS eI).o), iv 0, .fr 1 ([] : List Int).length (([] : List Int).flatMap eI.o), .fr 1 ([] : List Int).length (([] : List Int).flatMap eI.o), .fr 1 ([] : List Int).length (([] : List Int).flatMap eI.o), .fr 1 ([] : List (List Int)).length (([] : List (List Int)).flatMap (eS eI).o), .fr 1 ([] : List (List Int)).length (([] : List (List Int)).flatMap (eS eI).o), .fr 1 ([] : List (List (List Int))).length (([] : List (List (List Int))).flatMap (eS (eS eI)).o), .fr 1 ([] : List (List (List Int))).length (([] : List (List (List Int))).flatMap (eS (eS eI)).o)]) (refs := []) (refs' := []) (.cons (.refl _) (.cons Sub.nil_fr (.cons Sub.nil_fr (.cons Sub.nil_fr (.cons Sub.nil_fr (.cons (.refl _) (.cons Sub.nil_fr (.cons Sub.nil_fr (.cons Sub.nil_fr (.cons Sub.nil_fr (.cons Sub.nil_fr (.cons Sub.nil_fr (.cons Sub.nil_fr .nil))))))))))))) (by kernel_rfl) (by kernel_rfl) (by kernel_rfl)) ?_
      obtain rfl := Option.some.inj hM
      exact retg (names := []) .nil (by kernel_rfl)
  · have hM := ite_false' hM h2
    refine tr_condTe (e := !v1) (congrArg not h2) (by kernel_rfl) ?_
    refine tr_sr hT hm [] [8, 10, 2009] [(8, .d (.rp 1004 0)), (10, .d (iv 1)), (2009, .r (.arr 1 [iv 0, nilv, nilv, nilv, nilv, iv 0, nilv, nilv, nilv, nilv, nilv, nilv, nilv] []))] (.cons (Nat.le_of_ble_eq_true (n := 13) (m := 13) rfl) .nil) (by kernel_rfl) (by kernel_rfl) ?_
    refine tr_ret (q_r (rg_r ?_))
    refine RetG.by (imp_cvB (r := 1004) (sz := 1) (cells := [iv 0, nilv, nilv, nilv, nilv, iv 0, nilv, nilv, nilv, nilv, nilv, nilv, nilv]) (cells' := [iv 0, .fr 1 ([] : List Int).length (([] : List Int).flatMap eI.o), .fr 1 ([] : List Int).length (([] : List Int).flatMap eI.o), .fr 1 ([] : List Int).length (([] : List Int).flatMap eI.o), .fr 1 ([] : List (List Int)).length (([] : List (List Int)).flatMap (eS eI).o), iv 0, .fr 1 ([] : List Int).length (([] : List Int).flatMap eI.o), .fr 1 ([] : List Int).length (([] : List Int).flatMap eI.o), .fr 1 ([] : List Int).length (([] : List Int).flatMap eI.o), .fr 1 ([] : List (List Int)).length (([] : List (List Int)).flatMap (eS eI).o), .fr 1 ([] : List (List Int)).length (([] : List (List Int)).flatMap (eS eI).o), .fr 1 ([] : List (List (List Int))).length (([] : List (List (List Int))).flatMap (eS (eS eI)).o), .fr 1 ([] : List (List (List Int))).length (([] : List (List (List Int))).flatMap (eS (eS eI)).o)]) (refs := []) (refs' := []) (.cons (.refl _) (.cons Sub.nil_fr (.cons Sub.nil_fr (.cons Sub.nil_fr (.cons Sub.nil_fr (.cons (.refl _) (.cons Sub.nil_fr (.cons Sub.nil_fr (.cons Sub.nil_fr (.cons Sub.nil_fr (.cons Sub.nil_fr (.cons Sub.nil_fr (.cons Sub.nil_fr .nil))))))))))))) (by kernel_rfl) (by kernel_rfl) (by kernel_rfl)) ?_
    obtain rfl := Option.some.inj hM
    exact retg (names := []) .nil (by kernel_rfl)

theorem laws_FnExactPairsProfunctor_c (a0 : XSetFunctor) (a1 : XSetFunctor) (r : Bool) (hM : M.laws_FnExactPairsProfunctor a0 a1 = some r) :
    FnC Try.prog 12 [] [.agg (eXSetFunctor.b a0), .agg (eXSetFunctor.b a1)] [] (bv r) := by
  refine fnc_startG (N := 119) (np := 500) hT Try.func12 rfl rfl (by kernel_rfl) ?_
  unfold M.laws_FnExactPairsProfunctor at hM
  refine tr_start (ks := [0, 2]) (st' := [(0, .d (.agg (eXSetFunctor.b a0))), (2, .d (.agg (eXSetFunctor.b a1)))]) (by kernel_rfl) ?_
  refine tr_sr hT hm [] [4, 6, 2005, 2007] [(4, .d (.rp 1002 0)), (6, .d (.rp 1003 0)), bxB 2005 (eXSetFunctor.b a0), bxB 2007 (eXSetFunctor.b a1)] .nil (by kernel_rfl) (by kernel_rfl) ?_
  refine tr_sr hT hm [] [4, 6, 10, 2005, 2007] [(4, .d (.rp 1002 0)), (6, .d (.rp 1003 0)), (10, .d (iv 1048576)), bxB 2005 (eXSetFunctor.b a0), bxB 2007 (eXSetFunctor.b a1)] .nil (by kernel_rfl) (by kernel_rfl) ?_
  obtain ⟨v1, hv1, hM⟩ := bind_some' hM
  refine tr_sr hT hm [(2, .call [] [] [.agg (eXSetFunctor.b a0), iv 1048576] [] (iv v1))] [4, 6, 10, 2005, 2007] [(4, .d (.rp 1002 0)), (6, .d (.rp 1003 0)), (10, .d (iv v1)), bxB 2005 (eXSetFunctor.b a0), bxB 2007 (eXSetFunctor.b a1)] (cc0 ok56 (laws_szSetFunctor_c a0 1048576 _ hv1) (by kernel_rfl) .nil) (by kernel_rfl) (by kernel_rfl) ?_
  refine tr_seq ?_
  refine tr_sr hT hm [] [4, 6, 10, 42, 2005, 2007] [(4, .d (.rp 1002 0)), (6, .d (.rp 1003 0)), (10, .d (iv v1)), (42, .d (bv (decide (v1 < 0)))), bxB 2005 (eXSetFunctor.b a0), bxB 2007 (eXSetFunctor.b a1)] .nil (by kernel_rfl) (by kernel_rfl) ?_
  rcases Bool.eq_false_or_eq_true (decide (v1 < 0)) with h2 | h2
  · have hM := ite_true' hM h2
    refine tr_condTe (e := decide (v1 < 0)) h2 (by kernel_rfl) ?_
    refine tr_sr hT hm [] [8] [(8, .d (bv true))] .nil (by kernel_rfl) (by kernel_rfl) ?_
    refine tr_ret (q_r (rg_r ?_))
    obtain rfl := Option.some.inj hM
    exact retg (names := []) .nil (by kernel_rfl)
  · have hM := ite_false' hM h2
    refine tr_condFe (e := decide (v1 < 0)) h2 (by kernel_rfl) ?_
    refine tr_skip (q_n ?_)
    obtain ⟨v3, hv3, hM⟩ := bind_some' hM
    refine tr_sr hT hm [(2, .call [] [] [.agg (eXSetFunctor.b a1), iv v1] [] (iv v3))] [4, 6, 10, 2005, 2007] [(4, .d (.rp 1002 0)), (6, .d (.rp 1003 0)), (10, .d (iv v3)), bxB 2005 (eXSetFunctor.b a0), bxB 2007 (eXSetFunctor.b a1)] (cc0 ok56 (laws_szSetFunctor_c a1 v1 _ hv3) (by kernel_rfl) .nil) (by kernel_rfl) (by kernel_rfl) ?_
    refine tr_seq ?_
    refine tr_sr hT hm [] [4, 6, 52, 2005, 2007] [(4, .d (.rp 1002 0)), (6, .d (.rp 1003 0)), (52, .d (bv (decide (v3 < 0)))), bxB 2005 (eXSetFunctor.b a0), bxB 2007 (eXSetFunctor.b a1)] .nil (by kernel_rfl) (by kernel_rfl) ?_
    rcases Bool.eq_false_or_eq_true (decide (v3 < 0)) with h4 | h4
    · have hM := ite_true' hM h4
      refine tr_condTe (e := decide (v3 < 0)) h4 (by kernel_rfl) ?_
      refine tr_sr hT hm [] [8] [(8, .d (bv true))] .nil (by kernel_rfl) (by kernel_rfl) ?_
      refine tr_ret (q_r (rg_r ?_))
      obtain rfl := Option.some.inj hM
      exact retg (names := []) .nil (by kernel_rfl)
    · have hM := ite_false' hM h4
      refine tr_condFe (e := decide (v3 < 0)) h4 (by kernel_rfl) ?_
      refine tr_skip (q_n ?_)
      obtain ⟨v5, hv5, hM⟩ := bind_some' hM
      obtain ⟨v6, hv6, hM⟩ := bind_some' hM
      obtain ⟨v7, hv7, hM⟩ := bind_some' hM
      refine tr_sr hT hm [(1, .call [] [] [.agg (eXSetFunctor.b a0)] [] (.agg (eXSetFunctor.o v5))), (3, .call [] [] [.agg (eXSetFunctor.b a1)] [] (.agg (eXSetFunctor.o v6))), (4, .call (rsR 31000 (eXSetFunctor.o v5) ++ rsR 33000 (eXSetFunctor.o v6)) [] [.agg (eXSetFunctor.b v5), .agg (eXSetFunctor.b v6)] [] (.tup [.agg (eXProfunctor.o v7.1), iv v7.2]))] [4, 6, 12, 14, 2005, 2007, 2013, 68003, 68005, 68007, 68009, 68013, 68015, 68017, 68019, 68021, 68023, 68025] ([(4, .d (.rp 1002 0)), (6, .d (.rp 1003 0)), (12, .d (.rp 1006 0)), (14, .d (iv v7.2)), bxB 2005 (eXSetFunctor.b a0), bxB 2007 (eXSetFunctor.b a1), bxO 2013 34000 (eXProfunctor.o v7.1)] ++ rsS 34000 (eXProfunctor.o v7.1)) (cc0 ok58 (laws_toSetFunctor_c a0 _ hv5) (by kernel_rfl) (cc0 ok58 (laws_toSetFunctor_c a1 _ hv6) (by kernel_rfl) (cc (B := (rsR 31000 (eXSetFunctor.o v5) ++ rsR 33000 (eXSetFunctor.o v6))) (ρ := []) (rB := (rsP 31000 (eXSetFunctor.o v5) ++ rsP 33000 (eXSetFunctor.o v6))) ok60 (spec_PairsProfunctor_c v5 v6 _ hv7) (.cons (bor_rs eXSetFunctor_r (q := 31000) (x := v5) (by kernel_rfl) (by kernel_rfl)) (.cons (bor_rs eXSetFunctor_r (q := 33000) (x := v6) (by kernel_rfl) (by kernel_rfl)) .nil)) (.inr ⟨(nobor_tup (.cons (.agg (eXProfunctor_nb _)) (.cons .v .nil))), trivial⟩) (.cons (Nat.le_of_ble_eq_true (n := 13) (m := 13) rfl) .nil)))) (by kernel_rfl) (by kernel_rfl) ?_
      refine tr_sr hT hm [(1, .call [] [] [.agg (eXSetFunctor.b a0)] [] (.agg (eXSetFunctor.o v5)))] [4, 6, 12, 14, 16, 2005, 2007, 2013, 2017, 68003, 68005, 68007, 68009, 68013, 68015, 68017, 68019, 68021, 68023, 68025, 76003, 76005, 76007, 76009, 76011, 76013] ([(4, .d (.rp 1002 0)), (6, .d (.rp 1003 0)), (12, .d (.rp 1006 0)), (14, .d (iv v7.2)), (16, .d (.rp 1008 0)), bxB 2005 (eXSetFunctor.b a0), bxB 2007 (eXSetFunctor.b a1), bxO 2013 34000 (eXProfunctor.o v7.1), bxO 2017 38000 (eXSetFunctor.o v5)] ++ rsS 34000 (eXProfunctor.o v7.1) ++ rsS 38000 (eXSetFunctor.o v5)) (cc0 ok58 (laws_toSetFunctor_c a0 _ hv5) (by kernel_rfl) (.cons (Nat.le_of_ble_eq_true (n := 7) (m := 7) rfl) .nil)) (by kernel_rfl) (by kernel_rfl) ?_
      refine tr_sr hT hm [(1, .call [] [] [.agg (eXSetFunctor.b a1)] [] (.agg (eXSetFunctor.o v6)))] [4, 6, 12, 14, 16, 18, 2005, 2007, 2013, 2017, 2019, 68003, 68005, 68007, 68009, 68013, 68015, 68017, 68019, 68021, 68023, 68025, 76003, 76005, 76007, 76009, 76011, 76013, 80003, 80005, 80007, 80009, 80011, 80013] ([(4, .d (.rp 1002 0)), (6, .d (.rp 1003 0)), (12, .d (.rp 1006 0)), (14, .d (iv v7.2)), (16, .d (.rp 1008 0)), (18, .d (.rp 1009 0)), bxB 2005 (eXSetFunctor.b a0), bxB 2007 (eXSetFunctor.b a1), bxO 2013 34000 (eXProfunctor.o v7.1), bxO 2017 38000 (eXSetFunctor.o v5), bxO 2019 40000 (eXSetFunctor.o v6)] ++ rsS 34000 (eXProfunctor.o v7.1) ++ rsS 38000 (eXSetFunctor.o v5) ++ rsS 40000 (eXSetFunctor.o v6)) (cc0 ok58 (laws_toSetFunctor_c a1 _ hv6) (by kernel_rfl) (.cons (Nat.le_of_ble_eq_true (n := 7) (m := 7) rfl) .nil)) (by kernel_rfl) (by kernel_rfl) ?_
      obtain ⟨v8, hv8, hM⟩ := bind_some' hM
      refine tr_sr hT hm [(2, .call (rsR 38000 (eXSetFunctor.o v5) ++ rsR 40000 (eXSetFunctor.o v6)) [] [.agg (eXSetFunctor.b v5), .agg (eXSetFunctor.b v6)] [] (.tup [.agg (eXProfunctor.o v8.1), iv v8.2]))] [4, 6, 12, 14, 16, 18, 20, 22, 2005, 2007, 2013, 2017, 2019, 2021, 68003, 68005, 68007, 68009, 68013, 68015, 68017, 68019, 68021, 68023, 68025, 76003, 76005, 76007, 76009, 76011, 76013, 80003, 80005, 80007, 80009, 80011, 80013, 88003, 88005, 88007, 88009, 88013, 88015, 88017, 88019, 88021, 88023, 88025] ([(4, .d (.rp 1002 0)), (6, .d (.rp 1003 0)), (12, .d (.rp 1006 0)), (14, .d (iv v7.2)), (16, .d (.rp 1008 0)), (18, .d (.rp 1009 0)), (20, .d (.rp 1010 0)), (22, .d (iv v8.2)), bxB 2005 (eXSetFunctor.b a0), bxB 2007 (eXSetFunctor.b a1), bxO 2013 34000 (eXProfunctor.o v7.1), bxO 2017 38000 (eXSetFunctor.o v5), bxO 2019 40000 (eXSetFunctor.o v6), bxO 2021 44000 (eXProfunctor.o v8.1)] ++ rsS 34000 (eXProfunctor.o v7.1) ++ rsS 38000 (eXSetFunctor.o v5) ++ rsS 40000 (eXSetFunctor.o v6) ++ rsS 44000 (eXProfunctor.o v8.1)) (cc (B := (rsR 38000 (eXSetFunctor.o v5) ++ rsR 40000 (eXSetFunctor.o v6))) (ρ := []) (rB := (rsP 38000 (eXSetFunctor.o v5) ++ rsP 40000 (eXSetFunctor.o v6))) ok61 (impl_PairsProfunctor_c v5 v6 _ hv8) (.cons (bor_rs eXSetFunctor_r (q := 38000) (x := v5) (by kernel_rfl) (by kernel_rfl)) (.cons (bor_rs eXSetFunctor_r (q := 40000) (x := v6) (by kernel_rfl) (by kernel_rfl)) .nil)) (.inr ⟨(nobor_tup (.cons (.agg (eXProfunctor_nb _)) (.cons .v .nil))), trivial⟩) (.cons (Nat.le_of_ble_eq_true (n := 13) (m := 13) rfl) .nil)) (by kernel_rfl) (by kernel_rfl) ?_
      refine tr_seq ?_
      obtain ⟨v9, hv9, hM⟩ := bind_some' hM
      rcases Bool.eq_false_or_eq_true v9 with h10 | h10
      · have hM := ite_true' hM h10
        refine tr_sr hT hm [(2, .call (rsR 44000 (eXProfunctor.o v8.1) ++ rsR 34000 (eXProfunctor.o v7.1)) [] [.agg (eXProfunctor.b v8.1), .agg (eXProfunctor.b v7.1)] [] (bv v9)), (4, .val (bv false))] [4, 6, 12, 14, 16, 18, 20, 22, 106, 2005, 2007, 2013, 2017, 2019, 2021, 68003, 68005, 68007, 68009, 68013, 68015, 68017, 68019, 68021, 68023, 68025, 76003, 76005, 76007, 76009, 76011, 76013, 80003, 80005, 80007, 80009, 80011, 80013, 88003, 88005, 88007, 88009, 88013, 88015, 88017, 88019, 88021, 88023, 88025] ([(4, .d (.rp 1002 0)), (6, .d (.rp 1003 0)), (12, .d (.rp 1006 0)), (14, .d (iv v7.2)), (16, .d (.rp 1008 0)), (18, .d (.rp 1009 0)), (20, .d (.rp 1010 0)), (22, .d (iv v8.2)), (106, .d (bv (v8.2 != v7.2))), bxB 2005 (eXSetFunctor.b a0), bxB 2007 (eXSetFunctor.b a1), bxO 2013 34000 (eXProfunctor.o v7.1), bxO 2017 38000 (eXSetFunctor.o v5), bxO 2019 40000 (eXSetFunctor.o v6), bxO 2021 44000 (eXProfunctor.o v8.1)] ++ rsS 34000 (eXProfunctor.o v7.1) ++ rsS 38000 (eXSetFunctor.o v5) ++ rsS 40000 (eXSetFunctor.o v6) ++ rsS 44000 (eXProfunctor.o v8.1)) (cc (B := (rsR 44000 (eXProfunctor.o v8.1) ++ rsR 34000 (eXProfunctor.o v7.1))) (ρ := []) (rB := (rsP 44000 (eXProfunctor.o v8.1) ++ rsP 34000 (eXProfunctor.o v7.1))) ok51 (laws_eqProfunctor_c v8.1 v7.1 _ hv9) (.cons (bor_rs eXProfunctor_r (q := 44000) (x := v8.1) (by kernel_rfl) (by kernel_rfl)) (.cons (bor_rs eXProfunctor_r (q := 34000) (x := v7.1) (by kernel_rfl) (by kernel_rfl)) .nil)) (.inr ⟨.v, trivial⟩) (.cons (congrArg (fun b => bv b) (congrArg not h10)) .nil)) (by kernel_rfl) (by kernel_rfl) ?_
        rcases Bool.eq_false_or_eq_true (v8.2 != v7.2) with h11 | h11
        · have hM := ite_true' hM h11
          refine tr_condTe (e := v8.2 != v7.2) h11 (by kernel_rfl) ?_
          refine tr_sr hT hm [] [8] [(8, .d (bv false))] .nil (by kernel_rfl) (by kernel_rfl) ?_
          refine tr_ret (q_r (rg_r ?_))
          obtain rfl := Option.some.inj hM
          exact retg (names := []) .nil (by kernel_rfl)
        · have hM := ite_false' hM h11
          refine tr_condFe (e := v8.2 != v7.2) h11 (by kernel_rfl) ?_
          refine tr_skip (q_n ?_)
          refine tr_seq ?_
          obtain ⟨v12, hv12, hM⟩ := bind_some' hM
          refine tr_sr hT hm [(2, .call [] [] [.agg (eXSetFunctor.b a0)] [] (.agg (eXSetFunctor.o v5))), (3, .call (rsR 38000 (eXSetFunctor.o v5) ++ rsR 58000 (eXSetFunctor.o v5)) [] [.agg (eXSetFunctor.b v5), .agg (eXSetFunctor.b v5)] [] (bv v12))] [4, 6, 12, 14, 16, 18, 20, 22, 116, 2005, 2007, 2013, 2017, 2019, 2021, 68003, 68005, 68007, 68009, 68013, 68015, 68017, 68019, 68021, 68023, 68025, 76003, 76005, 76007, 76009, 76011, 76013, 80003, 80005, 80007, 80009, 80011, 80013, 88003, 88005, 88007, 88009, 88013, 88015, 88017, 88019, 88021, 88023, 88025] ([(4, .d (.rp 1002 0)), (6, .d (.rp 1003 0)), (12, .d (.rp 1006 0)), (14, .d (iv v7.2)), (16, .d (.rp 1008 0)), (18, .d (.rp 1009 0)), (20, .d (.rp 1010 0)), (22, .d (iv v8.2)), (116, .d (bv (!v12))), bxB 2005 (eXSetFunctor.b a0), bxB 2007 (eXSetFunctor.b a1), bxO 2013 34000 (eXProfunctor.o v7.1), bxO 2017 38000 (eXSetFunctor.o v5), bxO 2019 40000 (eXSetFunctor.o v6), bxO 2021 44000 (eXProfunctor.o v8.1)] ++ rsS 34000 (eXProfunctor.o v7.1) ++ rsS 38000 (eXSetFunctor.o v5) ++ rsS 40000 (eXSetFunctor.o v6) ++ rsS 44000 (eXProfunctor.o v8.1)) (cc0 ok58 (laws_toSetFunctor_c a0 _ hv5) (by kernel_rfl) (cc (B := (rsR 38000 (eXSetFunctor.o v5) ++ rsR 58000 (eXSetFunctor.o v5))) (ρ := []) (rB := (rsP 38000 (eXSetFunctor.o v5) ++ rsP 58000 (eXSetFunctor.o v5))) ok26 (laws_eqSetFunctor_c v5 v5 _ hv12) (.cons (bor_rs eXSetFunctor_r (q := 38000) (x := v5) (by kernel_rfl) (by kernel_rfl)) (.cons (bor_rs eXSetFunctor_r (q := 58000) (x := v5) (by kernel_rfl) (by kernel_rfl)) .nil)) (.inr ⟨.v, trivial⟩) .nil)) (by kernel_rfl) (by kernel_rfl) ?_
          rcases Bool.eq_false_or_eq_true v12 with h13 | h13
          · have hM := ite_true' hM h13
            refine tr_condFe (e := !v12) (congrArg not h13) (by kernel_rfl) ?_
            refine tr_skip (q_n ?_)
            refine tr_seq ?_
            obtain ⟨v14, hv14, hM⟩ := bind_some' hM
            refine tr_sr hT hm [(2, .call [] [] [.agg (eXSetFunctor.b a1)] [] (.agg (eXSetFunctor.o v6))), (3, .call (rsR 40000 (eXSetFunctor.o v6) ++ rsR 63000 (eXSetFunctor.o v6)) [] [.agg (eXSetFunctor.b v6), .agg (eXSetFunctor.b v6)] [] (bv v14))] [4, 6, 12, 14, 16, 18, 20, 22, 126, 2005, 2007, 2013, 2017, 2019, 2021, 68003, 68005, 68007, 68009, 68013, 68015, 68017, 68019, 68021, 68023, 68025, 76003, 76005, 76007, 76009, 76011, 76013, 80003, 80005, 80007, 80009, 80011, 80013, 88003, 88005, 88007, 88009, 88013, 88015, 88017, 88019, 88021, 88023, 88025] ([(4, .d (.rp 1002 0)), (6, .d (.rp 1003 0)), (12, .d (.rp 1006 0)), (14, .d (iv v7.2)), (16, .d (.rp 1008 0)), (18, .d (.rp 1009 0)), (20, .d (.rp 1010 0)), (22, .d (iv v8.2)), (126, .d (bv (!v14))), bxB 2005 (eXSetFunctor.b a0), bxB 2007 (eXSetFunctor.b a1), bxO 2013 34000 (eXProfunctor.o v7.1), bxO 2017 38000 (eXSetFunctor.o v5), bxO 2019 40000 (eXSetFunctor.o v6), bxO 2021 44000 (eXProfunctor.o v8.1)] ++ rsS 34000 (eXProfunctor.o v7.1) ++ rsS 38000 (eXSetFunctor.o v5) ++ rsS 40000 (eXSetFunctor.o v6) ++ rsS 44000 (eXProfunctor.o v8.1)) (cc0 ok58 (laws_toSetFunctor_c a1 _ hv6) (by kernel_rfl) (cc (B := (rsR 40000 (eXSetFunctor.o v6) ++ rsR 63000 (eXSetFunctor.o v6))) (ρ := []) (rB := (rsP 40000 (eXSetFunctor.o v6) ++ rsP 63000 (eXSetFunctor.o v6))) ok26 (laws_eqSetFunctor_c v6 v6 _ hv14) (.cons (bor_rs eXSetFunctor_r (q := 40000) (x := v6) (by kernel_rfl) (by kernel_rfl)) (.cons (bor_rs eXSetFunctor_r (q := 63000) (x := v6) (by kernel_rfl) (by kernel_rfl)) .nil)) (.inr ⟨.v, trivial⟩) .nil)) (by kernel_rfl) (by kernel_rfl) ?_
            rcases Bool.eq_false_or_eq_true v14 with h15 | h15
            · have hM := ite_true' hM h15
              refine tr_condFe (e := !v14) (congrArg not h15) (by kernel_rfl) ?_
              refine tr_skip (q_n ?_)
              refine tr_sr hT hm [] [4, 6, 12, 14, 16, 18, 20, 22, 24, 2005, 2007, 2013, 2017, 2019, 2021, 68003, 68005, 68007, 68009, 68013, 68015, 68017, 68019, 68021, 68023, 68025, 76003, 76005, 76007, 76009, 76011, 76013, 80003, 80005, 80007, 80009, 80011, 80013, 88003, 88005, 88007, 88009, 88013, 88015, 88017, 88019, 88021, 88023, 88025] ([(4, .d (.rp 1002 0)), (6, .d (.rp 1003 0)), (12, .d (.rp 1006 0)), (14, .d (iv v7.2)), (16, .d (.rp 1008 0)), (18, .d (.rp 1009 0)), (20, .d (.rp 1010 0)), (22, .d (iv v8.2)), (24, .d (iv 1)), bxB 2005 (eXSetFunctor.b a0), bxB 2007 (eXSetFunctor.b a1), bxO 2013 34000 (eXProfunctor.o v7.1), bxO 2017 38000 (eXSetFunctor.o v5), bxO 2019 40000 (eXSetFunctor.o v6), bxO 2021 44000 (eXProfunctor.o v8.1)] ++ rsS 34000 (eXProfunctor.o v7.1) ++ rsS 38000 (eXSetFunctor.o v5) ++ rsS 40000 (eXSetFunctor.o v6) ++ rsS 44000 (eXProfunctor.o v8.1)) .nil (by kernel_rfl) (by kernel_rfl) ?_
              obtain ⟨v16, hv16, hM⟩ := bind_some' hM
              refine tr_sr hT hm [(2, .call [] [(101, 38001), (102, 38002), (103, 38003), (104, 38004), (105, 38005), (106, 38006)] [.agg [iv v5.Shape.Objects, .rs 101 0 v5.Shape.From.length, .rs 102 0 v5.Shape.To.length, .rs 103 0 v5.Shape.Identity.length, .rs 104 0 v5.Shape.Composites.length, .rs 105 0 v5.Sizes.length, .rs 106 0 v5.Actions.length], iv 1] [(101, .arr 1 (v16.2.Shape.From.flatMap eI.o) []), (102, .arr 1 (v16.2.Shape.To.flatMap eI.o) []), (103, .arr 1 (v16.2.Shape.Identity.flatMap eI.o) []), (104, .arr 1 (v16.2.Shape.Composites.flatMap (eS eI).o) []), (105, .arr 1 (v16.2.Sizes.flatMap eI.o) []), (106, .arr 1 (v16.2.Actions.flatMap (eS eI).o) [])] (iv v16.1))] [4, 6, 12, 14, 18, 20, 22, 24, 2005, 2007, 2013, 2019, 2021, 68003, 68005, 68007, 68009, 68013, 68015, 68017, 68019, 68021, 68023, 68025, 80003, 80005, 80007, 80009, 80011, 80013, 88003, 88005, 88007, 88009, 88013, 88015, 88017, 88019, 88021, 88023, 88025] ([(4, .d (.rp 1002 0)), (6, .d (.rp 1003 0)), (12, .d (.rp 1006 0)), (14, .d (iv v7.2)), (18, .d (.rp 1009 0)), (20, .d (.rp 1010 0)), (22, .d (iv v8.2)), (24, .d (iv v16.1)), bxB 2005 (eXSetFunctor.b a0), bxB 2007 (eXSetFunctor.b a1), bxO 2013 34000 (eXProfunctor.o v7.1), bxO 2019 40000 (eXSetFunctor.o v6), bxO 2021 44000 (eXProfunctor.o v8.1)] ++ rsS 34000 (eXProfunctor.o v7.1) ++ rsS 40000 (eXSetFunctor.o v6) ++ rsS 44000 (eXProfunctor.o v8.1)) (cc (B := []) (ρ := [(101, 38001), (102, 38002), (103, 38003), (104, 38004), (105, 38005), (106, 38006)]) (rB := []) ok29 (laws_markSetFunctor_c v5 1 _ hv16) (.cons (.aggA (.cons (.same rfl) (.cons (.pass (.rs rfl)) (.cons (.pass (.rs rfl)) (.cons (.pass (.rs rfl)) (.cons (.pass (.rs rfl)) (.cons (.pass (.rs rfl)) (.cons (.pass (.rs rfl)) .nil)))))))) (.cons (.same rfl) .nil)) (.inl rfl) .nil) (by kernel_rfl) (by kernel_rfl) ?_
              obtain ⟨v17, hv17, hM⟩ := bind_some' hM
              refine tr_sr hT hm [(2, .call [] [(101, 40001), (102, 40002), (103, 40003), (104, 40004), (105, 40005), (106, 40006)] [.agg [iv v6.Shape.Objects, .rs 101 0 v6.Shape.From.length, .rs 102 0 v6.Shape.To.length, .rs 103 0 v6.Shape.Identity.length, .rs 104 0 v6.Shape.Composites.length, .rs 105 0 v6.Sizes.length, .rs 106 0 v6.Actions.length], iv v16.1] [(101, .arr 1 (v17.2.Shape.From.flatMap eI.o) []), (102, .arr 1 (v17.2.Shape.To.flatMap eI.o) []), (103, .arr 1 (v17.2.Shape.Identity.flatMap eI.o) []), (104, .arr 1 (v17.2.Shape.Composites.flatMap (eS eI).o) []), (105, .arr 1 (v17.2.Sizes.flatMap eI.o) []), (106, .arr 1 (v17.2.Actions.flatMap (eS eI).o) [])] (iv v17.1))] [4, 6, 12, 14, 20, 22, 24, 2005, 2007, 2013, 2021, 68003, 68005, 68007, 68009, 68013, 68015, 68017, 68019, 68021, 68023, 68025, 88003, 88005, 88007, 88009, 88013, 88015, 88017, 88019, 88021, 88023, 88025] ([(4, .d (.rp 1002 0)), (6, .d (.rp 1003 0)), (12, .d (.rp 1006 0)), (14, .d (iv v7.2)), (20, .d (.rp 1010 0)), (22, .d (iv v8.2)), (24, .d (iv v17.1)), bxB 2005 (eXSetFunctor.b a0), bxB 2007 (eXSetFunctor.b a1), bxO 2013 34000 (eXProfunctor.o v7.1), bxO 2021 44000 (eXProfunctor.o v8.1)] ++ rsS 34000 (eXProfunctor.o v7.1) ++ rsS 44000 (eXProfunctor.o v8.1)) (cc (B := []) (ρ := [(101, 40001), (102, 40002), (103, 40003), (104, 40004), (105, 40005), (106, 40006)]) (rB := []) ok29 (laws_markSetFunctor_c v6 v16.1 _ hv17) (.cons (.aggA (.cons (.same rfl) (.cons (.pass (.rs rfl)) (.cons (.pass (.rs rfl)) (.cons (.pass (.rs rfl)) (.cons (.pass (.rs rfl)) (.cons (.pass (.rs rfl)) (.cons (.pass (.rs rfl)) .nil)))))))) (.cons (.same rfl) .nil)) (.inl rfl) .nil) (by kernel_rfl) (by kernel_rfl) ?_
              refine tr_seq ?_
              rcases Bool.eq_false_or_eq_true (decide (v17.1 < 0)) with h18 | h18
              · have hM := ite_true' hM h18
                refine tr_sr hT hm [(2, .val (bv true))] [4, 6, 12, 14, 20, 164, 2005, 2007, 2013, 2021, 68003, 68005, 68007, 68009, 68013, 68015, 68017, 68019, 68021, 68023, 68025, 88003, 88005, 88007, 88009, 88013, 88015, 88017, 88019, 88021, 88023, 88025] ([(4, .d (.rp 1002 0)), (6, .d (.rp 1003 0)), (12, .d (.rp 1006 0)), (14, .d (iv v7.2)), (20, .d (.rp 1010 0)), (164, .d (bv true)), bxB 2005 (eXSetFunctor.b a0), bxB 2007 (eXSetFunctor.b a1), bxO 2013 34000 (eXProfunctor.o v7.1), bxO 2021 44000 (eXProfunctor.o v8.1)] ++ rsS 34000 (eXProfunctor.o v7.1) ++ rsS 44000 (eXProfunctor.o v8.1)) (.cons (congrArg (fun b => bv b) h18) .nil) (by kernel_rfl) (by kernel_rfl) ?_
                refine tr_condT (by kernel_rfl) ?_
                refine tr_sr hT hm [] [8] [(8, .d (bv false))] .nil (by kernel_rfl) (by kernel_rfl) ?_
                refine tr_ret (q_r (rg_r ?_))
                obtain rfl := Option.some.inj hM
                exact retg (names := []) .nil (by kernel_rfl)
              · have hM := ite_false' hM h18
                refine tr_sr hT hm [(2, .val (bv false)), (5, .call (rsR 44000 (eXProfunctor.o v8.1) ++ rsR 34000 (eXProfunctor.o v7.1)) [] [.agg (eXProfunctor.b v8.1), .agg (eXProfunctor.b v7.1)] [] (bv v9)), (8, .val (bv false))] [4, 6, 12, 14, 20, 164, 2005, 2007, 2013, 2021, 68003, 68005, 68007, 68009, 68013, 68015, 68017, 68019, 68021, 68023, 68025, 88003, 88005, 88007, 88009, 88013, 88015, 88017, 88019, 88021, 88023, 88025] ([(4, .d (.rp 1002 0)), (6, .d (.rp 1003 0)), (12, .d (.rp 1006 0)), (14, .d (iv v7.2)), (20, .d (.rp 1010 0)), (164, .d (bv (v8.2 != v7.2))), bxB 2005 (eXSetFunctor.b a0), bxB 2007 (eXSetFunctor.b a1), bxO 2013 34000 (eXProfunctor.o v7.1), bxO 2021 44000 (eXProfunctor.o v8.1)] ++ rsS 34000 (eXProfunctor.o v7.1) ++ rsS 44000 (eXProfunctor.o v8.1)) (.cons (congrArg (fun b => bv b) h18) (cc (B := (rsR 44000 (eXProfunctor.o v8.1) ++ rsR 34000 (eXProfunctor.o v7.1))) (ρ := []) (rB := (rsP 44000 (eXProfunctor.o v8.1) ++ rsP 34000 (eXProfunctor.o v7.1))) ok51 (laws_eqProfunctor_c v8.1 v7.1 _ hv9) (.cons (bor_rs eXProfunctor_r (q := 44000) (x := v8.1) (by kernel_rfl) (by kernel_rfl)) (.cons (bor_rs eXProfunctor_r (q := 34000) (x := v7.1) (by kernel_rfl) (by kernel_rfl)) .nil)) (.inr ⟨.v, trivial⟩) (.cons (congrArg (fun b => bv b) (congrArg not h10)) .nil))) (by kernel_rfl) (by kernel_rfl) ?_
                refine tr_condFe (e := v8.2 != v7.2) h11 (by kernel_rfl) ?_
                refine tr_skip (q_n ?_)
                refine tr_sr hT hm [] [4, 6, 12, 14, 20, 26, 2005, 2007, 2013, 2021, 68003, 68005, 68007, 68009, 68013, 68015, 68017, 68019, 68021, 68023, 68025, 88003, 88005, 88007, 88009, 88013, 88015, 88017, 88019, 88021, 88023, 88025] ([(4, .d (.rp 1002 0)), (6, .d (.rp 1003 0)), (12, .d (.rp 1006 0)), (14, .d (iv v7.2)), (20, .d (.rp 1010 0)), (26, .d (iv 1)), bxB 2005 (eXSetFunctor.b a0), bxB 2007 (eXSetFunctor.b a1), bxO 2013 34000 (eXProfunctor.o v7.1), bxO 2021 44000 (eXProfunctor.o v8.1)] ++ rsS 34000 (eXProfunctor.o v7.1) ++ rsS 44000 (eXProfunctor.o v8.1)) .nil (by kernel_rfl) (by kernel_rfl) ?_
                obtain ⟨v19, hv19, hM⟩ := bind_some' hM
                refine tr_sr hT hm [(2, .call [] [(101, 44001), (102, 44002), (103, 44003), (104, 44004), (106, 44006), (107, 44007), (108, 44008), (109, 44009), (110, 44010), (111, 44011), (112, 44012)] [.agg [iv v8.1.Source.Objects, .rs 101 0 v8.1.Source.From.length, .rs 102 0 v8.1.Source.To.length, .rs 103 0 v8.1.Source.Identity.length, .rs 104 0 v8.1.Source.Composites.length, iv v8.1.Target.Objects, .rs 106 0 v8.1.Target.From.length, .rs 107 0 v8.1.Target.To.length, .rs 108 0 v8.1.Target.Identity.length, .rs 109 0 v8.1.Target.Composites.length, .rs 110 0 v8.1.Sizes.length, .rs 111 0 v8.1.Before.length, .rs 112 0 v8.1.Behind.length], iv 1] [(101, .arr 1 (v19.2.Source.From.flatMap eI.o) []), (102, .arr 1 (v19.2.Source.To.flatMap eI.o) []), (103, .arr 1 (v19.2.Source.Identity.flatMap eI.o) []), (104, .arr 1 (v19.2.Source.Composites.flatMap (eS eI).o) []), (106, .arr 1 (v19.2.Target.From.flatMap eI.o) []), (107, .arr 1 (v19.2.Target.To.flatMap eI.o) []), (108, .arr 1 (v19.2.Target.Identity.flatMap eI.o) []), (109, .arr 1 (v19.2.Target.Composites.flatMap (eS eI).o) []), (110, .arr 1 (v19.2.Sizes.flatMap (eS eI).o) []), (111, .arr 1 (v19.2.Before.flatMap (eS (eS eI)).o) []), (112, .arr 1 (v19.2.Behind.flatMap (eS (eS eI)).o) [])] (iv v19.1))] [4, 6, 12, 14, 20, 26, 2005, 2007, 2013, 2021, 68003, 68005, 68007, 68009, 68013, 68015, 68017, 68019, 68021, 68023, 68025, 88003, 88005, 88007, 88009, 88013, 88015, 88017, 88019, 88021, 88023, 88025] ([(4, .d (.rp 1002 0)), (6, .d (.rp 1003 0)), (12, .d (.rp 1006 0)), (14, .d (iv v7.2)), (20, .d (.rp 1010 0)), (26, .d (iv v19.1)), bxB 2005 (eXSetFunctor.b a0), bxB 2007 (eXSetFunctor.b a1), bxO 2013 34000 (eXProfunctor.o v7.1), bxO 2021 44000 (eXProfunctor.o v8.1)] ++ rsS 34000 (eXProfunctor.o v7.1) ++ rsS 44000 (eXProfunctor.o v19.2)) (cc (B := []) (ρ := [(101, 44001), (102, 44002), (103, 44003), (104, 44004), (106, 44006), (107, 44007), (108, 44008), (109, 44009), (110, 44010), (111, 44011), (112, 44012)]) (rB := []) ok54 (laws_markProfunctor_c v8.1 1 _ hv19) (.cons (.aggA (.cons (.same rfl) (.cons (.pass (.rs rfl)) (.cons (.pass (.rs rfl)) (.cons (.pass (.rs rfl)) (.cons (.pass (.rs rfl)) (.cons (.same rfl) (.cons (.pass (.rs rfl)) (.cons (.pass (.rs rfl)) (.cons (.pass (.rs rfl)) (.cons (.pass (.rs rfl)) (.cons (.pass (.rs rfl)) (.cons (.pass (.rs rfl)) (.cons (.pass (.rs rfl)) .nil)))))))))))))) (.cons (.same rfl) .nil)) (.inl rfl) .nil) (by kernel_rfl) (by kernel_rfl) ?_
                refine Tr.by (imp_cvB (r := 1010) (sz := 1) (cells := rsC 44000 (eXProfunctor.o v8.1)) (cells' := rsC 44000 (eXProfunctor.o v19.2)) (refs := rsR 44000 (eXProfunctor.o v8.1)) (refs' := rsR 44000 (eXProfunctor.o v19.2)) (SubL.of_eq (rsC_eXProfunctor 44000 (M.len_markProfunctor hv19))) (by kernel_rfl) (by kernel_rfl) (by kernel_rfl)) ?_
                refine tr_sr hT hm [] [4, 6, 12, 14, 20, 26, 28, 2005, 2007, 2013, 2021, 68003, 68005, 68007, 68009, 68013, 68015, 68017, 68019, 68021, 68023, 68025, 88003, 88005, 88007, 88009, 88013, 88015, 88017, 88019, 88021, 88023, 88025] ([(4, .d (.rp 1002 0)), (6, .d (.rp 1003 0)), (12, .d (.rp 1006 0)), (14, .d (iv v7.2)), (20, .d (.rp 1010 0)), (26, .d (iv v19.1)), (28, .d (iv 1)), bxB 2005 (eXSetFunctor.b a0), bxB 2007 (eXSetFunctor.b a1), bxO 2013 34000 (eXProfunctor.o v7.1), bxO 2021 44000 (eXProfunctor.o v19.2)] ++ rsS 34000 (eXProfunctor.o v7.1) ++ rsS 44000 (eXProfunctor.o v19.2)) .nil (by kernel_rfl) (by kernel_rfl) ?_
                obtain ⟨v20, hv20, hM⟩ := bind_some' hM
                refine tr_sr hT hm [(2, .call (rsR 44000 (eXProfunctor.o v19.2)) [] [.agg (eXProfunctor.b v19.2), iv 1] [] (iv v20))] [4, 6, 12, 14, 20, 26, 28, 2005, 2007, 2013, 2021, 68003, 68005, 68007, 68009, 68013, 68015, 68017, 68019, 68021, 68023, 68025, 88003, 88005, 88007, 88009, 88013, 88015, 88017, 88019, 88021, 88023, 88025] ([(4, .d (.rp 1002 0)), (6, .d (.rp 1003 0)), (12, .d (.rp 1006 0)), (14, .d (iv v7.2)), (20, .d (.rp 1010 0)), (26, .d (iv v19.1)), (28, .d (iv v20)), bxB 2005 (eXSetFunctor.b a0), bxB 2007 (eXSetFunctor.b a1), bxO 2013 34000 (eXProfunctor.o v7.1), bxO 2021 44000 (eXProfunctor.o v19.2)] ++ rsS 34000 (eXProfunctor.o v7.1) ++ rsS 44000 (eXProfunctor.o v19.2)) (cc (B := (rsR 44000 (eXProfunctor.o v19.2))) (ρ := []) (rB := (rsP 44000 (eXProfunctor.o v19.2))) ok55 (laws_heldProfunctor_c v19.2 1 _ hv20) (.cons (bor_rs eXProfunctor_r (q := 44000) (x := v19.2) (by kernel_rfl) (by kernel_rfl)) (.cons (.same rfl) .nil)) (.inr ⟨.v, trivial⟩) .nil) (by kernel_rfl) (by kernel_rfl) ?_
                refine tr_seq ?_
                refine tr_sr hT hm [] [4, 6, 12, 14, 20, 26, 28, 180, 2005, 2007, 2013, 2021, 68003, 68005, 68007, 68009, 68013, 68015, 68017, 68019, 68021, 68023, 68025, 88003, 88005, 88007, 88009, 88013, 88015, 88017, 88019, 88021, 88023, 88025] ([(4, .d (.rp 1002 0)), (6, .d (.rp 1003 0)), (12, .d (.rp 1006 0)), (14, .d (iv v7.2)), (20, .d (.rp 1010 0)), (26, .d (iv v19.1)), (28, .d (iv v20)), (180, .d (bv (decide (v20 < 0)))), bxB 2005 (eXSetFunctor.b a0), bxB 2007 (eXSetFunctor.b a1), bxO 2013 34000 (eXProfunctor.o v7.1), bxO 2021 44000 (eXProfunctor.o v19.2)] ++ rsS 34000 (eXProfunctor.o v7.1) ++ rsS 44000 (eXProfunctor.o v19.2)) .nil (by kernel_rfl) (by kernel_rfl) ?_
                rcases Bool.eq_false_or_eq_true (decide (v20 < 0)) with h21 | h21
                · have hM := ite_true' hM h21
                  refine tr_condTe (e := decide (v20 < 0)) h21 (by kernel_rfl) ?_
                  refine tr_sr hT hm [] [8] [(8, .d (bv false))] .nil (by kernel_rfl) (by kernel_rfl) ?_
                  refine tr_ret (q_r (rg_r ?_))
                  obtain rfl := Option.some.inj hM
                  exact retg (names := []) .nil (by kernel_rfl)
                · have hM := ite_false' hM h21
                  refine tr_condFe (e := decide (v20 < 0)) h21 (by kernel_rfl) ?_
                  refine tr_skip (q_n ?_)
                  refine tr_seq ?_
                  refine tr_sr hT hm [] [4, 6, 12, 14, 20, 26, 186, 2005, 2007, 2013, 2021, 68003, 68005, 68007, 68009, 68013, 68015, 68017, 68019, 68021, 68023, 68025, 88003, 88005, 88007, 88009, 88013, 88015, 88017, 88019, 88021, 88023, 88025] ([(4, .d (.rp 1002 0)), (6, .d (.rp 1003 0)), (12, .d (.rp 1006 0)), (14, .d (iv v7.2)), (20, .d (.rp 1010 0)), (26, .d (iv v19.1)), (186, .d (bv (v20 != v19.1))), bxB 2005 (eXSetFunctor.b a0), bxB 2007 (eXSetFunctor.b a1), bxO 2013 34000 (eXProfunctor.o v7.1), bxO 2021 44000 (eXProfunctor.o v19.2)] ++ rsS 34000 (eXProfunctor.o v7.1) ++ rsS 44000 (eXProfunctor.o v19.2)) .nil (by kernel_rfl) (by kernel_rfl) ?_
                  rcases Bool.eq_false_or_eq_true (v20 != v19.1) with h22 | h22
                  · have hM := ite_true' hM h22
                    refine tr_condTe (e := v20 != v19.1) h22 (by kernel_rfl) ?_
                    refine tr_sr hT hm [] [8] [(8, .d (bv false))] .nil (by kernel_rfl) (by kernel_rfl) ?_
                    refine tr_ret (q_r (rg_r ?_))
                    obtain rfl := Option.some.inj hM
                    exact retg (names := []) .nil (by kernel_rfl)
                  · have hM := ite_false' hM h22
                    refine tr_condFe (e := v20 != v19.1) h22 (by kernel_rfl) ?_
                    refine tr_skip (q_n ?_)
                    refine tr_sr hT hm [(1, .call [] [] [.agg (eXSetFunctor.b a0)] [] (.agg (eXSetFunctor.o v5))), (3, .call [] [] [.agg (eXSetFunctor.b a1)] [] (.agg (eXSetFunctor.o v6))), (4, .call (rsR 98000 (eXSetFunctor.o v5) ++ rsR 100000 (eXSetFunctor.o v6)) [] [.agg (eXSetFunctor.b v5), .agg (eXSetFunctor.b v6)] [] (.tup [.agg (eXProfunctor.o v8.1), iv v8.2]))] [12, 14, 20, 26, 30, 32, 2013, 2021, 2031, 68003, 68005, 68007, 68009, 68013, 68015, 68017, 68019, 68021, 68023, 68025, 88003, 88005, 88007, 88009, 88013, 88015, 88017, 88019, 88021, 88023, 88025, 202003, 202005, 202007, 202009, 202013, 202015, 202017, 202019, 202021, 202023, 202025] ([(12, .d (.rp 1006 0)), (14, .d (iv v7.2)), (20, .d (.rp 1010 0)), (26, .d (iv v19.1)), (30, .d (.rp 1015 0)), (32, .d (iv v8.2)), bxO 2013 34000 (eXProfunctor.o v7.1), bxO 2021 44000 (eXProfunctor.o v19.2), bxO 2031 101000 (eXProfunctor.o v8.1)] ++ rsS 34000 (eXProfunctor.o v7.1) ++ rsS 44000 (eXProfunctor.o v19.2) ++ rsS 101000 (eXProfunctor.o v8.1)) (cc0 ok58 (laws_toSetFunctor_c a0 _ hv5) (by kernel_rfl) (cc0 ok58 (laws_toSetFunctor_c a1 _ hv6) (by kernel_rfl) (cc (B := (rsR 98000 (eXSetFunctor.o v5) ++ rsR 100000 (eXSetFunctor.o v6))) (ρ := []) (rB := (rsP 98000 (eXSetFunctor.o v5) ++ rsP 100000 (eXSetFunctor.o v6))) ok61 (impl_PairsProfunctor_c v5 v6 _ hv8) (.cons (bor_rs eXSetFunctor_r (q := 98000) (x := v5) (by kernel_rfl) (by kernel_rfl)) (.cons (bor_rs eXSetFunctor_r (q := 100000) (x := v6) (by kernel_rfl) (by kernel_rfl)) .nil)) (.inr ⟨(nobor_tup (.cons (.agg (eXProfunctor_nb _)) (.cons .v .nil))), trivial⟩) (.cons (Nat.le_of_ble_eq_true (n := 13) (m := 13) rfl) .nil)))) (by kernel_rfl) (by kernel_rfl) ?_
                    refine tr_seq ?_
                    refine tr_sr hT hm [(2, .call (rsR 101000 (eXProfunctor.o v8.1) ++ rsR 34000 (eXProfunctor.o v7.1)) [] [.agg (eXProfunctor.b v8.1), .agg (eXProfunctor.b v7.1)] [] (bv v9)), (4, .val (bv false))] [20, 26, 220, 2021, 88003, 88005, 88007, 88009, 88013, 88015, 88017, 88019, 88021, 88023, 88025] ([(20, .d (.rp 1010 0)), (26, .d (iv v19.1)), (220, .d (bv (v8.2 != v7.2))), bxO 2021 44000 (eXProfunctor.o v19.2)] ++ rsS 44000 (eXProfunctor.o v19.2)) (cc (B := (rsR 101000 (eXProfunctor.o v8.1) ++ rsR 34000 (eXProfunctor.o v7.1))) (ρ := []) (rB := (rsP 101000 (eXProfunctor.o v8.1) ++ rsP 34000 (eXProfunctor.o v7.1))) ok51 (laws_eqProfunctor_c v8.1 v7.1 _ hv9) (.cons (bor_rs eXProfunctor_r (q := 101000) (x := v8.1) (by kernel_rfl) (by kernel_rfl)) (.cons (bor_rs eXProfunctor_r (q := 34000) (x := v7.1) (by kernel_rfl) (by kernel_rfl)) .nil)) (.inr ⟨.v, trivial⟩) (.cons (congrArg (fun b => bv b) (congrArg not h10)) .nil)) (by kernel_rfl) (by kernel_rfl) ?_
                    refine tr_condFe (e := v8.2 != v7.2) h11 (by kernel_rfl) ?_
                    refine tr_skip (q_n ?_)
                    refine tr_sr hT hm [] [20, 26, 28, 2021, 88003, 88005, 88007, 88009, 88013, 88015, 88017, 88019, 88021, 88023, 88025] ([(20, .d (.rp 1010 0)), (26, .d (iv v19.1)), (28, .d (iv 1)), bxO 2021 44000 (eXProfunctor.o v19.2)] ++ rsS 44000 (eXProfunctor.o v19.2)) .nil (by kernel_rfl) (by kernel_rfl) ?_
                    refine tr_sr hT hm [(2, .call (rsR 44000 (eXProfunctor.o v19.2)) [] [.agg (eXProfunctor.b v19.2), iv 1] [] (iv v20))] [26, 28] [(26, .d (iv v19.1)), (28, .d (iv v20))] (cc (B := (rsR 44000 (eXProfunctor.o v19.2))) (ρ := []) (rB := (rsP 44000 (eXProfunctor.o v19.2))) ok55 (laws_heldProfunctor_c v19.2 1 _ hv20) (.cons (bor_rs eXProfunctor_r (q := 44000) (x := v19.2) (by kernel_rfl) (by kernel_rfl)) (.cons (.same rfl) .nil)) (.inr ⟨.v, trivial⟩) .nil) (by kernel_rfl) (by kernel_rfl) ?_
                    refine tr_seq ?_
                    refine tr_sr hT hm [] [26, 28, 230] [(26, .d (iv v19.1)), (28, .d (iv v20)), (230, .d (bv (decide (v20 < 0))))] .nil (by kernel_rfl) (by kernel_rfl) ?_
                    refine tr_condFe (e := decide (v20 < 0)) h21 (by kernel_rfl) ?_
                    refine tr_skip (q_n ?_)
                    refine tr_seq ?_
                    refine tr_sr hT hm [] [236] [(236, .d (bv (v20 != v19.1)))] .nil (by kernel_rfl) (by kernel_rfl) ?_
                    refine tr_condFe (e := v20 != v19.1) h22 (by kernel_rfl) ?_
                    refine tr_skip (q_n ?_)
                    refine tr_sr hT hm [] [8] [(8, .d (bv true))] .nil (by kernel_rfl) (by kernel_rfl) ?_
                    refine tr_ret (rg_r ?_)
                    obtain rfl := Option.some.inj hM
                    exact retg (names := []) .nil (by kernel_rfl)
            · have hM := ite_false' hM h15
              refine tr_condTe (e := !v14) (congrArg not h15) (by kernel_rfl) ?_
              refine tr_sr hT hm [] [8] [(8, .d (bv false))] .nil (by kernel_rfl) (by kernel_rfl) ?_
              refine tr_ret (q_r (rg_r ?_))
              obtain rfl := Option.some.inj hM
              exact retg (names := []) .nil (by kernel_rfl)
          · have hM := ite_false' hM h13
            refine tr_condTe (e := !v12) (congrArg not h13) (by kernel_rfl) ?_
            refine tr_sr hT hm [] [8] [(8, .d (bv false))] .nil (by kernel_rfl) (by kernel_rfl) ?_
            refine tr_ret (q_r (rg_r ?_))
            obtain rfl := Option.some.inj hM
            exact retg (names := []) .nil (by kernel_rfl)
      · have hM := ite_false' hM h10
        refine tr_sr hT hm [(2, .call (rsR 44000 (eXProfunctor.o v8.1) ++ rsR 34000 (eXProfunctor.o v7.1)) [] [.agg (eXProfunctor.b v8.1), .agg (eXProfunctor.b v7.1)] [] (bv v9)), (4, .val (bv true))] [4, 6, 12, 14, 16, 18, 20, 22, 106, 2005, 2007, 2013, 2017, 2019, 2021, 68003, 68005, 68007, 68009, 68013, 68015, 68017, 68019, 68021, 68023, 68025, 76003, 76005, 76007, 76009, 76011, 76013, 80003, 80005, 80007, 80009, 80011, 80013, 88003, 88005, 88007, 88009, 88013, 88015, 88017, 88019, 88021, 88023, 88025] ([(4, .d (.rp 1002 0)), (6, .d (.rp 1003 0)), (12, .d (.rp 1006 0)), (14, .d (iv v7.2)), (16, .d (.rp 1008 0)), (18, .d (.rp 1009 0)), (20, .d (.rp 1010 0)), (22, .d (iv v8.2)), (106, .d (bv true)), bxB 2005 (eXSetFunctor.b a0), bxB 2007 (eXSetFunctor.b a1), bxO 2013 34000 (eXProfunctor.o v7.1), bxO 2017 38000 (eXSetFunctor.o v5), bxO 2019 40000 (eXSetFunctor.o v6), bxO 2021 44000 (eXProfunctor.o v8.1)] ++ rsS 34000 (eXProfunctor.o v7.1) ++ rsS 38000 (eXSetFunctor.o v5) ++ rsS 40000 (eXSetFunctor.o v6) ++ rsS 44000 (eXProfunctor.o v8.1)) (cc (B := (rsR 44000 (eXProfunctor.o v8.1) ++ rsR 34000 (eXProfunctor.o v7.1))) (ρ := []) (rB := (rsP 44000 (eXProfunctor.o v8.1) ++ rsP 34000 (eXProfunctor.o v7.1))) ok51 (laws_eqProfunctor_c v8.1 v7.1 _ hv9) (.cons (bor_rs eXProfunctor_r (q := 44000) (x := v8.1) (by kernel_rfl) (by kernel_rfl)) (.cons (bor_rs eXProfunctor_r (q := 34000) (x := v7.1) (by kernel_rfl) (by kernel_rfl)) .nil)) (.inr ⟨.v, trivial⟩) (.cons (congrArg (fun b => bv b) (congrArg not h10)) .nil)) (by kernel_rfl) (by kernel_rfl) ?_
        refine tr_condT (by kernel_rfl) ?_
        refine tr_sr hT hm [] [8] [(8, .d (bv false))] .nil (by kernel_rfl) (by kernel_rfl) ?_
        refine tr_ret (q_r (rg_r ?_))
        obtain rfl := Option.some.inj hM
        exact retg (names := []) .nil (by kernel_rfl)

end Go.Proofs.Ytjmjhhhglbeacaa.Wy52
