/- Walks. Printed by wip/gen. -/
import Derived.Test.YtpfdieaiogfihaaGxwEM
import Derived.Test.YtpfdieaiogfihaaGxwAW
import Derived.Test.YtpfdieaiogfihaaGxwOW
import Derived.KernelRfl
namespace Go.Proofs.Ytpfdieaiogfihaa.WwE
open Go.Gx Go.Proofs.Ytpfdieaiogfihaa.WvB Go.Proofs.Ytpfdieaiogfihaa.WwN Go.Proofs.Ytpfdieaiogfihaa.WvS Go.Proofs.Ytpfdieaiogfihaa.WvF Go.Proofs.Ytpfdieaiogfihaa.WwT Go.Proofs.Ytpfdieaiogfihaa.WwU Go.Proofs.Ytpfdieaiogfihaa.WvH Go.Proofs.Ytpfdieaiogfihaa.WvI Go.Proofs.Ytpfdieaiogfihaa.WwA Go.Proofs.Ytpfdieaiogfihaa.WwO

theorem eXCategory_r : EncR eXCategory := (eA_r (eC_r eI_r _) (eA_r (eC_r (eS_r eI_ok) _) (eA_r (eC_r (eS_r eI_ok) _) (eA_r (eC_r (eS_r eI_ok) _) (eC_r (eS_r (eS_ok eI_ok)) _)))))
theorem eXFunctor_r : EncR eXFunctor := (eA_r (eC_r eXCategory_r _) (eA_r (eC_r eXCategory_r _) (eA_r (eC_r (eS_r eI_ok) _) (eC_r (eS_r eI_ok) _))))
theorem eXends_r : EncR eXends := (eA_r (eC_r eI_r _) (eC_r eI_r _))
theorem eXTransformation_r : EncR eXTransformation := (eA_r (eC_r eXFunctor_r _) (eA_r (eC_r eXFunctor_r _) (eC_r (eS_r eI_ok) _)))
theorem eXAdjunction_r : EncR eXAdjunction := (eA_r (eC_r eXFunctor_r _) (eA_r (eC_r eXFunctor_r _) (eA_r (eC_r (eS_r eI_ok) _) (eC_r (eS_r eI_ok) _))))
def T : Tab := [(2, ⟨.int .i64, 1, 8, [.int .i64 0]⟩),
  (22, ⟨.slice 2, 1, 24, [.slice .none 0 0]⟩),
  (23, ⟨.slice 22, 1, 24, [.slice .none 0 0]⟩),
  (32, ⟨.struct #[⟨"Objects", 2, 0, false, "", "", 0⟩, ⟨"From", 22, 1, false, "", "", 8⟩, ⟨"To", 22, 2, false, "", "", 32⟩, ⟨"Identity", 22, 3, false, "", "", 56⟩, ⟨"Composites", 23, 4, false, "", "", 80⟩], 5, 104, [.int .i64 0, .slice .none 0 0, .slice .none 0 0, .slice .none 0 0, .slice .none 0 0]⟩),
  (34, ⟨.struct #[⟨"Source", 32, 0, false, "", "", 0⟩, ⟨"Target", 32, 5, false, "", "", 104⟩, ⟨"Objects", 22, 10, false, "", "", 208⟩, ⟨"Arrows", 22, 11, false, "", "", 232⟩], 12, 256, [.int .i64 0, .slice .none 0 0, .slice .none 0 0, .slice .none 0 0, .slice .none 0 0, .int .i64 0, .slice .none 0 0, .slice .none 0 0, .slice .none 0 0, .slice .none 0 0, .slice .none 0 0, .slice .none 0 0]⟩),
  (45, ⟨.struct #[⟨"Left", 34, 0, false, "", "", 0⟩, ⟨"Right", 34, 12, false, "", "", 256⟩, ⟨"Unit", 22, 24, false, "", "", 512⟩, ⟨"Counit", 22, 25, false, "", "", 536⟩], 26, 560, [.int .i64 0, .slice .none 0 0, .slice .none 0 0, .slice .none 0 0, .slice .none 0 0, .int .i64 0, .slice .none 0 0, .slice .none 0 0, .slice .none 0 0, .slice .none 0 0, .slice .none 0 0, .slice .none 0 0, .int .i64 0, .slice .none 0 0, .slice .none 0 0, .slice .none 0 0, .slice .none 0 0, .int .i64 0, .slice .none 0 0, .slice .none 0 0, .slice .none 0 0, .slice .none 0 0, .slice .none 0 0, .slice .none 0 0, .slice .none 0 0, .slice .none 0 0]⟩),
  (84, ⟨.struct #[⟨"from", 2, 0, false, "", "loop.example/g01083/impl", 0⟩, ⟨"to", 2, 1, false, "", "loop.example/g01083/impl", 8⟩], 2, 16, [.int .i64 0, .int .i64 0]⟩)]
theorem hT : TabOk Try.prog T := ⟨tiok (by kernel_rfl) (by kernel_rfl), tiok (by kernel_rfl) (by kernel_rfl), tiok (by kernel_rfl) (by kernel_rfl), tiok (by kernel_rfl) (by kernel_rfl), tiok (by kernel_rfl) (by kernel_rfl), tiok (by kernel_rfl) (by kernel_rfl), tiok (by kernel_rfl) (by kernel_rfl), trivial⟩
theorem hm : Try.prog.follows .mixedOrders = true := by kernel_rfl

theorem ok75 : CallOk Try.prog 75 := callOk_of Try.func75 (by kernel_rfl) (by kernel_rfl)
theorem spec_l15Ends_c (a0 : XAdjunction) (a1 : Int) (a2 : Int) (a3 : XCategory) (a4 : Int) (r : Int) (hM : M.spec_l15Ends a0 a1 a2 a3 a4 = some r) :
    FnC Try.prog 75 [] [.agg (eXAdjunction.b a0), iv a1, iv a2, .agg (eXCategory.b a3), iv a4] [] (iv r) := by
  refine fnc_startG (N := 31) (np := 500) hT Try.func75 rfl rfl (by kernel_rfl) ?_
  unfold M.spec_l15Ends at hM
  refine tr_start (ks := [0, 2, 4, 6, 8]) (st' := [(0, .d (.agg (eXAdjunction.b a0))), (2, .d (iv a1)), (4, .d (iv a2)), (6, .d (.agg (eXCategory.b a3))), (8, .d (iv a4))]) (by kernel_rfl) ?_
  refine tr_sr hT hm [] [2, 4, 8, 10, 16, 2011, 2017] [(2, .d (iv a1)), (4, .d (iv a2)), (8, .d (iv a4)), (10, .d (.rp 1005 0)), (16, .d (.rp 1008 0)), bxB 2011 (eXAdjunction.b a0), bxB 2017 (eXCategory.b a3)] .nil (by kernel_rfl) (by kernel_rfl) ?_
  refine tr_seq ?_
  obtain ⟨v1, hv1, hM⟩ := bind_some' hM
  rcases Bool.eq_false_or_eq_true v1 with h2 | h2
  · have hM := ite_true' hM h2
    obtain ⟨v3, hv3, hM⟩ := bind_some' hM
    rcases Bool.eq_false_or_eq_true v3 with h4 | h4
    · have hM := ite_true' hM h4
      obtain ⟨v5, hv5, hM⟩ := bind_some' hM
      refine tr_sr hT hm [(4, .call [] [] [.agg (eXCategory.b a0.Left.Source), iv a1] [] (bv v1)), (6, .val (bv false)), (11, .call [] [] [.agg (eXCategory.b a0.Left.Target), iv a2] [] (bv v3)), (14, .val (bv false)), (17, .call [] [] [.agg (eXCategory.b a3), iv a4] [] (bv v5))] [60] [(60, .d (bv (!v5)))] (cc0 ok55 (spec_l02Object_c a0.Left.Source a1 _ hv1) (by kernel_rfl) (.cons (congrArg (fun b => bv b) (congrArg not h2)) (cc0 ok55 (spec_l02Object_c a0.Left.Target a2 _ hv3) (by kernel_rfl) (.cons (congrArg (fun b => bv b) (congrArg not h4)) (cc0 ok58 (spec_l02Arrow_c a3 a4 _ hv5) (by kernel_rfl) .nil))))) (by kernel_rfl) (by kernel_rfl) ?_
      rcases Bool.eq_false_or_eq_true v5 with h6 | h6
      · have hM := ite_true' hM h6
        refine tr_condFe (e := !v5) (congrArg not h6) (by kernel_rfl) ?_
        refine tr_skip (q_n ?_)
        refine tr_sr hT hm [] [20] [(20, .d (iv 0))] .nil (by kernel_rfl) (by kernel_rfl) ?_
        refine tr_ret (rg_r ?_)
        obtain rfl := Option.some.inj hM
        exact retg (names := []) .nil (by kernel_rfl)
      · have hM := ite_false' hM h6
        refine tr_condTe (e := !v5) (congrArg not h6) (by kernel_rfl) ?_
        refine tr_sr hT hm [] [20] [(20, .d (iv 2))] .nil (by kernel_rfl) (by kernel_rfl) ?_
        refine tr_ret (q_r (rg_r ?_))
        obtain rfl := Option.some.inj hM
        exact retg (names := []) .nil (by kernel_rfl)
    · have hM := ite_false' hM h4
      refine tr_sr hT hm [(4, .call [] [] [.agg (eXCategory.b a0.Left.Source), iv a1] [] (bv v1)), (6, .val (bv false)), (11, .call [] [] [.agg (eXCategory.b a0.Left.Target), iv a2] [] (bv v3)), (14, .val (bv true))] [60] [(60, .d (bv true))] (cc0 ok55 (spec_l02Object_c a0.Left.Source a1 _ hv1) (by kernel_rfl) (.cons (congrArg (fun b => bv b) (congrArg not h2)) (cc0 ok55 (spec_l02Object_c a0.Left.Target a2 _ hv3) (by kernel_rfl) (.cons (congrArg (fun b => bv b) (congrArg not h4)) .nil)))) (by kernel_rfl) (by kernel_rfl) ?_
      refine tr_condT (by kernel_rfl) ?_
      refine tr_sr hT hm [] [20] [(20, .d (iv 2))] .nil (by kernel_rfl) (by kernel_rfl) ?_
      refine tr_ret (q_r (rg_r ?_))
      obtain rfl := Option.some.inj hM
      exact retg (names := []) .nil (by kernel_rfl)
  · have hM := ite_false' hM h2
    refine tr_sr hT hm [(4, .call [] [] [.agg (eXCategory.b a0.Left.Source), iv a1] [] (bv v1)), (6, .val (bv true))] [60] [(60, .d (bv true))] (cc0 ok55 (spec_l02Object_c a0.Left.Source a1 _ hv1) (by kernel_rfl) (.cons (congrArg (fun b => bv b) (congrArg not h2)) .nil)) (by kernel_rfl) (by kernel_rfl) ?_
    refine tr_condT (by kernel_rfl) ?_
    refine tr_sr hT hm [] [20] [(20, .d (iv 2))] .nil (by kernel_rfl) (by kernel_rfl) ?_
    refine tr_ret (q_r (rg_r ?_))
    obtain rfl := Option.some.inj hM
    exact retg (names := []) .nil (by kernel_rfl)

theorem ok77 : CallOk Try.prog 77 := callOk_of Try.func77 (by kernel_rfl) (by kernel_rfl)
theorem impl_Adjunction_objectsCode_c (a0 : XAdjunction) (a1 : Int) (a2 : Int) (r : Int) (hM : M.impl_Adjunction_objectsCode a0 a1 a2 = some r) :
    FnC Try.prog 77 [] [.pt (eXAdjunction.b a0) 0, iv a1, iv a2] [] (iv r) := by
  refine fnc_startG (N := 32) (np := 500) hT Try.func77 rfl rfl (by kernel_rfl) ?_
  unfold M.impl_Adjunction_objectsCode at hM
  refine tr_start (ks := [0, 2, 4]) (st' := [(0, .d (.pt (eXAdjunction.b a0) 0)), (2, .d (iv a1)), (4, .d (iv a2))]) (by kernel_rfl) ?_
  refine tr_sr hT hm [] [0, 2, 4] [(0, .d (.pt (eXAdjunction.b a0) 0)), (2, .d (iv a1)), (4, .d (iv a2))] .nil (by kernel_rfl) (by kernel_rfl) ?_
  refine tr_seq ?_
  obtain ⟨v1, hv1, hM⟩ := bind_some' hM
  refine tr_sr hT hm [(1, .call [] [] [.pt (eXAdjunction.b a0) 0] [] (bv v1))] [0, 2, 4, 18] [(0, .d (.pt (eXAdjunction.b a0) 0)), (2, .d (iv a1)), (4, .d (iv a2)), (18, .d (bv (!v1)))] (cc0 ok54 (impl_Adjunction_isAdjunction_c a0 _ hv1) (by kernel_rfl) .nil) (by kernel_rfl) (by kernel_rfl) ?_
  rcases Bool.eq_false_or_eq_true v1 with h2 | h2
  · have hM := ite_true' hM h2
    refine tr_condFe (e := !v1) (congrArg not h2) (by kernel_rfl) ?_
    refine tr_skip (q_n ?_)
    refine tr_seq ?_
    obtain ⟨v3, hv3, hM⟩ := bind_some' hM
    rcases Bool.eq_false_or_eq_true v3 with h4 | h4
    · have hM := ite_true' hM h4
      obtain ⟨v5, hv5, hM⟩ := bind_some' hM
      refine tr_sr hT hm [(8, .call [] [] [iv a1, iv 0, iv (IntKind.i64.wrap (a0.Left.Source.Objects - 1))] [] (bv v3)), (10, .val (bv false)), (19, .call [] [] [iv a2, iv 0, iv (IntKind.i64.wrap (a0.Left.Target.Objects - 1))] [] (bv v5))] [62] [(62, .d (bv (!v5)))] (cc0 ok107 (impl_inRange_c a1 0 (IntKind.i64.wrap (a0.Left.Source.Objects - 1)) _ hv3) (by kernel_rfl) (.cons (congrArg (fun b => bv b) (congrArg not h4)) (cc0 ok107 (impl_inRange_c a2 0 (IntKind.i64.wrap (a0.Left.Target.Objects - 1)) _ hv5) (by kernel_rfl) .nil))) (by kernel_rfl) (by kernel_rfl) ?_
      rcases Bool.eq_false_or_eq_true v5 with h6 | h6
      · have hM := ite_true' hM h6
        refine tr_condFe (e := !v5) (congrArg not h6) (by kernel_rfl) ?_
        refine tr_skip (q_n ?_)
        refine tr_sr hT hm [] [12] [(12, .d (iv 0))] .nil (by kernel_rfl) (by kernel_rfl) ?_
        refine tr_ret (rg_r ?_)
        obtain rfl := Option.some.inj hM
        exact retg (names := []) .nil (by kernel_rfl)
      · have hM := ite_false' hM h6
        refine tr_condTe (e := !v5) (congrArg not h6) (by kernel_rfl) ?_
        refine tr_sr hT hm [] [12] [(12, .d (iv 2))] .nil (by kernel_rfl) (by kernel_rfl) ?_
        refine tr_ret (q_r (rg_r ?_))
        obtain rfl := Option.some.inj hM
        exact retg (names := []) .nil (by kernel_rfl)
    · have hM := ite_false' hM h4
      refine tr_sr hT hm [(8, .call [] [] [iv a1, iv 0, iv (IntKind.i64.wrap (a0.Left.Source.Objects - 1))] [] (bv v3)), (10, .val (bv true))] [62] [(62, .d (bv true))] (cc0 ok107 (impl_inRange_c a1 0 (IntKind.i64.wrap (a0.Left.Source.Objects - 1)) _ hv3) (by kernel_rfl) (.cons (congrArg (fun b => bv b) (congrArg not h4)) .nil)) (by kernel_rfl) (by kernel_rfl) ?_
      refine tr_condT (by kernel_rfl) ?_
      refine tr_sr hT hm [] [12] [(12, .d (iv 2))] .nil (by kernel_rfl) (by kernel_rfl) ?_
      refine tr_ret (q_r (rg_r ?_))
      obtain rfl := Option.some.inj hM
      exact retg (names := []) .nil (by kernel_rfl)
  · have hM := ite_false' hM h2
    refine tr_condTe (e := !v1) (congrArg not h2) (by kernel_rfl) ?_
    refine tr_sr hT hm [] [12] [(12, .d (iv 1))] .nil (by kernel_rfl) (by kernel_rfl) ?_
    refine tr_ret (q_r (rg_r ?_))
    obtain rfl := Option.some.inj hM
    exact retg (names := []) .nil (by kernel_rfl)

theorem ok78 : CallOk Try.prog 78 := callOk_of Try.func78 (by kernel_rfl) (by kernel_rfl)
theorem impl_Adjunction_transposed_c (a0 : XAdjunction) (a1 : Int) (a2 : Int) (a3 : Int) (a4 : XCategory) (a5 : Xends) (a6 : Int) (f7 : Nat) (c7 : List D) (a7 : Int → Int → Option Int) (ok7_ : CallOk Try.prog f7) (hm7 : menL c7 = []) (hf7 : ∀ x0 x1 r, a7 x0 x1 = some r → FnC Try.prog f7 [] (c7 ++ [iv x0, iv x1]) [] (iv r)) (r : Int × Int) (hM : M.impl_Adjunction_transposed a0 a1 a2 a3 a4 a5 a6 a7 = some r) :
    FnC Try.prog 78 [] [.pt (eXAdjunction.b a0) 0, iv a1, iv a2, iv a3, .pt (eXCategory.b a4) 0, .agg (eXends.b a5), iv a6, .fc f7 c7] [] (.tup [iv r.1, iv r.2]) := by
  refine fnc_startG (N := 33) (np := 500) hT Try.func78 rfl rfl (by kernel_rfl) ?_
  unfold M.impl_Adjunction_transposed at hM
  refine tr_start (ks := [6, 8, 10, 12, 14]) (st' := [(6, .d (iv a3)), (8, .d (.pt (eXCategory.b a4) 0)), (10, .d (.agg (eXends.b a5))), (12, .d (iv a6)), (14, .d (.fc f7 c7))]) (by kernel_rfl) ?_
  refine tr_sr hT hm [] [6, 8, 12, 14, 26, 2027] [(6, .d (iv a3)), (8, .d (.pt (eXCategory.b a4) 0)), (12, .d (iv a6)), (14, .d (.fc f7 c7)), (26, .d (.rp 1013 0)), bxB 2027 (eXends.b a5)] .nil (by kernel_rfl) (by kernel_rfl) ?_
  refine tr_seq ?_
  obtain ⟨v1, hv1, hM⟩ := bind_some' hM
  obtain ⟨v2, hv2, hM⟩ := bind_some' hM
  refine tr_sr hT hm [(2, .call [] [] [.pt (eXCategory.b a4) 0] [] (iv v1)), (4, .call [] [] [iv a3, iv 0, iv (IntKind.i64.wrap (v1 - 1))] [] (bv v2))] [6, 8, 12, 14, 26, 46, 2027] [(6, .d (iv a3)), (8, .d (.pt (eXCategory.b a4) 0)), (12, .d (iv a6)), (14, .d (.fc f7 c7)), (26, .d (.rp 1013 0)), (46, .d (bv (!v2))), bxB 2027 (eXends.b a5)] (cc0 ok61 (impl_Category_arrows_c a4 _ hv1) (by kernel_rfl) (cc0 ok107 (impl_inRange_c a3 0 (IntKind.i64.wrap (v1 - 1)) _ hv2) (by kernel_rfl) .nil)) (by kernel_rfl) (by kernel_rfl) ?_
  rcases Bool.eq_false_or_eq_true v2 with h3 | h3
  · have hM := ite_true' hM h3
    refine tr_condFe (e := !v2) (congrArg not h3) (by kernel_rfl) ?_
    refine tr_skip (q_n ?_)
    refine tr_seq ?_
    obtain ⟨v4, hv4, hM⟩ := bind_some' hM
    refine tr_sr hT hm [(2, .call [] [] [.pt (eXCategory.b a4) 0, iv a3] [] (.agg (eXends.o v4)))] [6, 12, 14, 56] [(6, .d (iv a3)), (12, .d (iv a6)), (14, .d (.fc f7 c7)), (56, .d (bv (((v4.from_ == a5.from_) && (v4.to_ == a5.to_)) == false)))] (cc0 ok63 (impl_Category_ends_c a4 a3 _ hv4) (by kernel_rfl) (.cons (by kernel_rfl : Try.prog.stoodInHeld 84 = false) (.cons (by kernel_rfl : Try.prog.eqGuardType Try.prog.depth 84 = false) .nil))) (by kernel_rfl) (by kernel_rfl) ?_
    rcases Bool.eq_false_or_eq_true (((v4.from_ == a5.from_) && (v4.to_ == a5.to_)) == false) with h5 | h5
    · have hM := ite_true' hM h5
      refine tr_condTe (e := ((v4.from_ == a5.from_) && (v4.to_ == a5.to_)) == false) h5 (by kernel_rfl) ?_
      refine tr_sr hT hm [] [32, 34] [(32, .d (iv 0)), (34, .d (iv 5))] .nil (by kernel_rfl) (by kernel_rfl) ?_
      refine tr_ret (q_r (rg_r ?_))
      obtain rfl := Option.some.inj hM
      exact retg (names := []) .nil (by kernel_rfl)
    · have hM := ite_false' hM h5
      refine tr_condFe (e := ((v4.from_ == a5.from_) && (v4.to_ == a5.to_)) == false) h5 (by kernel_rfl) ?_
      refine tr_skip (q_n ?_)
      obtain ⟨v6, hv6, hM⟩ := bind_some' hM
      refine tr_sr hT hm [(3, .call [] [] (c7 ++ [iv a6, iv a3]) [] (iv v6))] [32, 34] [(32, .d (iv v6)), (34, .d (iv 0))] (cc0 ok7_ (hf7 a6 a3 _ hv6) (menL_app hm7 rfl) .nil) (by kernel_rfl) (by kernel_rfl) ?_
      refine tr_ret (rg_r ?_)
      obtain rfl := Option.some.inj hM
      exact retg (names := []) .nil (by kernel_rfl)
  · have hM := ite_false' hM h3
    refine tr_condTe (e := !v2) (congrArg not h3) (by kernel_rfl) ?_
    refine tr_sr hT hm [] [32, 34] [(32, .d (iv 0)), (34, .d (iv 2))] .nil (by kernel_rfl) (by kernel_rfl) ?_
    refine tr_ret (q_r (rg_r ?_))
    obtain rfl := Option.some.inj hM
    exact retg (names := []) .nil (by kernel_rfl)

end Go.Proofs.Ytpfdieaiogfihaa.WwE
