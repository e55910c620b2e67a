/- Walks. Printed by wip/gen. -/
import Derived.Test.YtpfdieaiogfihaaGxwPM
import Derived.Test.YtpfdieaiogfihaaGxwMW
import Derived.Test.YtpfdieaiogfihaaGxwOW
import Derived.KernelRfl
namespace Go.Proofs.Ytpfdieaiogfihaa.WwP
open Go.Gx Go.Proofs.Ytpfdieaiogfihaa.WvB Go.Proofs.Ytpfdieaiogfihaa.WwN Go.Proofs.Ytpfdieaiogfihaa.WvS Go.Proofs.Ytpfdieaiogfihaa.WvF Go.Proofs.Ytpfdieaiogfihaa.WwT Go.Proofs.Ytpfdieaiogfihaa.WwU Go.Proofs.Ytpfdieaiogfihaa.WvH Go.Proofs.Ytpfdieaiogfihaa.WvI Go.Proofs.Ytpfdieaiogfihaa.WwM Go.Proofs.Ytpfdieaiogfihaa.WwO

theorem eXCategory_r : EncR eXCategory := (eA_r (eC_r eI_r _) (eA_r (eC_r (eS_r eI_ok) _) (eA_r (eC_r (eS_r eI_ok) _) (eA_r (eC_r (eS_r eI_ok) _) (eC_r (eS_r (eS_ok eI_ok)) _)))))
theorem eXFunctor_r : EncR eXFunctor := (eA_r (eC_r eXCategory_r _) (eA_r (eC_r eXCategory_r _) (eA_r (eC_r (eS_r eI_ok) _) (eC_r (eS_r eI_ok) _))))
theorem eXends_r : EncR eXends := (eA_r (eC_r eI_r _) (eC_r eI_r _))
theorem eXTransformation_r : EncR eXTransformation := (eA_r (eC_r eXFunctor_r _) (eA_r (eC_r eXFunctor_r _) (eC_r (eS_r eI_ok) _)))
theorem eXMonad_r : EncR eXMonad := (eA_r (eC_r eXFunctor_r _) (eA_r (eC_r (eS_r eI_ok) _) (eC_r (eS_r eI_ok) _)))
def T : Tab := [(2, ⟨.int .i64, 1, 8, [.int .i64 0]⟩),
  (22, ⟨.slice 2, 1, 24, [.slice .none 0 0]⟩),
  (23, ⟨.slice 22, 1, 24, [.slice .none 0 0]⟩),
  (32, ⟨.struct #[⟨"Objects", 2, 0, false, "", "", 0⟩, ⟨"From", 22, 1, false, "", "", 8⟩, ⟨"To", 22, 2, false, "", "", 32⟩, ⟨"Identity", 22, 3, false, "", "", 56⟩, ⟨"Composites", 23, 4, false, "", "", 80⟩], 5, 104, [.int .i64 0, .slice .none 0 0, .slice .none 0 0, .slice .none 0 0, .slice .none 0 0]⟩),
  (34, ⟨.struct #[⟨"Source", 32, 0, false, "", "", 0⟩, ⟨"Target", 32, 5, false, "", "", 104⟩, ⟨"Objects", 22, 10, false, "", "", 208⟩, ⟨"Arrows", 22, 11, false, "", "", 232⟩], 12, 256, [.int .i64 0, .slice .none 0 0, .slice .none 0 0, .slice .none 0 0, .slice .none 0 0, .int .i64 0, .slice .none 0 0, .slice .none 0 0, .slice .none 0 0, .slice .none 0 0, .slice .none 0 0, .slice .none 0 0]⟩),
  (36, ⟨.struct #[⟨"On", 34, 0, false, "", "", 0⟩, ⟨"Unit", 22, 12, false, "", "", 256⟩, ⟨"Join", 22, 13, false, "", "", 280⟩], 14, 304, [.int .i64 0, .slice .none 0 0, .slice .none 0 0, .slice .none 0 0, .slice .none 0 0, .int .i64 0, .slice .none 0 0, .slice .none 0 0, .slice .none 0 0, .slice .none 0 0, .slice .none 0 0, .slice .none 0 0, .slice .none 0 0, .slice .none 0 0]⟩)]
theorem hT : TabOk Try.prog T := ⟨tiok (by kernel_rfl) (by kernel_rfl), tiok (by kernel_rfl) (by kernel_rfl), tiok (by kernel_rfl) (by kernel_rfl), tiok (by kernel_rfl) (by kernel_rfl), tiok (by kernel_rfl) (by kernel_rfl), tiok (by kernel_rfl) (by kernel_rfl), trivial⟩
theorem hm : Try.prog.follows .mixedOrders = true := by kernel_rfl

theorem ok65 : CallOk Try.prog 65 := callOk_of Try.func65 (by kernel_rfl) (by kernel_rfl)
theorem spec_l17Pair_c (a0 : XMonad) (a1 : Int) (a2 : Int) (r : Int) (hM : M.spec_l17Pair a0 a1 a2 = some r) :
    FnC Try.prog 65 [] [.agg (eXMonad.b a0), iv a1, iv a2] [] (iv r) := by
  refine fnc_startG (N := 24) (np := 500) hT Try.func65 rfl rfl (by kernel_rfl) ?_
  unfold M.spec_l17Pair at hM
  refine tr_start (ks := [0, 2, 4]) (st' := [(0, .d (.agg (eXMonad.b a0))), (2, .d (iv a1)), (4, .d (iv a2))]) (by kernel_rfl) ?_
  refine tr_sr hT hm [] [2, 4, 6, 2007] [(2, .d (iv a1)), (4, .d (iv a2)), (6, .d (.rp 1003 0)), bxB 2007 (eXMonad.b a0)] .nil (by kernel_rfl) (by kernel_rfl) ?_
  refine tr_seq ?_
  obtain ⟨v1, hv1, hM⟩ := bind_some' hM
  refine tr_sr hT hm [(1, .call [] [] [.agg (eXMonad.b a0)] [] (bv v1))] [2, 4, 6, 18, 2007] [(2, .d (iv a1)), (4, .d (iv a2)), (6, .d (.rp 1003 0)), (18, .d (bv (!v1))), bxB 2007 (eXMonad.b a0)] (cc0 ok49 (spec_l16Is_c a0 _ hv1) (by kernel_rfl) .nil) (by kernel_rfl) (by kernel_rfl) ?_
  rcases Bool.eq_false_or_eq_true v1 with h2 | h2
  · have hM := ite_true' hM h2
    refine tr_condFe (e := !v1) (congrArg not h2) (by kernel_rfl) ?_
    refine tr_skip (q_n ?_)
    refine tr_seq ?_
    obtain ⟨v3, hv3, hM⟩ := bind_some' hM
    rcases Bool.eq_false_or_eq_true v3 with h4 | h4
    · have hM := ite_true' hM h4
      obtain ⟨v5, hv5, hM⟩ := bind_some' hM
      refine tr_sr hT hm [(4, .call [] [] [.agg (eXCategory.b a0.On.Source), iv a1] [] (bv v3)), (6, .val (bv false)), (11, .call [] [] [.agg (eXCategory.b a0.On.Source), iv a2] [] (bv v5))] [46] [(46, .d (bv (!v5)))] (cc0 ok55 (spec_l02Object_c a0.On.Source a1 _ hv3) (by kernel_rfl) (.cons (congrArg (fun b => bv b) (congrArg not h4)) (cc0 ok58 (spec_l02Arrow_c a0.On.Source a2 _ hv5) (by kernel_rfl) .nil))) (by kernel_rfl) (by kernel_rfl) ?_
      rcases Bool.eq_false_or_eq_true v5 with h6 | h6
      · have hM := ite_true' hM h6
        refine tr_condFe (e := !v5) (congrArg not h6) (by kernel_rfl) ?_
        refine tr_skip (q_n ?_)
        refine tr_sr hT hm [] [12] [(12, .d (iv 0))] .nil (by kernel_rfl) (by kernel_rfl) ?_
        refine tr_ret (rg_r ?_)
        obtain rfl := Option.some.inj hM
        exact retg (names := []) .nil (by kernel_rfl)
      · have hM := ite_false' hM h6
        refine tr_condTe (e := !v5) (congrArg not h6) (by kernel_rfl) ?_
        refine tr_sr hT hm [] [12] [(12, .d (iv 2))] .nil (by kernel_rfl) (by kernel_rfl) ?_
        refine tr_ret (q_r (rg_r ?_))
        obtain rfl := Option.some.inj hM
        exact retg (names := []) .nil (by kernel_rfl)
    · have hM := ite_false' hM h4
      refine tr_sr hT hm [(4, .call [] [] [.agg (eXCategory.b a0.On.Source), iv a1] [] (bv v3)), (6, .val (bv true))] [46] [(46, .d (bv true))] (cc0 ok55 (spec_l02Object_c a0.On.Source a1 _ hv3) (by kernel_rfl) (.cons (congrArg (fun b => bv b) (congrArg not h4)) .nil)) (by kernel_rfl) (by kernel_rfl) ?_
      refine tr_condT (by kernel_rfl) ?_
      refine tr_sr hT hm [] [12] [(12, .d (iv 2))] .nil (by kernel_rfl) (by kernel_rfl) ?_
      refine tr_ret (q_r (rg_r ?_))
      obtain rfl := Option.some.inj hM
      exact retg (names := []) .nil (by kernel_rfl)
  · have hM := ite_false' hM h2
    refine tr_condTe (e := !v1) (congrArg not h2) (by kernel_rfl) ?_
    refine tr_sr hT hm [] [12] [(12, .d (iv 1))] .nil (by kernel_rfl) (by kernel_rfl) ?_
    refine tr_ret (q_r (rg_r ?_))
    obtain rfl := Option.some.inj hM
    exact retg (names := []) .nil (by kernel_rfl)

theorem ok56 : CallOk Try.prog 56 := callOk_of Try.func56 (by kernel_rfl) (by kernel_rfl)
theorem impl_pairCode_c (a0 : XMonad) (a1 : List Int) (a2 : List Int) (r : Int) (hM : M.impl_pairCode a0 a1 a2 = some r) :
    FnC Try.prog 56 [] [.pt (eXMonad.b a0) 0, .sl a1.length 0 (a1.flatMap eI.b), .sl a2.length 0 (a2.flatMap eI.b)] [] (iv r) := by
  refine fnc_startG (N := 29) (np := 500) hT Try.func56 rfl rfl (by kernel_rfl) ?_
  unfold M.impl_pairCode at hM
  refine tr_start (ks := [0, 2, 4]) (st' := [(0, .d (.pt (eXMonad.b a0) 0)), (2, .d (.sl a1.length 0 (a1.flatMap eI.b))), (4, .d (.sl a2.length 0 (a2.flatMap eI.b)))]) (by kernel_rfl) ?_
  refine tr_sr hT hm [] [0, 2, 4] [(0, .d (.pt (eXMonad.b a0) 0)), (2, .d (.sl a1.length 0 (a1.flatMap eI.b))), (4, .d (.sl a2.length 0 (a2.flatMap eI.b)))] .nil (by kernel_rfl) (by kernel_rfl) ?_
  refine tr_seq ?_
  obtain ⟨v1, hv1, hM⟩ := bind_some' hM
  refine tr_sr hT hm [(1, .call [] [] [.pt (eXMonad.b a0) 0] [] (bv v1))] [0, 2, 4, 18] [(0, .d (.pt (eXMonad.b a0) 0)), (2, .d (.sl a1.length 0 (a1.flatMap eI.b))), (4, .d (.sl a2.length 0 (a2.flatMap eI.b))), (18, .d (bv (!v1)))] (cc0 ok51 (impl_Monad_isMonad_c a0 _ hv1) (by kernel_rfl) .nil) (by kernel_rfl) (by kernel_rfl) ?_
  rcases Bool.eq_false_or_eq_true v1 with h2 | h2
  · have hM := ite_true' hM h2
    refine tr_condFe (e := !v1) (congrArg not h2) (by kernel_rfl) ?_
    refine tr_skip (q_n ?_)
    refine tr_seq ?_
    obtain ⟨v3, hv3, hM⟩ := bind_some' hM
    rcases Bool.eq_false_or_eq_true v3 with h4 | h4
    · have hM := ite_true' hM h4
      obtain ⟨v5, hv5, hM⟩ := bind_some' hM
      obtain ⟨v6, hv6, hM⟩ := bind_some' hM
      refine tr_sr hT hm [(7, .call [] [] [.sl a1.length 0 (a1.flatMap eI.b), iv a0.On.Source.Objects] [] (bv v3)), (9, .val (bv false)), (15, .call [] [] [.pt (eXCategory.b a0.On.Source) 0] [] (iv v5)), (16, .call [] [] [.sl a2.length 0 (a2.flatMap eI.b), iv v5] [] (bv v6))] [56] [(56, .d (bv (!v6)))] (cc0 ok60 (impl_within_c a1 a0.On.Source.Objects _ hv3) (by kernel_rfl) (.cons (congrArg (fun b => bv b) (congrArg not h4)) (cc (B := []) (ρ := []) (rB := []) ok61 (impl_Category_arrows_c a0.On.Source _ hv5) (.cons (.pass (.ptk (ds := eXMonad.b a0) (ds' := eXCategory.b a0.On.Source) (off := 0) (n := 5) (by kernel_rfl) (by kernel_rfl) (by kernel_rfl))) .nil) (.inl rfl) (cc0 ok60 (impl_within_c a2 v5 _ hv6) (by kernel_rfl) .nil)))) (by kernel_rfl) (by kernel_rfl) ?_
      rcases Bool.eq_false_or_eq_true v6 with h7 | h7
      · have hM := ite_true' hM h7
        refine tr_condFe (e := !v6) (congrArg not h7) (by kernel_rfl) ?_
        refine tr_skip (q_n ?_)
        refine tr_sr hT hm [] [12] [(12, .d (iv 0))] .nil (by kernel_rfl) (by kernel_rfl) ?_
        refine tr_ret (rg_r ?_)
        obtain rfl := Option.some.inj hM
        exact retg (names := []) .nil (by kernel_rfl)
      · have hM := ite_false' hM h7
        refine tr_condTe (e := !v6) (congrArg not h7) (by kernel_rfl) ?_
        refine tr_sr hT hm [] [12] [(12, .d (iv 2))] .nil (by kernel_rfl) (by kernel_rfl) ?_
        refine tr_ret (q_r (rg_r ?_))
        obtain rfl := Option.some.inj hM
        exact retg (names := []) .nil (by kernel_rfl)
    · have hM := ite_false' hM h4
      refine tr_sr hT hm [(7, .call [] [] [.sl a1.length 0 (a1.flatMap eI.b), iv a0.On.Source.Objects] [] (bv v3)), (9, .val (bv true))] [56] [(56, .d (bv true))] (cc0 ok60 (impl_within_c a1 a0.On.Source.Objects _ hv3) (by kernel_rfl) (.cons (congrArg (fun b => bv b) (congrArg not h4)) .nil)) (by kernel_rfl) (by kernel_rfl) ?_
      refine tr_condT (by kernel_rfl) ?_
      refine tr_sr hT hm [] [12] [(12, .d (iv 2))] .nil (by kernel_rfl) (by kernel_rfl) ?_
      refine tr_ret (q_r (rg_r ?_))
      obtain rfl := Option.some.inj hM
      exact retg (names := []) .nil (by kernel_rfl)
  · have hM := ite_false' hM h2
    refine tr_condTe (e := !v1) (congrArg not h2) (by kernel_rfl) ?_
    refine tr_sr hT hm [] [12] [(12, .d (iv 1))] .nil (by kernel_rfl) (by kernel_rfl) ?_
    refine tr_ret (q_r (rg_r ?_))
    obtain rfl := Option.some.inj hM
    exact retg (names := []) .nil (by kernel_rfl)

end Go.Proofs.Ytpfdieaiogfihaa.WwP
