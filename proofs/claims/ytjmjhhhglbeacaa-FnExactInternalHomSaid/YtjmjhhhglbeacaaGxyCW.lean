/- Walks. Printed by wip/gen. -/
import Derived.Test.YtjmjhhhglbeacaaGxEM1
import Derived.Test.YtjmjhhhglbeacaaGxEO0
import Derived.Test.YtjmjhhhglbeacaaGxyMW2
import Derived.KernelRfl
namespace Go.Proofs.Ytjmjhhhglbeacaa.WyC
open Go.Gx Go.Proofs.Ytjmjhhhglbeacaa.WvB Go.Proofs.Ytjmjhhhglbeacaa.WyO Go.Proofs.Ytjmjhhhglbeacaa.WyN Go.Proofs.Ytjmjhhhglbeacaa.WyM

theorem eXCategory_r : EncR eXCategory := (eA_r (eC_r eI_r _) (eA_r (eC_r (eS_r eI_ok) _) (eA_r (eC_r (eS_r eI_ok) _) (eA_r (eC_r (eS_r eI_ok) _) (eC_r (eS_r (eS_ok eI_ok)) _)))))
theorem eXFunctor_r : EncR eXFunctor := (eA_r (eC_r eXCategory_r _) (eA_r (eC_r eXCategory_r _) (eA_r (eC_r (eS_r eI_ok) _) (eC_r (eS_r eI_ok) _))))
theorem eXMonoidal_r : EncR eXMonoidal := (eA_r (eC_r eXCategory_r _) (eA_r (eC_r eI_r _) (eA_r (eC_r (eS_r (eS_ok eI_ok)) _) (eC_r (eS_r (eS_ok eI_ok)) _))))
def T : Tab := [(2, ⟨.int .i64, 1, 8, [.int .i64 0]⟩),
  (22, ⟨.slice 2, 1, 24, [.slice .none 0 0]⟩),
  (23, ⟨.slice 22, 1, 24, [.slice .none 0 0]⟩),
  (31, ⟨.struct #[⟨"Objects", 2, 0, false, "", "", 0⟩, ⟨"From", 22, 1, false, "", "", 8⟩, ⟨"To", 22, 2, false, "", "", 32⟩, ⟨"Identity", 22, 3, false, "", "", 56⟩, ⟨"Composites", 23, 4, false, "", "", 80⟩], 5, 104, [.int .i64 0, .slice .none 0 0, .slice .none 0 0, .slice .none 0 0, .slice .none 0 0]⟩),
  (33, ⟨.struct #[⟨"On", 31, 0, false, "", "", 0⟩, ⟨"Unit", 2, 5, false, "", "", 104⟩, ⟨"Objects", 23, 6, false, "", "", 112⟩, ⟨"Arrows", 23, 7, false, "", "", 136⟩], 8, 160, [.int .i64 0, .slice .none 0 0, .slice .none 0 0, .slice .none 0 0, .slice .none 0 0, .int .i64 0, .slice .none 0 0, .slice .none 0 0]⟩)]
theorem hT : TabOk Try.prog T := ⟨tiok (by kernel_rfl) (by kernel_rfl), tiok (by kernel_rfl) (by kernel_rfl), tiok (by kernel_rfl) (by kernel_rfl), tiok (by kernel_rfl) (by kernel_rfl), tiok (by kernel_rfl) (by kernel_rfl), trivial⟩
theorem hm : Try.prog.follows .mixedOrders = true := by kernel_rfl

theorem ok75 : CallOk Try.prog 75 := callOk_of Try.func75 (by kernel_rfl) (by kernel_rfl)
theorem spec_l35Objects_c (a0 : XMonoidal) (a1 : List Int) (r : Int) (hM : M.spec_l35Objects a0 a1 = some r) :
    FnC Try.prog 75 [] [.agg (eXMonoidal.b a0), .sl a1.length 0 (a1.flatMap eI.b)] [] (iv r) := by
  refine fnc_startG (N := 14) (np := 500) hT Try.func75 rfl rfl (by kernel_rfl) ?_
  unfold M.spec_l35Objects at hM
  refine tr_start (ks := [0, 2]) (st' := [(0, .d (.agg (eXMonoidal.b a0))), (2, .d (.sl a1.length 0 (a1.flatMap eI.b)))]) (by kernel_rfl) ?_
  refine tr_sr hT hm [] [2, 4, 2005] [(2, .d (.sl a1.length 0 (a1.flatMap eI.b))), (4, .d (.rp 1002 0)), bxB 2005 (eXMonoidal.b a0)] .nil (by kernel_rfl) (by kernel_rfl) ?_
  refine tr_seq ?_
  obtain ⟨v1, hv1, hM⟩ := bind_some' hM
  refine tr_sr hT hm [(1, .call [] [] [.agg (eXMonoidal.b a0)] [] (bv v1))] [2, 4, 14, 2005] [(2, .d (.sl a1.length 0 (a1.flatMap eI.b))), (4, .d (.rp 1002 0)), (14, .d (bv (!v1))), bxB 2005 (eXMonoidal.b a0)] (cc0 ok67 (spec_l35Is_c a0 _ hv1) (by kernel_rfl) .nil) (by kernel_rfl) (by kernel_rfl) ?_
  rcases Bool.eq_false_or_eq_true v1 with h2 | h2
  · have hM := ite_true' hM h2
    refine tr_condFe (e := !v1) (congrArg not h2) (by kernel_rfl) ?_
    refine tr_skip (q_n ?_)
    refine tr_seq ?_
    obtain ⟨v3, hv3, hM⟩ := bind_some' hM
    refine tr_sr hT hm [(4, .call [] [] [iv a0.On.Objects, .sl a1.length 0 (a1.flatMap eI.b)] [] (bv v3))] [26] [(26, .d (bv (!v3)))] (cc0 ok180 (spec_l01Map_c a0.On.Objects a1 _ hv3) (by kernel_rfl) .nil) (by kernel_rfl) (by kernel_rfl) ?_
    rcases Bool.eq_false_or_eq_true v3 with h4 | h4
    · have hM := ite_true' hM h4
      refine tr_condFe (e := !v3) (congrArg not h4) (by kernel_rfl) ?_
      refine tr_skip (q_n ?_)
      refine tr_sr hT hm [] [8] [(8, .d (iv 0))] .nil (by kernel_rfl) (by kernel_rfl) ?_
      refine tr_ret (rg_r ?_)
      obtain rfl := Option.some.inj hM
      exact retg (names := []) .nil (by kernel_rfl)
    · have hM := ite_false' hM h4
      refine tr_condTe (e := !v3) (congrArg not h4) (by kernel_rfl) ?_
      refine tr_sr hT hm [] [8] [(8, .d (iv 2))] .nil (by kernel_rfl) (by kernel_rfl) ?_
      refine tr_ret (q_r (rg_r ?_))
      obtain rfl := Option.some.inj hM
      exact retg (names := []) .nil (by kernel_rfl)
  · have hM := ite_false' hM h2
    refine tr_condTe (e := !v1) (congrArg not h2) (by kernel_rfl) ?_
    refine tr_sr hT hm [] [8] [(8, .d (iv 1))] .nil (by kernel_rfl) (by kernel_rfl) ?_
    refine tr_ret (q_r (rg_r ?_))
    obtain rfl := Option.some.inj hM
    exact retg (names := []) .nil (by kernel_rfl)

theorem ok76 : CallOk Try.prog 76 := callOk_of Try.func76 (by kernel_rfl) (by kernel_rfl)
theorem impl_monoidalCode_c (a0 : XMonoidal) (a1 : List Int) (r : Int) (hM : M.impl_monoidalCode a0 a1 = some r) :
    FnC Try.prog 76 [] [.pt (eXMonoidal.b a0) 0, .sl a1.length 0 (a1.flatMap eI.b)] [] (iv r) := by
  refine fnc_startG (N := 16) (np := 500) hT Try.func76 rfl rfl (by kernel_rfl) ?_
  unfold M.impl_monoidalCode at hM
  refine tr_start (ks := [0, 2]) (st' := [(0, .d (.pt (eXMonoidal.b a0) 0)), (2, .d (.sl a1.length 0 (a1.flatMap eI.b)))]) (by kernel_rfl) ?_
  refine tr_sr hT hm [] [0, 2] [(0, .d (.pt (eXMonoidal.b a0) 0)), (2, .d (.sl a1.length 0 (a1.flatMap eI.b)))] .nil (by kernel_rfl) (by kernel_rfl) ?_
  refine tr_seq ?_
  obtain ⟨v1, hv1, hM⟩ := bind_some' hM
  refine tr_sr hT hm [(1, .call [] [] [.pt (eXMonoidal.b a0) 0] [] (bv v1))] [0, 2, 14] [(0, .d (.pt (eXMonoidal.b a0) 0)), (2, .d (.sl a1.length 0 (a1.flatMap eI.b))), (14, .d (bv (!v1)))] (cc0 ok71 (impl_Monoidal_isMonoidal_c a0 _ hv1) (by kernel_rfl) .nil) (by kernel_rfl) (by kernel_rfl) ?_
  rcases Bool.eq_false_or_eq_true v1 with h2 | h2
  · have hM := ite_true' hM h2
    refine tr_condFe (e := !v1) (congrArg not h2) (by kernel_rfl) ?_
    refine tr_skip (q_n ?_)
    refine tr_seq ?_
    obtain ⟨v3, hv3, hM⟩ := bind_some' hM
    refine tr_sr hT hm [(6, .call [] [] [.sl a1.length 0 (a1.flatMap eI.b), iv a0.On.Objects] [] (bv v3))] [30] [(30, .d (bv (!v3)))] (cc0 ok181 (impl_within_c a1 a0.On.Objects _ hv3) (by kernel_rfl) .nil) (by kernel_rfl) (by kernel_rfl) ?_
    rcases Bool.eq_false_or_eq_true v3 with h4 | h4
    · have hM := ite_true' hM h4
      refine tr_condFe (e := !v3) (congrArg not h4) (by kernel_rfl) ?_
      refine tr_skip (q_n ?_)
      refine tr_sr hT hm [] [8] [(8, .d (iv 0))] .nil (by kernel_rfl) (by kernel_rfl) ?_
      refine tr_ret (rg_r ?_)
      obtain rfl := Option.some.inj hM
      exact retg (names := []) .nil (by kernel_rfl)
    · have hM := ite_false' hM h4
      refine tr_condTe (e := !v3) (congrArg not h4) (by kernel_rfl) ?_
      refine tr_sr hT hm [] [8] [(8, .d (iv 2))] .nil (by kernel_rfl) (by kernel_rfl) ?_
      refine tr_ret (q_r (rg_r ?_))
      obtain rfl := Option.some.inj hM
      exact retg (names := []) .nil (by kernel_rfl)
  · have hM := ite_false' hM h2
    refine tr_condTe (e := !v1) (congrArg not h2) (by kernel_rfl) ?_
    refine tr_sr hT hm [] [8] [(8, .d (iv 1))] .nil (by kernel_rfl) (by kernel_rfl) ?_
    refine tr_ret (q_r (rg_r ?_))
    obtain rfl := Option.some.inj hM
    exact retg (names := []) .nil (by kernel_rfl)

end Go.Proofs.Ytjmjhhhglbeacaa.WyC
