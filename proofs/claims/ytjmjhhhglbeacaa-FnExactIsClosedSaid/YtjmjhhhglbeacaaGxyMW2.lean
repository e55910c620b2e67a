/- Walks. Printed by wip/gen. -/
import Derived.Test.YtjmjhhhglbeacaaGxyMW1
namespace Go.Proofs.Ytjmjhhhglbeacaa.WyM
open Go.Gx Go.Proofs.Ytjmjhhhglbeacaa.WvB Go.Proofs.Ytjmjhhhglbeacaa.WyO Go.Proofs.Ytjmjhhhglbeacaa.WyN

theorem ok19 : CallOk Try.prog 19 := callOk_of Try.func19 (by kernel_rfl) (by kernel_rfl)
theorem laws_eqMonoidal_c (a0 : XMonoidal) (a1 : XMonoidal) (r : Bool) (hM : M.laws_eqMonoidal a0 a1 = some r) :
    FnC Try.prog 19 [] [.agg (eXMonoidal.b a0), .agg (eXMonoidal.b a1)] [] (bv r) := by
  refine fnc_startG (N := 28) (np := 500) hT Try.func19 rfl rfl (by kernel_rfl) ?_
  unfold M.laws_eqMonoidal at hM
  refine tr_start (ks := [0, 2]) (st' := [(0, .d (.agg (eXMonoidal.b a0))), (2, .d (.agg (eXMonoidal.b a1)))]) (by kernel_rfl) ?_
  refine tr_sr hT hm [] [4, 6, 2005, 2007] [(4, .d (.rp 1002 0)), (6, .d (.rp 1003 0)), bxB 2005 (eXMonoidal.b a0), bxB 2007 (eXMonoidal.b a1)] .nil (by kernel_rfl) (by kernel_rfl) ?_
  refine tr_seq ?_
  obtain ⟨v1, hv1, hM⟩ := bind_some' hM
  refine tr_sr hT hm [(4, .call [] [] [.agg (eXCategory.b a0.On), .agg (eXCategory.b a1.On)] [] (bv v1))] [4, 6, 20, 2005, 2007] [(4, .d (.rp 1002 0)), (6, .d (.rp 1003 0)), (20, .d (bv (!v1))), bxB 2005 (eXMonoidal.b a0), bxB 2007 (eXMonoidal.b a1)] (cc0 ok52 (laws_eqCategory_c a0.On a1.On _ hv1) (by kernel_rfl) .nil) (by kernel_rfl) (by kernel_rfl) ?_
  rcases Bool.eq_false_or_eq_true v1 with h2 | h2
  · have hM := ite_true' hM h2
    refine tr_condFe (e := !v1) (congrArg not h2) (by kernel_rfl) ?_
    refine tr_skip (q_n ?_)
    refine tr_seq ?_
    refine tr_sr hT hm [] [4, 6, 30, 2005, 2007] [(4, .d (.rp 1002 0)), (6, .d (.rp 1003 0)), (30, .d (bv (a0.Unit != a1.Unit))), bxB 2005 (eXMonoidal.b a0), bxB 2007 (eXMonoidal.b a1)] .nil (by kernel_rfl) (by kernel_rfl) ?_
    rcases Bool.eq_false_or_eq_true (a0.Unit != a1.Unit) with h3 | h3
    · have hM := ite_true' hM h3
      refine tr_condTe (e := a0.Unit != a1.Unit) h3 (by kernel_rfl) ?_
      refine tr_sr hT hm [] [8] [(8, .d (bv false))] .nil (by kernel_rfl) (by kernel_rfl) ?_
      refine tr_ret (q_r (rg_r ?_))
      obtain rfl := Option.some.inj hM
      exact retg (names := []) .nil (by kernel_rfl)
    · have hM := ite_false' hM h3
      refine tr_condFe (e := a0.Unit != a1.Unit) h3 (by kernel_rfl) ?_
      refine tr_skip (q_n ?_)
      refine tr_seq ?_
      obtain ⟨v4, hv4, hM⟩ := bind_some' hM
      refine tr_sr hT hm [(4, .call [] [] [.sl a0.Objects.length 0 (a0.Objects.flatMap (eS eI).b), .sl a1.Objects.length 0 (a1.Objects.flatMap (eS eI).b)] [] (bv v4))] [4, 6, 42, 2005, 2007] [(4, .d (.rp 1002 0)), (6, .d (.rp 1003 0)), (42, .d (bv (!v4))), bxB 2005 (eXMonoidal.b a0), bxB 2007 (eXMonoidal.b a1)] (cc0 ok74 (laws_eqInt64SS_c a0.Objects a1.Objects _ hv4) (by kernel_rfl) .nil) (by kernel_rfl) (by kernel_rfl) ?_
      rcases Bool.eq_false_or_eq_true v4 with h5 | h5
      · have hM := ite_true' hM h5
        refine tr_condFe (e := !v4) (congrArg not h5) (by kernel_rfl) ?_
        refine tr_skip (q_n ?_)
        refine tr_seq ?_
        obtain ⟨v6, hv6, hM⟩ := bind_some' hM
        refine tr_sr hT hm [(4, .call [] [] [.sl a0.Arrows.length 0 (a0.Arrows.flatMap (eS eI).b), .sl a1.Arrows.length 0 (a1.Arrows.flatMap (eS eI).b)] [] (bv v6))] [54] [(54, .d (bv (!v6)))] (cc0 ok74 (laws_eqInt64SS_c a0.Arrows a1.Arrows _ hv6) (by kernel_rfl) .nil) (by kernel_rfl) (by kernel_rfl) ?_
        rcases Bool.eq_false_or_eq_true v6 with h7 | h7
        · have hM := ite_true' hM h7
          refine tr_condFe (e := !v6) (congrArg not h7) (by kernel_rfl) ?_
          refine tr_skip (q_n ?_)
          refine tr_sr hT hm [] [8] [(8, .d (bv true))] .nil (by kernel_rfl) (by kernel_rfl) ?_
          refine tr_ret (rg_r ?_)
          obtain rfl := Option.some.inj hM
          exact retg (names := []) .nil (by kernel_rfl)
        · have hM := ite_false' hM h7
          refine tr_condTe (e := !v6) (congrArg not h7) (by kernel_rfl) ?_
          refine tr_sr hT hm [] [8] [(8, .d (bv false))] .nil (by kernel_rfl) (by kernel_rfl) ?_
          refine tr_ret (q_r (rg_r ?_))
          obtain rfl := Option.some.inj hM
          exact retg (names := []) .nil (by kernel_rfl)
      · have hM := ite_false' hM h5
        refine tr_condTe (e := !v4) (congrArg not h5) (by kernel_rfl) ?_
        refine tr_sr hT hm [] [8] [(8, .d (bv false))] .nil (by kernel_rfl) (by kernel_rfl) ?_
        refine tr_ret (q_r (rg_r ?_))
        obtain rfl := Option.some.inj hM
        exact retg (names := []) .nil (by kernel_rfl)
  · have hM := ite_false' hM h2
    refine tr_condTe (e := !v1) (congrArg not h2) (by kernel_rfl) ?_
    refine tr_sr hT hm [] [8] [(8, .d (bv false))] .nil (by kernel_rfl) (by kernel_rfl) ?_
    refine tr_ret (q_r (rg_r ?_))
    obtain rfl := Option.some.inj hM
    exact retg (names := []) .nil (by kernel_rfl)

end Go.Proofs.Ytjmjhhhglbeacaa.WyM
