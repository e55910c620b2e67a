/- Walks. Printed by wip/gen. -/
import Derived.Test.YtiikkfdehbcfaaaGxEM1
import Derived.Test.YtiikkfdehbcfaaaGxEO0
import Derived.Test.YtiikkfdehbcfaaaGxvBW3
import Derived.KernelRfl
namespace Go.Proofs.Ytiikkfdehbcfaaa.WzP
open Go.Gx Go.Proofs.Ytiikkfdehbcfaaa.WvB

theorem eXCategory_r : EncR eXCategory := (eA_r (eC_r eI_r _) (eA_r (eC_r (eS_r eI_ok) _) (eA_r (eC_r (eS_r eI_ok) _) (eA_r (eC_r (eS_r eI_ok) _) (eC_r (eS_r (eS_ok eI_ok)) _)))))
theorem eXFunctor_r : EncR eXFunctor := (eA_r (eC_r eXCategory_r _) (eA_r (eC_r eXCategory_r _) (eA_r (eC_r (eS_r eI_ok) _) (eC_r (eS_r eI_ok) _))))
def T : Tab := [(2, ⟨.int .i64, 1, 8, [.int .i64 0]⟩),
  (22, ⟨.slice 2, 1, 24, [.slice .none 0 0]⟩),
  (23, ⟨.slice 22, 1, 24, [.slice .none 0 0]⟩),
  (34, ⟨.struct #[⟨"Objects", 2, 0, false, "", "", 0⟩, ⟨"From", 22, 1, false, "", "", 8⟩, ⟨"To", 22, 2, false, "", "", 32⟩, ⟨"Identity", 22, 3, false, "", "", 56⟩, ⟨"Composites", 23, 4, false, "", "", 80⟩], 5, 104, [.int .i64 0, .slice .none 0 0, .slice .none 0 0, .slice .none 0 0, .slice .none 0 0]⟩)]
theorem hT : TabOk Try.prog T := ⟨tiok (by kernel_rfl) (by kernel_rfl), tiok (by kernel_rfl) (by kernel_rfl), tiok (by kernel_rfl) (by kernel_rfl), tiok (by kernel_rfl) (by kernel_rfl), trivial⟩
theorem hm : Try.prog.follows .mixedOrders = true := by kernel_rfl

theorem ok265 : CallOk Try.prog 265 := callOk_of Try.func265 (by kernel_rfl) (by kernel_rfl)
theorem spec_l03Parallel_c (a0 : XCategory) (a1 : Int) (a2 : Int) (r : Bool) (hM : M.spec_l03Parallel a0 a1 a2 = some r) :
    FnC Try.prog 265 [] [.agg (eXCategory.b a0), iv a1, iv a2] [] (bv r) := by
  refine fnc_startG (N := 31) (np := 500) hT Try.func265 rfl rfl (by kernel_rfl) ?_
  unfold M.spec_l03Parallel at hM
  refine tr_start (ks := [0, 2, 4]) (st' := [(0, .d (.agg (eXCategory.b a0))), (2, .d (iv a1)), (4, .d (iv a2))]) (by kernel_rfl) ?_
  refine tr_sr hT hm [] [2, 4, 6, 2007] [(2, .d (iv a1)), (4, .d (iv a2)), (6, .d (.rp 1003 0)), bxB 2007 (eXCategory.b a0)] .nil (by kernel_rfl) (by kernel_rfl) ?_
  obtain ⟨y1, hy1, hM⟩ := bind_some' hM
  have hy1' := idx_some hy1
  obtain ⟨y2, hy2, hM⟩ := bind_some' hM
  have hy2' := idx_some hy2
  rcases Bool.eq_false_or_eq_true (y1 == y2) with h3 | h3
  · have hM := ite_true' hM h3
    obtain ⟨y4, hy4, hM⟩ := bind_some' hM
    have hy4' := idx_some hy4
    obtain ⟨y5, hy5, hM⟩ := bind_some' hM
    have hy5' := idx_some hy5
    refine tr_sr hT hm [(4, .val (iv y1)), (9, .val (iv y2)), (11, .val (bv true)), (16, .val (iv y4)), (21, .val (iv y5))] [12] [(12, .d (bv (y4 == y5)))] (.cons hy1'.1 (.cons hy1'.2.1 (.cons (at_b0 eI_ok hy1'.2.2 (d := iv y1) (by kernel_rfl)) (.cons hy2'.1 (.cons hy2'.2.1 (.cons (at_b0 eI_ok hy2'.2.2 (d := iv y2) (by kernel_rfl)) (.cons (congrArg (fun b => bv b) h3) (.cons hy4'.1 (.cons hy4'.2.1 (.cons (at_b0 eI_ok hy4'.2.2 (d := iv y4) (by kernel_rfl)) (.cons hy5'.1 (.cons hy5'.2.1 (.cons (at_b0 eI_ok hy5'.2.2 (d := iv y5) (by kernel_rfl)) .nil))))))))))))) (by kernel_rfl) (by kernel_rfl) ?_
    refine tr_ret (rg_r ?_)
    obtain rfl := Option.some.inj hM
    exact retg (names := []) .nil (by kernel_rfl)
  · have hM := ite_false' hM h3
    refine tr_sr hT hm [(4, .val (iv y1)), (9, .val (iv y2)), (11, .val (bv false))] [12] [(12, .d (bv false))] (.cons hy1'.1 (.cons hy1'.2.1 (.cons (at_b0 eI_ok hy1'.2.2 (d := iv y1) (by kernel_rfl)) (.cons hy2'.1 (.cons hy2'.2.1 (.cons (at_b0 eI_ok hy2'.2.2 (d := iv y2) (by kernel_rfl)) (.cons (congrArg (fun b => bv b) h3) .nil))))))) (by kernel_rfl) (by kernel_rfl) ?_
    refine tr_ret (rg_r ?_)
    obtain rfl := Option.some.inj hM
    exact retg (names := []) .nil (by kernel_rfl)

end Go.Proofs.Ytiikkfdehbcfaaa.WzP
