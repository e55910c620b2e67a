/- Walks. Printed by wip/gen. -/
import Derived.Test.YtjmjhhhglbeacaaGxEM0
import Derived.Test.YtjmjhhhglbeacaaGxEO0
import Derived.Test.YtjmjhhhglbeacaaGxvBW3
import Derived.KernelRfl
namespace Go.Proofs.Ytjmjhhhglbeacaa.WyK
open Go.Gx Go.Proofs.Ytjmjhhhglbeacaa.WvB

theorem eXCategory_r : EncR eXCategory := (eA_r (eC_r eI_r _) (eA_r (eC_r (eS_r eI_ok) _) (eA_r (eC_r (eS_r eI_ok) _) (eA_r (eC_r (eS_r eI_ok) _) (eC_r (eS_r (eS_ok eI_ok)) _)))))
theorem eXFunctor_r : EncR eXFunctor := (eA_r (eC_r eXCategory_r _) (eA_r (eC_r eXCategory_r _) (eA_r (eC_r (eS_r eI_ok) _) (eC_r (eS_r eI_ok) _))))
def T : Tab := [(2, ⟨.int .i64, 1, 8, [.int .i64 0]⟩),
  (22, ⟨.slice 2, 1, 24, [.slice .none 0 0]⟩),
  (23, ⟨.slice 22, 1, 24, [.slice .none 0 0]⟩),
  (31, ⟨.struct #[⟨"Objects", 2, 0, false, "", "", 0⟩, ⟨"From", 22, 1, false, "", "", 8⟩, ⟨"To", 22, 2, false, "", "", 32⟩, ⟨"Identity", 22, 3, false, "", "", 56⟩, ⟨"Composites", 23, 4, false, "", "", 80⟩], 5, 104, [.int .i64 0, .slice .none 0 0, .slice .none 0 0, .slice .none 0 0, .slice .none 0 0]⟩),
  (48, ⟨.struct #[⟨"Source", 31, 0, false, "", "", 0⟩, ⟨"Target", 31, 5, false, "", "", 104⟩, ⟨"Objects", 22, 10, false, "", "", 208⟩, ⟨"Arrows", 22, 11, false, "", "", 232⟩], 12, 256, [.int .i64 0, .slice .none 0 0, .slice .none 0 0, .slice .none 0 0, .slice .none 0 0, .int .i64 0, .slice .none 0 0, .slice .none 0 0, .slice .none 0 0, .slice .none 0 0, .slice .none 0 0, .slice .none 0 0]⟩)]
theorem hT : TabOk Try.prog T := ⟨tiok (by kernel_rfl) (by kernel_rfl), tiok (by kernel_rfl) (by kernel_rfl), tiok (by kernel_rfl) (by kernel_rfl), tiok (by kernel_rfl) (by kernel_rfl), tiok (by kernel_rfl) (by kernel_rfl), trivial⟩
theorem hm : Try.prog.follows .mixedOrders = true := by kernel_rfl

theorem ok219 : CallOk Try.prog 219 := callOk_of Try.func219 (by kernel_rfl) (by kernel_rfl)
theorem impl_Functor_copy_c (a0 : XFunctor) (r : XFunctor) (hM : M.impl_Functor_copy a0 = some r) :
    FnC Try.prog 219 [] [.pt (eXFunctor.b a0) 0] [] (.agg (eXFunctor.o r)) := by
  refine fnc_startG (N := 18) (np := 500) hT Try.func219 rfl rfl (by kernel_rfl) ?_
  unfold M.impl_Functor_copy at hM
  refine tr_start (ks := [0]) (st' := [(0, .d (.pt (eXFunctor.b a0) 0))]) (by kernel_rfl) ?_
  refine tr_sr hT hm [] [0, 4, 2005] [(0, .d (.pt (eXFunctor.b a0) 0)), (4, .d (.rp 1002 0)), (2005, .r (.arr 1 [iv 0, nilv, nilv, nilv, nilv, iv 0, nilv, nilv, nilv, nilv, nilv, nilv] []))] .nil (by kernel_rfl) (by kernel_rfl) ?_
  obtain ⟨v1, hv1, hM⟩ := bind_some' hM
  refine tr_sr hT hm [(14, .call [] [] [.pt (eXCategory.b a0.Source) 0, .pt (eXCategory.b a0.Target) 0, .sl a0.Objects.length 0 (a0.Objects.flatMap eI.b), .sl a0.Arrows.length 0 (a0.Arrows.flatMap eI.b)] [] (.agg (eXFunctor.o v1)))] [4, 2005, 38003, 38005, 38007, 38009, 38013, 38015, 38017, 38019, 38021, 38023] ([(4, .d (.rp 1002 0)), bxO 2005 19000 (eXFunctor.o v1)] ++ rsS 19000 (eXFunctor.o v1)) (cc (B := []) (ρ := []) (rB := []) ok103 (impl_functor_c a0.Source a0.Target a0.Objects a0.Arrows _ hv1) (.cons (.pass (.ptk (ds := eXFunctor.b a0) (ds' := eXCategory.b a0.Source) (off := 0) (n := 5) (by kernel_rfl) (by kernel_rfl) (by kernel_rfl))) (.cons (.pass (.ptk (ds := eXFunctor.b a0) (ds' := eXCategory.b a0.Target) (off := 5) (n := 5) (by kernel_rfl) (by kernel_rfl) (by kernel_rfl))) (.cons (.same rfl) (.cons (.same rfl) .nil)))) (.inl rfl) (.cons (Nat.le_of_ble_eq_true (n := 12) (m := 12) rfl) .nil)) (by kernel_rfl) (by kernel_rfl) ?_
  refine tr_ret (rg_r ?_)
  obtain rfl := Option.some.inj hM
  exact retg (names := []) (.cons (lenO_flat eI_ok v1.Source.From) (.cons (lenO_flat eI_ok v1.Source.To) (.cons (lenO_flat eI_ok v1.Source.Identity) (.cons (lenO_flat (eS_ok eI_ok) v1.Source.Composites) (.cons (lenO_flat eI_ok v1.Target.From) (.cons (lenO_flat eI_ok v1.Target.To) (.cons (lenO_flat eI_ok v1.Target.Identity) (.cons (lenO_flat (eS_ok eI_ok) v1.Target.Composites) (.cons (lenO_flat eI_ok v1.Objects) (.cons (lenO_flat eI_ok v1.Arrows) .nil)))))))))) (by kernel_rfl)

end Go.Proofs.Ytjmjhhhglbeacaa.WyK
