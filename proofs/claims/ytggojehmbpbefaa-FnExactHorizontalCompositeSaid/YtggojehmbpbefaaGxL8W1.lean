/- Walks. Printed by wip/gen. -/
import Derived.Test.YtggojehmbpbefaaGxL8W0
namespace Go.Proofs.Ytggojehmbpbefaa.L8
open Go.Gx Go.Proofs.Ytggojehmbpbefaa.L6

theorem ok42 : CallOk Try.prog 42 := callOk_of Try.func42 (by kernel_rfl) (by kernel_rfl)
theorem spec_HorizontalComposite_c (a0 : XTransformation) (a1 : XTransformation) (r : XTransformation × Int) (hM : M.spec_HorizontalComposite a0 a1 = some r) :
    FnC Try.prog 42 [] [.agg (eXTransformation.b a0), .agg (eXTransformation.b a1)] [] (.tup [.agg (eXTransformation.o r.1), iv r.2]) := by
  refine fnc_startG (N := 47) (np := 500) hT Try.func42 rfl rfl (by kernel_rfl) ?_
  unfold M.spec_HorizontalComposite at hM
  refine tr_start (ks := [0, 2]) (st' := [(0, .d (.agg (eXTransformation.b a0))), (2, .d (.agg (eXTransformation.b a1)))]) (by kernel_rfl) ?_
  refine tr_sr hT hm [] [4, 6, 8, 2005, 2007, 2009] [(4, .d (.rp 1002 0)), (6, .d (.rp 1003 0)), (8, .d (.rp 1004 0)), bxB 2005 (eXTransformation.b a0), bxB 2007 (eXTransformation.b a1), (2009, .r (.arr 1 [iv 0, nilv, nilv, nilv, nilv, iv 0, nilv, nilv, nilv, nilv, nilv, nilv, iv 0, nilv, nilv, nilv, nilv, iv 0, nilv, nilv, nilv, nilv, nilv, nilv, nilv] []))] .nil (by kernel_rfl) (by kernel_rfl) ?_
  refine tr_seq ?_
  obtain ⟨v1, hv1, hM⟩ := bind_some' hM
  rcases Bool.eq_false_or_eq_true v1 with h2 | h2
  · have hM := ite_true' hM h2
    obtain ⟨v3, hv3, hM⟩ := bind_some' hM
    refine tr_sr hT hm [(1, .call [] [] [.agg [iv a0.Source.Source.Objects, .sl a0.Source.Source.From.length 0 (a0.Source.Source.From.flatMap eI.b), .sl a0.Source.Source.To.length 0 (a0.Source.Source.To.flatMap eI.b), .sl a0.Source.Source.Identity.length 0 (a0.Source.Source.Identity.flatMap eI.b), .sl a0.Source.Source.Composites.length 0 (a0.Source.Source.Composites.flatMap (eS eI).b), iv a0.Source.Target.Objects, .sl a0.Source.Target.From.length 0 (a0.Source.Target.From.flatMap eI.b), .sl a0.Source.Target.To.length 0 (a0.Source.Target.To.flatMap eI.b), .sl a0.Source.Target.Identity.length 0 (a0.Source.Target.Identity.flatMap eI.b), .sl a0.Source.Target.Composites.length 0 (a0.Source.Target.Composites.flatMap (eS eI).b), .sl a0.Source.Objects.length 0 (a0.Source.Objects.flatMap eI.b), .sl a0.Source.Arrows.length 0 (a0.Source.Arrows.flatMap eI.b), iv a0.Target.Source.Objects, .sl a0.Target.Source.From.length 0 (a0.Target.Source.From.flatMap eI.b), .sl a0.Target.Source.To.length 0 (a0.Target.Source.To.flatMap eI.b), .sl a0.Target.Source.Identity.length 0 (a0.Target.Source.Identity.flatMap eI.b), .sl a0.Target.Source.Composites.length 0 (a0.Target.Source.Composites.flatMap (eS eI).b), iv a0.Target.Target.Objects, .sl a0.Target.Target.From.length 0 (a0.Target.Target.From.flatMap eI.b), .sl a0.Target.Target.To.length 0 (a0.Target.Target.To.flatMap eI.b), .sl a0.Target.Target.Identity.length 0 (a0.Target.Target.Identity.flatMap eI.b), .sl a0.Target.Target.Composites.length 0 (a0.Target.Target.Composites.flatMap (eS eI).b), .sl a0.Target.Objects.length 0 (a0.Target.Objects.flatMap eI.b), .sl a0.Target.Arrows.length 0 (a0.Target.Arrows.flatMap eI.b), .sl a0.Components.length 0 (a0.Components.flatMap eI.b)]] [] (bv v1)), (3, .val (bv false)), (5, .call [] [] [.agg [iv a1.Source.Source.Objects, .sl a1.Source.Source.From.length 0 (a1.Source.Source.From.flatMap eI.b), .sl a1.Source.Source.To.length 0 (a1.Source.Source.To.flatMap eI.b), .sl a1.Source.Source.Identity.length 0 (a1.Source.Source.Identity.flatMap eI.b), .sl a1.Source.Source.Composites.length 0 (a1.Source.Source.Composites.flatMap (eS eI).b), iv a1.Source.Target.Objects, .sl a1.Source.Target.From.length 0 (a1.Source.Target.From.flatMap eI.b), .sl a1.Source.Target.To.length 0 (a1.Source.Target.To.flatMap eI.b), .sl a1.Source.Target.Identity.length 0 (a1.Source.Target.Identity.flatMap eI.b), .sl a1.Source.Target.Composites.length 0 (a1.Source.Target.Composites.flatMap (eS eI).b), .sl a1.Source.Objects.length 0 (a1.Source.Objects.flatMap eI.b), .sl a1.Source.Arrows.length 0 (a1.Source.Arrows.flatMap eI.b), iv a1.Target.Source.Objects, .sl a1.Target.Source.From.length 0 (a1.Target.Source.From.flatMap eI.b), .sl a1.Target.Source.To.length 0 (a1.Target.Source.To.flatMap eI.b), .sl a1.Target.Source.Identity.length 0 (a1.Target.Source.Identity.flatMap eI.b), .sl a1.Target.Source.Composites.length 0 (a1.Target.Source.Composites.flatMap (eS eI).b), iv a1.Target.Target.Objects, .sl a1.Target.Target.From.length 0 (a1.Target.Target.From.flatMap eI.b), .sl a1.Target.Target.To.length 0 (a1.Target.Target.To.flatMap eI.b), .sl a1.Target.Target.Identity.length 0 (a1.Target.Target.Identity.flatMap eI.b), .sl a1.Target.Target.Composites.length 0 (a1.Target.Target.Composites.flatMap (eS eI).b), .sl a1.Target.Objects.length 0 (a1.Target.Objects.flatMap eI.b), .sl a1.Target.Arrows.length 0 (a1.Target.Arrows.flatMap eI.b), .sl a1.Components.length 0 (a1.Components.flatMap eI.b)]] [] (bv v3))] [4, 6, 8, 30, 2005, 2007, 2009] [(4, .d (.rp 1002 0)), (6, .d (.rp 1003 0)), (8, .d (.rp 1004 0)), (30, .d (bv (!v3))), bxB 2005 (eXTransformation.b a0), bxB 2007 (eXTransformation.b a1), (2009, .r (.arr 1 [iv 0, nilv, nilv, nilv, nilv, iv 0, nilv, nilv, nilv, nilv, nilv, nilv, iv 0, nilv, nilv, nilv, nilv, iv 0, nilv, nilv, nilv, nilv, nilv, nilv, nilv] []))] (cc0 ok101 (spec_l07Is_c a0 _ hv1) (by kernel_rfl) (.cons (congrArg (fun b => bv b) (congrArg not h2)) (cc0 ok101 (spec_l07Is_c a1 _ hv3) (by kernel_rfl) .nil))) (by kernel_rfl) (by kernel_rfl) ?_
    rcases Bool.eq_false_or_eq_true v3 with h4 | h4
    · have hM := ite_true' hM h4
      refine tr_condFe (e := !v3) (congrArg not h4) (by kernel_rfl) ?_
      refine tr_skip (q_n ?_)
      refine tr_seq ?_
      obtain ⟨v5, hv5, hM⟩ := bind_some' hM
      refine tr_sr hT hm [(6, .call [] [] [.agg [iv a0.Source.Target.Objects, .sl a0.Source.Target.From.length 0 (a0.Source.Target.From.flatMap eI.b), .sl a0.Source.Target.To.length 0 (a0.Source.Target.To.flatMap eI.b), .sl a0.Source.Target.Identity.length 0 (a0.Source.Target.Identity.flatMap eI.b), .sl a0.Source.Target.Composites.length 0 (a0.Source.Target.Composites.flatMap (eS eI).b)], .agg [iv a1.Source.Source.Objects, .sl a1.Source.Source.From.length 0 (a1.Source.Source.From.flatMap eI.b), .sl a1.Source.Source.To.length 0 (a1.Source.Source.To.flatMap eI.b), .sl a1.Source.Source.Identity.length 0 (a1.Source.Source.Identity.flatMap eI.b), .sl a1.Source.Source.Composites.length 0 (a1.Source.Source.Composites.flatMap (eS eI).b)]] [] (bv v5))] [4, 6, 8, 48, 2005, 2007, 2009] [(4, .d (.rp 1002 0)), (6, .d (.rp 1003 0)), (8, .d (.rp 1004 0)), (48, .d (bv (!v5))), bxB 2005 (eXTransformation.b a0), bxB 2007 (eXTransformation.b a1), (2009, .r (.arr 1 [iv 0, nilv, nilv, nilv, nilv, iv 0, nilv, nilv, nilv, nilv, nilv, nilv, iv 0, nilv, nilv, nilv, nilv, iv 0, nilv, nilv, nilv, nilv, nilv, nilv, nilv] []))] (cc0 ok102 (spec_l02Same_c a0.Source.Target a1.Source.Source _ hv5) (by kernel_rfl) .nil) (by kernel_rfl) (by kernel_rfl) ?_
      rcases Bool.eq_false_or_eq_true v5 with h6 | h6
      · have hM := ite_true' hM h6
        refine tr_condFe (e := !v5) (congrArg not h6) (by kernel_rfl) ?_
        refine tr_skip (q_n ?_)
        obtain ⟨v7, hv7, hM⟩ := bind_some' hM
        obtain ⟨v8, hv8, hM⟩ := bind_some' hM
        refine tr_sr hT hm [(3, .call [] [] [.agg [iv a0.Source.Source.Objects, .sl a0.Source.Source.From.length 0 (a0.Source.Source.From.flatMap eI.b), .sl a0.Source.Source.To.length 0 (a0.Source.Source.To.flatMap eI.b), .sl a0.Source.Source.Identity.length 0 (a0.Source.Source.Identity.flatMap eI.b), .sl a0.Source.Source.Composites.length 0 (a0.Source.Source.Composites.flatMap (eS eI).b), iv a0.Source.Target.Objects, .sl a0.Source.Target.From.length 0 (a0.Source.Target.From.flatMap eI.b), .sl a0.Source.Target.To.length 0 (a0.Source.Target.To.flatMap eI.b), .sl a0.Source.Target.Identity.length 0 (a0.Source.Target.Identity.flatMap eI.b), .sl a0.Source.Target.Composites.length 0 (a0.Source.Target.Composites.flatMap (eS eI).b), .sl a0.Source.Objects.length 0 (a0.Source.Objects.flatMap eI.b), .sl a0.Source.Arrows.length 0 (a0.Source.Arrows.flatMap eI.b), iv a0.Target.Source.Objects, .sl a0.Target.Source.From.length 0 (a0.Target.Source.From.flatMap eI.b), .sl a0.Target.Source.To.length 0 (a0.Target.Source.To.flatMap eI.b), .sl a0.Target.Source.Identity.length 0 (a0.Target.Source.Identity.flatMap eI.b), .sl a0.Target.Source.Composites.length 0 (a0.Target.Source.Composites.flatMap (eS eI).b), iv a0.Target.Target.Objects, .sl a0.Target.Target.From.length 0 (a0.Target.Target.From.flatMap eI.b), .sl a0.Target.Target.To.length 0 (a0.Target.Target.To.flatMap eI.b), .sl a0.Target.Target.Identity.length 0 (a0.Target.Target.Identity.flatMap eI.b), .sl a0.Target.Target.Composites.length 0 (a0.Target.Target.Composites.flatMap (eS eI).b), .sl a0.Target.Objects.length 0 (a0.Target.Objects.flatMap eI.b), .sl a0.Target.Arrows.length 0 (a0.Target.Arrows.flatMap eI.b), .sl a0.Components.length 0 (a0.Components.flatMap eI.b)], .agg [iv a1.Source.Source.Objects, .sl a1.Source.Source.From.length 0 (a1.Source.Source.From.flatMap eI.b), .sl a1.Source.Source.To.length 0 (a1.Source.Source.To.flatMap eI.b), .sl a1.Source.Source.Identity.length 0 (a1.Source.Source.Identity.flatMap eI.b), .sl a1.Source.Source.Composites.length 0 (a1.Source.Source.Composites.flatMap (eS eI).b), iv a1.Source.Target.Objects, .sl a1.Source.Target.From.length 0 (a1.Source.Target.From.flatMap eI.b), .sl a1.Source.Target.To.length 0 (a1.Source.Target.To.flatMap eI.b), .sl a1.Source.Target.Identity.length 0 (a1.Source.Target.Identity.flatMap eI.b), .sl a1.Source.Target.Composites.length 0 (a1.Source.Target.Composites.flatMap (eS eI).b), .sl a1.Source.Objects.length 0 (a1.Source.Objects.flatMap eI.b), .sl a1.Source.Arrows.length 0 (a1.Source.Arrows.flatMap eI.b)]] [] (.agg (eXTransformation.o v7))), (7, .call [] [] [.agg [iv a0.Target.Source.Objects, .sl a0.Target.Source.From.length 0 (a0.Target.Source.From.flatMap eI.b), .sl a0.Target.Source.To.length 0 (a0.Target.Source.To.flatMap eI.b), .sl a0.Target.Source.Identity.length 0 (a0.Target.Source.Identity.flatMap eI.b), .sl a0.Target.Source.Composites.length 0 (a0.Target.Source.Composites.flatMap (eS eI).b), iv a0.Target.Target.Objects, .sl a0.Target.Target.From.length 0 (a0.Target.Target.From.flatMap eI.b), .sl a0.Target.Target.To.length 0 (a0.Target.Target.To.flatMap eI.b), .sl a0.Target.Target.Identity.length 0 (a0.Target.Target.Identity.flatMap eI.b), .sl a0.Target.Target.Composites.length 0 (a0.Target.Target.Composites.flatMap (eS eI).b), .sl a0.Target.Objects.length 0 (a0.Target.Objects.flatMap eI.b), .sl a0.Target.Arrows.length 0 (a0.Target.Arrows.flatMap eI.b)], .agg [iv a1.Source.Source.Objects, .sl a1.Source.Source.From.length 0 (a1.Source.Source.From.flatMap eI.b), .sl a1.Source.Source.To.length 0 (a1.Source.Source.To.flatMap eI.b), .sl a1.Source.Source.Identity.length 0 (a1.Source.Source.Identity.flatMap eI.b), .sl a1.Source.Source.Composites.length 0 (a1.Source.Source.Composites.flatMap (eS eI).b), iv a1.Source.Target.Objects, .sl a1.Source.Target.From.length 0 (a1.Source.Target.From.flatMap eI.b), .sl a1.Source.Target.To.length 0 (a1.Source.Target.To.flatMap eI.b), .sl a1.Source.Target.Identity.length 0 (a1.Source.Target.Identity.flatMap eI.b), .sl a1.Source.Target.Composites.length 0 (a1.Source.Target.Composites.flatMap (eS eI).b), .sl a1.Source.Objects.length 0 (a1.Source.Objects.flatMap eI.b), .sl a1.Source.Arrows.length 0 (a1.Source.Arrows.flatMap eI.b), iv a1.Target.Source.Objects, .sl a1.Target.Source.From.length 0 (a1.Target.Source.From.flatMap eI.b), .sl a1.Target.Source.To.length 0 (a1.Target.Source.To.flatMap eI.b), .sl a1.Target.Source.Identity.length 0 (a1.Target.Source.Identity.flatMap eI.b), .sl a1.Target.Source.Composites.length 0 (a1.Target.Source.Composites.flatMap (eS eI).b), iv a1.Target.Target.Objects, .sl a1.Target.Target.From.length 0 (a1.Target.Target.From.flatMap eI.b), .sl a1.Target.Target.To.length 0 (a1.Target.Target.To.flatMap eI.b), .sl a1.Target.Target.Identity.length 0 (a1.Target.Target.Identity.flatMap eI.b), .sl a1.Target.Target.Composites.length 0 (a1.Target.Target.Composites.flatMap (eS eI).b), .sl a1.Target.Objects.length 0 (a1.Target.Objects.flatMap eI.b), .sl a1.Target.Arrows.length 0 (a1.Target.Arrows.flatMap eI.b), .sl a1.Components.length 0 (a1.Components.flatMap eI.b)]] [] (.agg (eXTransformation.o v8)))] [6, 8, 12, 14, 2007, 2009, 2013, 2015, 62003, 62005, 62007, 62009, 62013, 62015, 62017, 62019, 62021, 62023, 62027, 62029, 62031, 62033, 62037, 62039, 62041, 62043, 62045, 62047, 62049, 70003, 70005, 70007, 70009, 70013, 70015, 70017, 70019, 70021, 70023, 70027, 70029, 70031, 70033, 70037, 70039, 70041, 70043, 70045, 70047, 70049] ([(6, .d (.rp 1003 0)), (8, .d (.rp 1004 0)), (12, .d (.rp 1006 0)), (14, .d (.rp 1007 0)), bxB 2007 (eXTransformation.b a1), (2009, .r (.arr 1 [iv 0, nilv, nilv, nilv, nilv, iv 0, nilv, nilv, nilv, nilv, nilv, nilv, iv 0, nilv, nilv, nilv, nilv, iv 0, nilv, nilv, nilv, nilv, nilv, nilv, nilv] [])), bxO 2013 31000 (eXTransformation.o v7), bxO 2015 35000 (eXTransformation.o v8)] ++ rsS 31000 (eXTransformation.o v7) ++ rsS 35000 (eXTransformation.o v8)) (cc0 ok103 (spec_l07Behind_c a0 a1.Source _ hv7) (by kernel_rfl) (cc0 ok104 (spec_l07Before_c a0.Target a1 _ hv8) (by kernel_rfl) (.cons (Nat.le_of_ble_eq_true (n := 25) (m := 25) rfl) (.cons (Nat.le_of_ble_eq_true (n := 25) (m := 25) rfl) .nil)))) (by kernel_rfl) (by kernel_rfl) ?_
        obtain ⟨v9, hv9, hM⟩ := bind_some' hM
        obtain ⟨v10, hv10, hM⟩ := bind_some' hM
        refine tr_sr hT hm [(11, .call [31024, 35024] [] [.agg [iv a1.Source.Target.Objects, .sl a1.Source.Target.From.length 0 (a1.Source.Target.From.flatMap eI.b), .sl a1.Source.Target.To.length 0 (a1.Source.Target.To.flatMap eI.b), .sl a1.Source.Target.Identity.length 0 (a1.Source.Target.Identity.flatMap eI.b), .sl a1.Source.Target.Composites.length 0 (a1.Source.Target.Composites.flatMap (eS eI).b)], .sl v7.Components.length 0 (v7.Components.flatMap eI.b), .sl v8.Components.length 0 (v8.Components.flatMap eI.b)] [] (.fr 1 v9.length (v9.flatMap eI.o))), (12, .call (rsR 31000 (eXFunctor.o v7.Source) ++ rsR 35012 (eXFunctor.o v8.Target) ++ [47000]) [] [.agg (eXFunctor.b v7.Source), .agg (eXFunctor.b v8.Target), .sl v9.length 0 (v9.flatMap eI.b)] [] (.agg (eXTransformation.o v10)))] [8, 10, 2009, 96003, 96005, 96007, 96009, 96013, 96015, 96017, 96019, 96021, 96023, 96027, 96029, 96031, 96033, 96037, 96039, 96041, 96043, 96045, 96047, 96049] ([(8, .d (.rp 1004 0)), (10, .d (iv 0)), bxO 2009 48000 (eXTransformation.o v10)] ++ rsS 48000 (eXTransformation.o v10)) (cc (B := [31024, 35024]) (ρ := []) (rB := [(31024, .arr 1 (v7.Components.flatMap eI.o) []), (35024, .arr 1 (v8.Components.flatMap eI.o) [])]) ok105 (spec_l07Then_c a1.Source.Target v7.Components v8.Components _ hv9) (.cons (.same rfl) (.cons (.of1 (.rs (r := 31024) (sz := 1) (refs := []) (memB (by kernel_rfl)) (by kernel_rfl) (bor_flat eI_ok _ _ _))) (.cons (.of1 (.rs (r := 35024) (sz := 1) (refs := []) (memB (by kernel_rfl)) (by kernel_rfl) (bor_flat eI_ok _ _ _))) .nil))) (.inr ⟨(.fr (nb_flat eI_nb _)), trivial⟩) (cc (B := (rsR 31000 (eXFunctor.o v7.Source) ++ rsR 35012 (eXFunctor.o v8.Target) ++ [47000])) (ρ := []) (rB := (rsP 31000 (eXFunctor.o v7.Source) ++ rsP 35012 (eXFunctor.o v8.Target) ++ [(47000, .arr 1 (v9.flatMap eI.o) [])])) ok97 (spec_l07Make_c v7.Source v8.Target v9 _ hv10) (.cons (bor_rs eXFunctor_r (q := 31000) (x := v7.Source) (by kernel_rfl) (by kernel_rfl)) (.cons (bor_rs eXFunctor_r (q := 35012) (x := v8.Target) (by kernel_rfl) (by kernel_rfl)) (.cons (.of1 (.rs (r := 47000) (sz := 1) (refs := []) (memB (by kernel_rfl)) (by kernel_rfl) (bor_flat eI_ok _ _ _))) .nil))) (.inr ⟨(.agg (eXTransformation_nb _)), trivial⟩) (.cons (Nat.le_of_ble_eq_true (n := 25) (m := 25) rfl) .nil))) (by kernel_rfl) (by kernel_rfl) ?_
        refine tr_ret (rg_r ?_)
        obtain rfl := Option.some.inj hM
        exact retg (names := []) (.cons (lenO_flat eI_ok v10.Source.Source.From) (.cons (lenO_flat eI_ok v10.Source.Source.To) (.cons (lenO_flat eI_ok v10.Source.Source.Identity) (.cons (lenO_flat (eS_ok eI_ok) v10.Source.Source.Composites) (.cons (lenO_flat eI_ok v10.Source.Target.From) (.cons (lenO_flat eI_ok v10.Source.Target.To) (.cons (lenO_flat eI_ok v10.Source.Target.Identity) (.cons (lenO_flat (eS_ok eI_ok) v10.Source.Target.Composites) (.cons (lenO_flat eI_ok v10.Source.Objects) (.cons (lenO_flat eI_ok v10.Source.Arrows) (.cons (lenO_flat eI_ok v10.Target.Source.From) (.cons (lenO_flat eI_ok v10.Target.Source.To) (.cons (lenO_flat eI_ok v10.Target.Source.Identity) (.cons (lenO_flat (eS_ok eI_ok) v10.Target.Source.Composites) (.cons (lenO_flat eI_ok v10.Target.Target.From) (.cons (lenO_flat eI_ok v10.Target.Target.To) (.cons (lenO_flat eI_ok v10.Target.Target.Identity) (.cons (lenO_flat (eS_ok eI_ok) v10.Target.Target.Composites) (.cons (lenO_flat eI_ok v10.Target.Objects) (.cons (lenO_flat eI_ok v10.Target.Arrows) (.cons (lenO_flat eI_ok v10.Components) .nil))))))))))))))))))))) (by kernel_rfl)
      · have hM := ite_false' hM h6
        refine tr_condTe (e := !v5) (congrArg not h6) (by kernel_rfl) ?_
        refine tr_sr hT hm [] [8, 10, 2009] [(8, .d (.rp 1004 0)), (10, .d (iv 5)), (2009, .r (.arr 1 [iv 0, nilv, nilv, nilv, nilv, iv 0, nilv, nilv, nilv, nilv, nilv, nilv, iv 0, nilv, nilv, nilv, nilv, iv 0, nilv, nilv, nilv, nilv, nilv, nilv, nilv] []))] (.cons (Nat.le_of_ble_eq_true (n := 25) (m := 25) rfl) .nil) (by kernel_rfl) (by kernel_rfl) ?_
        refine tr_ret (q_r (rg_r ?_))
        refine RetG.by (imp_cvB (r := 1004) (sz := 1) (cells := [iv 0, nilv, nilv, nilv, nilv, iv 0, nilv, nilv, nilv, nilv, nilv, nilv, iv 0, nilv, nilv, nilv, nilv, iv 0, nilv, nilv, nilv, nilv, nilv, nilv, nilv]) (cells' := [iv 0, .fr 1 ([] : List Int).length (([] : List Int).flatMap eI.o), .fr 1 ([] : List Int).length (([] : List Int).flatMap eI.o), .fr 1 ([] : List Int).length (([] : List Int).flatMap eI.o), .fr 1 ([] : List (List Int)).length (([] : List (List Int)).flatMap (eS eI).o), iv 0, .fr 1 ([] : List Int).length (([] : List Int).flatMap eI.o), .fr 1 ([] : List Int).length (([] : List Int).flatMap eI.o), .fr 1 ([] : List Int).length (([] : List Int).flatMap eI.o), .fr 1 ([] : List (List Int)).length (([] : List (List Int)).flatMap (eS eI).o), .fr 1 ([] : List Int).length (([] : List Int).flatMap eI.o), .fr 1 ([] : List Int).length (([] : List Int).flatMap eI.o), iv 0, .fr 1 ([] : List Int).length (([] : List Int).flatMap eI.o), .fr 1 ([] : List Int).length (([] : List Int).flatMap eI.o), .fr 1 ([] : List Int).length (([] : List Int).flatMap eI.o), .fr 1 ([] : List (List Int)).length (([] : List (List Int)).flatMap (eS eI).o), iv 0, .fr 1 ([] : List Int).length (([] : List Int).flatMap eI.o), .fr 1 ([] : List Int).length (([] : List Int).flatMap eI.o), .fr 1 ([] : List Int).length (([] : List Int).flatMap eI.o), .fr 1 ([] : List (List Int)).length (([] : List (List Int)).flatMap (eS eI).o), .fr 1 ([] : List Int).length (([] : List Int).flatMap eI.o), .fr 1 ([] : List Int).length (([] : List Int).flatMap eI.o), .fr 1 ([] : List Int).length (([] : List Int).flatMap eI.o)]) (refs := []) (refs' := []) (.cons (.refl _) (.cons Sub.nil_fr (.cons Sub.nil_fr (.cons Sub.nil_fr (.cons Sub.nil_fr (.cons (.refl _) (.cons Sub.nil_fr (.cons Sub.nil_fr (.cons Sub.nil_fr (.cons Sub.nil_fr (.cons Sub.nil_fr (.cons Sub.nil_fr (.cons (.refl _) (.cons Sub.nil_fr (.cons Sub.nil_fr (.cons Sub.nil_fr (.cons Sub.nil_fr (.cons (.refl _) (.cons Sub.nil_fr (.cons Sub.nil_fr (.cons Sub.nil_fr (.cons Sub.nil_fr (.cons Sub.nil_fr (.cons Sub.nil_fr (.cons Sub.nil_fr .nil))))))))))))))))))))))))) (by kernel_rfl) (by kernel_rfl) (by kernel_rfl)) ?_
        obtain rfl := Option.some.inj hM
        exact retg (names := []) .nil (by kernel_rfl)
    · have hM := ite_false' hM h4
      refine tr_condTe (e := !v3) (congrArg not h4) (by kernel_rfl) ?_
      refine tr_sr hT hm [] [8, 10, 2009] [(8, .d (.rp 1004 0)), (10, .d (iv 1)), (2009, .r (.arr 1 [iv 0, nilv, nilv, nilv, nilv, iv 0, nilv, nilv, nilv, nilv, nilv, nilv, iv 0, nilv, nilv, nilv, nilv, iv 0, nilv, nilv, nilv, nilv, nilv, nilv, nilv] []))] (.cons (Nat.le_of_ble_eq_true (n := 25) (m := 25) rfl) .nil) (by kernel_rfl) (by kernel_rfl) ?_
      refine tr_ret (q_r (rg_r ?_))
      refine RetG.by (imp_cvB (r := 1004) (sz := 1) (cells := [iv 0, nilv, nilv, nilv, nilv, iv 0, nilv, nilv, nilv, nilv, nilv, nilv, iv 0, nilv, nilv, nilv, nilv, iv 0, nilv, nilv, nilv, nilv, nilv, nilv, nilv]) (cells' := [iv 0, .fr 1 ([] : List Int).length (([] : List Int).flatMap eI.o), .fr 1 ([] : List Int).length (([] : List Int).flatMap eI.o), .fr 1 ([] : List Int).length (([] : List Int).flatMap eI.o), .fr 1 ([] : List (List Int)).length (([] : List (List Int)).flatMap (eS eI).o), iv 0, .fr 1 ([] : List Int).length (([] : List Int).flatMap eI.o), .fr 1 ([] : List Int).length (([] : List Int).flatMap eI.o), .fr 1 ([] : List Int).length (([] : List Int).flatMap eI.o), .fr 1 ([] : List (List Int)).length (([] : List (List Int)).flatMap (eS eI).o), .fr 1 ([] : List Int).length (([] : List Int).flatMap eI.o), .fr 1 ([] : List Int).length (([] : List Int).flatMap eI.o), iv 0, .fr 1 ([] : List Int).length (([] : List Int).flatMap eI.o), .fr 1 ([] : List Int).length (([] : List Int).flatMap eI.o), .fr 1 ([] : List Int).length (([] : List Int).flatMap eI.o), .fr 1 ([] : List (List Int)).length (([] : List (List Int)).flatMap (eS eI).o), iv 0, .fr 1 ([] : List Int).length (([] : List Int).flatMap eI.o), .fr 1 ([] : List Int).length (([] : List Int).flatMap eI.o), .fr 1 ([] : List Int).length (([] : List Int).flatMap eI.o), .fr 1 ([] : List (List Int)).length (([] : List (List Int)).flatMap (eS eI).o), .fr 1 ([] : List Int).length (([] : List Int).flatMap eI.o), .fr 1 ([] : List Int).length (([] : List Int).flatMap eI.o), .fr 1 ([] : List Int).length (([] : List Int).flatMap eI.o)]) (refs := []) (refs' := []) (.cons (.refl _) (.cons Sub.nil_fr (.cons Sub.nil_fr (.cons Sub.nil_fr (.cons Sub.nil_fr (.cons (.refl _) (.cons Sub.nil_fr (.cons Sub.nil_fr (.cons Sub.nil_fr (.cons Sub.nil_fr (.cons Sub.nil_fr (.cons Sub.nil_fr (.cons (.refl _) (.cons Sub.nil_fr (.cons Sub.nil_fr (.cons Sub.nil_fr (.cons Sub.nil_fr (.cons (.refl _) (.cons Sub.nil_fr (.cons Sub.nil_fr (.cons Sub.nil_fr (.cons Sub.nil_fr (.cons Sub.nil_fr (.cons Sub.nil_fr (.cons Sub.nil_fr .nil))))))))))))))))))))))))) (by kernel_rfl) (by kernel_rfl) (by kernel_rfl)) ?_
      obtain rfl := Option.some.inj hM
      exact retg (names := []) .nil (by kernel_rfl)
  · have hM := ite_false' hM h2
    refine tr_sr hT hm [(1, .call [] [] [.agg [iv a0.Source.Source.Objects, .sl a0.Source.Source.From.length 0 (a0.Source.Source.From.flatMap eI.b), .sl a0.Source.Source.To.length 0 (a0.Source.Source.To.flatMap eI.b), .sl a0.Source.Source.Identity.length 0 (a0.Source.Source.Identity.flatMap eI.b), .sl a0.Source.Source.Composites.length 0 (a0.Source.Source.Composites.flatMap (eS eI).b), iv a0.Source.Target.Objects, .sl a0.Source.Target.From.length 0 (a0.Source.Target.From.flatMap eI.b), .sl a0.Source.Target.To.length 0 (a0.Source.Target.To.flatMap eI.b), .sl a0.Source.Target.Identity.length 0 (a0.Source.Target.Identity.flatMap eI.b), .sl a0.Source.Target.Composites.length 0 (a0.Source.Target.Composites.flatMap (eS eI).b), .sl a0.Source.Objects.length 0 (a0.Source.Objects.flatMap eI.b), .sl a0.Source.Arrows.length 0 (a0.Source.Arrows.flatMap eI.b), iv a0.Target.Source.Objects, .sl a0.Target.Source.From.length 0 (a0.Target.Source.From.flatMap eI.b), .sl a0.Target.Source.To.length 0 (a0.Target.Source.To.flatMap eI.b), .sl a0.Target.Source.Identity.length 0 (a0.Target.Source.Identity.flatMap eI.b), .sl a0.Target.Source.Composites.length 0 (a0.Target.Source.Composites.flatMap (eS eI).b), iv a0.Target.Target.Objects, .sl a0.Target.Target.From.length 0 (a0.Target.Target.From.flatMap eI.b), .sl a0.Target.Target.To.length 0 (a0.Target.Target.To.flatMap eI.b), .sl a0.Target.Target.Identity.length 0 (a0.Target.Target.Identity.flatMap eI.b), .sl a0.Target.Target.Composites.length 0 (a0.Target.Target.Composites.flatMap (eS eI).b), .sl a0.Target.Objects.length 0 (a0.Target.Objects.flatMap eI.b), .sl a0.Target.Arrows.length 0 (a0.Target.Arrows.flatMap eI.b), .sl a0.Components.length 0 (a0.Components.flatMap eI.b)]] [] (bv v1)), (3, .val (bv true))] [4, 6, 8, 30, 2005, 2007, 2009] [(4, .d (.rp 1002 0)), (6, .d (.rp 1003 0)), (8, .d (.rp 1004 0)), (30, .d (bv true)), bxB 2005 (eXTransformation.b a0), bxB 2007 (eXTransformation.b a1), (2009, .r (.arr 1 [iv 0, nilv, nilv, nilv, nilv, iv 0, nilv, nilv, nilv, nilv, nilv, nilv, iv 0, nilv, nilv, nilv, nilv, iv 0, nilv, nilv, nilv, nilv, nilv, nilv, nilv] []))] (cc0 ok101 (spec_l07Is_c a0 _ hv1) (by kernel_rfl) (.cons (congrArg (fun b => bv b) (congrArg not h2)) .nil)) (by kernel_rfl) (by kernel_rfl) ?_
    refine tr_condT (by kernel_rfl) ?_
    refine tr_sr hT hm [] [8, 10, 2009] [(8, .d (.rp 1004 0)), (10, .d (iv 1)), (2009, .r (.arr 1 [iv 0, nilv, nilv, nilv, nilv, iv 0, nilv, nilv, nilv, nilv, nilv, nilv, iv 0, nilv, nilv, nilv, nilv, iv 0, nilv, nilv, nilv, nilv, nilv, nilv, nilv] []))] (.cons (Nat.le_of_ble_eq_true (n := 25) (m := 25) rfl) .nil) (by kernel_rfl) (by kernel_rfl) ?_
    refine tr_ret (q_r (rg_r ?_))
    refine RetG.by (imp_cvB (r := 1004) (sz := 1) (cells := [iv 0, nilv, nilv, nilv, nilv, iv 0, nilv, nilv, nilv, nilv, nilv, nilv, iv 0, nilv, nilv, nilv, nilv, iv 0, nilv, nilv, nilv, nilv, nilv, nilv, nilv]) (cells' := [iv 0, .fr 1 ([] : List Int).length (([] : List Int).flatMap eI.o), .fr 1 ([] : List Int).length (([] : List Int).flatMap eI.o), .fr 1 ([] : List Int).length (([] : List Int).flatMap eI.o), .fr 1 ([] : List (List Int)).length (([] : List (List Int)).flatMap (eS eI).o), iv 0, .fr 1 ([] : List Int).length (([] : List Int).flatMap eI.o), .fr 1 ([] : List Int).length (([] : List Int).flatMap eI.o), .fr 1 ([] : List Int).length (([] : List Int).flatMap eI.o), .fr 1 ([] : List (List Int)).length (([] : List (List Int)).flatMap (eS eI).o), .fr 1 ([] : List Int).length (([] : List Int).flatMap eI.o), .fr 1 ([] : List Int).length (([] : List Int).flatMap eI.o), iv 0, .fr 1 ([] : List Int).length (([] : List Int).flatMap eI.o), .fr 1 ([] : List Int).length (([] : List Int).flatMap eI.o), .fr 1 ([] : List Int).length (([] : List Int).flatMap eI.o), .fr 1 ([] : List (List Int)).length (([] : List (List Int)).flatMap (eS eI).o), iv 0, .fr 1 ([] : List Int).length (([] : List Int).flatMap eI.o), .fr 1 ([] : List Int).length (([] : List Int).flatMap eI.o), .fr 1 ([] : List Int).length (([] : List Int).flatMap eI.o), .fr 1 ([] : List (List Int)).length (([] : List (List Int)).flatMap (eS eI).o), .fr 1 ([] : List Int).length (([] : List Int).flatMap eI.o), .fr 1 ([] : List Int).length (([] : List Int).flatMap eI.o), .fr 1 ([] : List Int).length (([] : List Int).flatMap eI.o)]) (refs := []) (refs' := []) (.cons (.refl _) (.cons Sub.nil_fr (.cons Sub.nil_fr (.cons Sub.nil_fr (.cons Sub.nil_fr (.cons (.refl _) (.cons Sub.nil_fr (.cons Sub.nil_fr (.cons Sub.nil_fr (.cons Sub.nil_fr (.cons Sub.nil_fr (.cons Sub.nil_fr (.cons (.refl _) (.cons Sub.nil_fr (.cons Sub.nil_fr (.cons Sub.nil_fr (.cons Sub.nil_fr (.cons (.refl _) (.cons Sub.nil_fr (.cons Sub.nil_fr (.cons Sub.nil_fr (.cons Sub.nil_fr (.cons Sub.nil_fr (.cons Sub.nil_fr (.cons Sub.nil_fr .nil))))))))))))))))))))))))) (by kernel_rfl) (by kernel_rfl) (by kernel_rfl)) ?_
    obtain rfl := Option.some.inj hM
    exact retg (names := []) .nil (by kernel_rfl)

theorem ok43 : CallOk Try.prog 43 := callOk_of Try.func43 (by kernel_rfl) (by kernel_rfl)
theorem laws_toTransformation_c (a0 : XTransformation) (r : XTransformation) (hM : M.laws_toTransformation a0 = some r) :
    FnC Try.prog 43 [] [.agg (eXTransformation.b a0)] [] (.agg (eXTransformation.o r)) := by
  refine fnc_startG (N := 17) (np := 500) hT Try.func43 rfl rfl (by kernel_rfl) ?_
  unfold M.laws_toTransformation at hM
  refine tr_start (ks := [0]) (st' := [(0, .d (.agg (eXTransformation.b a0)))]) (by kernel_rfl) ?_
  refine tr_sr hT hm [] [2, 4, 2003, 2005] [(2, .d (.rp 1001 0)), (4, .d (.rp 1002 0)), bxB 2003 (eXTransformation.b a0), (2005, .r (.arr 1 [iv 0, nilv, nilv, nilv, nilv, iv 0, nilv, nilv, nilv, nilv, nilv, nilv, iv 0, nilv, nilv, nilv, nilv, iv 0, nilv, nilv, nilv, nilv, nilv, nilv, nilv] []))] .nil (by kernel_rfl) (by kernel_rfl) ?_
  refine tr_sr hT hm [] [2, 4, 6, 2003, 2005, 2007] [(2, .d (.rp 1001 0)), (4, .d (.rp 1002 0)), (6, .d (.rp 1003 0)), bxB 2003 (eXTransformation.b a0), (2005, .r (.arr 1 [iv 0, nilv, nilv, nilv, nilv, iv 0, nilv, nilv, nilv, nilv, nilv, nilv, iv 0, nilv, nilv, nilv, nilv, iv 0, nilv, nilv, nilv, nilv, nilv, nilv, nilv] [])), (2007, .r (.arr 1 [iv 0, nilv, nilv, nilv, nilv, iv 0, nilv, nilv, nilv, nilv, nilv, nilv, iv 0, nilv, nilv, nilv, nilv, iv 0, nilv, nilv, nilv, nilv, nilv, nilv, nilv] []))] .nil (by kernel_rfl) (by kernel_rfl) ?_
  obtain ⟨v1, hv1, hM⟩ := bind_some' hM
  refine tr_sr hT hm [(2, .call [] [] [.agg [iv a0.Source.Source.Objects, .sl a0.Source.Source.From.length 0 (a0.Source.Source.From.flatMap eI.b), .sl a0.Source.Source.To.length 0 (a0.Source.Source.To.flatMap eI.b), .sl a0.Source.Source.Identity.length 0 (a0.Source.Source.Identity.flatMap eI.b), .sl a0.Source.Source.Composites.length 0 (a0.Source.Source.Composites.flatMap (eS eI).b), iv a0.Source.Target.Objects, .sl a0.Source.Target.From.length 0 (a0.Source.Target.From.flatMap eI.b), .sl a0.Source.Target.To.length 0 (a0.Source.Target.To.flatMap eI.b), .sl a0.Source.Target.Identity.length 0 (a0.Source.Target.Identity.flatMap eI.b), .sl a0.Source.Target.Composites.length 0 (a0.Source.Target.Composites.flatMap (eS eI).b), .sl a0.Source.Objects.length 0 (a0.Source.Objects.flatMap eI.b), .sl a0.Source.Arrows.length 0 (a0.Source.Arrows.flatMap eI.b)]] [] (.agg (eXFunctor.o v1)))] [2, 4, 6, 2003, 2005, 2007, 16003, 16005, 16007, 16009, 16013, 16015, 16017, 16019, 16021, 16023] ([(2, .d (.rp 1001 0)), (4, .d (.rp 1002 0)), (6, .d (.rp 1003 0)), bxB 2003 (eXTransformation.b a0), (2005, .r (.arr 1 [iv 0, nilv, nilv, nilv, nilv, iv 0, nilv, nilv, nilv, nilv, nilv, nilv, iv 0, nilv, nilv, nilv, nilv, iv 0, nilv, nilv, nilv, nilv, nilv, nilv, nilv] [])), (2007, .r (.arr 1 [iv v1.Source.Objects, .rs 8001 0 v1.Source.From.length, .rs 8002 0 v1.Source.To.length, .rs 8003 0 v1.Source.Identity.length, .rs 8004 0 v1.Source.Composites.length, iv v1.Target.Objects, .rs 8006 0 v1.Target.From.length, .rs 8007 0 v1.Target.To.length, .rs 8008 0 v1.Target.Identity.length, .rs 8009 0 v1.Target.Composites.length, .rs 8010 0 v1.Objects.length, .rs 8011 0 v1.Arrows.length, iv 0, nilv, nilv, nilv, nilv, iv 0, nilv, nilv, nilv, nilv, nilv, nilv, nilv] [8001, 8002, 8003, 8004, 8006, 8007, 8008, 8009, 8010, 8011]))] ++ rsS 8000 (eXFunctor.o v1)) (cc0 ok16 (laws_toFunctor_c a0.Source _ hv1) (by kernel_rfl) (.cons (Nat.le_of_ble_eq_true (n := 12) (m := 25) rfl) .nil)) (by kernel_rfl) (by kernel_rfl) ?_
  obtain ⟨v2, hv2, hM⟩ := bind_some' hM
  refine tr_sr hT hm [(2, .call [] [] [.agg [iv a0.Target.Source.Objects, .sl a0.Target.Source.From.length 0 (a0.Target.Source.From.flatMap eI.b), .sl a0.Target.Source.To.length 0 (a0.Target.Source.To.flatMap eI.b), .sl a0.Target.Source.Identity.length 0 (a0.Target.Source.Identity.flatMap eI.b), .sl a0.Target.Source.Composites.length 0 (a0.Target.Source.Composites.flatMap (eS eI).b), iv a0.Target.Target.Objects, .sl a0.Target.Target.From.length 0 (a0.Target.Target.From.flatMap eI.b), .sl a0.Target.Target.To.length 0 (a0.Target.Target.To.flatMap eI.b), .sl a0.Target.Target.Identity.length 0 (a0.Target.Target.Identity.flatMap eI.b), .sl a0.Target.Target.Composites.length 0 (a0.Target.Target.Composites.flatMap (eS eI).b), .sl a0.Target.Objects.length 0 (a0.Target.Objects.flatMap eI.b), .sl a0.Target.Arrows.length 0 (a0.Target.Arrows.flatMap eI.b)]] [] (.agg (eXFunctor.o v2)))] [2, 4, 6, 2003, 2005, 2007, 16003, 16005, 16007, 16009, 16013, 16015, 16017, 16019, 16021, 16023, 24003, 24005, 24007, 24009, 24013, 24015, 24017, 24019, 24021, 24023] ([(2, .d (.rp 1001 0)), (4, .d (.rp 1002 0)), (6, .d (.rp 1003 0)), bxB 2003 (eXTransformation.b a0), (2005, .r (.arr 1 [iv 0, nilv, nilv, nilv, nilv, iv 0, nilv, nilv, nilv, nilv, nilv, nilv, iv 0, nilv, nilv, nilv, nilv, iv 0, nilv, nilv, nilv, nilv, nilv, nilv, nilv] [])), (2007, .r (.arr 1 [iv v1.Source.Objects, .rs 8001 0 v1.Source.From.length, .rs 8002 0 v1.Source.To.length, .rs 8003 0 v1.Source.Identity.length, .rs 8004 0 v1.Source.Composites.length, iv v1.Target.Objects, .rs 8006 0 v1.Target.From.length, .rs 8007 0 v1.Target.To.length, .rs 8008 0 v1.Target.Identity.length, .rs 8009 0 v1.Target.Composites.length, .rs 8010 0 v1.Objects.length, .rs 8011 0 v1.Arrows.length, iv v2.Source.Objects, .rs 12001 0 v2.Source.From.length, .rs 12002 0 v2.Source.To.length, .rs 12003 0 v2.Source.Identity.length, .rs 12004 0 v2.Source.Composites.length, iv v2.Target.Objects, .rs 12006 0 v2.Target.From.length, .rs 12007 0 v2.Target.To.length, .rs 12008 0 v2.Target.Identity.length, .rs 12009 0 v2.Target.Composites.length, .rs 12010 0 v2.Objects.length, .rs 12011 0 v2.Arrows.length, nilv] [8001, 8002, 8003, 8004, 8006, 8007, 8008, 8009, 8010, 8011, 12001, 12002, 12003, 12004, 12006, 12007, 12008, 12009, 12010, 12011]))] ++ rsS 8000 (eXFunctor.o v1) ++ rsS 12000 (eXFunctor.o v2)) (cc0 ok16 (laws_toFunctor_c a0.Target _ hv2) (by kernel_rfl) (.cons (Nat.le_of_ble_eq_true (n := 24) (m := 25) rfl) .nil)) (by kernel_rfl) (by kernel_rfl) ?_
  obtain ⟨v3, hv3, hM⟩ := bind_some' hM
  refine tr_sr hT hm [(2, .call [] [] [.sl a0.Components.length 0 (a0.Components.flatMap eI.b)] [] (.fr 1 v3.length (v3.flatMap eI.o)))] [4, 6, 2005, 2007, 16003, 16005, 16007, 16009, 16013, 16015, 16017, 16019, 16021, 16023, 24003, 24005, 24007, 24009, 24013, 24015, 24017, 24019, 24021, 24023, 32001] ([(4, .d (.rp 1002 0)), (6, .d (.rp 1003 0)), (2005, .r (.arr 1 [iv 0, nilv, nilv, nilv, nilv, iv 0, nilv, nilv, nilv, nilv, nilv, nilv, iv 0, nilv, nilv, nilv, nilv, iv 0, nilv, nilv, nilv, nilv, nilv, nilv, nilv] [])), (2007, .r (.arr 1 [iv v1.Source.Objects, .rs 8001 0 v1.Source.From.length, .rs 8002 0 v1.Source.To.length, .rs 8003 0 v1.Source.Identity.length, .rs 8004 0 v1.Source.Composites.length, iv v1.Target.Objects, .rs 8006 0 v1.Target.From.length, .rs 8007 0 v1.Target.To.length, .rs 8008 0 v1.Target.Identity.length, .rs 8009 0 v1.Target.Composites.length, .rs 8010 0 v1.Objects.length, .rs 8011 0 v1.Arrows.length, iv v2.Source.Objects, .rs 12001 0 v2.Source.From.length, .rs 12002 0 v2.Source.To.length, .rs 12003 0 v2.Source.Identity.length, .rs 12004 0 v2.Source.Composites.length, iv v2.Target.Objects, .rs 12006 0 v2.Target.From.length, .rs 12007 0 v2.Target.To.length, .rs 12008 0 v2.Target.Identity.length, .rs 12009 0 v2.Target.Composites.length, .rs 12010 0 v2.Objects.length, .rs 12011 0 v2.Arrows.length, .rs 16000 0 v3.length] [8001, 8002, 8003, 8004, 8006, 8007, 8008, 8009, 8010, 8011, 12001, 12002, 12003, 12004, 12006, 12007, 12008, 12009, 12010, 12011, 16000]))] ++ rsS 8000 (eXFunctor.o v1) ++ rsS 12000 (eXFunctor.o v2) ++ [(32001, .r (.arr 1 (v3.flatMap eI.o) []))]) (cc0 ok61 (laws_toInt64S_c a0.Components _ hv3) (by kernel_rfl) (.cons (Nat.le_of_ble_eq_true (n := 25) (m := 25) rfl) .nil)) (by kernel_rfl) (by kernel_rfl) ?_
  refine tr_sr hT hm [] [4, 2005, 16003, 16005, 16007, 16009, 16013, 16015, 16017, 16019, 16021, 16023, 24003, 24005, 24007, 24009, 24013, 24015, 24017, 24019, 24021, 24023, 32001] ([(4, .d (.rp 1002 0)), (2005, .r (.arr 1 [iv v1.Source.Objects, .rs 8001 0 v1.Source.From.length, .rs 8002 0 v1.Source.To.length, .rs 8003 0 v1.Source.Identity.length, .rs 8004 0 v1.Source.Composites.length, iv v1.Target.Objects, .rs 8006 0 v1.Target.From.length, .rs 8007 0 v1.Target.To.length, .rs 8008 0 v1.Target.Identity.length, .rs 8009 0 v1.Target.Composites.length, .rs 8010 0 v1.Objects.length, .rs 8011 0 v1.Arrows.length, iv v2.Source.Objects, .rs 12001 0 v2.Source.From.length, .rs 12002 0 v2.Source.To.length, .rs 12003 0 v2.Source.Identity.length, .rs 12004 0 v2.Source.Composites.length, iv v2.Target.Objects, .rs 12006 0 v2.Target.From.length, .rs 12007 0 v2.Target.To.length, .rs 12008 0 v2.Target.Identity.length, .rs 12009 0 v2.Target.Composites.length, .rs 12010 0 v2.Objects.length, .rs 12011 0 v2.Arrows.length, .rs 16000 0 v3.length] [8001, 8002, 8003, 8004, 8006, 8007, 8008, 8009, 8010, 8011, 12001, 12002, 12003, 12004, 12006, 12007, 12008, 12009, 12010, 12011, 16000]))] ++ rsS 8000 (eXFunctor.o v1) ++ rsS 12000 (eXFunctor.o v2) ++ [(32001, .r (.arr 1 (v3.flatMap eI.o) []))]) (.cons (Nat.le_of_ble_eq_true (n := 25) (m := 25) rfl) .nil) (by kernel_rfl) (by kernel_rfl) ?_
  refine tr_ret (rg_r ?_)
  obtain rfl := Option.some.inj hM
  exact retg (names := []) (.cons (lenO_flat eI_ok v1.Source.From) (.cons (lenO_flat eI_ok v1.Source.To) (.cons (lenO_flat eI_ok v1.Source.Identity) (.cons (lenO_flat (eS_ok eI_ok) v1.Source.Composites) (.cons (lenO_flat eI_ok v1.Target.From) (.cons (lenO_flat eI_ok v1.Target.To) (.cons (lenO_flat eI_ok v1.Target.Identity) (.cons (lenO_flat (eS_ok eI_ok) v1.Target.Composites) (.cons (lenO_flat eI_ok v1.Objects) (.cons (lenO_flat eI_ok v1.Arrows) (.cons (lenO_flat eI_ok v2.Source.From) (.cons (lenO_flat eI_ok v2.Source.To) (.cons (lenO_flat eI_ok v2.Source.Identity) (.cons (lenO_flat (eS_ok eI_ok) v2.Source.Composites) (.cons (lenO_flat eI_ok v2.Target.From) (.cons (lenO_flat eI_ok v2.Target.To) (.cons (lenO_flat eI_ok v2.Target.Identity) (.cons (lenO_flat (eS_ok eI_ok) v2.Target.Composites) (.cons (lenO_flat eI_ok v2.Objects) (.cons (lenO_flat eI_ok v2.Arrows) (.cons (lenO_flat eI_ok v3) .nil))))))))))))))))))))) (by kernel_rfl)

theorem ok235 : CallOk Try.prog 235 := callOk_of Try.func235 (by kernel_rfl) (by kernel_rfl)
theorem impl_areFunctors_c (a0 : List XFunctor) (r : Bool) (hM : M.impl_areFunctors a0 = some r) :
    FnC Try.prog 235 [] [.sl a0.length 0 (a0.flatMap (eP eXFunctor).b)] [] (bv r) := by
  refine fnc_startG (N := 15) (np := 500) hT Try.func235 rfl rfl (by kernel_rfl) ?_
  unfold M.impl_areFunctors at hM
  refine tr_start (ks := [0]) (st' := [(0, .d (.sl a0.length 0 (a0.flatMap (eP eXFunctor).b)))]) (by kernel_rfl) ?_
  refine tr_sr hT hm [] [0] [(0, .d (.sl a0.length 0 (a0.flatMap (eP eXFunctor).b)))] .nil (by kernel_rfl) (by kernel_rfl) ?_
  refine tr_seq ?_
  refine tr_sr hT hm [] [10, 12, 14] [(10, .d (.sl a0.length 0 (a0.flatMap (eP eXFunctor).b))), (12, .d (iv (a0.length : Int))), (14, .d (iv 0))] .nil (by kernel_rfl) (by kernel_rfl) ?_
  refine tr_block ?_
  refine tr_iterS (fun (s1 : Int) => [(10, .d (.sl a0.length 0 (a0.flatMap (eP eXFunctor).b))), (12, .d (iv (a0.length : Int))), (14, .d (iv s1))]) 0 [10, 12, 14] (by kernel_rfl) hM ?_
  intro n4 next2 ih3 s1 hM
  refine tr_sr hT hm [] [10, 12, 14, 16] [(10, .d (.sl a0.length 0 (a0.flatMap (eP eXFunctor).b))), (12, .d (iv (a0.length : Int))), (14, .d (iv s1)), (16, .d (bv (decide (s1 < (a0.length : Int)))))] .nil (by kernel_rfl) (by kernel_rfl) ?_
  refine tr_seq ?_
  rcases Bool.eq_false_or_eq_true (decide (s1 < (a0.length : Int))) with h5 | h5
  · have hM := ite_true' hM h5
    refine tr_condTe (e := decide (s1 < (a0.length : Int))) h5 (by kernel_rfl) ?_
    refine tr_skip (q_n ?_)
    refine tr_seq ?_
    refine tr_block ?_
    obtain ⟨y6, hy6, hM⟩ := bind_some' hM
    have hy6' := idx_some hy6
    refine tr_sr hT hm [(1, .val (.pt (eXFunctor.b y6) 0))] [8, 10, 12, 14] [(8, .d (.pt (eXFunctor.b y6) 0)), (10, .d (.sl a0.length 0 (a0.flatMap (eP eXFunctor).b))), (12, .d (iv (a0.length : Int))), (14, .d (iv s1))] (.cons hy6'.1 (.cons hy6'.2.1 (.cons (at_b0 (eP_ok (e := eXFunctor)) hy6'.2.2 (d := .pt (eXFunctor.b y6) 0) (by kernel_rfl)) .nil))) (by kernel_rfl) (by kernel_rfl) ?_
    obtain ⟨v7, hv7, hM⟩ := bind_some' hM
    refine tr_sr hT hm [(1, .call [] [] [.pt (eXFunctor.b y6) 0] [] (bv v7))] [10, 12, 14, 26] [(10, .d (.sl a0.length 0 (a0.flatMap (eP eXFunctor).b))), (12, .d (iv (a0.length : Int))), (14, .d (iv s1)), (26, .d (bv (!v7)))] (cc0 ok89 (impl_Functor_isFunctor_c y6 _ hv7) (by kernel_rfl) .nil) (by kernel_rfl) (by kernel_rfl) ?_
    rcases Bool.eq_false_or_eq_true v7 with h8 | h8
    · have hM := ite_true' hM h8
      refine tr_condFe (e := !v7) (congrArg not h8) (by kernel_rfl) ?_
      refine tr_skip (b_n (q_n ?_))
      refine tr_r hT hm [] [10, 12, 14] [(10, .d (.sl a0.length 0 (a0.flatMap (eP eXFunctor).b))), (12, .d (iv (a0.length : Int))), (14, .d (iv (IntKind.i64.wrap (s1 + 1))))] .nil (by kernel_rfl) (by kernel_rfl) (l_n ?_)
      exact trl_start (ks := [10, 12, 14]) (by kernel_rfl) (ih3 (IntKind.i64.wrap (s1 + 1)) hM)
    · have hM := ite_false' hM h8
      refine tr_condTe (e := !v7) (congrArg not h8) (by kernel_rfl) ?_
      refine tr_sr hT hm [] [4] [(4, .d (bv false))] .nil (by kernel_rfl) (by kernel_rfl) ?_
      refine tr_ret (b_r (q_r (l_r (b_r (q_r (rg_r ?_))))))
      obtain rfl := Option.some.inj hM
      exact retg (names := []) .nil (by kernel_rfl)
  · have hM := ite_false' hM h5
    refine tr_condFe (e := decide (s1 < (a0.length : Int))) h5 (by kernel_rfl) ?_
    refine tr_exit (q_x (l_x (b_h (q_n ?_))))
    refine tr_sr hT hm [] [4] [(4, .d (bv true))] .nil (by kernel_rfl) (by kernel_rfl) ?_
    refine tr_ret (rg_r ?_)
    obtain rfl := Option.some.inj hM
    exact retg (names := []) .nil (by kernel_rfl)

theorem ok225 : CallOk Try.prog 225 := callOk_of Try.func225 (by kernel_rfl) (by kernel_rfl)
theorem impl_compare_c (a0 : List Int) (a1 : List Int) (r : Int) (hM : M.impl_compare a0 a1 = some r) :
    FnC Try.prog 225 [] [.sl a0.length 0 (a0.flatMap eI.b), .sl a1.length 0 (a1.flatMap eI.b)] [] (iv r) := by
  refine fnc_startG (N := 39) (np := 500) hT Try.func225 rfl rfl (by kernel_rfl) ?_
  unfold M.impl_compare at hM
  refine tr_start (ks := [0, 2]) (st' := [(0, .d (.sl a0.length 0 (a0.flatMap eI.b))), (2, .d (.sl a1.length 0 (a1.flatMap eI.b)))]) (by kernel_rfl) ?_
  refine tr_sr hT hm [] [0, 2] [(0, .d (.sl a0.length 0 (a0.flatMap eI.b))), (2, .d (.sl a1.length 0 (a1.flatMap eI.b)))] .nil (by kernel_rfl) (by kernel_rfl) ?_
  refine tr_seq ?_
  refine tr_sr hT hm [] [0, 2, 14, 16] [(0, .d (.sl a0.length 0 (a0.flatMap eI.b))), (2, .d (.sl a1.length 0 (a1.flatMap eI.b))), (14, .d (iv (a0.length : Int))), (16, .d (iv 0))] .nil (by kernel_rfl) (by kernel_rfl) ?_
  refine tr_block ?_
  refine tr_iterS (fun (s1 : Int) => [(0, .d (.sl a0.length 0 (a0.flatMap eI.b))), (2, .d (.sl a1.length 0 (a1.flatMap eI.b))), (14, .d (iv (a0.length : Int))), (16, .d (iv s1))]) 0 [0, 2, 14, 16] (by kernel_rfl) hM ?_
  intro n4 next2 ih3 s1 hM
  refine tr_sr hT hm [] [0, 2, 14, 16, 18] [(0, .d (.sl a0.length 0 (a0.flatMap eI.b))), (2, .d (.sl a1.length 0 (a1.flatMap eI.b))), (14, .d (iv (a0.length : Int))), (16, .d (iv s1)), (18, .d (bv (decide (s1 < (a0.length : Int)))))] .nil (by kernel_rfl) (by kernel_rfl) ?_
  refine tr_seq ?_
  rcases Bool.eq_false_or_eq_true (decide (s1 < (a0.length : Int))) with h5 | h5
  · have hM := ite_true' hM h5
    refine tr_condTe (e := decide (s1 < (a0.length : Int))) h5 (by kernel_rfl) ?_
    refine tr_skip (q_n ?_)
    refine tr_seq ?_
    refine tr_block ?_
    refine tr_sr hT hm [] [0, 2, 10, 14, 16] [(0, .d (.sl a0.length 0 (a0.flatMap eI.b))), (2, .d (.sl a1.length 0 (a1.flatMap eI.b))), (10, .d (iv s1)), (14, .d (iv (a0.length : Int))), (16, .d (iv s1))] .nil (by kernel_rfl) (by kernel_rfl) ?_
    refine tr_seq ?_
    refine tr_sr hT hm [] [0, 2, 10, 14, 16, 28] [(0, .d (.sl a0.length 0 (a0.flatMap eI.b))), (2, .d (.sl a1.length 0 (a1.flatMap eI.b))), (10, .d (iv s1)), (14, .d (iv (a0.length : Int))), (16, .d (iv s1)), (28, .d (bv (s1 == (a1.length : Int))))] .nil (by kernel_rfl) (by kernel_rfl) ?_
    rcases Bool.eq_false_or_eq_true (s1 == (a1.length : Int)) with h6 | h6
    · have hM := ite_true' hM h6
      refine tr_condTe (e := s1 == (a1.length : Int)) h6 (by kernel_rfl) ?_
      refine tr_sr hT hm [] [8] [(8, .d (iv 1))] .nil (by kernel_rfl) (by kernel_rfl) ?_
      refine tr_ret (q_r (b_r (q_r (l_r (b_r (q_r (rg_r ?_)))))))
      obtain rfl := Option.some.inj hM
      exact retg (names := []) .nil (by kernel_rfl)
    · have hM := ite_false' hM h6
      refine tr_condFe (e := s1 == (a1.length : Int)) h6 (by kernel_rfl) ?_
      refine tr_skip (q_n ?_)
      obtain ⟨y7, hy7, hM⟩ := bind_some' hM
      have hy7' := idx_some hy7
      obtain ⟨y8, hy8, hM⟩ := bind_some' hM
      have hy8' := idx_some hy8
      refine tr_sr hT hm [(3, .val (iv y7)), (7, .val (iv y8))] [0, 2, 10, 14, 16, 46] [(0, .d (.sl a0.length 0 (a0.flatMap eI.b))), (2, .d (.sl a1.length 0 (a1.flatMap eI.b))), (10, .d (iv s1)), (14, .d (iv (a0.length : Int))), (16, .d (iv s1)), (46, .d (bv (y7 != y8)))] (.cons hy7'.1 (.cons hy7'.2.1 (.cons (at_b0 eI_ok hy7'.2.2 (d := iv y7) (by kernel_rfl)) (.cons hy8'.1 (.cons hy8'.2.1 (.cons (at_b0 eI_ok hy8'.2.2 (d := iv y8) (by kernel_rfl)) .nil)))))) (by kernel_rfl) (by kernel_rfl) ?_
      rcases Bool.eq_false_or_eq_true (y7 != y8) with h9 | h9
      · have hM := ite_true' hM h9
        refine tr_condTe (e := y7 != y8) h9 (by kernel_rfl) ?_
        refine tr_seq ?_
        refine tr_sr hT hm [(3, .val (iv y7)), (7, .val (iv y8))] [64] [(64, .d (bv (decide (y7 < y8))))] (.cons hy7'.1 (.cons hy7'.2.1 (.cons (at_b0 eI_ok hy7'.2.2 (d := iv y7) (by kernel_rfl)) (.cons hy8'.1 (.cons hy8'.2.1 (.cons (at_b0 eI_ok hy8'.2.2 (d := iv y8) (by kernel_rfl)) .nil)))))) (by kernel_rfl) (by kernel_rfl) ?_
        rcases Bool.eq_false_or_eq_true (decide (y7 < y8)) with h10 | h10
        · have hM := ite_true' hM h10
          refine tr_condTe (e := decide (y7 < y8)) h10 (by kernel_rfl) ?_
          refine tr_sr hT hm [] [8] [(8, .d (iv (-1)))] .nil (by kernel_rfl) (by kernel_rfl) ?_
          refine tr_ret (q_r (b_r (q_r (l_r (b_r (q_r (rg_r ?_)))))))
          obtain rfl := Option.some.inj hM
          exact retg (names := []) .nil (by kernel_rfl)
        · have hM := ite_false' hM h10
          refine tr_condFe (e := decide (y7 < y8)) h10 (by kernel_rfl) ?_
          refine tr_skip (q_n ?_)
          refine tr_sr hT hm [] [8] [(8, .d (iv 1))] .nil (by kernel_rfl) (by kernel_rfl) ?_
          refine tr_ret (b_r (q_r (l_r (b_r (q_r (rg_r ?_))))))
          obtain rfl := Option.some.inj hM
          exact retg (names := []) .nil (by kernel_rfl)
      · have hM := ite_false' hM h9
        refine tr_condFe (e := y7 != y8) h9 (by kernel_rfl) ?_
        refine tr_skip (b_n (q_n ?_))
        refine tr_r hT hm [] [0, 2, 14, 16] [(0, .d (.sl a0.length 0 (a0.flatMap eI.b))), (2, .d (.sl a1.length 0 (a1.flatMap eI.b))), (14, .d (iv (a0.length : Int))), (16, .d (iv (IntKind.i64.wrap (s1 + 1))))] .nil (by kernel_rfl) (by kernel_rfl) (l_n ?_)
        exact trl_start (ks := [0, 2, 14, 16]) (by kernel_rfl) (ih3 (IntKind.i64.wrap (s1 + 1)) hM)
  · have hM := ite_false' hM h5
    refine tr_condFe (e := decide (s1 < (a0.length : Int))) h5 (by kernel_rfl) ?_
    refine tr_exit (q_x (l_x (b_h (q_n ?_))))
    refine tr_seq ?_
    refine tr_sr hT hm [] [76] [(76, .d (bv (decide ((a0.length : Int) < (a1.length : Int)))))] .nil (by kernel_rfl) (by kernel_rfl) ?_
    rcases Bool.eq_false_or_eq_true (decide ((a0.length : Int) < (a1.length : Int))) with h11 | h11
    · have hM := ite_true' hM h11
      refine tr_condTe (e := decide ((a0.length : Int) < (a1.length : Int))) h11 (by kernel_rfl) ?_
      refine tr_sr hT hm [] [8] [(8, .d (iv (-1)))] .nil (by kernel_rfl) (by kernel_rfl) ?_
      refine tr_ret (q_r (rg_r ?_))
      obtain rfl := Option.some.inj hM
      exact retg (names := []) .nil (by kernel_rfl)
    · have hM := ite_false' hM h11
      refine tr_condFe (e := decide ((a0.length : Int) < (a1.length : Int))) h11 (by kernel_rfl) ?_
      refine tr_skip (q_n ?_)
      refine tr_sr hT hm [] [8] [(8, .d (iv 0))] .nil (by kernel_rfl) (by kernel_rfl) ?_
      refine tr_ret (rg_r ?_)
      obtain rfl := Option.some.inj hM
      exact retg (names := []) .nil (by kernel_rfl)

theorem ok176 : CallOk Try.prog 176 := callOk_of Try.func176 (by kernel_rfl) (by kernel_rfl)
theorem impl_same_c (a0 : List Int) (a1 : List Int) (r : Bool) (hM : M.impl_same a0 a1 = some r) :
    FnC Try.prog 176 [] [.sl a0.length 0 (a0.flatMap eI.b), .sl a1.length 0 (a1.flatMap eI.b)] [] (bv r) := by
  refine fnc_startG (N := 9) (np := 500) hT Try.func176 rfl rfl (by kernel_rfl) ?_
  unfold M.impl_same at hM
  refine tr_start (ks := [0, 2]) (st' := [(0, .d (.sl a0.length 0 (a0.flatMap eI.b))), (2, .d (.sl a1.length 0 (a1.flatMap eI.b)))]) (by kernel_rfl) ?_
  refine tr_sr hT hm [] [0, 2] [(0, .d (.sl a0.length 0 (a0.flatMap eI.b))), (2, .d (.sl a1.length 0 (a1.flatMap eI.b)))] .nil (by kernel_rfl) (by kernel_rfl) ?_
  obtain ⟨v1, hv1, hM⟩ := bind_some' hM
  refine tr_sr hT hm [(2, .call [] [] [.sl a0.length 0 (a0.flatMap eI.b), .sl a1.length 0 (a1.flatMap eI.b)] [] (iv v1))] [8] [(8, .d (bv (v1 == 0)))] (cc0 ok225 (impl_compare_c a0 a1 _ hv1) (by kernel_rfl) .nil) (by kernel_rfl) (by kernel_rfl) ?_
  refine tr_ret (rg_r ?_)
  obtain rfl := Option.some.inj hM
  exact retg (names := []) .nil (by kernel_rfl)

theorem ok107 : CallOk Try.prog 107 := callOk_of Try.func107 (by kernel_rfl) (by kernel_rfl)
theorem impl_sameCategory_c (a0 : XCategory) (a1 : XCategory) (r : Bool) (hM : M.impl_sameCategory a0 a1 = some r) :
    FnC Try.prog 107 [] [.pt (eXCategory.b a0) 0, .pt (eXCategory.b a1) 0] [] (bv r) := by
  refine fnc_startG (N := 89) (np := 500) hT Try.func107 rfl rfl (by kernel_rfl) ?_
  unfold M.impl_sameCategory at hM
  refine tr_start (ks := [0, 2]) (st' := [(0, .d (.pt (eXCategory.b a0) 0)), (2, .d (.pt (eXCategory.b a1) 0))]) (by kernel_rfl) ?_
  refine tr_sr hT hm [] [0, 2] [(0, .d (.pt (eXCategory.b a0) 0)), (2, .d (.pt (eXCategory.b a1) 0))] .nil (by kernel_rfl) (by kernel_rfl) ?_
  refine tr_seq ?_
  rcases Bool.eq_false_or_eq_true (a0.Objects != a1.Objects) with h1 | h1
  · have hM := ite_true' hM h1
    refine tr_sr hT hm [(9, .val (bv true))] [0, 2, 126] [(0, .d (.pt (eXCategory.b a0) 0)), (2, .d (.pt (eXCategory.b a1) 0)), (126, .d (bv true))] (.cons (congrArg (fun b => bv b) h1) .nil) (by kernel_rfl) (by kernel_rfl) ?_
    refine tr_condT (by kernel_rfl) ?_
    refine tr_sr hT hm [] [8] [(8, .d (bv false))] .nil (by kernel_rfl) (by kernel_rfl) ?_
    refine tr_ret (q_r (rg_r ?_))
    obtain rfl := Option.some.inj hM
    exact retg (names := []) .nil (by kernel_rfl)
  · have hM := ite_false' hM h1
    obtain ⟨v2, hv2, hM⟩ := bind_some' hM
    rcases Bool.eq_false_or_eq_true v2 with h3 | h3
    · have hM := ite_true' hM h3
      obtain ⟨v4, hv4, hM⟩ := bind_some' hM
      rcases Bool.eq_false_or_eq_true v4 with h5 | h5
      · have hM := ite_true' hM h5
        obtain ⟨v6, hv6, hM⟩ := bind_some' hM
        rcases Bool.eq_false_or_eq_true v6 with h7 | h7
        · have hM := ite_true' hM h7
          refine tr_sr hT hm [(9, .val (bv false)), (18, .call [] [] [.sl a0.From.length 0 (a0.From.flatMap eI.b), .sl a1.From.length 0 (a1.From.flatMap eI.b)] [] (bv v2)), (21, .val (bv false)), (30, .call [] [] [.sl a0.To.length 0 (a0.To.flatMap eI.b), .sl a1.To.length 0 (a1.To.flatMap eI.b)] [] (bv v4)), (33, .val (bv false)), (42, .call [] [] [.sl a0.Identity.length 0 (a0.Identity.flatMap eI.b), .sl a1.Identity.length 0 (a1.Identity.flatMap eI.b)] [] (bv v6)), (45, .val (bv false))] [0, 2, 126] [(0, .d (.pt (eXCategory.b a0) 0)), (2, .d (.pt (eXCategory.b a1) 0)), (126, .d (bv ((a0.Composites.length : Int) != (a1.Composites.length : Int))))] (.cons (congrArg (fun b => bv b) h1) (cc0 ok176 (impl_same_c a0.From a1.From _ hv2) (by kernel_rfl) (.cons (congrArg (fun b => bv b) (congrArg not h3)) (cc0 ok176 (impl_same_c a0.To a1.To _ hv4) (by kernel_rfl) (.cons (congrArg (fun b => bv b) (congrArg not h5)) (cc0 ok176 (impl_same_c a0.Identity a1.Identity _ hv6) (by kernel_rfl) (.cons (congrArg (fun b => bv b) (congrArg not h7)) .nil))))))) (by kernel_rfl) (by kernel_rfl) ?_
          rcases Bool.eq_false_or_eq_true ((a0.Composites.length : Int) != (a1.Composites.length : Int)) with h8 | h8
          · have hM := ite_true' hM h8
            refine tr_condTe (e := (a0.Composites.length : Int) != (a1.Composites.length : Int)) h8 (by kernel_rfl) ?_
            refine tr_sr hT hm [] [8] [(8, .d (bv false))] .nil (by kernel_rfl) (by kernel_rfl) ?_
            refine tr_ret (q_r (rg_r ?_))
            obtain rfl := Option.some.inj hM
            exact retg (names := []) .nil (by kernel_rfl)
          · have hM := ite_false' hM h8
            refine tr_condFe (e := (a0.Composites.length : Int) != (a1.Composites.length : Int)) h8 (by kernel_rfl) ?_
            refine tr_skip (q_n ?_)
            refine tr_seq ?_
            refine tr_sr hT hm [] [0, 2, 136, 138] [(0, .d (.pt (eXCategory.b a0) 0)), (2, .d (.pt (eXCategory.b a1) 0)), (136, .d (iv (a0.Composites.length : Int))), (138, .d (iv 0))] .nil (by kernel_rfl) (by kernel_rfl) ?_
            refine tr_block ?_
            refine tr_iterS (fun (s9 : Int) => [(0, .d (.pt (eXCategory.b a0) 0)), (2, .d (.pt (eXCategory.b a1) 0)), (136, .d (iv (a0.Composites.length : Int))), (138, .d (iv s9))]) 0 [0, 2, 136, 138] (by kernel_rfl) hM ?_
            intro n12 next10 ih11 s9 hM
            refine tr_sr hT hm [] [0, 2, 136, 138, 140] [(0, .d (.pt (eXCategory.b a0) 0)), (2, .d (.pt (eXCategory.b a1) 0)), (136, .d (iv (a0.Composites.length : Int))), (138, .d (iv s9)), (140, .d (bv (decide (s9 < (a0.Composites.length : Int)))))] .nil (by kernel_rfl) (by kernel_rfl) ?_
            refine tr_seq ?_
            rcases Bool.eq_false_or_eq_true (decide (s9 < (a0.Composites.length : Int))) with h13 | h13
            · have hM := ite_true' hM h13
              refine tr_condTe (e := decide (s9 < (a0.Composites.length : Int))) h13 (by kernel_rfl) ?_
              refine tr_skip (q_n ?_)
              refine tr_seq ?_
              refine tr_block ?_
              refine tr_sr hT hm [] [0, 2, 10, 136, 138] [(0, .d (.pt (eXCategory.b a0) 0)), (2, .d (.pt (eXCategory.b a1) 0)), (10, .d (iv s9)), (136, .d (iv (a0.Composites.length : Int))), (138, .d (iv s9))] .nil (by kernel_rfl) (by kernel_rfl) ?_
              obtain ⟨y14, hy14, hM⟩ := bind_some' hM
              have hy14' := idx_some hy14
              obtain ⟨y15, hy15, hM⟩ := bind_some' hM
              have hy15' := idx_some hy15
              obtain ⟨v16, hv16, hM⟩ := bind_some' hM
              refine tr_sr hT hm [(6, .val (.sl y14.length 0 (y14.flatMap eI.b))), (13, .val (.sl y15.length 0 (y15.flatMap eI.b))), (14, .call [] [] [.sl y14.length 0 (y14.flatMap eI.b), .sl y15.length 0 (y15.flatMap eI.b)] [] (bv v16))] [0, 2, 136, 138, 174] [(0, .d (.pt (eXCategory.b a0) 0)), (2, .d (.pt (eXCategory.b a1) 0)), (136, .d (iv (a0.Composites.length : Int))), (138, .d (iv s9)), (174, .d (bv (!v16)))] (.cons hy14'.1 (.cons hy14'.2.1 (.cons (at_b0 (eS_ok eI_ok) hy14'.2.2 (d := .sl y14.length 0 (y14.flatMap eI.b)) (by kernel_rfl)) (.cons hy15'.1 (.cons hy15'.2.1 (.cons (at_b0 (eS_ok eI_ok) hy15'.2.2 (d := .sl y15.length 0 (y15.flatMap eI.b)) (by kernel_rfl)) (cc0 ok176 (impl_same_c y14 y15 _ hv16) (by kernel_rfl) .nil))))))) (by kernel_rfl) (by kernel_rfl) ?_
              rcases Bool.eq_false_or_eq_true v16 with h17 | h17
              · have hM := ite_true' hM h17
                refine tr_condFe (e := !v16) (congrArg not h17) (by kernel_rfl) ?_
                refine tr_skip (b_n (q_n ?_))
                refine tr_r hT hm [] [0, 2, 136, 138] [(0, .d (.pt (eXCategory.b a0) 0)), (2, .d (.pt (eXCategory.b a1) 0)), (136, .d (iv (a0.Composites.length : Int))), (138, .d (iv (IntKind.i64.wrap (s9 + 1))))] .nil (by kernel_rfl) (by kernel_rfl) (l_n ?_)
                exact trl_start (ks := [0, 2, 136, 138]) (by kernel_rfl) (ih11 (IntKind.i64.wrap (s9 + 1)) hM)
              · have hM := ite_false' hM h17
                refine tr_condTe (e := !v16) (congrArg not h17) (by kernel_rfl) ?_
                refine tr_sr hT hm [] [8] [(8, .d (bv false))] .nil (by kernel_rfl) (by kernel_rfl) ?_
                refine tr_ret (b_r (q_r (l_r (b_r (q_r (rg_r ?_))))))
                obtain rfl := Option.some.inj hM
                exact retg (names := []) .nil (by kernel_rfl)
            · have hM := ite_false' hM h13
              refine tr_condFe (e := decide (s9 < (a0.Composites.length : Int))) h13 (by kernel_rfl) ?_
              refine tr_exit (q_x (l_x (b_h (q_n ?_))))
              refine tr_sr hT hm [] [8] [(8, .d (bv true))] .nil (by kernel_rfl) (by kernel_rfl) ?_
              refine tr_ret (rg_r ?_)
              obtain rfl := Option.some.inj hM
              exact retg (names := []) .nil (by kernel_rfl)
        · have hM := ite_false' hM h7
          refine tr_sr hT hm [(9, .val (bv false)), (18, .call [] [] [.sl a0.From.length 0 (a0.From.flatMap eI.b), .sl a1.From.length 0 (a1.From.flatMap eI.b)] [] (bv v2)), (21, .val (bv false)), (30, .call [] [] [.sl a0.To.length 0 (a0.To.flatMap eI.b), .sl a1.To.length 0 (a1.To.flatMap eI.b)] [] (bv v4)), (33, .val (bv false)), (42, .call [] [] [.sl a0.Identity.length 0 (a0.Identity.flatMap eI.b), .sl a1.Identity.length 0 (a1.Identity.flatMap eI.b)] [] (bv v6)), (45, .val (bv true))] [0, 2, 126] [(0, .d (.pt (eXCategory.b a0) 0)), (2, .d (.pt (eXCategory.b a1) 0)), (126, .d (bv true))] (.cons (congrArg (fun b => bv b) h1) (cc0 ok176 (impl_same_c a0.From a1.From _ hv2) (by kernel_rfl) (.cons (congrArg (fun b => bv b) (congrArg not h3)) (cc0 ok176 (impl_same_c a0.To a1.To _ hv4) (by kernel_rfl) (.cons (congrArg (fun b => bv b) (congrArg not h5)) (cc0 ok176 (impl_same_c a0.Identity a1.Identity _ hv6) (by kernel_rfl) (.cons (congrArg (fun b => bv b) (congrArg not h7)) .nil))))))) (by kernel_rfl) (by kernel_rfl) ?_
          refine tr_condT (by kernel_rfl) ?_
          refine tr_sr hT hm [] [8] [(8, .d (bv false))] .nil (by kernel_rfl) (by kernel_rfl) ?_
          refine tr_ret (q_r (rg_r ?_))
          obtain rfl := Option.some.inj hM
          exact retg (names := []) .nil (by kernel_rfl)
      · have hM := ite_false' hM h5
        refine tr_sr hT hm [(9, .val (bv false)), (18, .call [] [] [.sl a0.From.length 0 (a0.From.flatMap eI.b), .sl a1.From.length 0 (a1.From.flatMap eI.b)] [] (bv v2)), (21, .val (bv false)), (30, .call [] [] [.sl a0.To.length 0 (a0.To.flatMap eI.b), .sl a1.To.length 0 (a1.To.flatMap eI.b)] [] (bv v4)), (33, .val (bv true))] [0, 2, 126] [(0, .d (.pt (eXCategory.b a0) 0)), (2, .d (.pt (eXCategory.b a1) 0)), (126, .d (bv true))] (.cons (congrArg (fun b => bv b) h1) (cc0 ok176 (impl_same_c a0.From a1.From _ hv2) (by kernel_rfl) (.cons (congrArg (fun b => bv b) (congrArg not h3)) (cc0 ok176 (impl_same_c a0.To a1.To _ hv4) (by kernel_rfl) (.cons (congrArg (fun b => bv b) (congrArg not h5)) .nil))))) (by kernel_rfl) (by kernel_rfl) ?_
        refine tr_condT (by kernel_rfl) ?_
        refine tr_sr hT hm [] [8] [(8, .d (bv false))] .nil (by kernel_rfl) (by kernel_rfl) ?_
        refine tr_ret (q_r (rg_r ?_))
        obtain rfl := Option.some.inj hM
        exact retg (names := []) .nil (by kernel_rfl)
    · have hM := ite_false' hM h3
      refine tr_sr hT hm [(9, .val (bv false)), (18, .call [] [] [.sl a0.From.length 0 (a0.From.flatMap eI.b), .sl a1.From.length 0 (a1.From.flatMap eI.b)] [] (bv v2)), (21, .val (bv true))] [0, 2, 126] [(0, .d (.pt (eXCategory.b a0) 0)), (2, .d (.pt (eXCategory.b a1) 0)), (126, .d (bv true))] (.cons (congrArg (fun b => bv b) h1) (cc0 ok176 (impl_same_c a0.From a1.From _ hv2) (by kernel_rfl) (.cons (congrArg (fun b => bv b) (congrArg not h3)) .nil))) (by kernel_rfl) (by kernel_rfl) ?_
      refine tr_condT (by kernel_rfl) ?_
      refine tr_sr hT hm [] [8] [(8, .d (bv false))] .nil (by kernel_rfl) (by kernel_rfl) ?_
      refine tr_ret (q_r (rg_r ?_))
      obtain rfl := Option.some.inj hM
      exact retg (names := []) .nil (by kernel_rfl)

theorem ok236 : CallOk Try.prog 236 := callOk_of Try.func236 (by kernel_rfl) (by kernel_rfl)
theorem impl_parallelFunctors_c (a0 : XFunctor) (a1 : XFunctor) (r : Bool) (hM : M.impl_parallelFunctors a0 a1 = some r) :
    FnC Try.prog 236 [] [.pt (eXFunctor.b a0) 0, .pt (eXFunctor.b a1) 0] [] (bv r) := by
  refine fnc_startG (N := 21) (np := 500) hT Try.func236 rfl rfl (by kernel_rfl) ?_
  unfold M.impl_parallelFunctors at hM
  refine tr_start (ks := [0, 2]) (st' := [(0, .d (.pt (eXFunctor.b a0) 0)), (2, .d (.pt (eXFunctor.b a1) 0))]) (by kernel_rfl) ?_
  refine tr_sr hT hm [] [0, 2] [(0, .d (.pt (eXFunctor.b a0) 0)), (2, .d (.pt (eXFunctor.b a1) 0))] .nil (by kernel_rfl) (by kernel_rfl) ?_
  obtain ⟨v1, hv1, hM⟩ := bind_some' hM
  rcases Bool.eq_false_or_eq_true v1 with h2 | h2
  · have hM := ite_true' hM h2
    obtain ⟨v3, hv3, hM⟩ := bind_some' hM
    refine tr_sr hT hm [(6, .call [] [] [.pt (eXCategory.b a0.Source) 0, .pt (eXCategory.b a1.Source) 0] [] (bv v1)), (7, .val (bv true)), (14, .call [] [] [.pt (eXCategory.b a0.Target) 0, .pt (eXCategory.b a1.Target) 0] [] (bv v3))] [8] [(8, .d (bv v3))] (cc (B := []) (ρ := []) (rB := []) ok107 (impl_sameCategory_c a0.Source a1.Source _ hv1) (.cons (.pass (.ptk (ds := eXFunctor.b a0) (ds' := eXCategory.b a0.Source) (off := 0) (n := 5) (by kernel_rfl) (by kernel_rfl) (by kernel_rfl))) (.cons (.pass (.ptk (ds := eXFunctor.b a1) (ds' := eXCategory.b a1.Source) (off := 0) (n := 5) (by kernel_rfl) (by kernel_rfl) (by kernel_rfl))) .nil)) (.inl rfl) (.cons (congrArg (fun b => bv b) h2) (cc (B := []) (ρ := []) (rB := []) ok107 (impl_sameCategory_c a0.Target a1.Target _ hv3) (.cons (.pass (.ptk (ds := eXFunctor.b a0) (ds' := eXCategory.b a0.Target) (off := 5) (n := 5) (by kernel_rfl) (by kernel_rfl) (by kernel_rfl))) (.cons (.pass (.ptk (ds := eXFunctor.b a1) (ds' := eXCategory.b a1.Target) (off := 5) (n := 5) (by kernel_rfl) (by kernel_rfl) (by kernel_rfl))) .nil)) (.inl rfl) .nil))) (by kernel_rfl) (by kernel_rfl) ?_
    refine tr_ret (rg_r ?_)
    obtain rfl := Option.some.inj hM
    exact retg (names := []) .nil (by kernel_rfl)
  · have hM := ite_false' hM h2
    refine tr_sr hT hm [(6, .call [] [] [.pt (eXCategory.b a0.Source) 0, .pt (eXCategory.b a1.Source) 0] [] (bv v1)), (7, .val (bv false))] [8] [(8, .d (bv false))] (cc (B := []) (ρ := []) (rB := []) ok107 (impl_sameCategory_c a0.Source a1.Source _ hv1) (.cons (.pass (.ptk (ds := eXFunctor.b a0) (ds' := eXCategory.b a0.Source) (off := 0) (n := 5) (by kernel_rfl) (by kernel_rfl) (by kernel_rfl))) (.cons (.pass (.ptk (ds := eXFunctor.b a1) (ds' := eXCategory.b a1.Source) (off := 0) (n := 5) (by kernel_rfl) (by kernel_rfl) (by kernel_rfl))) .nil)) (.inl rfl) (.cons (congrArg (fun b => bv b) h2) .nil)) (by kernel_rfl) (by kernel_rfl) ?_
    refine tr_ret (rg_r ?_)
    obtain rfl := Option.some.inj hM
    exact retg (names := []) .nil (by kernel_rfl)

theorem ok222 : CallOk Try.prog 222 := callOk_of Try.func222 (by kernel_rfl) (by kernel_rfl)
theorem impl_Transformation_isShape_c (a0 : XTransformation) (r : Bool) (hM : M.impl_Transformation_isShape a0 = some r) :
    FnC Try.prog 222 [] [.pt (eXTransformation.b a0) 0] [] (bv r) := by
  refine fnc_startG (N := 81) (np := 500) hT Try.func222 rfl rfl (by kernel_rfl) ?_
  unfold M.impl_Transformation_isShape at hM
  refine tr_start (ks := [0]) (st' := [(0, .d (.pt (eXTransformation.b a0) 0))]) (by kernel_rfl) ?_
  refine tr_sr hT hm [] [0] [(0, .d (.pt (eXTransformation.b a0) 0))] .nil (by kernel_rfl) (by kernel_rfl) ?_
  refine tr_sr hT hm [] [0, 6, 8] [(0, .d (.pt (eXTransformation.b a0) 0)), (6, .d (.pt (eXTransformation.b a0) 0)), (8, .d (.pt (eXTransformation.b a0) 12))] .nil (by kernel_rfl) (by kernel_rfl) ?_
  refine tr_seq ?_
  obtain ⟨v1, hv1, hM⟩ := bind_some' hM
  rcases Bool.eq_false_or_eq_true v1 with h2 | h2
  · have hM := ite_true' hM h2
    obtain ⟨v3, hv3, hM⟩ := bind_some' hM
    rcases Bool.eq_false_or_eq_true v3 with h4 | h4
    · have hM := ite_true' hM h4
      rcases Bool.eq_false_or_eq_true ((a0.Components.length : Int) != a0.Source.Source.Objects) with h5 | h5
      · have hM := ite_true' hM h5
        refine tr_sr hT hm [(3, .call [1015] [] [.sl ([a0.Source, a0.Target] : List XFunctor).length 0 (([a0.Source, a0.Target] : List XFunctor).flatMap (eP eXFunctor).b)] [] (bv v1)), (5, .val (bv false)), (8, .call [] [] [.pt (eXFunctor.b a0.Source) 0, .pt (eXFunctor.b a0.Target) 0] [] (bv v3)), (11, .val (bv false)), (24, .val (bv true))] [0, 6, 8, 96] [(0, .d (.pt (eXTransformation.b a0) 0)), (6, .d (.pt (eXTransformation.b a0) 0)), (8, .d (.pt (eXTransformation.b a0) 12)), (96, .d (bv true))] (cc (B := [1015]) (ρ := []) (rB := [(1015, .arr 1 [.pt (eXTransformation.b a0) 0, .pt (eXTransformation.b a0) 12] [])]) ok235 (impl_areFunctors_c ([a0.Source, a0.Target] : List XFunctor) _ hv1) (.cons (.of1 (.rs (r := 1015) (sz := 1) (cells := [.pt (eXTransformation.b a0) 0, .pt (eXTransformation.b a0) 12]) (refs := []) (memB (by kernel_rfl)) (by kernel_rfl) (.cons (.ptk (ds := eXTransformation.b a0) (ds' := eXFunctor.b a0.Source) (off := 0) (n := 12) (by kernel_rfl) (by kernel_rfl) (by kernel_rfl)) (.cons (.ptk (ds := eXTransformation.b a0) (ds' := eXFunctor.b a0.Target) (off := 12) (n := 12) (by kernel_rfl) (by kernel_rfl) (by kernel_rfl)) .nil)))) .nil) (.inr ⟨.v, trivial⟩) (.cons (congrArg (fun b => bv b) (congrArg not h2)) (cc (B := []) (ρ := []) (rB := []) ok236 (impl_parallelFunctors_c a0.Source a0.Target _ hv3) (.cons (.pass (.ptk (ds := eXTransformation.b a0) (ds' := eXFunctor.b a0.Source) (off := 0) (n := 12) (by kernel_rfl) (by kernel_rfl) (by kernel_rfl))) (.cons (.pass (.ptk (ds := eXTransformation.b a0) (ds' := eXFunctor.b a0.Target) (off := 12) (n := 12) (by kernel_rfl) (by kernel_rfl) (by kernel_rfl))) .nil)) (.inl rfl) (.cons (congrArg (fun b => bv b) (congrArg not h4)) (.cons (congrArg (fun b => bv b) h5) .nil))))) (by kernel_rfl) (by kernel_rfl) ?_
        refine tr_condT (by kernel_rfl) ?_
        refine tr_sr hT hm [] [4] [(4, .d (bv false))] .nil (by kernel_rfl) (by kernel_rfl) ?_
        refine tr_ret (q_r (rg_r ?_))
        obtain rfl := Option.some.inj hM
        exact retg (names := []) .nil (by kernel_rfl)
      · have hM := ite_false' hM h5
        obtain ⟨v6, hv6, hM⟩ := bind_some' hM
        obtain ⟨v7, hv7, hM⟩ := bind_some' hM
        refine tr_sr hT hm [(3, .call [1015] [] [.sl ([a0.Source, a0.Target] : List XFunctor).length 0 (([a0.Source, a0.Target] : List XFunctor).flatMap (eP eXFunctor).b)] [] (bv v1)), (5, .val (bv false)), (8, .call [] [] [.pt (eXFunctor.b a0.Source) 0, .pt (eXFunctor.b a0.Target) 0] [] (bv v3)), (11, .val (bv false)), (24, .val (bv false)), (32, .call [] [] [.pt (eXCategory.b a0.Source.Target) 0] [] (iv v6)), (33, .call [] [] [.sl a0.Components.length 0 (a0.Components.flatMap eI.b), iv v6] [] (bv v7))] [0, 6, 8, 96] [(0, .d (.pt (eXTransformation.b a0) 0)), (6, .d (.pt (eXTransformation.b a0) 0)), (8, .d (.pt (eXTransformation.b a0) 12)), (96, .d (bv (!v7)))] (cc (B := [1015]) (ρ := []) (rB := [(1015, .arr 1 [.pt (eXTransformation.b a0) 0, .pt (eXTransformation.b a0) 12] [])]) ok235 (impl_areFunctors_c ([a0.Source, a0.Target] : List XFunctor) _ hv1) (.cons (.of1 (.rs (r := 1015) (sz := 1) (cells := [.pt (eXTransformation.b a0) 0, .pt (eXTransformation.b a0) 12]) (refs := []) (memB (by kernel_rfl)) (by kernel_rfl) (.cons (.ptk (ds := eXTransformation.b a0) (ds' := eXFunctor.b a0.Source) (off := 0) (n := 12) (by kernel_rfl) (by kernel_rfl) (by kernel_rfl)) (.cons (.ptk (ds := eXTransformation.b a0) (ds' := eXFunctor.b a0.Target) (off := 12) (n := 12) (by kernel_rfl) (by kernel_rfl) (by kernel_rfl)) .nil)))) .nil) (.inr ⟨.v, trivial⟩) (.cons (congrArg (fun b => bv b) (congrArg not h2)) (cc (B := []) (ρ := []) (rB := []) ok236 (impl_parallelFunctors_c a0.Source a0.Target _ hv3) (.cons (.pass (.ptk (ds := eXTransformation.b a0) (ds' := eXFunctor.b a0.Source) (off := 0) (n := 12) (by kernel_rfl) (by kernel_rfl) (by kernel_rfl))) (.cons (.pass (.ptk (ds := eXTransformation.b a0) (ds' := eXFunctor.b a0.Target) (off := 12) (n := 12) (by kernel_rfl) (by kernel_rfl) (by kernel_rfl))) .nil)) (.inl rfl) (.cons (congrArg (fun b => bv b) (congrArg not h4)) (.cons (congrArg (fun b => bv b) h5) (cc (B := []) (ρ := []) (rB := []) ok160 (impl_Category_arrows_c a0.Source.Target _ hv6) (.cons (.pass (.ptk (ds := eXTransformation.b a0) (ds' := eXCategory.b a0.Source.Target) (off := 5) (n := 5) (by kernel_rfl) (by kernel_rfl) (by kernel_rfl))) .nil) (.inl rfl) (cc0 ok159 (impl_within_c a0.Components v6 _ hv7) (by kernel_rfl) .nil))))))) (by kernel_rfl) (by kernel_rfl) ?_
        rcases Bool.eq_false_or_eq_true v7 with h8 | h8
        · have hM := ite_true' hM h8
          refine tr_condFe (e := !v7) (congrArg not h8) (by kernel_rfl) ?_
          refine tr_skip (q_n ?_)
          refine tr_seq ?_
          refine tr_sr hT hm [] [6, 8, 104, 106, 108] [(6, .d (.pt (eXTransformation.b a0) 0)), (8, .d (.pt (eXTransformation.b a0) 12)), (104, .d (.sl a0.Components.length 0 (a0.Components.flatMap eI.b))), (106, .d (iv (a0.Components.length : Int))), (108, .d (iv 0))] .nil (by kernel_rfl) (by kernel_rfl) ?_
          refine tr_block ?_
          refine tr_iterS (fun (s9 : Int) => [(6, .d (.pt (eXTransformation.b a0) 0)), (8, .d (.pt (eXTransformation.b a0) 12)), (104, .d (.sl a0.Components.length 0 (a0.Components.flatMap eI.b))), (106, .d (iv (a0.Components.length : Int))), (108, .d (iv s9))]) 0 [6, 8, 104, 106, 108] (by kernel_rfl) hM ?_
          intro n12 next10 ih11 s9 hM
          refine tr_sr hT hm [] [6, 8, 104, 106, 108, 110] [(6, .d (.pt (eXTransformation.b a0) 0)), (8, .d (.pt (eXTransformation.b a0) 12)), (104, .d (.sl a0.Components.length 0 (a0.Components.flatMap eI.b))), (106, .d (iv (a0.Components.length : Int))), (108, .d (iv s9)), (110, .d (bv (decide (s9 < (a0.Components.length : Int)))))] .nil (by kernel_rfl) (by kernel_rfl) ?_
          refine tr_seq ?_
          rcases Bool.eq_false_or_eq_true (decide (s9 < (a0.Components.length : Int))) with h13 | h13
          · have hM := ite_true' hM h13
            refine tr_condTe (e := decide (s9 < (a0.Components.length : Int))) h13 (by kernel_rfl) ?_
            refine tr_skip (q_n ?_)
            refine tr_seq ?_
            refine tr_block ?_
            obtain ⟨y14, hy14, hM⟩ := bind_some' hM
            have hy14' := idx_some hy14
            refine tr_sr hT hm [(2, .val (iv y14))] [6, 8, 10, 12, 104, 106, 108] [(6, .d (.pt (eXTransformation.b a0) 0)), (8, .d (.pt (eXTransformation.b a0) 12)), (10, .d (iv s9)), (12, .d (iv y14)), (104, .d (.sl a0.Components.length 0 (a0.Components.flatMap eI.b))), (106, .d (iv (a0.Components.length : Int))), (108, .d (iv s9))] (.cons hy14'.1 (.cons hy14'.2.1 (.cons (at_b0 eI_ok hy14'.2.2 (d := iv y14) (by kernel_rfl)) .nil))) (by kernel_rfl) (by kernel_rfl) ?_
            obtain ⟨v15, hv15, hM⟩ := bind_some' hM
            obtain ⟨y16, hy16, hM⟩ := bind_some' hM
            have hy16' := idx_some hy16
            obtain ⟨y17, hy17, hM⟩ := bind_some' hM
            have hy17' := idx_some hy17
            refine tr_sr hT hm [(4, .call [] [] [.pt (eXCategory.b a0.Source.Target) 0, iv y14] [] (.agg (eXends.o v15))), (11, .val (iv y16)), (18, .val (iv y17))] [6, 8, 104, 106, 108, 158] [(6, .d (.pt (eXTransformation.b a0) 0)), (8, .d (.pt (eXTransformation.b a0) 12)), (104, .d (.sl a0.Components.length 0 (a0.Components.flatMap eI.b))), (106, .d (iv (a0.Components.length : Int))), (108, .d (iv s9)), (158, .d (bv (((v15.from_ == y16) && (v15.to_ == y17)) == false)))] (cc (B := []) (ρ := []) (rB := []) ok161 (impl_Category_ends_c a0.Source.Target y14 _ hv15) (.cons (.pass (.ptk (ds := eXTransformation.b a0) (ds' := eXCategory.b a0.Source.Target) (off := 5) (n := 5) (by kernel_rfl) (by kernel_rfl) (by kernel_rfl))) (.cons (.same rfl) .nil)) (.inl rfl) (.cons hy16'.1 (.cons hy16'.2.1 (.cons (at_b0 eI_ok hy16'.2.2 (d := iv y16) (by kernel_rfl)) (.cons hy17'.1 (.cons hy17'.2.1 (.cons (at_b0 eI_ok hy17'.2.2 (d := iv y17) (by kernel_rfl)) (.cons (by kernel_rfl : Try.prog.stoodInHeld 193 = false) (.cons (by kernel_rfl : Try.prog.eqGuardType Try.prog.depth 193 = false) .nil))))))))) (by kernel_rfl) (by kernel_rfl) ?_
            rcases Bool.eq_false_or_eq_true (((v15.from_ == y16) && (v15.to_ == y17)) == false) with h18 | h18
            · have hM := ite_true' hM h18
              refine tr_condTe (e := ((v15.from_ == y16) && (v15.to_ == y17)) == false) h18 (by kernel_rfl) ?_
              refine tr_sr hT hm [] [4] [(4, .d (bv false))] .nil (by kernel_rfl) (by kernel_rfl) ?_
              refine tr_ret (b_r (q_r (l_r (b_r (q_r (rg_r ?_))))))
              obtain rfl := Option.some.inj hM
              exact retg (names := []) .nil (by kernel_rfl)
            · have hM := ite_false' hM h18
              refine tr_condFe (e := ((v15.from_ == y16) && (v15.to_ == y17)) == false) h18 (by kernel_rfl) ?_
              refine tr_skip (b_n (q_n ?_))
              refine tr_r hT hm [] [6, 8, 104, 106, 108] [(6, .d (.pt (eXTransformation.b a0) 0)), (8, .d (.pt (eXTransformation.b a0) 12)), (104, .d (.sl a0.Components.length 0 (a0.Components.flatMap eI.b))), (106, .d (iv (a0.Components.length : Int))), (108, .d (iv (IntKind.i64.wrap (s9 + 1))))] .nil (by kernel_rfl) (by kernel_rfl) (l_n ?_)
              exact trl_start (ks := [6, 8, 104, 106, 108]) (by kernel_rfl) (ih11 (IntKind.i64.wrap (s9 + 1)) hM)
          · have hM := ite_false' hM h13
            refine tr_condFe (e := decide (s9 < (a0.Components.length : Int))) h13 (by kernel_rfl) ?_
            refine tr_exit (q_x (l_x (b_h (q_n ?_))))
            refine tr_sr hT hm [] [4] [(4, .d (bv true))] .nil (by kernel_rfl) (by kernel_rfl) ?_
            refine tr_ret (rg_r ?_)
            obtain rfl := Option.some.inj hM
            exact retg (names := []) .nil (by kernel_rfl)
        · have hM := ite_false' hM h8
          refine tr_condTe (e := !v7) (congrArg not h8) (by kernel_rfl) ?_
          refine tr_sr hT hm [] [4] [(4, .d (bv false))] .nil (by kernel_rfl) (by kernel_rfl) ?_
          refine tr_ret (q_r (rg_r ?_))
          obtain rfl := Option.some.inj hM
          exact retg (names := []) .nil (by kernel_rfl)
    · have hM := ite_false' hM h4
      refine tr_sr hT hm [(3, .call [1015] [] [.sl ([a0.Source, a0.Target] : List XFunctor).length 0 (([a0.Source, a0.Target] : List XFunctor).flatMap (eP eXFunctor).b)] [] (bv v1)), (5, .val (bv false)), (8, .call [] [] [.pt (eXFunctor.b a0.Source) 0, .pt (eXFunctor.b a0.Target) 0] [] (bv v3)), (11, .val (bv true))] [0, 6, 8, 96] [(0, .d (.pt (eXTransformation.b a0) 0)), (6, .d (.pt (eXTransformation.b a0) 0)), (8, .d (.pt (eXTransformation.b a0) 12)), (96, .d (bv true))] (cc (B := [1015]) (ρ := []) (rB := [(1015, .arr 1 [.pt (eXTransformation.b a0) 0, .pt (eXTransformation.b a0) 12] [])]) ok235 (impl_areFunctors_c ([a0.Source, a0.Target] : List XFunctor) _ hv1) (.cons (.of1 (.rs (r := 1015) (sz := 1) (cells := [.pt (eXTransformation.b a0) 0, .pt (eXTransformation.b a0) 12]) (refs := []) (memB (by kernel_rfl)) (by kernel_rfl) (.cons (.ptk (ds := eXTransformation.b a0) (ds' := eXFunctor.b a0.Source) (off := 0) (n := 12) (by kernel_rfl) (by kernel_rfl) (by kernel_rfl)) (.cons (.ptk (ds := eXTransformation.b a0) (ds' := eXFunctor.b a0.Target) (off := 12) (n := 12) (by kernel_rfl) (by kernel_rfl) (by kernel_rfl)) .nil)))) .nil) (.inr ⟨.v, trivial⟩) (.cons (congrArg (fun b => bv b) (congrArg not h2)) (cc (B := []) (ρ := []) (rB := []) ok236 (impl_parallelFunctors_c a0.Source a0.Target _ hv3) (.cons (.pass (.ptk (ds := eXTransformation.b a0) (ds' := eXFunctor.b a0.Source) (off := 0) (n := 12) (by kernel_rfl) (by kernel_rfl) (by kernel_rfl))) (.cons (.pass (.ptk (ds := eXTransformation.b a0) (ds' := eXFunctor.b a0.Target) (off := 12) (n := 12) (by kernel_rfl) (by kernel_rfl) (by kernel_rfl))) .nil)) (.inl rfl) (.cons (congrArg (fun b => bv b) (congrArg not h4)) .nil)))) (by kernel_rfl) (by kernel_rfl) ?_
      refine tr_condT (by kernel_rfl) ?_
      refine tr_sr hT hm [] [4] [(4, .d (bv false))] .nil (by kernel_rfl) (by kernel_rfl) ?_
      refine tr_ret (q_r (rg_r ?_))
      obtain rfl := Option.some.inj hM
      exact retg (names := []) .nil (by kernel_rfl)
  · have hM := ite_false' hM h2
    refine tr_sr hT hm [(3, .call [1015] [] [.sl ([a0.Source, a0.Target] : List XFunctor).length 0 (([a0.Source, a0.Target] : List XFunctor).flatMap (eP eXFunctor).b)] [] (bv v1)), (5, .val (bv true))] [0, 6, 8, 96] [(0, .d (.pt (eXTransformation.b a0) 0)), (6, .d (.pt (eXTransformation.b a0) 0)), (8, .d (.pt (eXTransformation.b a0) 12)), (96, .d (bv true))] (cc (B := [1015]) (ρ := []) (rB := [(1015, .arr 1 [.pt (eXTransformation.b a0) 0, .pt (eXTransformation.b a0) 12] [])]) ok235 (impl_areFunctors_c ([a0.Source, a0.Target] : List XFunctor) _ hv1) (.cons (.of1 (.rs (r := 1015) (sz := 1) (cells := [.pt (eXTransformation.b a0) 0, .pt (eXTransformation.b a0) 12]) (refs := []) (memB (by kernel_rfl)) (by kernel_rfl) (.cons (.ptk (ds := eXTransformation.b a0) (ds' := eXFunctor.b a0.Source) (off := 0) (n := 12) (by kernel_rfl) (by kernel_rfl) (by kernel_rfl)) (.cons (.ptk (ds := eXTransformation.b a0) (ds' := eXFunctor.b a0.Target) (off := 12) (n := 12) (by kernel_rfl) (by kernel_rfl) (by kernel_rfl)) .nil)))) .nil) (.inr ⟨.v, trivial⟩) (.cons (congrArg (fun b => bv b) (congrArg not h2)) .nil)) (by kernel_rfl) (by kernel_rfl) ?_
    refine tr_condT (by kernel_rfl) ?_
    refine tr_sr hT hm [] [4] [(4, .d (bv false))] .nil (by kernel_rfl) (by kernel_rfl) ?_
    refine tr_ret (q_r (rg_r ?_))
    obtain rfl := Option.some.inj hM
    exact retg (names := []) .nil (by kernel_rfl)

theorem ok223 : CallOk Try.prog 223 := callOk_of Try.func223 (by kernel_rfl) (by kernel_rfl)
theorem impl_firstFailure_c (a0 : XTransformation) (f1 : Nat) (c1 : List D) (a1 : XFunctor → XFunctor → (List Int) → Int → Option Bool) (ok1_ : CallOk Try.prog f1) (hm1 : menL c1 = []) (hf1 : ∀ x0 x1 x2 x3 r, a1 x0 x1 x2 x3 = some r → FnC Try.prog f1 [] ([.pt (eXFunctor.b x0) 0, .pt (eXFunctor.b x1) 0, .sl x2.length 0 (x2.flatMap eI.b), iv x3] ++ c1) [] (bv r)) (r : Int) (hM : M.impl_firstFailure a0 a1 = some r) :
    FnC Try.prog 223 [] [.pt (eXTransformation.b a0) 0, .fb f1 c1] [] (iv r) := by
  refine fnc_startG (N := 31) (np := 500) hT Try.func223 rfl rfl (by kernel_rfl) ?_
  unfold M.impl_firstFailure at hM
  refine tr_start (ks := [0, 2]) (st' := [(0, .d (.pt (eXTransformation.b a0) 0)), (2, .d (.fb f1 c1))]) (by kernel_rfl) ?_
  refine tr_sr hT hm [] [0, 2] [(0, .d (.pt (eXTransformation.b a0) 0)), (2, .d (.fb f1 c1))] .nil (by kernel_rfl) (by kernel_rfl) ?_
  refine tr_seq ?_
  refine tr_sr hT hm [] [0, 2, 22, 24] [(0, .d (.pt (eXTransformation.b a0) 0)), (2, .d (.fb f1 c1)), (22, .d (iv (a0.Source.Arrows.length : Int))), (24, .d (iv 0))] .nil (by kernel_rfl) (by kernel_rfl) ?_
  refine tr_block ?_
  refine tr_iterS (fun (s1 : Int) => [(0, .d (.pt (eXTransformation.b a0) 0)), (2, .d (.fb f1 c1)), (22, .d (iv (a0.Source.Arrows.length : Int))), (24, .d (iv s1))]) 0 [0, 2, 22, 24] (by kernel_rfl) hM ?_
  intro n4 next2 ih3 s1 hM
  refine tr_sr hT hm [] [0, 2, 22, 24, 26] [(0, .d (.pt (eXTransformation.b a0) 0)), (2, .d (.fb f1 c1)), (22, .d (iv (a0.Source.Arrows.length : Int))), (24, .d (iv s1)), (26, .d (bv (decide (s1 < (a0.Source.Arrows.length : Int)))))] .nil (by kernel_rfl) (by kernel_rfl) ?_
  refine tr_seq ?_
  rcases Bool.eq_false_or_eq_true (decide (s1 < (a0.Source.Arrows.length : Int))) with h5 | h5
  · have hM := ite_true' hM h5
    refine tr_condTe (e := decide (s1 < (a0.Source.Arrows.length : Int))) h5 (by kernel_rfl) ?_
    refine tr_skip (q_n ?_)
    refine tr_seq ?_
    refine tr_block ?_
    refine tr_sr hT hm [] [0, 2, 10, 22, 24] [(0, .d (.pt (eXTransformation.b a0) 0)), (2, .d (.fb f1 c1)), (10, .d (iv s1)), (22, .d (iv (a0.Source.Arrows.length : Int))), (24, .d (iv s1))] .nil (by kernel_rfl) (by kernel_rfl) ?_
    obtain ⟨v6, hv6, hM⟩ := bind_some' hM
    refine tr_sr hT hm [(12, .call [] [] ([.pt (eXFunctor.b a0.Source) 0, .pt (eXFunctor.b a0.Target) 0, .sl a0.Components.length 0 (a0.Components.flatMap eI.b), iv s1] ++ c1) [] (bv v6))] [0, 2, 10, 22, 24, 56] [(0, .d (.pt (eXTransformation.b a0) 0)), (2, .d (.fb f1 c1)), (10, .d (iv s1)), (22, .d (iv (a0.Source.Arrows.length : Int))), (24, .d (iv s1)), (56, .d (bv (!v6)))] (cc (B := []) (ρ := []) (rB := []) ok1_ (hf1 a0.Source a0.Target a0.Components s1 _ hv6) (.cons (.pass (.ptk (ds := eXTransformation.b a0) (ds' := eXFunctor.b a0.Source) (off := 0) (n := 12) (by kernel_rfl) (by kernel_rfl) (by kernel_rfl))) (.cons (.pass (.ptk (ds := eXTransformation.b a0) (ds' := eXFunctor.b a0.Target) (off := 12) (n := 12) (by kernel_rfl) (by kernel_rfl) (by kernel_rfl))) (.cons (.same rfl) (.cons (.same rfl) (.keep hm1))))) (.inl rfl) .nil) (by kernel_rfl) (by kernel_rfl) ?_
    rcases Bool.eq_false_or_eq_true v6 with h7 | h7
    · have hM := ite_true' hM h7
      refine tr_condFe (e := !v6) (congrArg not h7) (by kernel_rfl) ?_
      refine tr_skip (b_n (q_n ?_))
      refine tr_r hT hm [] [0, 2, 22, 24] [(0, .d (.pt (eXTransformation.b a0) 0)), (2, .d (.fb f1 c1)), (22, .d (iv (a0.Source.Arrows.length : Int))), (24, .d (iv (IntKind.i64.wrap (s1 + 1))))] .nil (by kernel_rfl) (by kernel_rfl) (l_n ?_)
      exact trl_start (ks := [0, 2, 22, 24]) (by kernel_rfl) (ih3 (IntKind.i64.wrap (s1 + 1)) hM)
    · have hM := ite_false' hM h7
      refine tr_condTe (e := !v6) (congrArg not h7) (by kernel_rfl) ?_
      refine tr_sr hT hm [] [8] [(8, .d (iv s1))] .nil (by kernel_rfl) (by kernel_rfl) ?_
      refine tr_ret (b_r (q_r (l_r (b_r (q_r (rg_r ?_))))))
      obtain rfl := Option.some.inj hM
      exact retg (names := []) .nil (by kernel_rfl)
  · have hM := ite_false' hM h5
    refine tr_condFe (e := decide (s1 < (a0.Source.Arrows.length : Int))) h5 (by kernel_rfl) ?_
    refine tr_exit (q_x (l_x (b_h (q_n ?_))))
    refine tr_sr hT hm [] [8] [(8, .d (iv (-1)))] .nil (by kernel_rfl) (by kernel_rfl) ?_
    refine tr_ret (rg_r ?_)
    obtain rfl := Option.some.inj hM
    exact retg (names := []) .nil (by kernel_rfl)

theorem ok224 : CallOk Try.prog 224 := callOk_of Try.func224 (by kernel_rfl) (by kernel_rfl)
theorem impl_commutes_c (a0 : XFunctor) (a1 : XFunctor) (a2 : List Int) (a3 : Int) (r : Bool) (hM : M.impl_commutes a0 a1 a2 a3 = some r) :
    FnC Try.prog 224 [] [.pt (eXFunctor.b a0) 0, .pt (eXFunctor.b a1) 0, .sl a2.length 0 (a2.flatMap eI.b), iv a3] [] (bv r) := by
  refine fnc_startG (N := 56) (np := 500) hT Try.func224 rfl rfl (by kernel_rfl) ?_
  unfold M.impl_commutes at hM
  refine tr_start (ks := [0, 2, 4, 6]) (st' := [(0, .d (.pt (eXFunctor.b a0) 0)), (2, .d (.pt (eXFunctor.b a1) 0)), (4, .d (.sl a2.length 0 (a2.flatMap eI.b))), (6, .d (iv a3))]) (by kernel_rfl) ?_
  refine tr_sr hT hm [] [0, 2, 4, 6] [(0, .d (.pt (eXFunctor.b a0) 0)), (2, .d (.pt (eXFunctor.b a1) 0)), (4, .d (.sl a2.length 0 (a2.flatMap eI.b))), (6, .d (iv a3))] .nil (by kernel_rfl) (by kernel_rfl) ?_
  refine tr_sr hT hm [] [0, 2, 4, 6, 18, 20] [(0, .d (.pt (eXFunctor.b a0) 0)), (2, .d (.pt (eXFunctor.b a1) 0)), (4, .d (.sl a2.length 0 (a2.flatMap eI.b))), (6, .d (iv a3)), (18, .d (.pt (eXFunctor.b a0) 0)), (20, .d (.pt (eXFunctor.b a0) 5))] .nil (by kernel_rfl) (by kernel_rfl) ?_
  obtain ⟨y1, hy1, hM⟩ := bind_some' hM
  have hy1' := idx_some hy1
  obtain ⟨y2, hy2, hM⟩ := bind_some' hM
  have hy2' := idx_some hy2
  obtain ⟨y3, hy3, hM⟩ := bind_some' hM
  have hy3' := idx_some hy3
  obtain ⟨v4, hv4, hM⟩ := bind_some' hM
  obtain ⟨y5, hy5, hM⟩ := bind_some' hM
  have hy5' := idx_some hy5
  obtain ⟨y6, hy6, hM⟩ := bind_some' hM
  have hy6' := idx_some hy6
  obtain ⟨y7, hy7, hM⟩ := bind_some' hM
  have hy7' := idx_some hy7
  obtain ⟨v8, hv8, hM⟩ := bind_some' hM
  refine tr_sr hT hm [(7, .val (iv y1)), (15, .val (iv y2)), (17, .val (iv y3)), (18, .call [] [] [.pt (eXCategory.b a0.Target) 0, iv y1, iv y3] [] (iv v4)), (27, .val (iv y5)), (29, .val (iv y6)), (36, .val (iv y7)), (37, .call [] [] [.pt (eXCategory.b a0.Target) 0, iv y6, iv y7] [] (iv v8))] [16] [(16, .d (bv (v4 == v8)))] (.cons hy1'.1 (.cons hy1'.2.1 (.cons (at_b0 eI_ok hy1'.2.2 (d := iv y1) (by kernel_rfl)) (.cons hy2'.1 (.cons hy2'.2.1 (.cons (at_b0 eI_ok hy2'.2.2 (d := iv y2) (by kernel_rfl)) (.cons hy3'.1 (.cons hy3'.2.1 (.cons (at_b0 eI_ok hy3'.2.2 (d := iv y3) (by kernel_rfl)) (cc (B := []) (ρ := []) (rB := []) ok162 (impl_Category_then_c a0.Target y1 y3 _ hv4) (.cons (.pass (.ptk (ds := eXFunctor.b a0) (ds' := eXCategory.b a0.Target) (off := 5) (n := 5) (by kernel_rfl) (by kernel_rfl) (by kernel_rfl))) (.cons (.same rfl) (.cons (.same rfl) .nil))) (.inl rfl) (.cons hy5'.1 (.cons hy5'.2.1 (.cons (at_b0 eI_ok hy5'.2.2 (d := iv y5) (by kernel_rfl)) (.cons hy6'.1 (.cons hy6'.2.1 (.cons (at_b0 eI_ok hy6'.2.2 (d := iv y6) (by kernel_rfl)) (.cons hy7'.1 (.cons hy7'.2.1 (.cons (at_b0 eI_ok hy7'.2.2 (d := iv y7) (by kernel_rfl)) (cc (B := []) (ρ := []) (rB := []) ok162 (impl_Category_then_c a0.Target y6 y7 _ hv8) (.cons (.pass (.ptk (ds := eXFunctor.b a0) (ds' := eXCategory.b a0.Target) (off := 5) (n := 5) (by kernel_rfl) (by kernel_rfl) (by kernel_rfl))) (.cons (.same rfl) (.cons (.same rfl) .nil))) (.inl rfl) .nil)))))))))))))))))))) (by kernel_rfl) (by kernel_rfl) ?_
  refine tr_ret (rg_r ?_)
  obtain rfl := Option.some.inj hM
  exact retg (names := []) .nil (by kernel_rfl)

theorem ok175 : CallOk Try.prog 175 := callOk_of Try.func175 (by kernel_rfl) (by kernel_rfl)
theorem impl_Transformation_isNatural_c (a0 : XTransformation) (r : Bool) (hM : M.impl_Transformation_isNatural a0 = some r) :
    FnC Try.prog 175 [] [.pt (eXTransformation.b a0) 0] [] (bv r) := by
  refine fnc_startG (N := 10) (np := 500) hT Try.func175 rfl rfl (by kernel_rfl) ?_
  unfold M.impl_Transformation_isNatural at hM
  refine tr_start (ks := [0]) (st' := [(0, .d (.pt (eXTransformation.b a0) 0))]) (by kernel_rfl) ?_
  refine tr_sr hT hm [] [0] [(0, .d (.pt (eXTransformation.b a0) 0))] .nil (by kernel_rfl) (by kernel_rfl) ?_
  obtain ⟨v1, hv1, hM⟩ := bind_some' hM
  rcases Bool.eq_false_or_eq_true v1 with h2 | h2
  · have hM := ite_true' hM h2
    obtain ⟨v3, hv3, hM⟩ := bind_some' hM
    refine tr_sr hT hm [(1, .call [] [] [.pt (eXTransformation.b a0) 0] [] (bv v1)), (2, .val (bv true)), (4, .call [] [] [.pt (eXTransformation.b a0) 0, .fb 224 []] [] (iv v3))] [4] [(4, .d (bv (decide (v3 < 0))))] (cc0 ok222 (impl_Transformation_isShape_c a0 _ hv1) (by kernel_rfl) (.cons (congrArg (fun b => bv b) h2) (cc (B := []) (ρ := []) (rB := []) ok223 (impl_firstFailure_c a0 224 ([] : List D) (fun (x0 : XFunctor) (x1 : XFunctor) (x2 : List Int) (x3 : Int) => M.impl_commutes x0 x1 x2 x3) ok224 (by kernel_rfl) (fun x0 x1 x2 x3 r h => impl_commutes_c x0 x1 x2 x3  r h) _ hv3) (.cons (.same rfl) (.cons (.fn .nil) .nil)) (.inl rfl) .nil))) (by kernel_rfl) (by kernel_rfl) ?_
    refine tr_ret (rg_r ?_)
    obtain rfl := Option.some.inj hM
    exact retg (names := []) .nil (by kernel_rfl)
  · have hM := ite_false' hM h2
    refine tr_sr hT hm [(1, .call [] [] [.pt (eXTransformation.b a0) 0] [] (bv v1)), (2, .val (bv false))] [4] [(4, .d (bv false))] (cc0 ok222 (impl_Transformation_isShape_c a0 _ hv1) (by kernel_rfl) (.cons (congrArg (fun b => bv b) h2) .nil)) (by kernel_rfl) (by kernel_rfl) ?_
    refine tr_ret (rg_r ?_)
    obtain rfl := Option.some.inj hM
    exact retg (names := []) .nil (by kernel_rfl)

theorem ok106 : CallOk Try.prog 106 := callOk_of Try.func106 (by kernel_rfl) (by kernel_rfl)
theorem impl_areNatural_c (a0 : List XTransformation) (r : Bool) (hM : M.impl_areNatural a0 = some r) :
    FnC Try.prog 106 [] [.sl a0.length 0 (a0.flatMap (eP eXTransformation).b)] [] (bv r) := by
  refine fnc_startG (N := 15) (np := 500) hT Try.func106 rfl rfl (by kernel_rfl) ?_
  unfold M.impl_areNatural at hM
  refine tr_start (ks := [0]) (st' := [(0, .d (.sl a0.length 0 (a0.flatMap (eP eXTransformation).b)))]) (by kernel_rfl) ?_
  refine tr_sr hT hm [] [0] [(0, .d (.sl a0.length 0 (a0.flatMap (eP eXTransformation).b)))] .nil (by kernel_rfl) (by kernel_rfl) ?_
  refine tr_seq ?_
  refine tr_sr hT hm [] [10, 12, 14] [(10, .d (.sl a0.length 0 (a0.flatMap (eP eXTransformation).b))), (12, .d (iv (a0.length : Int))), (14, .d (iv 0))] .nil (by kernel_rfl) (by kernel_rfl) ?_
  refine tr_block ?_
  refine tr_iterS (fun (s1 : Int) => [(10, .d (.sl a0.length 0 (a0.flatMap (eP eXTransformation).b))), (12, .d (iv (a0.length : Int))), (14, .d (iv s1))]) 0 [10, 12, 14] (by kernel_rfl) hM ?_
  intro n4 next2 ih3 s1 hM
  refine tr_sr hT hm [] [10, 12, 14, 16] [(10, .d (.sl a0.length 0 (a0.flatMap (eP eXTransformation).b))), (12, .d (iv (a0.length : Int))), (14, .d (iv s1)), (16, .d (bv (decide (s1 < (a0.length : Int)))))] .nil (by kernel_rfl) (by kernel_rfl) ?_
  refine tr_seq ?_
  rcases Bool.eq_false_or_eq_true (decide (s1 < (a0.length : Int))) with h5 | h5
  · have hM := ite_true' hM h5
    refine tr_condTe (e := decide (s1 < (a0.length : Int))) h5 (by kernel_rfl) ?_
    refine tr_skip (q_n ?_)
    refine tr_seq ?_
    refine tr_block ?_
    obtain ⟨y6, hy6, hM⟩ := bind_some' hM
    have hy6' := idx_some hy6
    refine tr_sr hT hm [(1, .val (.pt (eXTransformation.b y6) 0))] [8, 10, 12, 14] [(8, .d (.pt (eXTransformation.b y6) 0)), (10, .d (.sl a0.length 0 (a0.flatMap (eP eXTransformation).b))), (12, .d (iv (a0.length : Int))), (14, .d (iv s1))] (.cons hy6'.1 (.cons hy6'.2.1 (.cons (at_b0 (eP_ok (e := eXTransformation)) hy6'.2.2 (d := .pt (eXTransformation.b y6) 0) (by kernel_rfl)) .nil))) (by kernel_rfl) (by kernel_rfl) ?_
    obtain ⟨v7, hv7, hM⟩ := bind_some' hM
    refine tr_sr hT hm [(1, .call [] [] [.pt (eXTransformation.b y6) 0] [] (bv v7))] [10, 12, 14, 26] [(10, .d (.sl a0.length 0 (a0.flatMap (eP eXTransformation).b))), (12, .d (iv (a0.length : Int))), (14, .d (iv s1)), (26, .d (bv (!v7)))] (cc0 ok175 (impl_Transformation_isNatural_c y6 _ hv7) (by kernel_rfl) .nil) (by kernel_rfl) (by kernel_rfl) ?_
    rcases Bool.eq_false_or_eq_true v7 with h8 | h8
    · have hM := ite_true' hM h8
      refine tr_condFe (e := !v7) (congrArg not h8) (by kernel_rfl) ?_
      refine tr_skip (b_n (q_n ?_))
      refine tr_r hT hm [] [10, 12, 14] [(10, .d (.sl a0.length 0 (a0.flatMap (eP eXTransformation).b))), (12, .d (iv (a0.length : Int))), (14, .d (iv (IntKind.i64.wrap (s1 + 1))))] .nil (by kernel_rfl) (by kernel_rfl) (l_n ?_)
      exact trl_start (ks := [10, 12, 14]) (by kernel_rfl) (ih3 (IntKind.i64.wrap (s1 + 1)) hM)
    · have hM := ite_false' hM h8
      refine tr_condTe (e := !v7) (congrArg not h8) (by kernel_rfl) ?_
      refine tr_sr hT hm [] [4] [(4, .d (bv false))] .nil (by kernel_rfl) (by kernel_rfl) ?_
      refine tr_ret (b_r (q_r (l_r (b_r (q_r (rg_r ?_))))))
      obtain rfl := Option.some.inj hM
      exact retg (names := []) .nil (by kernel_rfl)
  · have hM := ite_false' hM h5
    refine tr_condFe (e := decide (s1 < (a0.length : Int))) h5 (by kernel_rfl) ?_
    refine tr_exit (q_x (l_x (b_h (q_n ?_))))
    refine tr_sr hT hm [] [4] [(4, .d (bv true))] .nil (by kernel_rfl) (by kernel_rfl) ?_
    refine tr_ret (rg_r ?_)
    obtain rfl := Option.some.inj hM
    exact retg (names := []) .nil (by kernel_rfl)

end Go.Proofs.Ytggojehmbpbefaa.L8
