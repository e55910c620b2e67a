import Derived.Test.YthafadgnjkmfkaaGxEM0
import Derived.Test.YthafadgnjkmfkaaGxEO0
import Derived.Test.YthafadgnjkmfkaaGxzGW2
import Derived.Test.YthafadgnjkmfkaaGxzHW
import Derived.Test.YthafadgnjkmfkaaGxzTW1
import Derived.KernelRfl
namespace Go.Proofs.Ythafadgnjkmfkaa.WzO
open Go.Gx Go.Proofs.Ythafadgnjkmfkaa.WvB Go.Proofs.Ythafadgnjkmfkaa.WvI Go.Proofs.Ythafadgnjkmfkaa.WyT Go.Proofs.Ythafadgnjkmfkaa.WzF Go.Proofs.Ythafadgnjkmfkaa.WzG Go.Proofs.Ythafadgnjkmfkaa.WzH Go.Proofs.Ythafadgnjkmfkaa.WzT
theorem eXCategory_r : EncR eXCategory := (eA_r (eC_r eI_r _) (eA_r (eC_r (eS_r eI_ok) _) (eA_r (eC_r (eS_r eI_ok) _) (eA_r (eC_r (eS_r eI_ok) _) (eC_r (eS_r (eS_ok eI_ok)) _)))))
def T : Tab := [(2, ⟨.int .i64, 1, 8, [.int .i64 0]⟩),
  (3, ⟨.int .i64, 1, 8, [.int .i64 0]⟩),
  (22, ⟨.slice 2, 1, 24, [.slice .none 0 0]⟩),
  (23, ⟨.slice 22, 1, 24, [.slice .none 0 0]⟩),
  (25, ⟨.struct #[⟨"Objects", 2, 0, false, "", "", 0⟩, ⟨"From", 22, 1, false, "", "", 8⟩, ⟨"To", 22, 2, false, "", "", 32⟩, ⟨"Identity", 22, 3, false, "", "", 56⟩, ⟨"Composites", 23, 4, false, "", "", 80⟩], 5, 104, [.int .i64 0, .slice .none 0 0, .slice .none 0 0, .slice .none 0 0, .slice .none 0 0]⟩),
  (29, ⟨.struct #[⟨"Objects", 2, 0, false, "", "", 0⟩, ⟨"From", 22, 1, false, "", "", 8⟩, ⟨"To", 22, 2, false, "", "", 32⟩, ⟨"Identity", 22, 3, false, "", "", 56⟩, ⟨"Composites", 23, 4, false, "", "", 80⟩], 5, 104, [.int .i64 0, .slice .none 0 0, .slice .none 0 0, .slice .none 0 0, .slice .none 0 0]⟩),
  (80, ⟨.pointer 29, 1, 8, [.pointer .none]⟩)]
theorem hT : TabOk Try.prog T := ⟨tiok (by kernel_rfl) (by kernel_rfl), tiok (by kernel_rfl) (by kernel_rfl), tiok (by kernel_rfl) (by kernel_rfl), tiok (by kernel_rfl) (by kernel_rfl), tiok (by kernel_rfl) (by kernel_rfl), tiok (by kernel_rfl) (by kernel_rfl), tiok (by kernel_rfl) (by kernel_rfl), trivial⟩
theorem hm : Try.prog.follows .mixedOrders = true := by kernel_rfl
theorem ok58 : CallOk Try.prog 58 := callOk_of Try.func58 (by kernel_rfl) (by kernel_rfl)
theorem iC_leastForm_c (a0 : XCategory) (r : XCategory) (hM : M.iC_leastForm a0 = some r) :
    FnC Try.prog 58 [] [.pt (eXCategory.b a0) 0] [] (.agg (eXCategory.o r)) := by
  refine fnc_startG (N := 20) (np := 100) hT Try.func58 rfl rfl (by kernel_rfl) ?_
  unfold M.iC_leastForm at hM
  refine tr_start (ks := [0]) (st' := [(0, .d (.pt (eXCategory.b a0) 0))]) (by kernel_rfl) ?_
  refine tr_sr hT hm [] [0, 4, 2005] [(0, .d (.pt (eXCategory.b a0) 0)), (4, .d (.rp 1002 0)), (2005, .r (.arr 1 [iv 0, nilv, nilv, nilv, nilv] []))] .nil (by kernel_rfl) (by kernel_rfl) ?_
  refine tr_sr hT hm [] [0, 4, 6, 2005, 2007] [(0, .d (.pt (eXCategory.b a0) 0)), (4, .d (.rp 1002 0)), (6, .d (.rp 1003 0)), (2005, .r (.arr 1 [iv 0, nilv, nilv, nilv, nilv] [])), (2007, .r (.arr 1 [.v (.pointer .none)] []))] .nil (by kernel_rfl) (by kernel_rfl) ?_
  refine tr_seq ?_
  obtain ⟨v1, hv1, hM⟩ := bind_some' hM
  refine tr_sr hT hm [(1, .call [] [] [.pt (eXCategory.b a0) 0] [] (.fr 1 v1.length (v1.flatMap (eS eI).o)))] [0, 4, 6, 14, 16, 18, 2005, 2007, 18001] [(0, .d (.pt (eXCategory.b a0) 0)), (4, .d (.rp 1002 0)), (6, .d (.rp 1003 0)), (14, .d (.rs 9000 0 v1.length)), (16, .d (iv (v1.length : Int))), (18, .d (iv 0)), (2005, .r (.arr 1 [iv 0, nilv, nilv, nilv, nilv] [])), (2007, .r (.arr 1 [.v (.pointer .none)] [])), (18001, .r (.arr 1 (v1.flatMap (eS eI).o) []))] (cc0 ok106 (iC_leastSizes_c a0 _ hv1) (by kernel_rfl) .nil) (by kernel_rfl) (by kernel_rfl) ?_
  refine Tr.by (imp_freeze (B := [9000]) (cv := [(7, .sl v1.length 0 (v1.flatMap (eS eI).b))]) (.cons (by kernel_rfl) (.of1 (.rs (r := 9000) (sz := 1) (refs := []) (memB (by kernel_rfl)) (by kernel_rfl) (bor_flat (eS_ok eI_ok) _ _ _))) .nil)) ?_
  refine tr_block ?_
  refine tr_iterS (fun (s2 : (Option XCategory) × Int) => [(0, .d (.pt (eXCategory.b a0) 0)), (4, .d (.rp 1002 0)), (6, .d (.rp 1003 0)), (14, .d (.sl v1.length 0 (v1.flatMap (eS eI).b))), (16, .d (iv (v1.length : Int))), (18, .d (iv s2.2)), (2005, .r (.arr 1 [iv 0, nilv, nilv, nilv, nilv] [])), (2007, .r (.arr 1 [optP eXCategory s2.1] []))]) (none, 0) [0, 4, 6, 14, 16, 18, 2005, 2007] (by kernel_rfl) hM ?_
  intro n5 next3 ih4 s2 hM
  refine tr_sr hT hm [] [0, 4, 6, 14, 16, 18, 20, 2005, 2007] [(0, .d (.pt (eXCategory.b a0) 0)), (4, .d (.rp 1002 0)), (6, .d (.rp 1003 0)), (14, .d (.sl v1.length 0 (v1.flatMap (eS eI).b))), (16, .d (iv (v1.length : Int))), (18, .d (iv s2.2)), (20, .d (bv (decide (s2.2 < (v1.length : Int))))), (2005, .r (.arr 1 [iv 0, nilv, nilv, nilv, nilv] [])), (2007, .r (.arr 1 [optP eXCategory s2.1] []))] .nil (by kernel_rfl) (by kernel_rfl) ?_
  refine tr_seq ?_
  rcases Bool.eq_false_or_eq_true (decide (s2.2 < (v1.length : Int))) with h6 | h6
  · have hM := ite_true' hM h6
    refine tr_condTe (e := decide (s2.2 < (v1.length : Int))) h6 (by kernel_rfl) ?_
    refine tr_skip (q_n ?_)
    refine tr_seq ?_
    refine tr_block ?_
    obtain ⟨y7, hy7, hM⟩ := bind_some' hM
    have hy7' := idx_some hy7
    refine tr_sr hT hm [(1, .val (.sl y7.length 0 (y7.flatMap eI.b)))] [0, 4, 6, 10, 14, 16, 18, 2005, 2007] [(0, .d (.pt (eXCategory.b a0) 0)), (4, .d (.rp 1002 0)), (6, .d (.rp 1003 0)), (10, .d (.sl y7.length 0 (y7.flatMap eI.b))), (14, .d (.sl v1.length 0 (v1.flatMap (eS eI).b))), (16, .d (iv (v1.length : Int))), (18, .d (iv s2.2)), (2005, .r (.arr 1 [iv 0, nilv, nilv, nilv, nilv] [])), (2007, .r (.arr 1 [optP eXCategory s2.1] []))] (.cons hy7'.1 (.cons hy7'.2.1 (.cons (at_b0 (eS_ok eI_ok) hy7'.2.2 (d := .sl y7.length 0 (y7.flatMap eI.b)) (by kernel_rfl)) .nil))) (by kernel_rfl) (by kernel_rfl) ?_
    refine Tr.by (imp_rename (r := 1003) (q := 151) (by kernel_rfl) (Nat.le_of_ble_eq_true rfl)) ?_
    obtain ⟨v8, hv8, hM⟩ := bind_some' hM
    refine tr_r hT hm [(3, .call [] [(151, 151)] [.pt (eXCategory.b a0) 0, .sl y7.length 0 (y7.flatMap eI.b), .fn 108 [.rp 151 0]] [(151, .arr 1 [optP eXCategory v8] [])] (.tup []))] [0, 4, 6, 14, 16, 18, 303, 2005] [(0, .d (.pt (eXCategory.b a0) 0)), (4, .d (.rp 1002 0)), (6, .d (.rp 151 0)), (14, .d (.sl v1.length 0 (v1.flatMap (eS eI).b))), (16, .d (iv (v1.length : Int))), (18, .d (iv s2.2)), (303, .r (.arr 1 [optP eXCategory v8] [])), (2005, .r (.arr 1 [iv 0, nilv, nilv, nilv, nilv] []))] (cc (B := []) (ρ := [(151, 151)]) (rB := []) ok107 (iC_forms_c a0 y7 s2.1 _ hv8) (.cons (.same rfl) (.cons (.same rfl) (.cons (.pass (.fn (passC (.rp rfl) passN))) .nil))) (.inl rfl) .nil) (by kernel_rfl) (by kernel_rfl) (b_n (q_n ?_))
    refine tr_r hT hm [] [0, 4, 6, 14, 16, 18, 303, 2005] [(0, .d (.pt (eXCategory.b a0) 0)), (4, .d (.rp 1002 0)), (6, .d (.rp 151 0)), (14, .d (.sl v1.length 0 (v1.flatMap (eS eI).b))), (16, .d (iv (v1.length : Int))), (18, .d (iv (IntKind.i64.wrap (s2.2 + 1)))), (303, .r (.arr 1 [optP eXCategory v8] [])), (2005, .r (.arr 1 [iv 0, nilv, nilv, nilv, nilv] []))] .nil (by kernel_rfl) (by kernel_rfl) (l_n ?_)
    refine TrL.by (imp_sel (ks := [0, 4, 6, 14, 16, 18, 303, 2005]) (st' := [(0, .d (.pt (eXCategory.b a0) 0)), (4, .d (.rp 1002 0)), (6, .d (.rp 151 0)), (14, .d (.sl v1.length 0 (v1.flatMap (eS eI).b))), (16, .d (iv (v1.length : Int))), (18, .d (iv (IntKind.i64.wrap (s2.2 + 1)))), (303, .r (.arr 1 [optP eXCategory v8] [])), (2005, .r (.arr 1 [iv 0, nilv, nilv, nilv, nilv] []))]) (by kernel_rfl)) ?_
    refine TrL.by (imp_rename (r := 151) (q := 1003) (by kernel_rfl) (Nat.le_of_ble_eq_true rfl)) ?_
    exact trl_start (ks := [0, 4, 6, 14, 16, 18, 2005, 2007]) (by kernel_rfl) (ih4 (v8, IntKind.i64.wrap (s2.2 + 1)) hM)
  · have hM := ite_false' hM h6
    refine tr_condFe (e := decide (s2.2 < (v1.length : Int))) h6 (by kernel_rfl) ?_
    refine tr_exit (q_x (l_x (b_h (q_n ?_))))
    rcases Bool.eq_false_or_eq_true s2.1.isNone with h9 | h9
    · have hM := ite_true' hM h9
      exact absurd hM (by simp)
    · have hM := ite_false' hM h9
      refine Tr.by (imp_cvB (r := 1003) (sz := 1) (cells := [optP eXCategory s2.1]) (cells' := [.pt (eXCategory.b (s2.1.getD (⟨0, [], [], [], []⟩ : XCategory))) 0]) (refs := []) (refs' := []) (.cons (Sub.of_eq (optP_some h9 (⟨0, [], [], [], []⟩ : XCategory))) .nil) (by kernel_rfl) (by kernel_rfl) (by kernel_rfl)) ?_
      obtain ⟨v10, hv10, hM⟩ := bind_some' hM
      refine tr_sr hT hm [(1, .call [] [] [.pt (eXCategory.b (s2.1.getD (⟨0, [], [], [], []⟩ : XCategory))) 0] [] (.agg (eXCategory.o v10)))] [4, 2005, 42003, 42005, 42007, 42009] ([(4, .d (.rp 1002 0)), bxO 2005 21000 (eXCategory.o v10)] ++ rsS 21000 (eXCategory.o v10)) (cc0 ok77 (iC_copy_c (s2.1.getD (⟨0, [], [], [], []⟩ : XCategory)) _ hv10) (by kernel_rfl) (.cons (Nat.le_of_ble_eq_true (n := 5) (m := 5) rfl) .nil)) (by kernel_rfl) (by kernel_rfl) ?_
      refine tr_ret (rg_r ?_)
      obtain rfl := Option.some.inj hM
      exact retg (names := []) (.cons (lenO_flat eI_ok v10.From) (.cons (lenO_flat eI_ok v10.To) (.cons (lenO_flat eI_ok v10.Identity) (.cons (lenO_flat (eS_ok eI_ok) v10.Composites) .nil)))) (by kernel_rfl)
theorem ok25 : CallOk Try.prog 25 := callOk_of Try.func25 (by kernel_rfl) (by kernel_rfl)
theorem impl_LeastForm_c (a0 : XCategory) (r : XCategory × Int) (hM : M.impl_LeastForm a0 = some r) :
    FnC Try.prog 25 [] [.agg (eXCategory.b a0)] [] (.tup [.agg (eXCategory.o r.1), iv r.2]) := by
  refine fnc_startG (N := 11) (np := 500) hT Try.func25 rfl rfl (by kernel_rfl) ?_
  unfold M.impl_LeastForm at hM
  refine tr_start (ks := [0]) (st' := [(0, .d (.agg (eXCategory.b a0)))]) (by kernel_rfl) ?_
  refine tr_sr hT hm [] [2, 4, 2003, 2005] [(2, .d (.rp 1001 0)), (4, .d (.rp 1002 0)), bxB 2003 (eXCategory.b a0), (2005, .r (.arr 1 [iv 0, nilv, nilv, nilv, nilv] []))] .nil (by kernel_rfl) (by kernel_rfl) ?_
  refine tr_seq ?_
  obtain ⟨v1, hv1, hM⟩ := bind_some' hM
  refine tr_sr hT hm [(0, .call [1001] [] [.pt (eXCategory.b a0) 0] [] (bv v1))] [2, 4, 10, 2003, 2005] [(2, .d (.rp 1001 0)), (4, .d (.rp 1002 0)), (10, .d (bv (!v1))), bxB 2003 (eXCategory.b a0), (2005, .r (.arr 1 [iv 0, nilv, nilv, nilv, nilv] []))] (cc (B := [1001]) (ρ := []) (rB := [(1001, .arr 1 [iv a0.Objects, .sl a0.From.length 0 (a0.From.flatMap eI.b), .sl a0.To.length 0 (a0.To.flatMap eI.b), .sl a0.Identity.length 0 (a0.Identity.flatMap eI.b), .sl a0.Composites.length 0 (a0.Composites.flatMap (eS eI).b)] [])]) ok56 (iC_isCategory_c a0 _ hv1) (.cons (.of1 (.rp (r := 1001) (sz := 1) (cells := [iv a0.Objects, .sl a0.From.length 0 (a0.From.flatMap eI.b), .sl a0.To.length 0 (a0.To.flatMap eI.b), .sl a0.Identity.length 0 (a0.Identity.flatMap eI.b), .sl a0.Composites.length 0 (a0.Composites.flatMap (eS eI).b)]) (refs := []) (memB (by kernel_rfl)) (by kernel_rfl) (.cons .v (.cons (.same rfl rfl) (.cons (.same rfl rfl) (.cons (.same rfl rfl) (.cons (.same rfl rfl) .nil))))))) .nil) (.inr ⟨.v, trivial⟩) .nil) (by kernel_rfl) (by kernel_rfl) ?_
  rcases Bool.eq_false_or_eq_true v1 with h2 | h2
  · have hM := ite_true' hM h2
    refine tr_condFe (e := !v1) (congrArg not h2) (by kernel_rfl) ?_
    refine tr_skip (q_n ?_)
    refine tr_seq ?_
    obtain ⟨v3, hv3, hM⟩ := bind_some' hM
    refine tr_sr hT hm [(0, .call [1001] [] [.pt (eXCategory.b a0) 0] [] (iv v3))] [2, 4, 16, 2003, 2005] [(2, .d (.rp 1001 0)), (4, .d (.rp 1002 0)), (16, .d (bv (decide (v3 > 5000)))), bxB 2003 (eXCategory.b a0), (2005, .r (.arr 1 [iv 0, nilv, nilv, nilv, nilv] []))] (cc (B := [1001]) (ρ := []) (rB := [(1001, .arr 1 [iv a0.Objects, .sl a0.From.length 0 (a0.From.flatMap eI.b), .sl a0.To.length 0 (a0.To.flatMap eI.b), .sl a0.Identity.length 0 (a0.Identity.flatMap eI.b), .sl a0.Composites.length 0 (a0.Composites.flatMap (eS eI).b)] [])]) ok57 (iC_numberings_c a0 _ hv3) (.cons (.of1 (.rp (r := 1001) (sz := 1) (cells := [iv a0.Objects, .sl a0.From.length 0 (a0.From.flatMap eI.b), .sl a0.To.length 0 (a0.To.flatMap eI.b), .sl a0.Identity.length 0 (a0.Identity.flatMap eI.b), .sl a0.Composites.length 0 (a0.Composites.flatMap (eS eI).b)]) (refs := []) (memB (by kernel_rfl)) (by kernel_rfl) (.cons .v (.cons (.same rfl rfl) (.cons (.same rfl rfl) (.cons (.same rfl rfl) (.cons (.same rfl rfl) .nil))))))) .nil) (.inr ⟨.v, trivial⟩) .nil) (by kernel_rfl) (by kernel_rfl) ?_
    rcases Bool.eq_false_or_eq_true (decide (v3 > 5000)) with h4 | h4
    · have hM := ite_true' hM h4
      refine tr_condTe (e := decide (v3 > 5000)) h4 (by kernel_rfl) ?_
      refine tr_sr hT hm [] [4, 6, 2005] [(4, .d (.rp 1002 0)), (6, .d (iv 3)), (2005, .r (.arr 1 [iv 0, nilv, nilv, nilv, nilv] []))] (.cons (Nat.le_of_ble_eq_true (n := 5) (m := 5) rfl) .nil) (by kernel_rfl) (by kernel_rfl) ?_
      refine tr_ret (q_r (rg_r ?_))
      refine RetG.by (imp_cvB (r := 1002) (sz := 1) (cells := [iv 0, nilv, nilv, nilv, nilv]) (cells' := [iv 0, .fr 1 ([] : List Int).length (([] : List Int).flatMap eI.o), .fr 1 ([] : List Int).length (([] : List Int).flatMap eI.o), .fr 1 ([] : List Int).length (([] : List Int).flatMap eI.o), .fr 1 ([] : List (List Int)).length (([] : List (List Int)).flatMap (eS eI).o)]) (refs := []) (refs' := []) (.cons (.refl _) (.cons Sub.nil_fr (.cons Sub.nil_fr (.cons Sub.nil_fr (.cons Sub.nil_fr .nil))))) (by kernel_rfl) (by kernel_rfl) (by kernel_rfl)) ?_
      obtain rfl := Option.some.inj hM
      exact retg (names := []) .nil (by kernel_rfl)
    · have hM := ite_false' hM h4
      refine tr_condFe (e := decide (v3 > 5000)) h4 (by kernel_rfl) ?_
      refine tr_skip (q_n ?_)
      obtain ⟨v5, hv5, hM⟩ := bind_some' hM
      refine tr_sr hT hm [(0, .call [1001] [] [.pt (eXCategory.b a0) 0] [] (.agg (eXCategory.o v5)))] [4, 6, 2005, 24003, 24005, 24007, 24009] ([(4, .d (.rp 1002 0)), (6, .d (iv 0)), bxO 2005 12000 (eXCategory.o v5)] ++ rsS 12000 (eXCategory.o v5)) (cc (B := [1001]) (ρ := []) (rB := [(1001, .arr 1 [iv a0.Objects, .sl a0.From.length 0 (a0.From.flatMap eI.b), .sl a0.To.length 0 (a0.To.flatMap eI.b), .sl a0.Identity.length 0 (a0.Identity.flatMap eI.b), .sl a0.Composites.length 0 (a0.Composites.flatMap (eS eI).b)] [])]) ok58 (iC_leastForm_c a0 _ hv5) (.cons (.of1 (.rp (r := 1001) (sz := 1) (cells := [iv a0.Objects, .sl a0.From.length 0 (a0.From.flatMap eI.b), .sl a0.To.length 0 (a0.To.flatMap eI.b), .sl a0.Identity.length 0 (a0.Identity.flatMap eI.b), .sl a0.Composites.length 0 (a0.Composites.flatMap (eS eI).b)]) (refs := []) (memB (by kernel_rfl)) (by kernel_rfl) (.cons .v (.cons (.same rfl rfl) (.cons (.same rfl rfl) (.cons (.same rfl rfl) (.cons (.same rfl rfl) .nil))))))) .nil) (.inr ⟨(.agg (eXCategory_nb _)), trivial⟩) (.cons (Nat.le_of_ble_eq_true (n := 5) (m := 5) rfl) .nil)) (by kernel_rfl) (by kernel_rfl) ?_
      refine tr_ret (rg_r ?_)
      obtain rfl := Option.some.inj hM
      exact retg (names := []) (.cons (lenO_flat eI_ok v5.From) (.cons (lenO_flat eI_ok v5.To) (.cons (lenO_flat eI_ok v5.Identity) (.cons (lenO_flat (eS_ok eI_ok) v5.Composites) .nil)))) (by kernel_rfl)
  · have hM := ite_false' hM h2
    refine tr_condTe (e := !v1) (congrArg not h2) (by kernel_rfl) ?_
    refine tr_sr hT hm [] [4, 6, 2005] [(4, .d (.rp 1002 0)), (6, .d (iv 1)), (2005, .r (.arr 1 [iv 0, nilv, nilv, nilv, nilv] []))] (.cons (Nat.le_of_ble_eq_true (n := 5) (m := 5) rfl) .nil) (by kernel_rfl) (by kernel_rfl) ?_
    refine tr_ret (q_r (rg_r ?_))
    refine RetG.by (imp_cvB (r := 1002) (sz := 1) (cells := [iv 0, nilv, nilv, nilv, nilv]) (cells' := [iv 0, .fr 1 ([] : List Int).length (([] : List Int).flatMap eI.o), .fr 1 ([] : List Int).length (([] : List Int).flatMap eI.o), .fr 1 ([] : List Int).length (([] : List Int).flatMap eI.o), .fr 1 ([] : List (List Int)).length (([] : List (List Int)).flatMap (eS eI).o)]) (refs := []) (refs' := []) (.cons (.refl _) (.cons Sub.nil_fr (.cons Sub.nil_fr (.cons Sub.nil_fr (.cons Sub.nil_fr .nil))))) (by kernel_rfl) (by kernel_rfl) (by kernel_rfl)) ?_
    obtain rfl := Option.some.inj hM
    exact retg (names := []) .nil (by kernel_rfl)
theorem laws_FnExactLeastForm_c (a0 : XCategory) (r : Bool) (hM : M.laws_FnExactLeastForm a0 = some r) :
    FnC Try.prog 5 [] [.agg (eXCategory.b a0)] [] (bv r) := by
  refine fnc_startG (N := 96) (np := 500) hT Try.func5 rfl rfl (by kernel_rfl) ?_
  unfold M.laws_FnExactLeastForm at hM
  refine tr_start (ks := [0]) (st' := [(0, .d (.agg (eXCategory.b a0)))]) (by kernel_rfl) ?_
  refine tr_sr hT hm [] [2, 2003] [(2, .d (.rp 1001 0)), bxB 2003 (eXCategory.b a0)] .nil (by kernel_rfl) (by kernel_rfl) ?_
  refine tr_sr hT hm [] [2, 6, 2003] [(2, .d (.rp 1001 0)), (6, .d (iv 1048576)), bxB 2003 (eXCategory.b a0)] .nil (by kernel_rfl) (by kernel_rfl) ?_
  obtain ⟨v1, hv1, hM⟩ := bind_some' hM
  refine tr_sr hT hm [(2, .call [] [] [.agg (eXCategory.b a0), iv 1048576] [] (iv v1))] [2, 6, 2003] [(2, .d (.rp 1001 0)), (6, .d (iv v1)), bxB 2003 (eXCategory.b a0)] (cc0 ok15 (laws_szCategory_c a0 1048576 _ hv1) (by kernel_rfl) .nil) (by kernel_rfl) (by kernel_rfl) ?_
  refine tr_seq ?_
  refine tr_sr hT hm [] [2, 36, 2003] [(2, .d (.rp 1001 0)), (36, .d (bv (decide (v1 < 0)))), bxB 2003 (eXCategory.b a0)] .nil (by kernel_rfl) (by kernel_rfl) ?_
  rcases Bool.eq_false_or_eq_true (decide (v1 < 0)) with h2 | h2
  · have hM := ite_true' hM h2
    refine tr_condTe (e := decide (v1 < 0)) h2 (by kernel_rfl) ?_
    refine tr_sr hT hm [] [4] [(4, .d (bv true))] .nil (by kernel_rfl) (by kernel_rfl) ?_
    refine tr_ret (q_r (rg_r ?_))
    obtain rfl := Option.some.inj hM
    exact retg (names := []) .nil (by kernel_rfl)
  · have hM := ite_false' hM h2
    refine tr_condFe (e := decide (v1 < 0)) h2 (by kernel_rfl) ?_
    refine tr_skip (q_n ?_)
    obtain ⟨v3, hv3, hM⟩ := bind_some' hM
    obtain ⟨v4, hv4, hM⟩ := bind_some' hM
    refine tr_sr hT hm [(1, .call [] [] [.agg (eXCategory.b a0)] [] (.agg (eXCategory.o v3))), (2, .call (rsR 23000 (eXCategory.o v3)) [] [.agg (eXCategory.b v3)] [] (.tup [.agg (eXCategory.o v4.1), iv v4.2]))] [2, 8, 10, 2003, 2009, 48003, 48005, 48007, 48009] ([(2, .d (.rp 1001 0)), (8, .d (.rp 1004 0)), (10, .d (iv v4.2)), bxB 2003 (eXCategory.b a0), bxO 2009 24000 (eXCategory.o v4.1)] ++ rsS 24000 (eXCategory.o v4.1)) (cc0 ok18 (laws_toCategory_c a0 _ hv3) (by kernel_rfl) (cc (B := (rsR 23000 (eXCategory.o v3))) (ρ := []) (rB := (rsP 23000 (eXCategory.o v3))) ok24 (spec_LeastForm_c v3 _ hv4) (.cons (bor_rs eXCategory_r (q := 23000) (x := v3) (by kernel_rfl) (by kernel_rfl)) .nil) (.inr ⟨(nobor_tup (.cons (.agg (eXCategory_nb _)) (.cons .v .nil))), trivial⟩) (.cons (Nat.le_of_ble_eq_true (n := 5) (m := 5) rfl) .nil))) (by kernel_rfl) (by kernel_rfl) ?_
    refine tr_sr hT hm [(1, .call [] [] [.agg (eXCategory.b a0)] [] (.agg (eXCategory.o v3)))] [2, 8, 10, 12, 2003, 2009, 2013, 48003, 48005, 48007, 48009, 56003, 56005, 56007, 56009] ([(2, .d (.rp 1001 0)), (8, .d (.rp 1004 0)), (10, .d (iv v4.2)), (12, .d (.rp 1006 0)), bxB 2003 (eXCategory.b a0), bxO 2009 24000 (eXCategory.o v4.1), bxO 2013 28000 (eXCategory.o v3)] ++ rsS 24000 (eXCategory.o v4.1) ++ rsS 28000 (eXCategory.o v3)) (cc0 ok18 (laws_toCategory_c a0 _ hv3) (by kernel_rfl) (.cons (Nat.le_of_ble_eq_true (n := 5) (m := 5) rfl) .nil)) (by kernel_rfl) (by kernel_rfl) ?_
    obtain ⟨v5, hv5, hM⟩ := bind_some' hM
    refine tr_sr hT hm [(1, .call (rsR 28000 (eXCategory.o v3)) [] [.agg (eXCategory.b v3)] [] (.tup [.agg (eXCategory.o v5.1), iv v5.2]))] [2, 8, 10, 12, 14, 16, 2003, 2009, 2013, 2015, 48003, 48005, 48007, 48009, 56003, 56005, 56007, 56009, 62003, 62005, 62007, 62009] ([(2, .d (.rp 1001 0)), (8, .d (.rp 1004 0)), (10, .d (iv v4.2)), (12, .d (.rp 1006 0)), (14, .d (.rp 1007 0)), (16, .d (iv v5.2)), bxB 2003 (eXCategory.b a0), bxO 2009 24000 (eXCategory.o v4.1), bxO 2013 28000 (eXCategory.o v3), bxO 2015 31000 (eXCategory.o v5.1)] ++ rsS 24000 (eXCategory.o v4.1) ++ rsS 28000 (eXCategory.o v3) ++ rsS 31000 (eXCategory.o v5.1)) (cc (B := (rsR 28000 (eXCategory.o v3))) (ρ := []) (rB := (rsP 28000 (eXCategory.o v3))) ok25 (impl_LeastForm_c v3 _ hv5) (.cons (bor_rs eXCategory_r (q := 28000) (x := v3) (by kernel_rfl) (by kernel_rfl)) .nil) (.inr ⟨(nobor_tup (.cons (.agg (eXCategory_nb _)) (.cons .v .nil))), trivial⟩) (.cons (Nat.le_of_ble_eq_true (n := 5) (m := 5) rfl) .nil)) (by kernel_rfl) (by kernel_rfl) ?_
    refine tr_seq ?_
    obtain ⟨v6, hv6, hM⟩ := bind_some' hM
    rcases Bool.eq_false_or_eq_true v6 with h7 | h7
    · have hM := ite_true' hM h7
      refine tr_sr hT hm [(2, .call (rsR 31000 (eXCategory.o v5.1) ++ rsR 24000 (eXCategory.o v4.1)) [] [.agg (eXCategory.b v5.1), .agg (eXCategory.b v4.1)] [] (bv v6)), (4, .val (bv false))] [2, 8, 10, 12, 14, 16, 80, 2003, 2009, 2013, 2015, 48003, 48005, 48007, 48009, 56003, 56005, 56007, 56009, 62003, 62005, 62007, 62009] ([(2, .d (.rp 1001 0)), (8, .d (.rp 1004 0)), (10, .d (iv v4.2)), (12, .d (.rp 1006 0)), (14, .d (.rp 1007 0)), (16, .d (iv v5.2)), (80, .d (bv (v5.2 != v4.2))), bxB 2003 (eXCategory.b a0), bxO 2009 24000 (eXCategory.o v4.1), bxO 2013 28000 (eXCategory.o v3), bxO 2015 31000 (eXCategory.o v5.1)] ++ rsS 24000 (eXCategory.o v4.1) ++ rsS 28000 (eXCategory.o v3) ++ rsS 31000 (eXCategory.o v5.1)) (cc (B := (rsR 31000 (eXCategory.o v5.1) ++ rsR 24000 (eXCategory.o v4.1))) (ρ := []) (rB := (rsP 31000 (eXCategory.o v5.1) ++ rsP 24000 (eXCategory.o v4.1))) ok22 (laws_eqCategory_c v5.1 v4.1 _ hv6) (.cons (bor_rs eXCategory_r (q := 31000) (x := v5.1) (by kernel_rfl) (by kernel_rfl)) (.cons (bor_rs eXCategory_r (q := 24000) (x := v4.1) (by kernel_rfl) (by kernel_rfl)) .nil)) (.inr ⟨.v, trivial⟩) (.cons (congrArg (fun b => bv b) (congrArg not h7)) .nil)) (by kernel_rfl) (by kernel_rfl) ?_
      rcases Bool.eq_false_or_eq_true (v5.2 != v4.2) with h8 | h8
      · have hM := ite_true' hM h8
        refine tr_condTe (e := v5.2 != v4.2) h8 (by kernel_rfl) ?_
        refine tr_sr hT hm [] [4] [(4, .d (bv false))] .nil (by kernel_rfl) (by kernel_rfl) ?_
        refine tr_ret (q_r (rg_r ?_))
        obtain rfl := Option.some.inj hM
        exact retg (names := []) .nil (by kernel_rfl)
      · have hM := ite_false' hM h8
        refine tr_condFe (e := v5.2 != v4.2) h8 (by kernel_rfl) ?_
        refine tr_skip (q_n ?_)
        refine tr_seq ?_
        obtain ⟨v9, hv9, hM⟩ := bind_some' hM
        refine tr_sr hT hm [(2, .call [] [] [.agg (eXCategory.b a0)] [] (.agg (eXCategory.o v3))), (3, .call (rsR 28000 (eXCategory.o v3) ++ rsR 45000 (eXCategory.o v3)) [] [.agg (eXCategory.b v3), .agg (eXCategory.b v3)] [] (bv v9))] [2, 8, 10, 12, 14, 16, 90, 2003, 2009, 2013, 2015, 48003, 48005, 48007, 48009, 56003, 56005, 56007, 56009, 62003, 62005, 62007, 62009] ([(2, .d (.rp 1001 0)), (8, .d (.rp 1004 0)), (10, .d (iv v4.2)), (12, .d (.rp 1006 0)), (14, .d (.rp 1007 0)), (16, .d (iv v5.2)), (90, .d (bv (!v9))), bxB 2003 (eXCategory.b a0), bxO 2009 24000 (eXCategory.o v4.1), bxO 2013 28000 (eXCategory.o v3), bxO 2015 31000 (eXCategory.o v5.1)] ++ rsS 24000 (eXCategory.o v4.1) ++ rsS 28000 (eXCategory.o v3) ++ rsS 31000 (eXCategory.o v5.1)) (cc0 ok18 (laws_toCategory_c a0 _ hv3) (by kernel_rfl) (cc (B := (rsR 28000 (eXCategory.o v3) ++ rsR 45000 (eXCategory.o v3))) (ρ := []) (rB := (rsP 28000 (eXCategory.o v3) ++ rsP 45000 (eXCategory.o v3))) ok22 (laws_eqCategory_c v3 v3 _ hv9) (.cons (bor_rs eXCategory_r (q := 28000) (x := v3) (by kernel_rfl) (by kernel_rfl)) (.cons (bor_rs eXCategory_r (q := 45000) (x := v3) (by kernel_rfl) (by kernel_rfl)) .nil)) (.inr ⟨.v, trivial⟩) .nil)) (by kernel_rfl) (by kernel_rfl) ?_
        rcases Bool.eq_false_or_eq_true v9 with h10 | h10
        · have hM := ite_true' hM h10
          refine tr_condFe (e := !v9) (congrArg not h10) (by kernel_rfl) ?_
          refine tr_skip (q_n ?_)
          refine tr_sr hT hm [] [2, 8, 10, 12, 14, 16, 18, 2003, 2009, 2013, 2015, 48003, 48005, 48007, 48009, 56003, 56005, 56007, 56009, 62003, 62005, 62007, 62009] ([(2, .d (.rp 1001 0)), (8, .d (.rp 1004 0)), (10, .d (iv v4.2)), (12, .d (.rp 1006 0)), (14, .d (.rp 1007 0)), (16, .d (iv v5.2)), (18, .d (iv 1)), bxB 2003 (eXCategory.b a0), bxO 2009 24000 (eXCategory.o v4.1), bxO 2013 28000 (eXCategory.o v3), bxO 2015 31000 (eXCategory.o v5.1)] ++ rsS 24000 (eXCategory.o v4.1) ++ rsS 28000 (eXCategory.o v3) ++ rsS 31000 (eXCategory.o v5.1)) .nil (by kernel_rfl) (by kernel_rfl) ?_
          obtain ⟨v11, hv11, hM⟩ := bind_some' hM
          refine tr_sr hT hm [(2, .call [] [(101, 28001), (102, 28002), (103, 28003), (104, 28004)] [.agg [iv v3.Objects, .rs 101 0 v3.From.length, .rs 102 0 v3.To.length, .rs 103 0 v3.Identity.length, .rs 104 0 v3.Composites.length], iv 1] [(101, .arr 1 (v11.2.From.flatMap eI.o) []), (102, .arr 1 (v11.2.To.flatMap eI.o) []), (103, .arr 1 (v11.2.Identity.flatMap eI.o) []), (104, .arr 1 (v11.2.Composites.flatMap (eS eI).o) [])] (iv v11.1))] [2, 8, 10, 14, 16, 18, 2003, 2009, 2015, 48003, 48005, 48007, 48009, 62003, 62005, 62007, 62009] ([(2, .d (.rp 1001 0)), (8, .d (.rp 1004 0)), (10, .d (iv v4.2)), (14, .d (.rp 1007 0)), (16, .d (iv v5.2)), (18, .d (iv v11.1)), bxB 2003 (eXCategory.b a0), bxO 2009 24000 (eXCategory.o v4.1), bxO 2015 31000 (eXCategory.o v5.1)] ++ rsS 24000 (eXCategory.o v4.1) ++ rsS 31000 (eXCategory.o v5.1)) (cc (B := []) (ρ := [(101, 28001), (102, 28002), (103, 28003), (104, 28004)]) (rB := []) ok26 (laws_markCategory_c v3 1 _ hv11) (.cons (.aggA (.cons (.same rfl) (.cons (.pass (.rs rfl)) (.cons (.pass (.rs rfl)) (.cons (.pass (.rs rfl)) (.cons (.pass (.rs rfl)) .nil)))))) (.cons (.same rfl) .nil)) (.inl rfl) .nil) (by kernel_rfl) (by kernel_rfl) ?_
          refine tr_seq ?_
          rcases Bool.eq_false_or_eq_true (decide (v11.1 < 0)) with h12 | h12
          · have hM := ite_true' hM h12
            refine tr_sr hT hm [(2, .val (bv true))] [2, 8, 10, 14, 122, 2003, 2009, 2015, 48003, 48005, 48007, 48009, 62003, 62005, 62007, 62009] ([(2, .d (.rp 1001 0)), (8, .d (.rp 1004 0)), (10, .d (iv v4.2)), (14, .d (.rp 1007 0)), (122, .d (bv true)), bxB 2003 (eXCategory.b a0), bxO 2009 24000 (eXCategory.o v4.1), bxO 2015 31000 (eXCategory.o v5.1)] ++ rsS 24000 (eXCategory.o v4.1) ++ rsS 31000 (eXCategory.o v5.1)) (.cons (congrArg (fun b => bv b) h12) .nil) (by kernel_rfl) (by kernel_rfl) ?_
            refine tr_condT (by kernel_rfl) ?_
            refine tr_sr hT hm [] [4] [(4, .d (bv false))] .nil (by kernel_rfl) (by kernel_rfl) ?_
            refine tr_ret (q_r (rg_r ?_))
            obtain rfl := Option.some.inj hM
            exact retg (names := []) .nil (by kernel_rfl)
          · have hM := ite_false' hM h12
            refine tr_sr hT hm [(2, .val (bv false)), (5, .call (rsR 31000 (eXCategory.o v5.1) ++ rsR 24000 (eXCategory.o v4.1)) [] [.agg (eXCategory.b v5.1), .agg (eXCategory.b v4.1)] [] (bv v6)), (8, .val (bv false))] [2, 8, 10, 14, 122, 2003, 2009, 2015, 48003, 48005, 48007, 48009, 62003, 62005, 62007, 62009] ([(2, .d (.rp 1001 0)), (8, .d (.rp 1004 0)), (10, .d (iv v4.2)), (14, .d (.rp 1007 0)), (122, .d (bv (v5.2 != v4.2))), bxB 2003 (eXCategory.b a0), bxO 2009 24000 (eXCategory.o v4.1), bxO 2015 31000 (eXCategory.o v5.1)] ++ rsS 24000 (eXCategory.o v4.1) ++ rsS 31000 (eXCategory.o v5.1)) (.cons (congrArg (fun b => bv b) h12) (cc (B := (rsR 31000 (eXCategory.o v5.1) ++ rsR 24000 (eXCategory.o v4.1))) (ρ := []) (rB := (rsP 31000 (eXCategory.o v5.1) ++ rsP 24000 (eXCategory.o v4.1))) ok22 (laws_eqCategory_c v5.1 v4.1 _ hv6) (.cons (bor_rs eXCategory_r (q := 31000) (x := v5.1) (by kernel_rfl) (by kernel_rfl)) (.cons (bor_rs eXCategory_r (q := 24000) (x := v4.1) (by kernel_rfl) (by kernel_rfl)) .nil)) (.inr ⟨.v, trivial⟩) (.cons (congrArg (fun b => bv b) (congrArg not h7)) .nil))) (by kernel_rfl) (by kernel_rfl) ?_
            refine tr_condFe (e := v5.2 != v4.2) h8 (by kernel_rfl) ?_
            refine tr_skip (q_n ?_)
            refine tr_sr hT hm [] [2, 8, 10, 14, 20, 2003, 2009, 2015, 48003, 48005, 48007, 48009, 62003, 62005, 62007, 62009] ([(2, .d (.rp 1001 0)), (8, .d (.rp 1004 0)), (10, .d (iv v4.2)), (14, .d (.rp 1007 0)), (20, .d (iv 1)), bxB 2003 (eXCategory.b a0), bxO 2009 24000 (eXCategory.o v4.1), bxO 2015 31000 (eXCategory.o v5.1)] ++ rsS 24000 (eXCategory.o v4.1) ++ rsS 31000 (eXCategory.o v5.1)) .nil (by kernel_rfl) (by kernel_rfl) ?_
            obtain ⟨v13, hv13, hM⟩ := bind_some' hM
            refine tr_sr hT hm [(2, .call [] [(101, 31001), (102, 31002), (103, 31003), (104, 31004)] [.agg [iv v5.1.Objects, .rs 101 0 v5.1.From.length, .rs 102 0 v5.1.To.length, .rs 103 0 v5.1.Identity.length, .rs 104 0 v5.1.Composites.length], iv 1] [(101, .arr 1 (v13.2.From.flatMap eI.o) []), (102, .arr 1 (v13.2.To.flatMap eI.o) []), (103, .arr 1 (v13.2.Identity.flatMap eI.o) []), (104, .arr 1 (v13.2.Composites.flatMap (eS eI).o) [])] (iv v13.1))] [2, 8, 10, 14, 20, 2003, 2009, 2015, 48003, 48005, 48007, 48009, 62003, 62005, 62007, 62009] ([(2, .d (.rp 1001 0)), (8, .d (.rp 1004 0)), (10, .d (iv v4.2)), (14, .d (.rp 1007 0)), (20, .d (iv v13.1)), bxB 2003 (eXCategory.b a0), bxO 2009 24000 (eXCategory.o v4.1), bxO 2015 31000 (eXCategory.o v5.1)] ++ rsS 24000 (eXCategory.o v4.1) ++ rsS 31000 (eXCategory.o v13.2)) (cc (B := []) (ρ := [(101, 31001), (102, 31002), (103, 31003), (104, 31004)]) (rB := []) ok26 (laws_markCategory_c v5.1 1 _ hv13) (.cons (.aggA (.cons (.same rfl) (.cons (.pass (.rs rfl)) (.cons (.pass (.rs rfl)) (.cons (.pass (.rs rfl)) (.cons (.pass (.rs rfl)) .nil)))))) (.cons (.same rfl) .nil)) (.inl rfl) .nil) (by kernel_rfl) (by kernel_rfl) ?_
            refine Tr.by (imp_cvB (r := 1007) (sz := 1) (cells := rsC 31000 (eXCategory.o v5.1)) (cells' := rsC 31000 (eXCategory.o v13.2)) (refs := rsR 31000 (eXCategory.o v5.1)) (refs' := rsR 31000 (eXCategory.o v13.2)) (SubL.of_eq (rsC_eXCategory 31000 (M.len_markCategory hv13))) (by kernel_rfl) (by kernel_rfl) (by kernel_rfl)) ?_
            refine tr_sr hT hm [] [2, 8, 10, 14, 20, 22, 2003, 2009, 2015, 48003, 48005, 48007, 48009, 62003, 62005, 62007, 62009] ([(2, .d (.rp 1001 0)), (8, .d (.rp 1004 0)), (10, .d (iv v4.2)), (14, .d (.rp 1007 0)), (20, .d (iv v13.1)), (22, .d (iv 1)), bxB 2003 (eXCategory.b a0), bxO 2009 24000 (eXCategory.o v4.1), bxO 2015 31000 (eXCategory.o v13.2)] ++ rsS 24000 (eXCategory.o v4.1) ++ rsS 31000 (eXCategory.o v13.2)) .nil (by kernel_rfl) (by kernel_rfl) ?_
            obtain ⟨v14, hv14, hM⟩ := bind_some' hM
            refine tr_sr hT hm [(2, .call (rsR 31000 (eXCategory.o v13.2)) [] [.agg (eXCategory.b v13.2), iv 1] [] (iv v14))] [2, 8, 10, 14, 20, 22, 2003, 2009, 2015, 48003, 48005, 48007, 48009, 62003, 62005, 62007, 62009] ([(2, .d (.rp 1001 0)), (8, .d (.rp 1004 0)), (10, .d (iv v4.2)), (14, .d (.rp 1007 0)), (20, .d (iv v13.1)), (22, .d (iv v14)), bxB 2003 (eXCategory.b a0), bxO 2009 24000 (eXCategory.o v4.1), bxO 2015 31000 (eXCategory.o v13.2)] ++ rsS 24000 (eXCategory.o v4.1) ++ rsS 31000 (eXCategory.o v13.2)) (cc (B := (rsR 31000 (eXCategory.o v13.2))) (ρ := []) (rB := (rsP 31000 (eXCategory.o v13.2))) ok27 (laws_heldCategory_c v13.2 1 _ hv14) (.cons (bor_rs eXCategory_r (q := 31000) (x := v13.2) (by kernel_rfl) (by kernel_rfl)) (.cons (.same rfl) .nil)) (.inr ⟨.v, trivial⟩) .nil) (by kernel_rfl) (by kernel_rfl) ?_
            refine tr_seq ?_
            refine tr_sr hT hm [] [2, 8, 10, 14, 20, 22, 138, 2003, 2009, 2015, 48003, 48005, 48007, 48009, 62003, 62005, 62007, 62009] ([(2, .d (.rp 1001 0)), (8, .d (.rp 1004 0)), (10, .d (iv v4.2)), (14, .d (.rp 1007 0)), (20, .d (iv v13.1)), (22, .d (iv v14)), (138, .d (bv (decide (v14 < 0)))), bxB 2003 (eXCategory.b a0), bxO 2009 24000 (eXCategory.o v4.1), bxO 2015 31000 (eXCategory.o v13.2)] ++ rsS 24000 (eXCategory.o v4.1) ++ rsS 31000 (eXCategory.o v13.2)) .nil (by kernel_rfl) (by kernel_rfl) ?_
            rcases Bool.eq_false_or_eq_true (decide (v14 < 0)) with h15 | h15
            · have hM := ite_true' hM h15
              refine tr_condTe (e := decide (v14 < 0)) h15 (by kernel_rfl) ?_
              refine tr_sr hT hm [] [4] [(4, .d (bv false))] .nil (by kernel_rfl) (by kernel_rfl) ?_
              refine tr_ret (q_r (rg_r ?_))
              obtain rfl := Option.some.inj hM
              exact retg (names := []) .nil (by kernel_rfl)
            · have hM := ite_false' hM h15
              refine tr_condFe (e := decide (v14 < 0)) h15 (by kernel_rfl) ?_
              refine tr_skip (q_n ?_)
              refine tr_seq ?_
              refine tr_sr hT hm [] [2, 8, 10, 14, 20, 144, 2003, 2009, 2015, 48003, 48005, 48007, 48009, 62003, 62005, 62007, 62009] ([(2, .d (.rp 1001 0)), (8, .d (.rp 1004 0)), (10, .d (iv v4.2)), (14, .d (.rp 1007 0)), (20, .d (iv v13.1)), (144, .d (bv (v14 != v13.1))), bxB 2003 (eXCategory.b a0), bxO 2009 24000 (eXCategory.o v4.1), bxO 2015 31000 (eXCategory.o v13.2)] ++ rsS 24000 (eXCategory.o v4.1) ++ rsS 31000 (eXCategory.o v13.2)) .nil (by kernel_rfl) (by kernel_rfl) ?_
              rcases Bool.eq_false_or_eq_true (v14 != v13.1) with h16 | h16
              · have hM := ite_true' hM h16
                refine tr_condTe (e := v14 != v13.1) h16 (by kernel_rfl) ?_
                refine tr_sr hT hm [] [4] [(4, .d (bv false))] .nil (by kernel_rfl) (by kernel_rfl) ?_
                refine tr_ret (q_r (rg_r ?_))
                obtain rfl := Option.some.inj hM
                exact retg (names := []) .nil (by kernel_rfl)
              · have hM := ite_false' hM h16
                refine tr_condFe (e := v14 != v13.1) h16 (by kernel_rfl) ?_
                refine tr_skip (q_n ?_)
                refine tr_sr hT hm [(1, .call [] [] [.agg (eXCategory.b a0)] [] (.agg (eXCategory.o v3))), (2, .call (rsR 77000 (eXCategory.o v3)) [] [.agg (eXCategory.b v3)] [] (.tup [.agg (eXCategory.o v5.1), iv v5.2]))] [8, 10, 14, 20, 24, 26, 2009, 2015, 2025, 48003, 48005, 48007, 48009, 62003, 62005, 62007, 62009, 156003, 156005, 156007, 156009] ([(8, .d (.rp 1004 0)), (10, .d (iv v4.2)), (14, .d (.rp 1007 0)), (20, .d (iv v13.1)), (24, .d (.rp 1012 0)), (26, .d (iv v5.2)), bxO 2009 24000 (eXCategory.o v4.1), bxO 2015 31000 (eXCategory.o v13.2), bxO 2025 78000 (eXCategory.o v5.1)] ++ rsS 24000 (eXCategory.o v4.1) ++ rsS 31000 (eXCategory.o v13.2) ++ rsS 78000 (eXCategory.o v5.1)) (cc0 ok18 (laws_toCategory_c a0 _ hv3) (by kernel_rfl) (cc (B := (rsR 77000 (eXCategory.o v3))) (ρ := []) (rB := (rsP 77000 (eXCategory.o v3))) ok25 (impl_LeastForm_c v3 _ hv5) (.cons (bor_rs eXCategory_r (q := 77000) (x := v3) (by kernel_rfl) (by kernel_rfl)) .nil) (.inr ⟨(nobor_tup (.cons (.agg (eXCategory_nb _)) (.cons .v .nil))), trivial⟩) (.cons (Nat.le_of_ble_eq_true (n := 5) (m := 5) rfl) .nil))) (by kernel_rfl) (by kernel_rfl) ?_
                refine tr_seq ?_
                refine tr_sr hT hm [(2, .call (rsR 78000 (eXCategory.o v5.1) ++ rsR 24000 (eXCategory.o v4.1)) [] [.agg (eXCategory.b v5.1), .agg (eXCategory.b v4.1)] [] (bv v6)), (4, .val (bv false))] [14, 20, 174, 2015, 62003, 62005, 62007, 62009] ([(14, .d (.rp 1007 0)), (20, .d (iv v13.1)), (174, .d (bv (v5.2 != v4.2))), bxO 2015 31000 (eXCategory.o v13.2)] ++ rsS 31000 (eXCategory.o v13.2)) (cc (B := (rsR 78000 (eXCategory.o v5.1) ++ rsR 24000 (eXCategory.o v4.1))) (ρ := []) (rB := (rsP 78000 (eXCategory.o v5.1) ++ rsP 24000 (eXCategory.o v4.1))) ok22 (laws_eqCategory_c v5.1 v4.1 _ hv6) (.cons (bor_rs eXCategory_r (q := 78000) (x := v5.1) (by kernel_rfl) (by kernel_rfl)) (.cons (bor_rs eXCategory_r (q := 24000) (x := v4.1) (by kernel_rfl) (by kernel_rfl)) .nil)) (.inr ⟨.v, trivial⟩) (.cons (congrArg (fun b => bv b) (congrArg not h7)) .nil)) (by kernel_rfl) (by kernel_rfl) ?_
                refine tr_condFe (e := v5.2 != v4.2) h8 (by kernel_rfl) ?_
                refine tr_skip (q_n ?_)
                refine tr_sr hT hm [] [14, 20, 22, 2015, 62003, 62005, 62007, 62009] ([(14, .d (.rp 1007 0)), (20, .d (iv v13.1)), (22, .d (iv 1)), bxO 2015 31000 (eXCategory.o v13.2)] ++ rsS 31000 (eXCategory.o v13.2)) .nil (by kernel_rfl) (by kernel_rfl) ?_
                refine tr_sr hT hm [(2, .call (rsR 31000 (eXCategory.o v13.2)) [] [.agg (eXCategory.b v13.2), iv 1] [] (iv v14))] [20, 22] [(20, .d (iv v13.1)), (22, .d (iv v14))] (cc (B := (rsR 31000 (eXCategory.o v13.2))) (ρ := []) (rB := (rsP 31000 (eXCategory.o v13.2))) ok27 (laws_heldCategory_c v13.2 1 _ hv14) (.cons (bor_rs eXCategory_r (q := 31000) (x := v13.2) (by kernel_rfl) (by kernel_rfl)) (.cons (.same rfl) .nil)) (.inr ⟨.v, trivial⟩) .nil) (by kernel_rfl) (by kernel_rfl) ?_
                refine tr_seq ?_
                refine tr_sr hT hm [] [20, 22, 184] [(20, .d (iv v13.1)), (22, .d (iv v14)), (184, .d (bv (decide (v14 < 0))))] .nil (by kernel_rfl) (by kernel_rfl) ?_
                refine tr_condFe (e := decide (v14 < 0)) h15 (by kernel_rfl) ?_
                refine tr_skip (q_n ?_)
                refine tr_seq ?_
                refine tr_sr hT hm [] [190] [(190, .d (bv (v14 != v13.1)))] .nil (by kernel_rfl) (by kernel_rfl) ?_
                refine tr_condFe (e := v14 != v13.1) h16 (by kernel_rfl) ?_
                refine tr_skip (q_n ?_)
                refine tr_sr hT hm [] [4] [(4, .d (bv true))] .nil (by kernel_rfl) (by kernel_rfl) ?_
                refine tr_ret (rg_r ?_)
                obtain rfl := Option.some.inj hM
                exact retg (names := []) .nil (by kernel_rfl)
        · have hM := ite_false' hM h10
          refine tr_condTe (e := !v9) (congrArg not h10) (by kernel_rfl) ?_
          refine tr_sr hT hm [] [4] [(4, .d (bv false))] .nil (by kernel_rfl) (by kernel_rfl) ?_
          refine tr_ret (q_r (rg_r ?_))
          obtain rfl := Option.some.inj hM
          exact retg (names := []) .nil (by kernel_rfl)
    · have hM := ite_false' hM h7
      refine tr_sr hT hm [(2, .call (rsR 31000 (eXCategory.o v5.1) ++ rsR 24000 (eXCategory.o v4.1)) [] [.agg (eXCategory.b v5.1), .agg (eXCategory.b v4.1)] [] (bv v6)), (4, .val (bv true))] [2, 8, 10, 12, 14, 16, 80, 2003, 2009, 2013, 2015, 48003, 48005, 48007, 48009, 56003, 56005, 56007, 56009, 62003, 62005, 62007, 62009] ([(2, .d (.rp 1001 0)), (8, .d (.rp 1004 0)), (10, .d (iv v4.2)), (12, .d (.rp 1006 0)), (14, .d (.rp 1007 0)), (16, .d (iv v5.2)), (80, .d (bv true)), bxB 2003 (eXCategory.b a0), bxO 2009 24000 (eXCategory.o v4.1), bxO 2013 28000 (eXCategory.o v3), bxO 2015 31000 (eXCategory.o v5.1)] ++ rsS 24000 (eXCategory.o v4.1) ++ rsS 28000 (eXCategory.o v3) ++ rsS 31000 (eXCategory.o v5.1)) (cc (B := (rsR 31000 (eXCategory.o v5.1) ++ rsR 24000 (eXCategory.o v4.1))) (ρ := []) (rB := (rsP 31000 (eXCategory.o v5.1) ++ rsP 24000 (eXCategory.o v4.1))) ok22 (laws_eqCategory_c v5.1 v4.1 _ hv6) (.cons (bor_rs eXCategory_r (q := 31000) (x := v5.1) (by kernel_rfl) (by kernel_rfl)) (.cons (bor_rs eXCategory_r (q := 24000) (x := v4.1) (by kernel_rfl) (by kernel_rfl)) .nil)) (.inr ⟨.v, trivial⟩) (.cons (congrArg (fun b => bv b) (congrArg not h7)) .nil)) (by kernel_rfl) (by kernel_rfl) ?_
      refine tr_condT (by kernel_rfl) ?_
      refine tr_sr hT hm [] [4] [(4, .d (bv false))] .nil (by kernel_rfl) (by kernel_rfl) ?_
      refine tr_ret (q_r (rg_r ?_))
      obtain rfl := Option.some.inj hM
      exact retg (names := []) .nil (by kernel_rfl)
end Go.Proofs.Ythafadgnjkmfkaa.WzO
