import Derived.Test.YthafadgnjkmfkaaGxzGW
namespace Go.Proofs.Ythafadgnjkmfkaa.WzG
open Go.Gx Go.Proofs.Ythafadgnjkmfkaa.WvB Go.Proofs.Ythafadgnjkmfkaa.WvI Go.Proofs.Ythafadgnjkmfkaa.WyT Go.Proofs.Ythafadgnjkmfkaa.WzF
theorem ok96 : CallOk Try.prog 96 := callOk_of Try.func96 (by kernel_rfl) (by kernel_rfl)
theorem spec_l10Orders_n_c (k : Nat) : ∀ (a0 : List Int) (a1 : Int) (r : (List (List Int))) (_ : M.spec_l10Orders_n k a0 a1 = some r), FnC Try.prog 96 [] [.sl a0.length 0 (a0.flatMap eI.b), iv a1] [] (.fr 1 r.length (r.flatMap (eS eI).o)) := by
  induction k with
  | zero => intro a0 a1 r hM; exact absurd hM (by simp [M.spec_l10Orders_n])
  | succ k ih =>
    intro a0 a1 r hM
    refine fnc_startG (N := 52) (np := 500) hT Try.func96 rfl rfl (by kernel_rfl) ?_
    unfold M.spec_l10Orders_n at hM
    refine tr_start (ks := [0, 2]) (st' := [(0, .d (.sl a0.length 0 (a0.flatMap eI.b))), (2, .d (iv a1))]) (by kernel_rfl) ?_
    refine tr_sr hT hm [] [0, 2] [(0, .d (.sl a0.length 0 (a0.flatMap eI.b))), (2, .d (iv a1))] .nil (by kernel_rfl) (by kernel_rfl) ?_
    refine tr_seq ?_
    refine tr_sr hT hm [] [0, 2, 22] [(0, .d (.sl a0.length 0 (a0.flatMap eI.b))), (2, .d (iv a1)), (22, .d (bv (decide (a1 ≥ (a0.length : Int)))))] .nil (by kernel_rfl) (by kernel_rfl) ?_
    rcases Bool.eq_false_or_eq_true (decide (a1 ≥ (a0.length : Int))) with h1 | h1
    · have hM := ite_true' hM h1
      refine tr_condTe (e := decide (a1 ≥ (a0.length : Int))) h1 (by kernel_rfl) ?_
      obtain ⟨v2, hv2, hM⟩ := bind_some' hM
      refine tr_sr hT hm [(1, .call [] [] [.sl a0.length 0 (a0.flatMap eI.b)] [] (.fr 1 v2.length (v2.flatMap eI.o)))] [8, 2029, 30001] [(8, .d (.rs 1014 0 1)), (2029, .r (.arr 1 [.rs 15000 0 v2.length] [15000])), (30001, .r (.arr 1 (v2.flatMap eI.o) []))] (cc0 ok66 (spec_l01Own_c a0 _ hv2) (by kernel_rfl) .nil) (by kernel_rfl) (by kernel_rfl) ?_
      refine tr_ret (q_r (rg_r ?_))
      refine RetG.by (imp_dem (r := 1014) (q := 15000) (sz := 1) (n := v2.length) (j := 0) (pre := []) (l := [.rs 15000 0 v2.length]) (post := []) (refs := [15000]) (refs' := []) rfl rfl (lenO_flat eI_ok v2) (by kernel_rfl) (by kernel_rfl) (by kernel_rfl) (by kernel_rfl) (by kernel_rfl)) ?_
      refine RetG.by (imp_cvE (r := 1014) (sz := 1) (refs := []) (cells := [.fr 1 v2.length (v2.flatMap eI.o)]) (cells' := ([v2] : List (List Int)).flatMap (eS eI).o) rfl (menO_flat (eS_ok eI_ok) _) (by kernel_rfl)) ?_
      refine RetG.by (imp_cvD (k := 8) (congrArg (D.rs 1014 0) (rfl : 1 = ([v2] : List (List Int)).length)) (by kernel_rfl)) ?_
      obtain rfl := Option.some.inj hM
      exact retg (names := []) (.cons (lenO_flat (eS_ok eI_ok) ([v2] : List (List Int))) .nil) (by kernel_rfl)
    · have hM := ite_false' hM h1
      refine tr_condFe (e := decide (a1 ≥ (a0.length : Int))) h1 (by kernel_rfl) ?_
      refine tr_skip (q_n ?_)
      refine tr_sr hT hm [] [0, 2, 10, 2031] [(0, .d (.sl a0.length 0 (a0.flatMap eI.b))), (2, .d (iv a1)), (10, .d (.rs 1015 0 (([] : List (List Int)).length))), (2031, .r (.arr 1 (([] : List (List Int)).flatMap (eS eI).o) []))] .nil (by kernel_rfl) (by kernel_rfl) ?_
      refine tr_seq ?_
      refine tr_sr hT hm [] [0, 2, 10, 12, 2031] [(0, .d (.sl a0.length 0 (a0.flatMap eI.b))), (2, .d (iv a1)), (10, .d (.rs 1015 0 (([] : List (List Int)).length))), (12, .d (iv a1)), (2031, .r (.arr 1 (([] : List (List Int)).flatMap (eS eI).o) []))] .nil (by kernel_rfl) (by kernel_rfl) ?_
      refine tr_block ?_
      refine tr_iterS (fun (s3 : (List (List Int)) × Int) => [(0, .d (.sl a0.length 0 (a0.flatMap eI.b))), (2, .d (iv a1)), (10, .d (.rs 1015 0 s3.1.length)), (12, .d (iv s3.2)), (2031, .r (.arr 1 (s3.1.flatMap (eS eI).o) []))]) (([] : List (List Int)), a1) [0, 2, 10, 12, 2031] (by kernel_rfl) hM ?_
      intro n6 next4 ih5 s3 hM
      refine tr_seq ?_
      refine tr_sr hT hm [] [0, 2, 10, 12, 40, 2031] [(0, .d (.sl a0.length 0 (a0.flatMap eI.b))), (2, .d (iv a1)), (10, .d (.rs 1015 0 s3.1.length)), (12, .d (iv s3.2)), (40, .d (bv (decide (s3.2 < (a0.length : Int))))), (2031, .r (.arr 1 (s3.1.flatMap (eS eI).o) []))] .nil (by kernel_rfl) (by kernel_rfl) ?_
      rcases Bool.eq_false_or_eq_true (decide (s3.2 < (a0.length : Int))) with h7 | h7
      · have hM := ite_true' hM h7
        refine tr_condTe (e := decide (s3.2 < (a0.length : Int))) h7 (by kernel_rfl) ?_
        refine tr_skip (q_n ?_)
        refine tr_seq ?_
        refine tr_block ?_
        obtain ⟨h8, hM⟩ := chk_some hM
        obtain ⟨v9, hv9, hM⟩ := bind_some' hM
        obtain ⟨y10, hy10, hM⟩ := bind_some' hM
        have hy10' := idx_some hy10
        obtain ⟨h11, hM⟩ := chk_some hM
        refine tr_sr hT hm [(2, .val (.sl (a0.take a1.toNat).length 0 ((a0.take a1.toNat).flatMap eI.b))), (3, .call [] [] [.sl (a0.take a1.toNat).length 0 ((a0.take a1.toNat).flatMap eI.b)] [] (.fr 1 v9.length (v9.flatMap eI.o))), (7, .val (iv y10)), (9, .app true)] [0, 2, 10, 12, 14, 2031, 2065] [(0, .d (.sl a0.length 0 (a0.flatMap eI.b))), (2, .d (iv a1)), (10, .d (.rs 1015 0 s3.1.length)), (12, .d (iv s3.2)), (14, .d (.rs 1032 0 (v9.length + (([y10] : List Int).length)))), (2031, .r (.arr 1 (s3.1.flatMap (eS eI).o) [])), (2065, .r (.arr 1 (v9.flatMap eI.o ++ ([y10] : List Int).flatMap eI.o) []))] (.cons h8.1 (.cons h8.2 (.cons (sub_h eI_ok h8.1 h8.2) (cc0 ok66 (spec_l01Own_c (a0.take a1.toNat) _ hv9) (by kernel_rfl) (.cons hy10'.1 (.cons hy10'.2.1 (.cons (at_b0 eI_ok hy10'.2.2 (d := iv y10) (by kernel_rfl)) (.cons (lenO_flat eI_ok v9) (.cons (lenO_flat eI_ok ([y10] : List Int)) (.cons h11 .nil)))))))))) (by kernel_rfl) (by kernel_rfl) ?_
        refine Tr.by (imp_cvE (r := 1032) (sz := 1) (refs := []) (flat_app eI.o v9 ([y10] : List Int)) (menO_flat eI_ok _) (by kernel_rfl)) ?_
        refine Tr.by (imp_cvD (k := 14) (congrArg (D.rs 1032 0) ((len_app v9 ([y10] : List Int)) : v9.length + (([y10] : List Int).length) = (v9 ++ ([y10] : List Int)).length)) (by kernel_rfl)) ?_
        obtain ⟨h12, hM⟩ := chk_some hM
        obtain ⟨h13, hM⟩ := chk_some hM
        refine tr_sr hT hm [(4, .val (.sl ((a0.drop a1.toNat).take (s3.2.toNat - a1.toNat)).length 0 (((a0.drop a1.toNat).take (s3.2.toNat - a1.toNat)).flatMap eI.b))), (5, .app false)] [0, 2, 10, 12, 14, 2031, 2077] [(0, .d (.sl a0.length 0 (a0.flatMap eI.b))), (2, .d (iv a1)), (10, .d (.rs 1015 0 s3.1.length)), (12, .d (iv s3.2)), (14, .d (.rs 1038 0 ((v9 ++ ([y10] : List Int)).length + (((a0.drop a1.toNat).take (s3.2.toNat - a1.toNat)).length)))), (2031, .r (.arr 1 (s3.1.flatMap (eS eI).o) [])), (2077, .r (.arr 1 ((v9 ++ ([y10] : List Int)).flatMap eI.o ++ ((((a0.drop a1.toNat).take (s3.2.toNat - a1.toNat)).flatMap eI.b).drop 0).take (((a0.drop a1.toNat).take (s3.2.toNat - a1.toNat)).length * 1)) []))] (.cons h12.1 (.cons h12.2.1 (.cons h12.2.2 (.cons (sub_lh eI_ok h12.1 h12.2.1 h12.2.2) (.cons (lenO_flat eI_ok (v9 ++ ([y10] : List Int))) (.cons (len_take eI_ok.lenB ((a0.drop a1.toNat).take (s3.2.toNat - a1.toNat))) (.cons h13 .nil))))))) (by kernel_rfl) (by kernel_rfl) ?_
        refine Tr.by (imp_cvE (r := 1038) (sz := 1) (refs := []) (app_take eI_ok.lenB (fun _ => rfl) (v9 ++ ([y10] : List Int)) ((a0.drop a1.toNat).take (s3.2.toNat - a1.toNat))) (menO_flat eI_ok _) (by kernel_rfl)) ?_
        refine Tr.by (imp_cvD (k := 14) (congrArg (D.rs 1038 0) ((len_app (v9 ++ ([y10] : List Int)) ((a0.drop a1.toNat).take (s3.2.toNat - a1.toNat))) : (v9 ++ ([y10] : List Int)).length + (((a0.drop a1.toNat).take (s3.2.toNat - a1.toNat)).length) = ((v9 ++ ([y10] : List Int)) ++ ((a0.drop a1.toNat).take (s3.2.toNat - a1.toNat))).length)) (by kernel_rfl)) ?_
        obtain ⟨h14, hM⟩ := chk_some hM
        obtain ⟨h15, hM⟩ := chk_some hM
        refine tr_sr hT hm [(4, .val (.sl (a0.drop (IntKind.i64.wrap (s3.2 + 1)).toNat).length 0 ((a0.drop (IntKind.i64.wrap (s3.2 + 1)).toNat).flatMap eI.b))), (5, .app false)] [0, 2, 10, 12, 14, 2031, 2089] [(0, .d (.sl a0.length 0 (a0.flatMap eI.b))), (2, .d (iv a1)), (10, .d (.rs 1015 0 s3.1.length)), (12, .d (iv s3.2)), (14, .d (.rs 1044 0 (((v9 ++ ([y10] : List Int)) ++ ((a0.drop a1.toNat).take (s3.2.toNat - a1.toNat))).length + ((a0.drop (IntKind.i64.wrap (s3.2 + 1)).toNat).length)))), (2031, .r (.arr 1 (s3.1.flatMap (eS eI).o) [])), (2089, .r (.arr 1 (((v9 ++ ([y10] : List Int)) ++ ((a0.drop a1.toNat).take (s3.2.toNat - a1.toNat))).flatMap eI.o ++ (((a0.drop (IntKind.i64.wrap (s3.2 + 1)).toNat).flatMap eI.b).drop 0).take ((a0.drop (IntKind.i64.wrap (s3.2 + 1)).toNat).length * 1)) []))] (.cons h14.1 (.cons h14.2 (.cons (sub_l eI_ok h14.1 h14.2) (.cons (lenO_flat eI_ok ((v9 ++ ([y10] : List Int)) ++ ((a0.drop a1.toNat).take (s3.2.toNat - a1.toNat)))) (.cons (len_take eI_ok.lenB (a0.drop (IntKind.i64.wrap (s3.2 + 1)).toNat)) (.cons h15 .nil)))))) (by kernel_rfl) (by kernel_rfl) ?_
        refine Tr.by (imp_cvE (r := 1044) (sz := 1) (refs := []) (app_take eI_ok.lenB (fun _ => rfl) ((v9 ++ ([y10] : List Int)) ++ ((a0.drop a1.toNat).take (s3.2.toNat - a1.toNat))) (a0.drop (IntKind.i64.wrap (s3.2 + 1)).toNat)) (menO_flat eI_ok _) (by kernel_rfl)) ?_
        refine Tr.by (imp_cvD (k := 14) (congrArg (D.rs 1044 0) ((len_app ((v9 ++ ([y10] : List Int)) ++ ((a0.drop a1.toNat).take (s3.2.toNat - a1.toNat))) (a0.drop (IntKind.i64.wrap (s3.2 + 1)).toNat)) : ((v9 ++ ([y10] : List Int)) ++ ((a0.drop a1.toNat).take (s3.2.toNat - a1.toNat))).length + ((a0.drop (IntKind.i64.wrap (s3.2 + 1)).toNat).length) = (((v9 ++ ([y10] : List Int)) ++ ((a0.drop a1.toNat).take (s3.2.toNat - a1.toNat))) ++ (a0.drop (IntKind.i64.wrap (s3.2 + 1)).toNat)).length)) (by kernel_rfl)) ?_
        obtain ⟨v16, hv16, hM⟩ := bind_some' hM
        obtain ⟨h17, hM⟩ := chk_some hM
        refine tr_r hT hm [(4, .call [1044] [] [.sl (((v9 ++ ([y10] : List Int)) ++ ((a0.drop a1.toNat).take (s3.2.toNat - a1.toNat))) ++ (a0.drop (IntKind.i64.wrap (s3.2 + 1)).toNat)).length 0 ((((v9 ++ ([y10] : List Int)) ++ ((a0.drop a1.toNat).take (s3.2.toNat - a1.toNat))) ++ (a0.drop (IntKind.i64.wrap (s3.2 + 1)).toNat)).flatMap eI.b), iv (IntKind.i64.wrap (a1 + 1))] [] (.fr 1 v16.length (v16.flatMap (eS eI).o))), (5, .app true)] [0, 2, 10, 12, 2101] [(0, .d (.sl a0.length 0 (a0.flatMap eI.b))), (2, .d (iv a1)), (10, .d (.rs 1050 0 (s3.1.length + v16.length))), (12, .d (iv s3.2)), (2101, .r (.arr 1 (s3.1.flatMap (eS eI).o ++ v16.flatMap (eS eI).o) []))] (cc (B := [1044]) (ρ := []) (rB := [(1044, .arr 1 ((((v9 ++ ([y10] : List Int)) ++ ((a0.drop a1.toNat).take (s3.2.toNat - a1.toNat))) ++ (a0.drop (IntKind.i64.wrap (s3.2 + 1)).toNat)).flatMap eI.o) [])]) ok96 (ih (((v9 ++ ([y10] : List Int)) ++ ((a0.drop a1.toNat).take (s3.2.toNat - a1.toNat))) ++ (a0.drop (IntKind.i64.wrap (s3.2 + 1)).toNat)) (IntKind.i64.wrap (a1 + 1)) _ hv16) (.cons (.of1 (.rs (r := 1044) (sz := 1) (refs := []) (memB (by kernel_rfl)) (by kernel_rfl) (bor_flat eI_ok _ _ _))) (.cons (.same rfl) .nil)) (.inr ⟨(.fr (nb_flat (eS_nb eI_nb) _)), trivial⟩) (.cons (lenO_flat (eS_ok eI_ok) s3.1) (.cons (lenO_flat (eS_ok eI_ok) v16) (.cons h17 .nil)))) (by kernel_rfl) (by kernel_rfl) (b_n (q_n ?_))
        refine Tr.by (imp_cvE (r := 1050) (sz := 1) (refs := []) (flat_app (eS eI).o s3.1 v16) (menO_flat (eS_ok eI_ok) _) (by kernel_rfl)) ?_
        refine Tr.by (imp_cvD (k := 10) (congrArg (D.rs 1050 0) ((len_app s3.1 v16) : s3.1.length + v16.length = (s3.1 ++ v16).length)) (by kernel_rfl)) ?_
        refine tr_r hT hm [] [0, 2, 10, 12, 44, 2101] [(0, .d (.sl a0.length 0 (a0.flatMap eI.b))), (2, .d (iv a1)), (10, .d (.rs 1050 0 ((s3.1 ++ v16).length))), (12, .d (iv (IntKind.i64.wrap (s3.2 + 1)))), (44, .d (iv (IntKind.i64.wrap (s3.2 + 1)))), (2101, .r (.arr 1 ((s3.1 ++ v16).flatMap (eS eI).o) []))] .nil (by kernel_rfl) (by kernel_rfl) (l_n ?_)
        refine TrL.by (imp_sel (ks := [0, 2, 10, 12, 2101]) (st' := [(0, .d (.sl a0.length 0 (a0.flatMap eI.b))), (2, .d (iv a1)), (10, .d (.rs 1050 0 ((s3.1 ++ v16).length))), (12, .d (iv (IntKind.i64.wrap (s3.2 + 1)))), (2101, .r (.arr 1 ((s3.1 ++ v16).flatMap (eS eI).o) []))]) (by kernel_rfl)) ?_
        refine TrL.by (imp_rename (r := 1050) (q := 1015) (by kernel_rfl) (Nat.le_of_ble_eq_true rfl)) ?_
        exact trl_start (ks := [0, 2, 10, 12, 2031]) (by kernel_rfl) (ih5 (s3.1 ++ v16, IntKind.i64.wrap (s3.2 + 1)) hM)
      · have hM := ite_false' hM h7
        refine tr_condFe (e := decide (s3.2 < (a0.length : Int))) h7 (by kernel_rfl) ?_
        refine tr_exit (q_x (l_x (b_h (q_n ?_))))
        refine tr_sr hT hm [] [8, 2031] [(8, .d (.rs 1015 0 s3.1.length)), (2031, .r (.arr 1 (s3.1.flatMap (eS eI).o) []))] .nil (by kernel_rfl) (by kernel_rfl) ?_
        refine tr_ret (rg_r ?_)
        obtain rfl := Option.some.inj hM
        exact retg (names := []) (.cons (lenO_flat (eS_ok eI_ok) s3.1) .nil) (by kernel_rfl)
theorem spec_l10Orders_c (a0 : List Int) (a1 : Int) (r : (List (List Int))) (hM : M.spec_l10Orders a0 a1 = some r) :
    FnC Try.prog 96 [] [.sl a0.length 0 (a0.flatMap eI.b), iv a1] [] (.fr 1 r.length (r.flatMap (eS eI).o)) := spec_l10Orders_n_c fuel a0 a1 r hM
theorem ok97 : CallOk Try.prog 97 := callOk_of Try.func97 (by kernel_rfl) (by kernel_rfl)
theorem spec_l10Lists_c (a0 : XCategory) (a1 : List Int) (r : (List (List Int))) (hM : M.spec_l10Lists a0 a1 = some r) :
    FnC Try.prog 97 [] [.agg (eXCategory.b a0), .sl a1.length 0 (a1.flatMap eI.b)] [] (.fr 1 r.length (r.flatMap (eS eI).o)) := by
  refine fnc_startG (N := 105) (np := 500) hT Try.func97 rfl rfl (by kernel_rfl) ?_
  unfold M.spec_l10Lists at hM
  refine tr_start (ks := [0, 2]) (st' := [(0, .d (.agg (eXCategory.b a0))), (2, .d (.sl a1.length 0 (a1.flatMap eI.b)))]) (by kernel_rfl) ?_
  refine tr_sr hT hm [] [2, 4, 2005] [(2, .d (.sl a1.length 0 (a1.flatMap eI.b))), (4, .d (.rp 1002 0)), bxB 2005 (eXCategory.b a0)] .nil (by kernel_rfl) (by kernel_rfl) ?_
  refine tr_sr hT hm [] [2, 4, 10, 2005, 2033, 2035] [(2, .d (.sl a1.length 0 (a1.flatMap eI.b))), (4, .d (.rp 1002 0)), (10, .d (.rs 1017 0 1)), bxB 2005 (eXCategory.b a0), (2033, .r (.arr 1 (([] : List Int).flatMap eI.o) [])), (2035, .r (.arr 1 [.rs 1016 0 (([] : List Int).length)] [1016]))] .nil (by kernel_rfl) (by kernel_rfl) ?_
  refine Tr.by (imp_dem (r := 1017) (q := 1016) (sz := 1) (n := (([] : List Int).length)) (j := 0) (pre := []) (l := [.rs 1016 0 (([] : List Int).length)]) (post := []) (refs := [1016]) (refs' := []) rfl rfl (lenO_flat eI_ok ([] : List Int)) (by kernel_rfl) (by kernel_rfl) (by kernel_rfl) (by kernel_rfl) (by kernel_rfl)) ?_
  refine Tr.by (imp_cvE (r := 1017) (sz := 1) (refs := []) (cells := [.fr 1 ([] : List Int).length (([] : List Int).flatMap eI.o)]) (cells' := ([[]] : List (List Int)).flatMap (eS eI).o) rfl (menO_flat (eS_ok eI_ok) _) (by kernel_rfl)) ?_
  refine Tr.by (imp_cvD (k := 10) (congrArg (D.rs 1017 0) (rfl : 1 = ([[]] : List (List Int)).length)) (by kernel_rfl)) ?_
  refine tr_seq ?_
  refine tr_sr hT hm [] [2, 4, 10, 12, 2005, 2035] [(2, .d (.sl a1.length 0 (a1.flatMap eI.b))), (4, .d (.rp 1002 0)), (10, .d (.rs 1017 0 (([[]] : List (List Int)).length))), (12, .d (iv 0)), bxB 2005 (eXCategory.b a0), (2035, .r (.arr 1 (([[]] : List (List Int)).flatMap (eS eI).o) []))] .nil (by kernel_rfl) (by kernel_rfl) ?_
  refine tr_block ?_
  refine tr_iterS (fun (s1 : (List (List Int)) × Int) => [(2, .d (.sl a1.length 0 (a1.flatMap eI.b))), (4, .d (.rp 1002 0)), (10, .d (.rs 1017 0 s1.1.length)), (12, .d (iv s1.2)), bxB 2005 (eXCategory.b a0), (2035, .r (.arr 1 (s1.1.flatMap (eS eI).o) []))]) (([[]] : List (List Int)), 0) [2, 4, 10, 12, 2005, 2035] (by kernel_rfl) hM ?_
  intro n4 next2 ih3 s1 hM
  refine tr_seq ?_
  refine tr_sr hT hm [] [2, 4, 10, 12, 42, 2005, 2035] [(2, .d (.sl a1.length 0 (a1.flatMap eI.b))), (4, .d (.rp 1002 0)), (10, .d (.rs 1017 0 s1.1.length)), (12, .d (iv s1.2)), (42, .d (bv (decide (s1.2 < (a1.length : Int))))), bxB 2005 (eXCategory.b a0), (2035, .r (.arr 1 (s1.1.flatMap (eS eI).o) []))] .nil (by kernel_rfl) (by kernel_rfl) ?_
  rcases Bool.eq_false_or_eq_true (decide (s1.2 < (a1.length : Int))) with h5 | h5
  · have hM := ite_true' hM h5
    refine tr_condTe (e := decide (s1.2 < (a1.length : Int))) h5 (by kernel_rfl) ?_
    refine tr_skip (q_n ?_)
    refine tr_seq ?_
    refine tr_block ?_
    refine tr_sr hT hm [] [2, 4, 10, 12, 14, 2005, 2035] [(2, .d (.sl a1.length 0 (a1.flatMap eI.b))), (4, .d (.rp 1002 0)), (10, .d (.rs 1017 0 s1.1.length)), (12, .d (iv s1.2)), (14, .d (iv 0)), bxB 2005 (eXCategory.b a0), (2035, .r (.arr 1 (s1.1.flatMap (eS eI).o) []))] .nil (by kernel_rfl) (by kernel_rfl) ?_
    refine tr_block ?_
    refine tr_iterS (fun (s6 : (List (List Int)) × Int) => [(2, .d (.sl a1.length 0 (a1.flatMap eI.b))), (4, .d (.rp 1002 0)), (10, .d (.rs 1017 0 s6.1.length)), (12, .d (iv s1.2)), (14, .d (iv s6.2)), bxB 2005 (eXCategory.b a0), (2035, .r (.arr 1 (s6.1.flatMap (eS eI).o) []))]) (s1.1, 0) [2, 4, 10, 12, 14, 2005, 2035] (by kernel_rfl) hM ?_
    intro n9 next7 ih8 s6 hM
    refine tr_seq ?_
    refine tr_sr hT hm [] [2, 4, 10, 12, 14, 54, 2005, 2035] [(2, .d (.sl a1.length 0 (a1.flatMap eI.b))), (4, .d (.rp 1002 0)), (10, .d (.rs 1017 0 s6.1.length)), (12, .d (iv s1.2)), (14, .d (iv s6.2)), (54, .d (bv (decide (s6.2 < (a1.length : Int))))), bxB 2005 (eXCategory.b a0), (2035, .r (.arr 1 (s6.1.flatMap (eS eI).o) []))] .nil (by kernel_rfl) (by kernel_rfl) ?_
    rcases Bool.eq_false_or_eq_true (decide (s6.2 < (a1.length : Int))) with h10 | h10
    · have hM := ite_true' hM h10
      refine tr_condTe (e := decide (s6.2 < (a1.length : Int))) h10 (by kernel_rfl) ?_
      refine tr_skip (q_n ?_)
      refine tr_seq ?_
      refine tr_block ?_
      obtain ⟨y11, hy11, hM⟩ := bind_some' hM
      have hy11' := idx_some hy11
      obtain ⟨y12, hy12, hM⟩ := bind_some' hM
      have hy12' := idx_some hy12
      obtain ⟨v13, hv13, hM⟩ := bind_some' hM
      refine tr_sr hT hm [(4, .val (iv y11)), (8, .val (iv y12)), (9, .call [] [] [.agg (eXCategory.b a0), iv y11, iv y12] [] (.fr 1 v13.length (v13.flatMap eI.o)))] [2, 4, 10, 12, 14, 16, 18, 2005, 2035, 82001] [(2, .d (.sl a1.length 0 (a1.flatMap eI.b))), (4, .d (.rp 1002 0)), (10, .d (.rs 1017 0 s6.1.length)), (12, .d (iv s1.2)), (14, .d (iv s6.2)), (16, .d (.rs 41000 0 v13.length)), (18, .d (iv 0)), bxB 2005 (eXCategory.b a0), (2035, .r (.arr 1 (s6.1.flatMap (eS eI).o) [])), (82001, .r (.arr 1 (v13.flatMap eI.o) []))] (.cons hy11'.1 (.cons hy11'.2.1 (.cons (at_b0 eI_ok hy11'.2.2 (d := iv y11) (by kernel_rfl)) (.cons hy12'.1 (.cons hy12'.2.1 (.cons (at_b0 eI_ok hy12'.2.2 (d := iv y12) (by kernel_rfl)) (cc0 ok62 (spec_l02Hom_c a0 y11 y12 _ hv13) (by kernel_rfl) .nil))))))) (by kernel_rfl) (by kernel_rfl) ?_
      refine tr_joinM (fun (s14 : (List Int) × Int) => [(2, .d (.sl a1.length 0 (a1.flatMap eI.b))), (4, .d (.rp 1002 0)), (10, .d (.rs 1017 0 s6.1.length)), (12, .d (iv s1.2)), (14, .d (iv s6.2)), (16, .d (.rs 1051 0 s14.1.length)), (18, .d (iv s14.2)), bxB 2005 (eXCategory.b a0), (2035, .r (.arr 1 (s6.1.flatMap (eS eI).o) [])), (2103, .r (.arr 1 (s14.1.flatMap eI.o) []))]) hM ?_ ?_
      · intro s14 hM
        obtain ⟨v17, hv17, hM⟩ := bind_some' hM
        refine tr_sr hT hm [(2, .call [1051] [] [.sl s14.1.length 0 (s14.1.flatMap eI.b), iv s14.2] [] (.fr 1 v17.length (v17.flatMap (eS eI).o)))] [2, 4, 10, 12, 14, 24, 26, 2005, 2035, 2155, 156001] [(2, .d (.sl a1.length 0 (a1.flatMap eI.b))), (4, .d (.rp 1002 0)), (10, .d (.rs 1017 0 s6.1.length)), (12, .d (iv s1.2)), (14, .d (iv s6.2)), (24, .d (.rs 78000 0 v17.length)), (26, .d (.rs 1077 0 (([] : List (List Int)).length))), bxB 2005 (eXCategory.b a0), (2035, .r (.arr 1 (s6.1.flatMap (eS eI).o) [])), (2155, .r (.arr 1 (([] : List (List Int)).flatMap (eS eI).o) [])), (156001, .r (.arr 1 (v17.flatMap (eS eI).o) []))] (cc (B := [1051]) (ρ := []) (rB := [(1051, .arr 1 (s14.1.flatMap eI.o) [])]) ok96 (spec_l10Orders_c s14.1 s14.2 _ hv17) (.cons (.of1 (.rs (r := 1051) (sz := 1) (refs := []) (memB (by kernel_rfl)) (by kernel_rfl) (bor_flat eI_ok _ _ _))) (.cons (.same rfl) .nil)) (.inr ⟨(.fr (nb_flat (eS_nb eI_nb) _)), trivial⟩) .nil) (by kernel_rfl) (by kernel_rfl) ?_
        refine tr_seq ?_
        refine tr_sr hT hm [] [2, 4, 10, 12, 14, 24, 26, 28, 2005, 2035, 2155, 156001] [(2, .d (.sl a1.length 0 (a1.flatMap eI.b))), (4, .d (.rp 1002 0)), (10, .d (.rs 1017 0 s6.1.length)), (12, .d (iv s1.2)), (14, .d (iv s6.2)), (24, .d (.rs 78000 0 v17.length)), (26, .d (.rs 1077 0 (([] : List (List Int)).length))), (28, .d (iv 0)), bxB 2005 (eXCategory.b a0), (2035, .r (.arr 1 (s6.1.flatMap (eS eI).o) [])), (2155, .r (.arr 1 (([] : List (List Int)).flatMap (eS eI).o) [])), (156001, .r (.arr 1 (v17.flatMap (eS eI).o) []))] .nil (by kernel_rfl) (by kernel_rfl) ?_
        refine Tr.by (imp_freeze (B := [78000, 1017]) (cv := [(5, .sl s6.1.length 0 (s6.1.flatMap (eS eI).b)), (12, .sl v17.length 0 (v17.flatMap (eS eI).b))]) (.cons (by kernel_rfl) (.of1 (.rs (r := 1017) (sz := 1) (refs := []) (memB (by kernel_rfl)) (by kernel_rfl) (bor_flat (eS_ok eI_ok) _ _ _))) (.cons (by kernel_rfl) (.of1 (.rs (r := 78000) (sz := 1) (refs := []) (memB (by kernel_rfl)) (by kernel_rfl) (bor_flat (eS_ok eI_ok) _ _ _))) .nil))) ?_
        refine tr_block ?_
        refine tr_iterS (fun (s18 : (List (List Int)) × Int) => [(2, .d (.sl a1.length 0 (a1.flatMap eI.b))), (4, .d (.rp 1002 0)), (10, .d (.sl s6.1.length 0 (s6.1.flatMap (eS eI).b))), (12, .d (iv s1.2)), (14, .d (iv s6.2)), (24, .d (.sl v17.length 0 (v17.flatMap (eS eI).b))), (26, .d (.rs 1077 0 s18.1.length)), (28, .d (iv s18.2)), bxB 2005 (eXCategory.b a0), (2155, .r (.arr 1 (s18.1.flatMap (eS eI).o) []))]) (([] : List (List Int)), 0) [2, 4, 10, 12, 14, 24, 26, 28, 2005, 2155] (by kernel_rfl) hM ?_
        intro n21 next19 ih20 s18 hM
        refine tr_seq ?_
        refine tr_sr hT hm [] [2, 4, 10, 12, 14, 24, 26, 28, 162, 2005, 2155] [(2, .d (.sl a1.length 0 (a1.flatMap eI.b))), (4, .d (.rp 1002 0)), (10, .d (.sl s6.1.length 0 (s6.1.flatMap (eS eI).b))), (12, .d (iv s1.2)), (14, .d (iv s6.2)), (24, .d (.sl v17.length 0 (v17.flatMap (eS eI).b))), (26, .d (.rs 1077 0 s18.1.length)), (28, .d (iv s18.2)), (162, .d (bv (decide (s18.2 < (s6.1.length : Int))))), bxB 2005 (eXCategory.b a0), (2155, .r (.arr 1 (s18.1.flatMap (eS eI).o) []))] .nil (by kernel_rfl) (by kernel_rfl) ?_
        rcases Bool.eq_false_or_eq_true (decide (s18.2 < (s6.1.length : Int))) with h22 | h22
        · have hM := ite_true' hM h22
          refine tr_condTe (e := decide (s18.2 < (s6.1.length : Int))) h22 (by kernel_rfl) ?_
          refine tr_skip (q_n ?_)
          refine tr_seq ?_
          refine tr_block ?_
          refine tr_sr hT hm [] [2, 4, 10, 12, 14, 24, 26, 28, 30, 2005, 2155] [(2, .d (.sl a1.length 0 (a1.flatMap eI.b))), (4, .d (.rp 1002 0)), (10, .d (.sl s6.1.length 0 (s6.1.flatMap (eS eI).b))), (12, .d (iv s1.2)), (14, .d (iv s6.2)), (24, .d (.sl v17.length 0 (v17.flatMap (eS eI).b))), (26, .d (.rs 1077 0 s18.1.length)), (28, .d (iv s18.2)), (30, .d (iv 0)), bxB 2005 (eXCategory.b a0), (2155, .r (.arr 1 (s18.1.flatMap (eS eI).o) []))] .nil (by kernel_rfl) (by kernel_rfl) ?_
          refine tr_block ?_
          refine tr_iterS (fun (s23 : (List (List Int)) × Int) => [(2, .d (.sl a1.length 0 (a1.flatMap eI.b))), (4, .d (.rp 1002 0)), (10, .d (.sl s6.1.length 0 (s6.1.flatMap (eS eI).b))), (12, .d (iv s1.2)), (14, .d (iv s6.2)), (24, .d (.sl v17.length 0 (v17.flatMap (eS eI).b))), (26, .d (.rs 1077 0 s23.1.length)), (28, .d (iv s18.2)), (30, .d (iv s23.2)), bxB 2005 (eXCategory.b a0), (2155, .r (.arr 1 (s23.1.flatMap (eS eI).o) []))]) (s18.1, 0) [2, 4, 10, 12, 14, 24, 26, 28, 30, 2005, 2155] (by kernel_rfl) hM ?_
          intro n26 next24 ih25 s23 hM
          refine tr_seq ?_
          refine tr_sr hT hm [] [2, 4, 10, 12, 14, 24, 26, 28, 30, 174, 2005, 2155] [(2, .d (.sl a1.length 0 (a1.flatMap eI.b))), (4, .d (.rp 1002 0)), (10, .d (.sl s6.1.length 0 (s6.1.flatMap (eS eI).b))), (12, .d (iv s1.2)), (14, .d (iv s6.2)), (24, .d (.sl v17.length 0 (v17.flatMap (eS eI).b))), (26, .d (.rs 1077 0 s23.1.length)), (28, .d (iv s18.2)), (30, .d (iv s23.2)), (174, .d (bv (decide (s23.2 < (v17.length : Int))))), bxB 2005 (eXCategory.b a0), (2155, .r (.arr 1 (s23.1.flatMap (eS eI).o) []))] .nil (by kernel_rfl) (by kernel_rfl) ?_
          rcases Bool.eq_false_or_eq_true (decide (s23.2 < (v17.length : Int))) with h27 | h27
          · have hM := ite_true' hM h27
            refine tr_condTe (e := decide (s23.2 < (v17.length : Int))) h27 (by kernel_rfl) ?_
            refine tr_skip (q_n ?_)
            refine tr_seq ?_
            refine tr_block ?_
            obtain ⟨y28, hy28, hM⟩ := bind_some' hM
            have hy28' := idx_some hy28
            obtain ⟨v29, hv29, hM⟩ := bind_some' hM
            obtain ⟨y30, hy30, hM⟩ := bind_some' hM
            have hy30' := idx_some hy30
            obtain ⟨h31, hM⟩ := chk_some hM
            obtain ⟨h32, hM⟩ := chk_some hM
            refine tr_r hT hm [(4, .val (.sl y28.length 0 (y28.flatMap eI.b))), (5, .call [] [] [.sl y28.length 0 (y28.flatMap eI.b)] [] (.fr 1 v29.length (v29.flatMap eI.o))), (9, .val (.sl y30.length 0 (y30.flatMap eI.b))), (10, .app false), (12, .app true)] [2, 4, 10, 12, 14, 24, 26, 28, 30, 2005, 2201, 2205] [(2, .d (.sl a1.length 0 (a1.flatMap eI.b))), (4, .d (.rp 1002 0)), (10, .d (.sl s6.1.length 0 (s6.1.flatMap (eS eI).b))), (12, .d (iv s1.2)), (14, .d (iv s6.2)), (24, .d (.sl v17.length 0 (v17.flatMap (eS eI).b))), (26, .d (.rs 1102 0 (s23.1.length + 1))), (28, .d (iv s18.2)), (30, .d (iv s23.2)), bxB 2005 (eXCategory.b a0), (2201, .r (.arr 1 (v29.flatMap eI.o ++ ((y30.flatMap eI.b).drop 0).take (y30.length * 1)) [])), (2205, .r (.arr 1 (s23.1.flatMap (eS eI).o ++ [.rs 1100 0 (v29.length + y30.length)]) [1100]))] (.cons hy28'.1 (.cons hy28'.2.1 (.cons (at_b0 (eS_ok eI_ok) hy28'.2.2 (d := .sl y28.length 0 (y28.flatMap eI.b)) (by kernel_rfl)) (cc0 ok66 (spec_l01Own_c y28 _ hv29) (by kernel_rfl) (.cons hy30'.1 (.cons hy30'.2.1 (.cons (at_b0 (eS_ok eI_ok) hy30'.2.2 (d := .sl y30.length 0 (y30.flatMap eI.b)) (by kernel_rfl)) (.cons (lenO_flat eI_ok v29) (.cons (len_take eI_ok.lenB y30) (.cons h31 (.cons (lenO_flat (eS_ok eI_ok) s23.1) (.cons (by kernel_rfl : ([.rs 1100 0 (v29.length + y30.length)] : List D).length = 1 * 1) (.cons h32 .nil))))))))))))) (by kernel_rfl) (by kernel_rfl) (b_n (q_n ?_))
            refine Tr.by (imp_cvE (r := 1100) (sz := 1) (refs := []) (app_take eI_ok.lenB (fun _ => rfl) v29 y30) (menO_flat eI_ok _) (by kernel_rfl)) ?_
            refine Tr.by (imp_demE (r := 1102) (q := 1100) (sz := 1) (n := (v29.length + y30.length)) (j := 0) (pre := s23.1.flatMap (eS eI).o) (l := [.rs 1100 0 (v29.length + y30.length)]) (refs := [1100]) (refs' := []) (menO_flat (eS_ok eI_ok) _) (lenO_of eI_ok (v29 ++ y30) ((len_app v29 y30)).symm) (by kernel_rfl) (by kernel_rfl) (by kernel_rfl) (by kernel_rfl) (by kernel_rfl)) ?_
            refine Tr.by (imp_cvE (r := 1102) (sz := 1) (refs := []) ((congrArg (fun n => s23.1.flatMap (eS eI).o ++ [D.fr 1 n ((v29 ++ y30).flatMap eI.o)]) (((len_app v29 y30)).symm).symm).trans (flat_snoc (eS eI).o s23.1 (v29 ++ y30))) (menO_flat (eS_ok eI_ok) _) (by kernel_rfl)) ?_
            refine Tr.by (imp_cvD (k := 26) (congrArg (D.rs 1102 0) ((len_snoc s23.1 (v29 ++ y30)) : s23.1.length + 1 = (s23.1 ++ [v29 ++ y30]).length)) (by kernel_rfl)) ?_
            refine tr_r hT hm [] [2, 4, 10, 12, 14, 24, 26, 28, 30, 2005, 2205] [(2, .d (.sl a1.length 0 (a1.flatMap eI.b))), (4, .d (.rp 1002 0)), (10, .d (.sl s6.1.length 0 (s6.1.flatMap (eS eI).b))), (12, .d (iv s1.2)), (14, .d (iv s6.2)), (24, .d (.sl v17.length 0 (v17.flatMap (eS eI).b))), (26, .d (.rs 1102 0 ((s23.1 ++ [v29 ++ y30]).length))), (28, .d (iv s18.2)), (30, .d (iv (IntKind.i64.wrap (s23.2 + 1)))), bxB 2005 (eXCategory.b a0), (2205, .r (.arr 1 ((s23.1 ++ [v29 ++ y30]).flatMap (eS eI).o) []))] .nil (by kernel_rfl) (by kernel_rfl) (l_n ?_)
            refine TrL.by (imp_sel (ks := [2, 4, 10, 12, 14, 24, 26, 28, 30, 2005, 2205]) (st' := [(2, .d (.sl a1.length 0 (a1.flatMap eI.b))), (4, .d (.rp 1002 0)), (10, .d (.sl s6.1.length 0 (s6.1.flatMap (eS eI).b))), (12, .d (iv s1.2)), (14, .d (iv s6.2)), (24, .d (.sl v17.length 0 (v17.flatMap (eS eI).b))), (26, .d (.rs 1102 0 ((s23.1 ++ [v29 ++ y30]).length))), (28, .d (iv s18.2)), (30, .d (iv (IntKind.i64.wrap (s23.2 + 1)))), bxB 2005 (eXCategory.b a0), (2205, .r (.arr 1 ((s23.1 ++ [v29 ++ y30]).flatMap (eS eI).o) []))]) (by kernel_rfl)) ?_
            refine TrL.by (imp_rename (r := 1102) (q := 1077) (by kernel_rfl) (Nat.le_of_ble_eq_true rfl)) ?_
            exact trl_start (ks := [2, 4, 10, 12, 14, 24, 26, 28, 30, 2005, 2155]) (by kernel_rfl) (ih25 (s23.1 ++ [v29 ++ y30], IntKind.i64.wrap (s23.2 + 1)) hM)
          · have hM := ite_false' hM h27
            refine tr_condFe (e := decide (s23.2 < (v17.length : Int))) h27 (by kernel_rfl) ?_
            refine tr_exit (q_x (l_x (b_h (b_n (q_n ?_)))))
            refine tr_r hT hm [] [2, 4, 10, 12, 14, 24, 26, 28, 2005, 2155] [(2, .d (.sl a1.length 0 (a1.flatMap eI.b))), (4, .d (.rp 1002 0)), (10, .d (.sl s6.1.length 0 (s6.1.flatMap (eS eI).b))), (12, .d (iv s1.2)), (14, .d (iv s6.2)), (24, .d (.sl v17.length 0 (v17.flatMap (eS eI).b))), (26, .d (.rs 1077 0 s23.1.length)), (28, .d (iv (IntKind.i64.wrap (s18.2 + 1)))), bxB 2005 (eXCategory.b a0), (2155, .r (.arr 1 (s23.1.flatMap (eS eI).o) []))] .nil (by kernel_rfl) (by kernel_rfl) (l_n ?_)
            exact trl_start (ks := [2, 4, 10, 12, 14, 24, 26, 28, 2005, 2155]) (by kernel_rfl) (ih20 (s23.1, IntKind.i64.wrap (s18.2 + 1)) hM)
        · have hM := ite_false' hM h22
          refine tr_condFe (e := decide (s18.2 < (s6.1.length : Int))) h22 (by kernel_rfl) ?_
          refine tr_exit (q_x (l_x (b_h (q_n ?_))))
          refine tr_r hT hm [] [2, 4, 10, 12, 14, 2005, 2155] [(2, .d (.sl a1.length 0 (a1.flatMap eI.b))), (4, .d (.rp 1002 0)), (10, .d (.rs 1077 0 s18.1.length)), (12, .d (iv s1.2)), (14, .d (iv s6.2)), bxB 2005 (eXCategory.b a0), (2155, .r (.arr 1 (s18.1.flatMap (eS eI).o) []))] .nil (by kernel_rfl) (by kernel_rfl) (b_n (q_n ?_))
          refine tr_r hT hm [] [2, 4, 10, 12, 14, 2005, 2155] [(2, .d (.sl a1.length 0 (a1.flatMap eI.b))), (4, .d (.rp 1002 0)), (10, .d (.rs 1077 0 s18.1.length)), (12, .d (iv s1.2)), (14, .d (iv (IntKind.i64.wrap (s6.2 + 1)))), bxB 2005 (eXCategory.b a0), (2155, .r (.arr 1 (s18.1.flatMap (eS eI).o) []))] .nil (by kernel_rfl) (by kernel_rfl) (l_n ?_)
          refine TrL.by (imp_sel (ks := [2, 4, 10, 12, 14, 2005, 2155]) (st' := [(2, .d (.sl a1.length 0 (a1.flatMap eI.b))), (4, .d (.rp 1002 0)), (10, .d (.rs 1077 0 s18.1.length)), (12, .d (iv s1.2)), (14, .d (iv (IntKind.i64.wrap (s6.2 + 1)))), bxB 2005 (eXCategory.b a0), (2155, .r (.arr 1 (s18.1.flatMap (eS eI).o) []))]) (by kernel_rfl)) ?_
          refine TrL.by (imp_rename (r := 1077) (q := 1017) (by kernel_rfl) (Nat.le_of_ble_eq_true rfl)) ?_
          exact trl_start (ks := [2, 4, 10, 12, 14, 2005, 2035]) (by kernel_rfl) (ih8 (s18.1, IntKind.i64.wrap (s6.2 + 1)) hM)
      · intro k15 K16 hM
        refine tr_sr hT hm [] [2, 4, 10, 12, 14, 16, 18, 84, 2005, 2035, 82001] [(2, .d (.sl a1.length 0 (a1.flatMap eI.b))), (4, .d (.rp 1002 0)), (10, .d (.rs 1017 0 s6.1.length)), (12, .d (iv s1.2)), (14, .d (iv s6.2)), (16, .d (.rs 41000 0 v13.length)), (18, .d (iv 0)), (84, .d (bv (s1.2 == s6.2))), bxB 2005 (eXCategory.b a0), (2035, .r (.arr 1 (s6.1.flatMap (eS eI).o) [])), (82001, .r (.arr 1 (v13.flatMap eI.o) []))] .nil (by kernel_rfl) (by kernel_rfl) ?_
        rcases Bool.eq_false_or_eq_true (s1.2 == s6.2) with h33 | h33
        · have hM := ite_true' hM h33
          refine tr_condTe (e := s1.2 == s6.2) h33 (by kernel_rfl) ?_
          obtain ⟨y34, hy34, hM⟩ := bind_some' hM
          have hy34' := idx_some hy34
          refine tr_sr hT hm [(5, .val (iv y11)), (7, .val (iv y34))] [2, 4, 10, 12, 14, 16, 20, 2005, 2035, 2103, 82001] [(2, .d (.sl a1.length 0 (a1.flatMap eI.b))), (4, .d (.rp 1002 0)), (10, .d (.rs 1017 0 s6.1.length)), (12, .d (iv s1.2)), (14, .d (iv s6.2)), (16, .d (.rs 41000 0 v13.length)), (20, .d (.rs 1051 0 (([y34] : List Int).length))), bxB 2005 (eXCategory.b a0), (2035, .r (.arr 1 (s6.1.flatMap (eS eI).o) [])), (2103, .r (.arr 1 (([y34] : List Int).flatMap eI.o) [])), (82001, .r (.arr 1 (v13.flatMap eI.o) []))] (.cons hy11'.1 (.cons hy11'.2.1 (.cons (at_b0 eI_ok hy11'.2.2 (d := iv y11) (by kernel_rfl)) (.cons hy34'.1 (.cons hy34'.2.1 (.cons (at_b0 eI_ok hy34'.2.2 (d := iv y34) (by kernel_rfl)) .nil)))))) (by kernel_rfl) (by kernel_rfl) ?_
          refine tr_seq ?_
          refine tr_sr hT hm [] [2, 4, 10, 12, 14, 16, 20, 22, 2005, 2035, 2103, 82001] [(2, .d (.sl a1.length 0 (a1.flatMap eI.b))), (4, .d (.rp 1002 0)), (10, .d (.rs 1017 0 s6.1.length)), (12, .d (iv s1.2)), (14, .d (iv s6.2)), (16, .d (.rs 41000 0 v13.length)), (20, .d (.rs 1051 0 (([y34] : List Int).length))), (22, .d (iv 0)), bxB 2005 (eXCategory.b a0), (2035, .r (.arr 1 (s6.1.flatMap (eS eI).o) [])), (2103, .r (.arr 1 (([y34] : List Int).flatMap eI.o) [])), (82001, .r (.arr 1 (v13.flatMap eI.o) []))] .nil (by kernel_rfl) (by kernel_rfl) ?_
          refine tr_block ?_
          refine tr_iterS (fun (s35 : (List Int) × Int) => [(2, .d (.sl a1.length 0 (a1.flatMap eI.b))), (4, .d (.rp 1002 0)), (10, .d (.rs 1017 0 s6.1.length)), (12, .d (iv s1.2)), (14, .d (iv s6.2)), (16, .d (.rs 41000 0 v13.length)), (20, .d (.rs 1051 0 s35.1.length)), (22, .d (iv s35.2)), bxB 2005 (eXCategory.b a0), (2035, .r (.arr 1 (s6.1.flatMap (eS eI).o) [])), (2103, .r (.arr 1 (s35.1.flatMap eI.o) [])), (82001, .r (.arr 1 (v13.flatMap eI.o) []))]) (([y34] : List Int), 0) [2, 4, 10, 12, 14, 16, 20, 22, 2005, 2035, 2103, 82001] (by kernel_rfl) hM ?_
          intro n38 next36 ih37 s35 hM
          refine tr_seq ?_
          refine tr_sr hT hm [] [2, 4, 10, 12, 14, 16, 20, 22, 110, 2005, 2035, 2103, 82001] [(2, .d (.sl a1.length 0 (a1.flatMap eI.b))), (4, .d (.rp 1002 0)), (10, .d (.rs 1017 0 s6.1.length)), (12, .d (iv s1.2)), (14, .d (iv s6.2)), (16, .d (.rs 41000 0 v13.length)), (20, .d (.rs 1051 0 s35.1.length)), (22, .d (iv s35.2)), (110, .d (bv (decide (s35.2 < (v13.length : Int))))), bxB 2005 (eXCategory.b a0), (2035, .r (.arr 1 (s6.1.flatMap (eS eI).o) [])), (2103, .r (.arr 1 (s35.1.flatMap eI.o) [])), (82001, .r (.arr 1 (v13.flatMap eI.o) []))] .nil (by kernel_rfl) (by kernel_rfl) ?_
          rcases Bool.eq_false_or_eq_true (decide (s35.2 < (v13.length : Int))) with h39 | h39
          · have hM := ite_true' hM h39
            refine tr_condTe (e := decide (s35.2 < (v13.length : Int))) h39 (by kernel_rfl) ?_
            refine tr_skip (q_n ?_)
            refine tr_seq ?_
            refine tr_block ?_
            obtain ⟨y40, hy40, hM⟩ := bind_some' hM
            have hy40' := idx_some hy40
            obtain ⟨y41, hy41, hM⟩ := bind_some' hM
            have hy41' := idx_some hy41
            refine tr_sr hT hm [(3, .val (iv y40)), (6, .val (iv y41))] [2, 4, 10, 12, 14, 16, 20, 22, 130, 2005, 2035, 2103, 82001] [(2, .d (.sl a1.length 0 (a1.flatMap eI.b))), (4, .d (.rp 1002 0)), (10, .d (.rs 1017 0 s6.1.length)), (12, .d (iv s1.2)), (14, .d (iv s6.2)), (16, .d (.rs 41000 0 v13.length)), (20, .d (.rs 1051 0 s35.1.length)), (22, .d (iv s35.2)), (130, .d (bv (y40 != y41))), bxB 2005 (eXCategory.b a0), (2035, .r (.arr 1 (s6.1.flatMap (eS eI).o) [])), (2103, .r (.arr 1 (s35.1.flatMap eI.o) [])), (82001, .r (.arr 1 (v13.flatMap eI.o) []))] (.cons hy40'.1 (.cons hy40'.2.1 (.cons (at_o0 eI_ok hy40'.2.2 (d := iv y40) (by kernel_rfl)) (.cons hy41'.1 (.cons hy41'.2.1 (.cons (at_o0 eI_ok hy41'.2.2 (d := iv y41) (by kernel_rfl)) .nil)))))) (by kernel_rfl) (by kernel_rfl) ?_
            rcases Bool.eq_false_or_eq_true (y40 != y41) with h42 | h42
            · have hM := ite_true' hM h42
              refine tr_condTe (e := y40 != y41) h42 (by kernel_rfl) ?_
              obtain ⟨h43, hM⟩ := chk_some hM
              refine tr_r hT hm [(4, .val (iv y40)), (6, .app true)] [2, 4, 10, 12, 14, 16, 20, 22, 2005, 2035, 2145, 82001] [(2, .d (.sl a1.length 0 (a1.flatMap eI.b))), (4, .d (.rp 1002 0)), (10, .d (.rs 1017 0 s6.1.length)), (12, .d (iv s1.2)), (14, .d (iv s6.2)), (16, .d (.rs 41000 0 v13.length)), (20, .d (.rs 1072 0 (s35.1.length + (([y40] : List Int).length)))), (22, .d (iv s35.2)), bxB 2005 (eXCategory.b a0), (2035, .r (.arr 1 (s6.1.flatMap (eS eI).o) [])), (2145, .r (.arr 1 (s35.1.flatMap eI.o ++ ([y40] : List Int).flatMap eI.o) [])), (82001, .r (.arr 1 (v13.flatMap eI.o) []))] (.cons hy40'.1 (.cons hy40'.2.1 (.cons (at_o0 eI_ok hy40'.2.2 (d := iv y40) (by kernel_rfl)) (.cons (lenO_flat eI_ok s35.1) (.cons (lenO_flat eI_ok ([y40] : List Int)) (.cons h43 .nil)))))) (by kernel_rfl) (by kernel_rfl) (b_n (q_n ?_))
              refine Tr.by (imp_cvE (r := 1072) (sz := 1) (refs := []) (flat_app eI.o s35.1 ([y40] : List Int)) (menO_flat eI_ok _) (by kernel_rfl)) ?_
              refine Tr.by (imp_cvD (k := 20) (congrArg (D.rs 1072 0) ((len_app s35.1 ([y40] : List Int)) : s35.1.length + (([y40] : List Int).length) = (s35.1 ++ ([y40] : List Int)).length)) (by kernel_rfl)) ?_
              refine tr_r hT hm [] [2, 4, 10, 12, 14, 16, 20, 22, 2005, 2035, 2145, 82001] [(2, .d (.sl a1.length 0 (a1.flatMap eI.b))), (4, .d (.rp 1002 0)), (10, .d (.rs 1017 0 s6.1.length)), (12, .d (iv s1.2)), (14, .d (iv s6.2)), (16, .d (.rs 41000 0 v13.length)), (20, .d (.rs 1072 0 ((s35.1 ++ ([y40] : List Int)).length))), (22, .d (iv (IntKind.i64.wrap (s35.2 + 1)))), bxB 2005 (eXCategory.b a0), (2035, .r (.arr 1 (s6.1.flatMap (eS eI).o) [])), (2145, .r (.arr 1 ((s35.1 ++ ([y40] : List Int)).flatMap eI.o) [])), (82001, .r (.arr 1 (v13.flatMap eI.o) []))] .nil (by kernel_rfl) (by kernel_rfl) (l_n ?_)
              refine TrL.by (imp_sel (ks := [2, 4, 10, 12, 14, 16, 20, 22, 2005, 2035, 2145, 82001]) (st' := [(2, .d (.sl a1.length 0 (a1.flatMap eI.b))), (4, .d (.rp 1002 0)), (10, .d (.rs 1017 0 s6.1.length)), (12, .d (iv s1.2)), (14, .d (iv s6.2)), (16, .d (.rs 41000 0 v13.length)), (20, .d (.rs 1072 0 ((s35.1 ++ ([y40] : List Int)).length))), (22, .d (iv (IntKind.i64.wrap (s35.2 + 1)))), bxB 2005 (eXCategory.b a0), (2035, .r (.arr 1 (s6.1.flatMap (eS eI).o) [])), (2145, .r (.arr 1 ((s35.1 ++ ([y40] : List Int)).flatMap eI.o) [])), (82001, .r (.arr 1 (v13.flatMap eI.o) []))]) (by kernel_rfl)) ?_
              refine TrL.by (imp_rename (r := 1072) (q := 1051) (by kernel_rfl) (Nat.le_of_ble_eq_true rfl)) ?_
              exact trl_start (ks := [2, 4, 10, 12, 14, 16, 20, 22, 2005, 2035, 2103, 82001]) (by kernel_rfl) (ih37 (s35.1 ++ ([y40] : List Int), IntKind.i64.wrap (s35.2 + 1)) hM)
            · have hM := ite_false' hM h42
              refine tr_condFe (e := y40 != y41) h42 (by kernel_rfl) ?_
              refine tr_skip (b_n (q_n ?_))
              refine tr_r hT hm [] [2, 4, 10, 12, 14, 16, 20, 22, 2005, 2035, 2103, 82001] [(2, .d (.sl a1.length 0 (a1.flatMap eI.b))), (4, .d (.rp 1002 0)), (10, .d (.rs 1017 0 s6.1.length)), (12, .d (iv s1.2)), (14, .d (iv s6.2)), (16, .d (.rs 41000 0 v13.length)), (20, .d (.rs 1051 0 s35.1.length)), (22, .d (iv (IntKind.i64.wrap (s35.2 + 1)))), bxB 2005 (eXCategory.b a0), (2035, .r (.arr 1 (s6.1.flatMap (eS eI).o) [])), (2103, .r (.arr 1 (s35.1.flatMap eI.o) [])), (82001, .r (.arr 1 (v13.flatMap eI.o) []))] .nil (by kernel_rfl) (by kernel_rfl) (l_n ?_)
              exact trl_start (ks := [2, 4, 10, 12, 14, 16, 20, 22, 2005, 2035, 2103, 82001]) (by kernel_rfl) (ih37 (s35.1, IntKind.i64.wrap (s35.2 + 1)) hM)
          · have hM := ite_false' hM h39
            refine tr_condFe (e := decide (s35.2 < (v13.length : Int))) h39 (by kernel_rfl) ?_
            refine tr_exit (q_x (l_x (b_h (q_n ?_))))
            refine tr_r hT hm [] [2, 4, 10, 12, 14, 16, 18, 2005, 2035, 2103] [(2, .d (.sl a1.length 0 (a1.flatMap eI.b))), (4, .d (.rp 1002 0)), (10, .d (.rs 1017 0 s6.1.length)), (12, .d (iv s1.2)), (14, .d (iv s6.2)), (16, .d (.rs 1051 0 s35.1.length)), (18, .d (iv 1)), bxB 2005 (eXCategory.b a0), (2035, .r (.arr 1 (s6.1.flatMap (eS eI).o) [])), (2103, .r (.arr 1 (s35.1.flatMap eI.o) []))] .nil (by kernel_rfl) (by kernel_rfl) (q_n ?_)
            exact tr_start (ks := [2, 4, 10, 12, 14, 16, 18, 2005, 2035, 2103]) (by kernel_rfl) (K16 (s35.1, 1) hM)
        · have hM := ite_false' hM h33
          refine tr_condFe (e := s1.2 == s6.2) h33 (by kernel_rfl) ?_
          refine tr_skip (q_n ?_)
          refine Tr.by (imp_sel (ks := [2, 4, 10, 12, 14, 16, 18, 2005, 2035, 82001]) (st' := [(2, .d (.sl a1.length 0 (a1.flatMap eI.b))), (4, .d (.rp 1002 0)), (10, .d (.rs 1017 0 s6.1.length)), (12, .d (iv s1.2)), (14, .d (iv s6.2)), (16, .d (.rs 41000 0 v13.length)), (18, .d (iv 0)), bxB 2005 (eXCategory.b a0), (2035, .r (.arr 1 (s6.1.flatMap (eS eI).o) [])), (82001, .r (.arr 1 (v13.flatMap eI.o) []))]) (by kernel_rfl)) ?_
          refine Tr.by (imp_rename (r := 41000) (q := 1051) (by kernel_rfl) (Nat.le_of_ble_eq_true rfl)) ?_
          exact tr_start (ks := [2, 4, 10, 12, 14, 16, 18, 2005, 2035, 2103]) (by kernel_rfl) (K16 (v13, 0) hM)
    · have hM := ite_false' hM h10
      refine tr_condFe (e := decide (s6.2 < (a1.length : Int))) h10 (by kernel_rfl) ?_
      refine tr_exit (q_x (l_x (b_h (b_n (q_n ?_)))))
      refine tr_r hT hm [] [2, 4, 10, 12, 2005, 2035] [(2, .d (.sl a1.length 0 (a1.flatMap eI.b))), (4, .d (.rp 1002 0)), (10, .d (.rs 1017 0 s6.1.length)), (12, .d (iv (IntKind.i64.wrap (s1.2 + 1)))), bxB 2005 (eXCategory.b a0), (2035, .r (.arr 1 (s6.1.flatMap (eS eI).o) []))] .nil (by kernel_rfl) (by kernel_rfl) (l_n ?_)
      exact trl_start (ks := [2, 4, 10, 12, 2005, 2035]) (by kernel_rfl) (ih3 (s6.1, IntKind.i64.wrap (s1.2 + 1)) hM)
  · have hM := ite_false' hM h5
    refine tr_condFe (e := decide (s1.2 < (a1.length : Int))) h5 (by kernel_rfl) ?_
    refine tr_exit (q_x (l_x (b_h (q_n ?_))))
    refine tr_sr hT hm [] [8, 2035] [(8, .d (.rs 1017 0 s1.1.length)), (2035, .r (.arr 1 (s1.1.flatMap (eS eI).o) []))] .nil (by kernel_rfl) (by kernel_rfl) ?_
    refine tr_ret (rg_r ?_)
    obtain rfl := Option.some.inj hM
    exact retg (names := []) (.cons (lenO_flat (eS_ok eI_ok) s1.1) .nil) (by kernel_rfl)
theorem ok99 : CallOk Try.prog 99 := callOk_of Try.func99 (by kernel_rfl) (by kernel_rfl)
theorem spec_l19Back_c (a0 : List Int) (r : (List Int)) (hM : M.spec_l19Back a0 = some r) :
    FnC Try.prog 99 [] [.sl a0.length 0 (a0.flatMap eI.b)] [] (.fr 1 r.length (r.flatMap eI.o)) := by
  refine fnc_startG (N := 22) (np := 500) hT Try.func99 rfl rfl (by kernel_rfl) ?_
  unfold M.spec_l19Back at hM
  refine tr_start (ks := [0]) (st' := [(0, .d (.sl a0.length 0 (a0.flatMap eI.b)))]) (by kernel_rfl) ?_
  refine tr_sr hT hm [] [0] [(0, .d (.sl a0.length 0 (a0.flatMap eI.b)))] .nil (by kernel_rfl) (by kernel_rfl) ?_
  obtain ⟨h1, hM⟩ := chk_some hM
  refine tr_sr hT hm [] [0, 6, 2015] [(0, .d (.sl a0.length 0 (a0.flatMap eI.b))), (6, .d (.rs 1007 0 ((a0.length : Int).toNat))), (2015, .r (.arr 1 (repl (a0.length : Int).toNat [.int .i64 0]) []))] (.cons h1.1 (.cons (Int.le_refl (a0.length : Int)) (.cons h1.2 .nil))) (by kernel_rfl) (by kernel_rfl) ?_
  refine Tr.by (imp_cvE (r := 1007) (sz := 1) (refs := []) (repl_flat (f := eI.o) (zs := [.int .i64 0]) (z := (0 : Int)) rfl (a0.length : Int).toNat) (menO_flat eI_ok _) (by kernel_rfl)) ?_
  refine Tr.by (imp_cvD (k := 6) (congrArg (D.rs 1007 0) (List.length_replicate.symm : (a0.length : Int).toNat = (List.replicate (a0.length : Int).toNat (0 : Int)).length)) (by kernel_rfl)) ?_
  refine tr_seq ?_
  refine tr_sr hT hm [] [0, 6, 8, 2015] [(0, .d (.sl a0.length 0 (a0.flatMap eI.b))), (6, .d (.rs 1007 0 ((List.replicate (a0.length : Int).toNat (0 : Int)).length))), (8, .d (iv 0)), (2015, .r (.arr 1 ((List.replicate (a0.length : Int).toNat (0 : Int)).flatMap eI.o) []))] .nil (by kernel_rfl) (by kernel_rfl) ?_
  refine tr_block ?_
  refine tr_iterS (fun (s2 : (List Int) × Int) => [(0, .d (.sl a0.length 0 (a0.flatMap eI.b))), (6, .d (.rs 1007 0 s2.1.length)), (8, .d (iv s2.2)), (2015, .r (.arr 1 (s2.1.flatMap eI.o) []))]) ((List.replicate (a0.length : Int).toNat (0 : Int)), 0) [0, 6, 8, 2015] (by kernel_rfl) hM ?_
  intro n5 next3 ih4 s2 hM
  refine tr_seq ?_
  refine tr_sr hT hm [] [0, 6, 8, 22, 2015] [(0, .d (.sl a0.length 0 (a0.flatMap eI.b))), (6, .d (.rs 1007 0 s2.1.length)), (8, .d (iv s2.2)), (22, .d (bv (decide (s2.2 < (a0.length : Int))))), (2015, .r (.arr 1 (s2.1.flatMap eI.o) []))] .nil (by kernel_rfl) (by kernel_rfl) ?_
  rcases Bool.eq_false_or_eq_true (decide (s2.2 < (a0.length : Int))) with h6 | h6
  · have hM := ite_true' hM h6
    refine tr_condTe (e := decide (s2.2 < (a0.length : Int))) h6 (by kernel_rfl) ?_
    refine tr_skip (q_n ?_)
    refine tr_seq ?_
    refine tr_block ?_
    obtain ⟨y7, hy7, hM⟩ := bind_some' hM
    have hy7' := idx_some hy7
    obtain ⟨y8, hy8, hM⟩ := bind_some' hM
    have hy8' := idx_some hy8
    refine tr_r hT hm [(4, .val (iv y7))] [0, 6, 8, 2015] [(0, .d (.sl a0.length 0 (a0.flatMap eI.b))), (6, .d (.rs 1007 0 s2.1.length)), (8, .d (iv s2.2)), (2015, .r (.arr 1 ((s2.1.flatMap eI.o).take (0 + y7.toNat * 1) ++ [iv s2.2] ++ (s2.1.flatMap eI.o).drop (0 + y7.toNat * 1 + 1)) []))] (.cons hy7'.1 (.cons hy7'.2.1 (.cons (at_b0 eI_ok hy7'.2.2 (d := iv y7) (by kernel_rfl)) (.cons hy8'.1 (.cons hy8'.2.1 (.cons (store_le eI_ok hy8'.2.2) .nil)))))) (by kernel_rfl) (by kernel_rfl) (b_n (q_n ?_))
    refine Tr.by (imp_cvE (r := 1007) (sz := 1) (refs := []) (set_flat eI_ok.lenO (y := s2.2) hy8'.2.2) (menO_flat eI_ok _) (by kernel_rfl)) ?_
    refine Tr.by (imp_cvD (k := 6) (congrArg (D.rs 1007 0) (List.length_set.symm : s2.1.length = (s2.1.set y7.toNat s2.2).length)) (by kernel_rfl)) ?_
    refine tr_r hT hm [] [0, 6, 8, 2015] [(0, .d (.sl a0.length 0 (a0.flatMap eI.b))), (6, .d (.rs 1007 0 ((s2.1.set y7.toNat s2.2).length))), (8, .d (iv (IntKind.i64.wrap (s2.2 + 1)))), (2015, .r (.arr 1 ((s2.1.set y7.toNat s2.2).flatMap eI.o) []))] .nil (by kernel_rfl) (by kernel_rfl) (l_n ?_)
    exact trl_start (ks := [0, 6, 8, 2015]) (by kernel_rfl) (ih4 (s2.1.set y7.toNat s2.2, IntKind.i64.wrap (s2.2 + 1)) hM)
  · have hM := ite_false' hM h6
    refine tr_condFe (e := decide (s2.2 < (a0.length : Int))) h6 (by kernel_rfl) ?_
    refine tr_exit (q_x (l_x (b_h (q_n ?_))))
    refine tr_sr hT hm [] [4, 2015] [(4, .d (.rs 1007 0 s2.1.length)), (2015, .r (.arr 1 (s2.1.flatMap eI.o) []))] .nil (by kernel_rfl) (by kernel_rfl) ?_
    refine tr_ret (rg_r ?_)
    obtain rfl := Option.some.inj hM
    exact retg (names := []) (.cons (lenO_flat eI_ok s2.1) .nil) (by kernel_rfl)
end Go.Proofs.Ythafadgnjkmfkaa.WzG
