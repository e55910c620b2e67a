import Derived.Test.YthafadgnjkmfkaaGxvBW0
namespace Go.Proofs.Ythafadgnjkmfkaa.WvB
open Go.Gx
theorem ok102 : CallOk Try.prog 102 := callOk_of Try.func102 (by kernel_rfl) (by kernel_rfl)
theorem iC_isShape_c (a0 : XCategory) (r : Bool) (hM : M.iC_isShape a0 = some r) :
    FnC Try.prog 102 [] [.pt (eXCategory.b a0) 0] [] (bv r) := by
  refine fnc_startG (N := 167) (np := 500) hT Try.func102 rfl rfl (by kernel_rfl) ?_
  unfold M.iC_isShape at hM
  refine tr_start (ks := [0]) (st' := [(0, .d (.pt (eXCategory.b a0) 0))]) (by kernel_rfl) ?_
  refine tr_sr hT hm [] [0] [(0, .d (.pt (eXCategory.b a0) 0))] .nil (by kernel_rfl) (by kernel_rfl) ?_
  obtain ⟨v1, hv1, hM⟩ := bind_some' hM
  refine tr_sr hT hm [(1, .call [] [] [.pt (eXCategory.b a0) 0] [] (iv v1))] [0, 6] [(0, .d (.pt (eXCategory.b a0) 0)), (6, .d (iv v1))] (cc0 ok114 (iC_arrows_c a0 _ hv1) (by kernel_rfl) .nil) (by kernel_rfl) (by kernel_rfl) ?_
  refine tr_seq ?_
  obtain ⟨v2, hv2, hM⟩ := bind_some' hM
  rcases Bool.eq_false_or_eq_true v2 with h3 | h3
  · have hM := ite_true' hM h3
    rcases Bool.eq_false_or_eq_true (decide (v1 > 40)) with h4 | h4
    · have hM := ite_true' hM h4
      refine tr_sr hT hm [(4, .call [] [] [iv a0.Objects, iv 0, iv 8] [] (bv v2)), (6, .val (bv false)), (10, .val (bv true))] [0, 6, 108] [(0, .d (.pt (eXCategory.b a0) 0)), (6, .d (iv v1)), (108, .d (bv true))] (cc0 ok126 (impl_inRange_c a0.Objects 0 8 _ hv2) (by kernel_rfl) (.cons (congrArg (fun b => bv b) (congrArg not h3)) (.cons (congrArg (fun b => bv b) h4) .nil))) (by kernel_rfl) (by kernel_rfl) ?_
      refine tr_condT (by kernel_rfl) ?_
      refine tr_sr hT hm [] [4] [(4, .d (bv false))] .nil (by kernel_rfl) (by kernel_rfl) ?_
      refine tr_ret (q_r (rg_r ?_))
      obtain rfl := Option.some.inj hM
      exact retg (names := []) .nil (by kernel_rfl)
    · have hM := ite_false' hM h4
      rcases Bool.eq_false_or_eq_true ((a0.To.length : Int) != v1) with h5 | h5
      · have hM := ite_true' hM h5
        refine tr_sr hT hm [(4, .call [] [] [iv a0.Objects, iv 0, iv 8] [] (bv v2)), (6, .val (bv false)), (10, .val (bv false)), (19, .val (bv true))] [0, 6, 108] [(0, .d (.pt (eXCategory.b a0) 0)), (6, .d (iv v1)), (108, .d (bv true))] (cc0 ok126 (impl_inRange_c a0.Objects 0 8 _ hv2) (by kernel_rfl) (.cons (congrArg (fun b => bv b) (congrArg not h3)) (.cons (congrArg (fun b => bv b) h4) (.cons (congrArg (fun b => bv b) h5) .nil)))) (by kernel_rfl) (by kernel_rfl) ?_
        refine tr_condT (by kernel_rfl) ?_
        refine tr_sr hT hm [] [4] [(4, .d (bv false))] .nil (by kernel_rfl) (by kernel_rfl) ?_
        refine tr_ret (q_r (rg_r ?_))
        obtain rfl := Option.some.inj hM
        exact retg (names := []) .nil (by kernel_rfl)
      · have hM := ite_false' hM h5
        obtain ⟨v6, hv6, hM⟩ := bind_some' hM
        rcases Bool.eq_false_or_eq_true v6 with h7 | h7
        · have hM := ite_true' hM h7
          obtain ⟨v8, hv8, hM⟩ := bind_some' hM
          refine tr_sr hT hm [(4, .call [] [] [iv a0.Objects, iv 0, iv 8] [] (bv v2)), (6, .val (bv false)), (10, .val (bv false)), (19, .val (bv false)), (28, .call [] [] [.sl a0.From.length 0 (a0.From.flatMap eI.b), iv a0.Objects] [] (bv v6)), (31, .val (bv false)), (40, .call [] [] [.sl a0.To.length 0 (a0.To.flatMap eI.b), iv a0.Objects] [] (bv v8))] [0, 6, 108] [(0, .d (.pt (eXCategory.b a0) 0)), (6, .d (iv v1)), (108, .d (bv (!v8)))] (cc0 ok126 (impl_inRange_c a0.Objects 0 8 _ hv2) (by kernel_rfl) (.cons (congrArg (fun b => bv b) (congrArg not h3)) (.cons (congrArg (fun b => bv b) h4) (.cons (congrArg (fun b => bv b) h5) (cc0 ok113 (impl_within_c a0.From a0.Objects _ hv6) (by kernel_rfl) (.cons (congrArg (fun b => bv b) (congrArg not h7)) (cc0 ok113 (impl_within_c a0.To a0.Objects _ hv8) (by kernel_rfl) .nil))))))) (by kernel_rfl) (by kernel_rfl) ?_
          rcases Bool.eq_false_or_eq_true v8 with h9 | h9
          · have hM := ite_true' hM h9
            refine tr_condFe (e := !v8) (congrArg not h9) (by kernel_rfl) ?_
            refine tr_skip (q_n ?_)
            refine tr_seq ?_
            rcases Bool.eq_false_or_eq_true ((a0.Identity.length : Int) != a0.Objects) with h10 | h10
            · have hM := ite_true' hM h10
              refine tr_sr hT hm [(10, .val (bv true))] [0, 6, 164] [(0, .d (.pt (eXCategory.b a0) 0)), (6, .d (iv v1)), (164, .d (bv true))] (.cons (congrArg (fun b => bv b) h10) .nil) (by kernel_rfl) (by kernel_rfl) ?_
              refine tr_condT (by kernel_rfl) ?_
              refine tr_sr hT hm [] [4] [(4, .d (bv false))] .nil (by kernel_rfl) (by kernel_rfl) ?_
              refine tr_ret (q_r (rg_r ?_))
              obtain rfl := Option.some.inj hM
              exact retg (names := []) .nil (by kernel_rfl)
            · have hM := ite_false' hM h10
              obtain ⟨v11, hv11, hM⟩ := bind_some' hM
              rcases Bool.eq_false_or_eq_true v11 with h12 | h12
              · have hM := ite_true' hM h12
                refine tr_sr hT hm [(10, .val (bv false)), (16, .call [] [] [.sl a0.Identity.length 0 (a0.Identity.flatMap eI.b), iv v1] [] (bv v11)), (19, .val (bv false))] [0, 6, 164] [(0, .d (.pt (eXCategory.b a0) 0)), (6, .d (iv v1)), (164, .d (bv ((a0.Composites.length : Int) != v1)))] (.cons (congrArg (fun b => bv b) h10) (cc0 ok113 (impl_within_c a0.Identity v1 _ hv11) (by kernel_rfl) (.cons (congrArg (fun b => bv b) (congrArg not h12)) .nil))) (by kernel_rfl) (by kernel_rfl) ?_
                rcases Bool.eq_false_or_eq_true ((a0.Composites.length : Int) != v1) with h13 | h13
                · have hM := ite_true' hM h13
                  refine tr_condTe (e := (a0.Composites.length : Int) != v1) h13 (by kernel_rfl) ?_
                  refine tr_sr hT hm [] [4] [(4, .d (bv false))] .nil (by kernel_rfl) (by kernel_rfl) ?_
                  refine tr_ret (q_r (rg_r ?_))
                  obtain rfl := Option.some.inj hM
                  exact retg (names := []) .nil (by kernel_rfl)
                · have hM := ite_false' hM h13
                  refine tr_condFe (e := (a0.Composites.length : Int) != v1) h13 (by kernel_rfl) ?_
                  refine tr_skip (q_n ?_)
                  refine tr_seq ?_
                  refine tr_sr hT hm [] [0, 6, 172, 174, 176] [(0, .d (.pt (eXCategory.b a0) 0)), (6, .d (iv v1)), (172, .d (.sl a0.Identity.length 0 (a0.Identity.flatMap eI.b))), (174, .d (iv (a0.Identity.length : Int))), (176, .d (iv 0))] .nil (by kernel_rfl) (by kernel_rfl) ?_
                  refine tr_block ?_
                  refine tr_iterS (fun (s14 : Int) => [(0, .d (.pt (eXCategory.b a0) 0)), (6, .d (iv v1)), (172, .d (.sl a0.Identity.length 0 (a0.Identity.flatMap eI.b))), (174, .d (iv (a0.Identity.length : Int))), (176, .d (iv s14))]) 0 [0, 6, 172, 174, 176] (by kernel_rfl) hM ?_
                  intro n17 next15 ih16 s14 hM
                  refine tr_sr hT hm [] [0, 6, 172, 174, 176, 178] [(0, .d (.pt (eXCategory.b a0) 0)), (6, .d (iv v1)), (172, .d (.sl a0.Identity.length 0 (a0.Identity.flatMap eI.b))), (174, .d (iv (a0.Identity.length : Int))), (176, .d (iv s14)), (178, .d (bv (decide (s14 < (a0.Identity.length : Int)))))] .nil (by kernel_rfl) (by kernel_rfl) ?_
                  refine tr_seq ?_
                  rcases Bool.eq_false_or_eq_true (decide (s14 < (a0.Identity.length : Int))) with h18 | h18
                  · have hM := ite_true' hM h18
                    refine tr_condTe (e := decide (s14 < (a0.Identity.length : Int))) h18 (by kernel_rfl) ?_
                    refine tr_skip (q_n ?_)
                    refine tr_seq ?_
                    refine tr_block ?_
                    obtain ⟨y19, hy19, hM⟩ := bind_some' hM
                    have hy19' := idx_some hy19
                    refine tr_sr hT hm [(2, .val (iv y19))] [0, 6, 8, 10, 172, 174, 176] [(0, .d (.pt (eXCategory.b a0) 0)), (6, .d (iv v1)), (8, .d (iv s14)), (10, .d (iv y19)), (172, .d (.sl a0.Identity.length 0 (a0.Identity.flatMap eI.b))), (174, .d (iv (a0.Identity.length : Int))), (176, .d (iv s14))] (.cons hy19'.1 (.cons hy19'.2.1 (.cons (at_b0 eI_ok hy19'.2.2 (d := iv y19) (by kernel_rfl)) .nil))) (by kernel_rfl) (by kernel_rfl) ?_
                    obtain ⟨v20, hv20, hM⟩ := bind_some' hM
                    refine tr_sr hT hm [(2, .call [] [] [.pt (eXCategory.b a0) 0, iv y19] [] (.agg (eXends.o v20)))] [0, 6, 172, 174, 176, 198] [(0, .d (.pt (eXCategory.b a0) 0)), (6, .d (iv v1)), (172, .d (.sl a0.Identity.length 0 (a0.Identity.flatMap eI.b))), (174, .d (iv (a0.Identity.length : Int))), (176, .d (iv s14)), (198, .d (bv (((v20.from_ == s14) && (v20.to_ == s14)) == false)))] (cc0 ok130 (iC_ends_c a0 y19 _ hv20) (by kernel_rfl) (.cons (by kernel_rfl : Try.prog.stoodInHeld 173 = false) (.cons (by kernel_rfl : Try.prog.eqGuardType Try.prog.depth 173 = false) .nil))) (by kernel_rfl) (by kernel_rfl) ?_
                    rcases Bool.eq_false_or_eq_true (((v20.from_ == s14) && (v20.to_ == s14)) == false) with h21 | h21
                    · have hM := ite_true' hM h21
                      refine tr_condTe (e := ((v20.from_ == s14) && (v20.to_ == s14)) == false) h21 (by kernel_rfl) ?_
                      refine tr_sr hT hm [] [4] [(4, .d (bv false))] .nil (by kernel_rfl) (by kernel_rfl) ?_
                      refine tr_ret (b_r (q_r (l_r (b_r (q_r (rg_r ?_))))))
                      obtain rfl := Option.some.inj hM
                      exact retg (names := []) .nil (by kernel_rfl)
                    · have hM := ite_false' hM h21
                      refine tr_condFe (e := ((v20.from_ == s14) && (v20.to_ == s14)) == false) h21 (by kernel_rfl) ?_
                      refine tr_skip (b_n (q_n ?_))
                      refine tr_r hT hm [] [0, 6, 172, 174, 176] [(0, .d (.pt (eXCategory.b a0) 0)), (6, .d (iv v1)), (172, .d (.sl a0.Identity.length 0 (a0.Identity.flatMap eI.b))), (174, .d (iv (a0.Identity.length : Int))), (176, .d (iv (IntKind.i64.wrap (s14 + 1))))] .nil (by kernel_rfl) (by kernel_rfl) (l_n ?_)
                      exact trl_start (ks := [0, 6, 172, 174, 176]) (by kernel_rfl) (ih16 (IntKind.i64.wrap (s14 + 1)) hM)
                  · have hM := ite_false' hM h18
                    refine tr_condFe (e := decide (s14 < (a0.Identity.length : Int))) h18 (by kernel_rfl) ?_
                    refine tr_exit (q_x (l_x (b_h (q_n ?_))))
                    refine tr_seq ?_
                    refine tr_sr hT hm [] [0, 6, 208, 210, 212] [(0, .d (.pt (eXCategory.b a0) 0)), (6, .d (iv v1)), (208, .d (.sl a0.Composites.length 0 (a0.Composites.flatMap (eS eI).b))), (210, .d (iv (a0.Composites.length : Int))), (212, .d (iv 0))] .nil (by kernel_rfl) (by kernel_rfl) ?_
                    refine tr_block ?_
                    refine tr_iterS (fun (s22 : Int) => [(0, .d (.pt (eXCategory.b a0) 0)), (6, .d (iv v1)), (208, .d (.sl a0.Composites.length 0 (a0.Composites.flatMap (eS eI).b))), (210, .d (iv (a0.Composites.length : Int))), (212, .d (iv s22))]) 0 [0, 6, 208, 210, 212] (by kernel_rfl) hM ?_
                    intro n25 next23 ih24 s22 hM
                    refine tr_sr hT hm [] [0, 6, 208, 210, 212, 214] [(0, .d (.pt (eXCategory.b a0) 0)), (6, .d (iv v1)), (208, .d (.sl a0.Composites.length 0 (a0.Composites.flatMap (eS eI).b))), (210, .d (iv (a0.Composites.length : Int))), (212, .d (iv s22)), (214, .d (bv (decide (s22 < (a0.Composites.length : Int)))))] .nil (by kernel_rfl) (by kernel_rfl) ?_
                    refine tr_seq ?_
                    rcases Bool.eq_false_or_eq_true (decide (s22 < (a0.Composites.length : Int))) with h26 | h26
                    · have hM := ite_true' hM h26
                      refine tr_condTe (e := decide (s22 < (a0.Composites.length : Int))) h26 (by kernel_rfl) ?_
                      refine tr_skip (q_n ?_)
                      refine tr_seq ?_
                      refine tr_block ?_
                      obtain ⟨y27, hy27, hM⟩ := bind_some' hM
                      have hy27' := idx_some hy27
                      refine tr_sr hT hm [(2, .val (.sl y27.length 0 (y27.flatMap eI.b)))] [0, 6, 12, 14, 208, 210, 212] [(0, .d (.pt (eXCategory.b a0) 0)), (6, .d (iv v1)), (12, .d (iv s22)), (14, .d (.sl y27.length 0 (y27.flatMap eI.b))), (208, .d (.sl a0.Composites.length 0 (a0.Composites.flatMap (eS eI).b))), (210, .d (iv (a0.Composites.length : Int))), (212, .d (iv s22))] (.cons hy27'.1 (.cons hy27'.2.1 (.cons (at_b0 (eS_ok eI_ok) hy27'.2.2 (d := .sl y27.length 0 (y27.flatMap eI.b)) (by kernel_rfl)) .nil))) (by kernel_rfl) (by kernel_rfl) ?_
                      refine tr_seq ?_
                      refine tr_sr hT hm [] [0, 6, 12, 14, 208, 210, 212, 228] [(0, .d (.pt (eXCategory.b a0) 0)), (6, .d (iv v1)), (12, .d (iv s22)), (14, .d (.sl y27.length 0 (y27.flatMap eI.b))), (208, .d (.sl a0.Composites.length 0 (a0.Composites.flatMap (eS eI).b))), (210, .d (iv (a0.Composites.length : Int))), (212, .d (iv s22)), (228, .d (bv ((y27.length : Int) != v1)))] .nil (by kernel_rfl) (by kernel_rfl) ?_
                      rcases Bool.eq_false_or_eq_true ((y27.length : Int) != v1) with h28 | h28
                      · have hM := ite_true' hM h28
                        refine tr_condTe (e := (y27.length : Int) != v1) h28 (by kernel_rfl) ?_
                        refine tr_sr hT hm [] [4] [(4, .d (bv false))] .nil (by kernel_rfl) (by kernel_rfl) ?_
                        refine tr_ret (q_r (b_r (q_r (l_r (b_r (q_r (rg_r ?_)))))))
                        obtain rfl := Option.some.inj hM
                        exact retg (names := []) .nil (by kernel_rfl)
                      · have hM := ite_false' hM h28
                        refine tr_condFe (e := (y27.length : Int) != v1) h28 (by kernel_rfl) ?_
                        refine tr_skip (q_n ?_)
                        refine tr_sr hT hm [] [0, 6, 12, 208, 210, 212, 230, 232, 234] [(0, .d (.pt (eXCategory.b a0) 0)), (6, .d (iv v1)), (12, .d (iv s22)), (208, .d (.sl a0.Composites.length 0 (a0.Composites.flatMap (eS eI).b))), (210, .d (iv (a0.Composites.length : Int))), (212, .d (iv s22)), (230, .d (.sl y27.length 0 (y27.flatMap eI.b))), (232, .d (iv (y27.length : Int))), (234, .d (iv 0))] .nil (by kernel_rfl) (by kernel_rfl) ?_
                        refine tr_block ?_
                        refine tr_iterS (fun (s29 : Int) => [(0, .d (.pt (eXCategory.b a0) 0)), (6, .d (iv v1)), (12, .d (iv s22)), (208, .d (.sl a0.Composites.length 0 (a0.Composites.flatMap (eS eI).b))), (210, .d (iv (a0.Composites.length : Int))), (212, .d (iv s22)), (230, .d (.sl y27.length 0 (y27.flatMap eI.b))), (232, .d (iv (y27.length : Int))), (234, .d (iv s29))]) 0 [0, 6, 12, 208, 210, 212, 230, 232, 234] (by kernel_rfl) hM ?_
                        intro n32 next30 ih31 s29 hM
                        refine tr_sr hT hm [] [0, 6, 12, 208, 210, 212, 230, 232, 234, 236] [(0, .d (.pt (eXCategory.b a0) 0)), (6, .d (iv v1)), (12, .d (iv s22)), (208, .d (.sl a0.Composites.length 0 (a0.Composites.flatMap (eS eI).b))), (210, .d (iv (a0.Composites.length : Int))), (212, .d (iv s22)), (230, .d (.sl y27.length 0 (y27.flatMap eI.b))), (232, .d (iv (y27.length : Int))), (234, .d (iv s29)), (236, .d (bv (decide (s29 < (y27.length : Int)))))] .nil (by kernel_rfl) (by kernel_rfl) ?_
                        refine tr_seq ?_
                        rcases Bool.eq_false_or_eq_true (decide (s29 < (y27.length : Int))) with h33 | h33
                        · have hM := ite_true' hM h33
                          refine tr_condTe (e := decide (s29 < (y27.length : Int))) h33 (by kernel_rfl) ?_
                          refine tr_skip (q_n ?_)
                          refine tr_seq ?_
                          refine tr_block ?_
                          obtain ⟨y34, hy34, hM⟩ := bind_some' hM
                          have hy34' := idx_some hy34
                          refine tr_sr hT hm [(2, .val (iv y34))] [0, 6, 12, 16, 18, 208, 210, 212, 230, 232, 234] [(0, .d (.pt (eXCategory.b a0) 0)), (6, .d (iv v1)), (12, .d (iv s22)), (16, .d (iv s29)), (18, .d (iv y34)), (208, .d (.sl a0.Composites.length 0 (a0.Composites.flatMap (eS eI).b))), (210, .d (iv (a0.Composites.length : Int))), (212, .d (iv s22)), (230, .d (.sl y27.length 0 (y27.flatMap eI.b))), (232, .d (iv (y27.length : Int))), (234, .d (iv s29))] (.cons hy34'.1 (.cons hy34'.2.1 (.cons (at_b0 eI_ok hy34'.2.2 (d := iv y34) (by kernel_rfl)) .nil))) (by kernel_rfl) (by kernel_rfl) ?_
                          refine tr_seq ?_
                          obtain ⟨y35, hy35, hM⟩ := bind_some' hM
                          have hy35' := idx_some hy35
                          obtain ⟨y36, hy36, hM⟩ := bind_some' hM
                          have hy36' := idx_some hy36
                          refine tr_sr hT hm [(6, .val (iv y35)), (13, .val (iv y36))] [0, 6, 12, 16, 18, 208, 210, 212, 230, 232, 234, 272] [(0, .d (.pt (eXCategory.b a0) 0)), (6, .d (iv v1)), (12, .d (iv s22)), (16, .d (iv s29)), (18, .d (iv y34)), (208, .d (.sl a0.Composites.length 0 (a0.Composites.flatMap (eS eI).b))), (210, .d (iv (a0.Composites.length : Int))), (212, .d (iv s22)), (230, .d (.sl y27.length 0 (y27.flatMap eI.b))), (232, .d (iv (y27.length : Int))), (234, .d (iv s29)), (272, .d (bv (y35 != y36)))] (.cons hy35'.1 (.cons hy35'.2.1 (.cons (at_b0 eI_ok hy35'.2.2 (d := iv y35) (by kernel_rfl)) (.cons hy36'.1 (.cons hy36'.2.1 (.cons (at_b0 eI_ok hy36'.2.2 (d := iv y36) (by kernel_rfl)) .nil)))))) (by kernel_rfl) (by kernel_rfl) ?_
                          rcases Bool.eq_false_or_eq_true (y35 != y36) with h37 | h37
                          · have hM := ite_true' hM h37
                            refine tr_condTe (e := y35 != y36) h37 (by kernel_rfl) ?_
                            refine tr_seq ?_
                            refine tr_sr hT hm [] [0, 6, 12, 208, 210, 212, 230, 232, 234, 276] [(0, .d (.pt (eXCategory.b a0) 0)), (6, .d (iv v1)), (12, .d (iv s22)), (208, .d (.sl a0.Composites.length 0 (a0.Composites.flatMap (eS eI).b))), (210, .d (iv (a0.Composites.length : Int))), (212, .d (iv s22)), (230, .d (.sl y27.length 0 (y27.flatMap eI.b))), (232, .d (iv (y27.length : Int))), (234, .d (iv s29)), (276, .d (bv (y34 != (-1))))] .nil (by kernel_rfl) (by kernel_rfl) ?_
                            rcases Bool.eq_false_or_eq_true (y34 != (-1)) with h38 | h38
                            · have hM := ite_true' hM h38
                              refine tr_condTe (e := y34 != (-1)) h38 (by kernel_rfl) ?_
                              refine tr_sr hT hm [] [4] [(4, .d (bv false))] .nil (by kernel_rfl) (by kernel_rfl) ?_
                              refine tr_ret (q_r (q_r (b_r (q_r (l_r (b_r (b_r (q_r (l_r (b_r (q_r (rg_r ?_))))))))))))
                              obtain rfl := Option.some.inj hM
                              exact retg (names := []) .nil (by kernel_rfl)
                            · have hM := ite_false' hM h38
                              refine tr_condFe (e := y34 != (-1)) h38 (by kernel_rfl) ?_
                              refine tr_skip (q_n ?_)
                              refine tr_exit (q_x (b_h (q_n ?_)))
                              refine tr_r hT hm [] [0, 6, 12, 208, 210, 212, 230, 232, 234] [(0, .d (.pt (eXCategory.b a0) 0)), (6, .d (iv v1)), (12, .d (iv s22)), (208, .d (.sl a0.Composites.length 0 (a0.Composites.flatMap (eS eI).b))), (210, .d (iv (a0.Composites.length : Int))), (212, .d (iv s22)), (230, .d (.sl y27.length 0 (y27.flatMap eI.b))), (232, .d (iv (y27.length : Int))), (234, .d (iv (IntKind.i64.wrap (s29 + 1))))] .nil (by kernel_rfl) (by kernel_rfl) (l_n ?_)
                              exact trl_start (ks := [0, 6, 12, 208, 210, 212, 230, 232, 234]) (by kernel_rfl) (ih31 (IntKind.i64.wrap (s29 + 1)) hM)
                          · have hM := ite_false' hM h37
                            refine tr_condFe (e := y35 != y36) h37 (by kernel_rfl) ?_
                            refine tr_skip (q_n ?_)
                            obtain ⟨v39, hv39, hM⟩ := bind_some' hM
                            rcases Bool.eq_false_or_eq_true v39 with h40 | h40
                            · have hM := ite_true' hM h40
                              obtain ⟨v41, hv41, hM⟩ := bind_some' hM
                              obtain ⟨y42, hy42, hM⟩ := bind_some' hM
                              have hy42' := idx_some hy42
                              obtain ⟨y43, hy43, hM⟩ := bind_some' hM
                              have hy43' := idx_some hy43
                              refine tr_sr hT hm [(3, .call [] [] [iv y34, iv 0, iv (IntKind.i64.wrap (v1 - 1))] [] (bv v39)), (5, .val (bv false)), (8, .call [] [] [.pt (eXCategory.b a0) 0, iv y34] [] (.agg (eXends.o v41))), (15, .val (iv y42)), (22, .val (iv y43))] [0, 6, 12, 208, 210, 212, 230, 232, 234, 328] [(0, .d (.pt (eXCategory.b a0) 0)), (6, .d (iv v1)), (12, .d (iv s22)), (208, .d (.sl a0.Composites.length 0 (a0.Composites.flatMap (eS eI).b))), (210, .d (iv (a0.Composites.length : Int))), (212, .d (iv s22)), (230, .d (.sl y27.length 0 (y27.flatMap eI.b))), (232, .d (iv (y27.length : Int))), (234, .d (iv s29)), (328, .d (bv (((v41.from_ == y42) && (v41.to_ == y43)) == false)))] (cc0 ok126 (impl_inRange_c y34 0 (IntKind.i64.wrap (v1 - 1)) _ hv39) (by kernel_rfl) (.cons (congrArg (fun b => bv b) (congrArg not h40)) (cc0 ok130 (iC_ends_c a0 y34 _ hv41) (by kernel_rfl) (.cons hy42'.1 (.cons hy42'.2.1 (.cons (at_b0 eI_ok hy42'.2.2 (d := iv y42) (by kernel_rfl)) (.cons hy43'.1 (.cons hy43'.2.1 (.cons (at_b0 eI_ok hy43'.2.2 (d := iv y43) (by kernel_rfl)) (.cons (by kernel_rfl : Try.prog.stoodInHeld 173 = false) (.cons (by kernel_rfl : Try.prog.eqGuardType Try.prog.depth 173 = false) .nil))))))))))) (by kernel_rfl) (by kernel_rfl) ?_
                              rcases Bool.eq_false_or_eq_true (((v41.from_ == y42) && (v41.to_ == y43)) == false) with h44 | h44
                              · have hM := ite_true' hM h44
                                refine tr_condTe (e := ((v41.from_ == y42) && (v41.to_ == y43)) == false) h44 (by kernel_rfl) ?_
                                refine tr_sr hT hm [] [4] [(4, .d (bv false))] .nil (by kernel_rfl) (by kernel_rfl) ?_
                                refine tr_ret (b_r (q_r (l_r (b_r (b_r (q_r (l_r (b_r (q_r (rg_r ?_))))))))))
                                obtain rfl := Option.some.inj hM
                                exact retg (names := []) .nil (by kernel_rfl)
                              · have hM := ite_false' hM h44
                                refine tr_condFe (e := ((v41.from_ == y42) && (v41.to_ == y43)) == false) h44 (by kernel_rfl) ?_
                                refine tr_skip (b_n (q_n ?_))
                                refine tr_r hT hm [] [0, 6, 12, 208, 210, 212, 230, 232, 234] [(0, .d (.pt (eXCategory.b a0) 0)), (6, .d (iv v1)), (12, .d (iv s22)), (208, .d (.sl a0.Composites.length 0 (a0.Composites.flatMap (eS eI).b))), (210, .d (iv (a0.Composites.length : Int))), (212, .d (iv s22)), (230, .d (.sl y27.length 0 (y27.flatMap eI.b))), (232, .d (iv (y27.length : Int))), (234, .d (iv (IntKind.i64.wrap (s29 + 1))))] .nil (by kernel_rfl) (by kernel_rfl) (l_n ?_)
                                exact trl_start (ks := [0, 6, 12, 208, 210, 212, 230, 232, 234]) (by kernel_rfl) (ih31 (IntKind.i64.wrap (s29 + 1)) hM)
                            · have hM := ite_false' hM h40
                              refine tr_sr hT hm [(3, .call [] [] [iv y34, iv 0, iv (IntKind.i64.wrap (v1 - 1))] [] (bv v39)), (5, .val (bv true))] [0, 6, 12, 208, 210, 212, 230, 232, 234, 328] [(0, .d (.pt (eXCategory.b a0) 0)), (6, .d (iv v1)), (12, .d (iv s22)), (208, .d (.sl a0.Composites.length 0 (a0.Composites.flatMap (eS eI).b))), (210, .d (iv (a0.Composites.length : Int))), (212, .d (iv s22)), (230, .d (.sl y27.length 0 (y27.flatMap eI.b))), (232, .d (iv (y27.length : Int))), (234, .d (iv s29)), (328, .d (bv true))] (cc0 ok126 (impl_inRange_c y34 0 (IntKind.i64.wrap (v1 - 1)) _ hv39) (by kernel_rfl) (.cons (congrArg (fun b => bv b) (congrArg not h40)) .nil)) (by kernel_rfl) (by kernel_rfl) ?_
                              refine tr_condT (by kernel_rfl) ?_
                              refine tr_sr hT hm [] [4] [(4, .d (bv false))] .nil (by kernel_rfl) (by kernel_rfl) ?_
                              refine tr_ret (b_r (q_r (l_r (b_r (b_r (q_r (l_r (b_r (q_r (rg_r ?_))))))))))
                              obtain rfl := Option.some.inj hM
                              exact retg (names := []) .nil (by kernel_rfl)
                        · have hM := ite_false' hM h33
                          refine tr_condFe (e := decide (s29 < (y27.length : Int))) h33 (by kernel_rfl) ?_
                          refine tr_exit (q_x (l_x (b_h (b_n (q_n ?_)))))
                          refine tr_r hT hm [] [0, 6, 208, 210, 212] [(0, .d (.pt (eXCategory.b a0) 0)), (6, .d (iv v1)), (208, .d (.sl a0.Composites.length 0 (a0.Composites.flatMap (eS eI).b))), (210, .d (iv (a0.Composites.length : Int))), (212, .d (iv (IntKind.i64.wrap (s22 + 1))))] .nil (by kernel_rfl) (by kernel_rfl) (l_n ?_)
                          exact trl_start (ks := [0, 6, 208, 210, 212]) (by kernel_rfl) (ih24 (IntKind.i64.wrap (s22 + 1)) hM)
                    · have hM := ite_false' hM h26
                      refine tr_condFe (e := decide (s22 < (a0.Composites.length : Int))) h26 (by kernel_rfl) ?_
                      refine tr_exit (q_x (l_x (b_h (q_n ?_))))
                      refine tr_sr hT hm [] [4] [(4, .d (bv true))] .nil (by kernel_rfl) (by kernel_rfl) ?_
                      refine tr_ret (rg_r ?_)
                      obtain rfl := Option.some.inj hM
                      exact retg (names := []) .nil (by kernel_rfl)
              · have hM := ite_false' hM h12
                refine tr_sr hT hm [(10, .val (bv false)), (16, .call [] [] [.sl a0.Identity.length 0 (a0.Identity.flatMap eI.b), iv v1] [] (bv v11)), (19, .val (bv true))] [0, 6, 164] [(0, .d (.pt (eXCategory.b a0) 0)), (6, .d (iv v1)), (164, .d (bv true))] (.cons (congrArg (fun b => bv b) h10) (cc0 ok113 (impl_within_c a0.Identity v1 _ hv11) (by kernel_rfl) (.cons (congrArg (fun b => bv b) (congrArg not h12)) .nil))) (by kernel_rfl) (by kernel_rfl) ?_
                refine tr_condT (by kernel_rfl) ?_
                refine tr_sr hT hm [] [4] [(4, .d (bv false))] .nil (by kernel_rfl) (by kernel_rfl) ?_
                refine tr_ret (q_r (rg_r ?_))
                obtain rfl := Option.some.inj hM
                exact retg (names := []) .nil (by kernel_rfl)
          · have hM := ite_false' hM h9
            refine tr_condTe (e := !v8) (congrArg not h9) (by kernel_rfl) ?_
            refine tr_sr hT hm [] [4] [(4, .d (bv false))] .nil (by kernel_rfl) (by kernel_rfl) ?_
            refine tr_ret (q_r (rg_r ?_))
            obtain rfl := Option.some.inj hM
            exact retg (names := []) .nil (by kernel_rfl)
        · have hM := ite_false' hM h7
          refine tr_sr hT hm [(4, .call [] [] [iv a0.Objects, iv 0, iv 8] [] (bv v2)), (6, .val (bv false)), (10, .val (bv false)), (19, .val (bv false)), (28, .call [] [] [.sl a0.From.length 0 (a0.From.flatMap eI.b), iv a0.Objects] [] (bv v6)), (31, .val (bv true))] [0, 6, 108] [(0, .d (.pt (eXCategory.b a0) 0)), (6, .d (iv v1)), (108, .d (bv true))] (cc0 ok126 (impl_inRange_c a0.Objects 0 8 _ hv2) (by kernel_rfl) (.cons (congrArg (fun b => bv b) (congrArg not h3)) (.cons (congrArg (fun b => bv b) h4) (.cons (congrArg (fun b => bv b) h5) (cc0 ok113 (impl_within_c a0.From a0.Objects _ hv6) (by kernel_rfl) (.cons (congrArg (fun b => bv b) (congrArg not h7)) .nil)))))) (by kernel_rfl) (by kernel_rfl) ?_
          refine tr_condT (by kernel_rfl) ?_
          refine tr_sr hT hm [] [4] [(4, .d (bv false))] .nil (by kernel_rfl) (by kernel_rfl) ?_
          refine tr_ret (q_r (rg_r ?_))
          obtain rfl := Option.some.inj hM
          exact retg (names := []) .nil (by kernel_rfl)
  · have hM := ite_false' hM h3
    refine tr_sr hT hm [(4, .call [] [] [iv a0.Objects, iv 0, iv 8] [] (bv v2)), (6, .val (bv true))] [0, 6, 108] [(0, .d (.pt (eXCategory.b a0) 0)), (6, .d (iv v1)), (108, .d (bv true))] (cc0 ok126 (impl_inRange_c a0.Objects 0 8 _ hv2) (by kernel_rfl) (.cons (congrArg (fun b => bv b) (congrArg not h3)) .nil)) (by kernel_rfl) (by kernel_rfl) ?_
    refine tr_condT (by kernel_rfl) ?_
    refine tr_sr hT hm [] [4] [(4, .d (bv false))] .nil (by kernel_rfl) (by kernel_rfl) ?_
    refine tr_ret (q_r (rg_r ?_))
    obtain rfl := Option.some.inj hM
    exact retg (names := []) .nil (by kernel_rfl)
theorem ok76 : CallOk Try.prog 76 := callOk_of Try.func76 (by kernel_rfl) (by kernel_rfl)
theorem iC_then_c (a0 : XCategory) (a1 : Int) (a2 : Int) (r : Int) (hM : M.iC_then a0 a1 a2 = some r) :
    FnC Try.prog 76 [] [.pt (eXCategory.b a0) 0, iv a1, iv a2] [] (iv r) := by
  refine fnc_startG (N := 17) (np := 500) hT Try.func76 rfl rfl (by kernel_rfl) ?_
  unfold M.iC_then at hM
  refine tr_start (ks := [0, 2, 4]) (st' := [(0, .d (.pt (eXCategory.b a0) 0)), (2, .d (iv a1)), (4, .d (iv a2))]) (by kernel_rfl) ?_
  refine tr_sr hT hm [] [0, 2, 4] [(0, .d (.pt (eXCategory.b a0) 0)), (2, .d (iv a1)), (4, .d (iv a2))] .nil (by kernel_rfl) (by kernel_rfl) ?_
  obtain ⟨y1, hy1, hM⟩ := bind_some' hM
  have hy1' := idx_some hy1
  obtain ⟨y2, hy2, hM⟩ := bind_some' hM
  have hy2' := idx_some hy2
  refine tr_sr hT hm [(6, .val (.sl y1.length 0 (y1.flatMap eI.b))), (9, .val (iv y2))] [12] [(12, .d (iv y2))] (.cons hy1'.1 (.cons hy1'.2.1 (.cons (at_b0 (eS_ok eI_ok) hy1'.2.2 (d := .sl y1.length 0 (y1.flatMap eI.b)) (by kernel_rfl)) (.cons hy2'.1 (.cons hy2'.2.1 (.cons (at_b0 eI_ok hy2'.2.2 (d := iv y2) (by kernel_rfl)) .nil)))))) (by kernel_rfl) (by kernel_rfl) ?_
  refine tr_ret (rg_r ?_)
  obtain rfl := Option.some.inj hM
  exact retg (names := []) .nil (by kernel_rfl)
theorem ok103 : CallOk Try.prog 103 := callOk_of Try.func103 (by kernel_rfl) (by kernel_rfl)
theorem iC_fault_c (a0 : XCategory) (r : Int × Int × Int × Int) (hM : M.iC_fault a0 = some r) :
    FnC Try.prog 103 [] [.pt (eXCategory.b a0) 0] [] (.tup [iv r.1, iv r.2.1, iv r.2.2.1, iv r.2.2.2]) := by
  refine fnc_startG (N := 102) (np := 500) hT Try.func103 rfl rfl (by kernel_rfl) ?_
  unfold M.iC_fault at hM
  refine tr_start (ks := [0]) (st' := [(0, .d (.pt (eXCategory.b a0) 0))]) (by kernel_rfl) ?_
  refine tr_sr hT hm [] [0] [(0, .d (.pt (eXCategory.b a0) 0))] .nil (by kernel_rfl) (by kernel_rfl) ?_
  obtain ⟨v1, hv1, hM⟩ := bind_some' hM
  refine tr_sr hT hm [(1, .call [] [] [.pt (eXCategory.b a0) 0] [] (iv v1))] [0, 12] [(0, .d (.pt (eXCategory.b a0) 0)), (12, .d (iv v1))] (cc0 ok114 (iC_arrows_c a0 _ hv1) (by kernel_rfl) .nil) (by kernel_rfl) (by kernel_rfl) ?_
  refine tr_seq ?_
  refine tr_sr hT hm [] [0, 12, 14] [(0, .d (.pt (eXCategory.b a0) 0)), (12, .d (iv v1)), (14, .d (iv 0))] .nil (by kernel_rfl) (by kernel_rfl) ?_
  refine tr_block ?_
  refine tr_iterS (fun (s2 : Int) => [(0, .d (.pt (eXCategory.b a0) 0)), (12, .d (iv v1)), (14, .d (iv s2))]) 0 [0, 12, 14] (by kernel_rfl) hM ?_
  intro n5 next3 ih4 s2 hM
  refine tr_seq ?_
  refine tr_sr hT hm [] [0, 12, 14, 30] [(0, .d (.pt (eXCategory.b a0) 0)), (12, .d (iv v1)), (14, .d (iv s2)), (30, .d (bv (decide (s2 < v1))))] .nil (by kernel_rfl) (by kernel_rfl) ?_
  rcases Bool.eq_false_or_eq_true (decide (s2 < v1)) with h6 | h6
  · have hM := ite_true' hM h6
    refine tr_condTe (e := decide (s2 < v1)) h6 (by kernel_rfl) ?_
    refine tr_skip (q_n ?_)
    refine tr_seq ?_
    refine tr_block ?_
    obtain ⟨y7, hy7, hM⟩ := bind_some' hM
    have hy7' := idx_some hy7
    obtain ⟨y8, hy8, hM⟩ := bind_some' hM
    have hy8' := idx_some hy8
    obtain ⟨v9, hv9, hM⟩ := bind_some' hM
    rcases Bool.eq_false_or_eq_true (v9 != s2) with h10 | h10
    · have hM := ite_true' hM h10
      refine tr_sr hT hm [(11, .val (iv y7)), (13, .val (iv y8)), (15, .call [] [] [.pt (eXCategory.b a0) 0, iv y8, iv s2] [] (iv v9)), (18, .val (bv true))] [0, 12, 14, 110] [(0, .d (.pt (eXCategory.b a0) 0)), (12, .d (iv v1)), (14, .d (iv s2)), (110, .d (bv true))] (.cons hy7'.1 (.cons hy7'.2.1 (.cons (at_b0 eI_ok hy7'.2.2 (d := iv y7) (by kernel_rfl)) (.cons hy8'.1 (.cons hy8'.2.1 (.cons (at_b0 eI_ok hy8'.2.2 (d := iv y8) (by kernel_rfl)) (cc0 ok76 (iC_then_c a0 y8 s2 _ hv9) (by kernel_rfl) (.cons (congrArg (fun b => bv b) h10) .nil)))))))) (by kernel_rfl) (by kernel_rfl) ?_
      refine tr_condT (by kernel_rfl) ?_
      refine tr_sr hT hm [] [4, 6, 8, 10] [(4, .d (iv 1)), (6, .d (iv s2)), (8, .d (iv 0)), (10, .d (iv 0))] .nil (by kernel_rfl) (by kernel_rfl) ?_
      refine tr_ret (b_r (q_r (l_r (b_r (q_r (rg_r ?_))))))
      obtain rfl := Option.some.inj hM
      exact retg (names := []) .nil (by kernel_rfl)
    · have hM := ite_false' hM h10
      obtain ⟨y11, hy11, hM⟩ := bind_some' hM
      have hy11' := idx_some hy11
      obtain ⟨y12, hy12, hM⟩ := bind_some' hM
      have hy12' := idx_some hy12
      obtain ⟨v13, hv13, hM⟩ := bind_some' hM
      refine tr_sr hT hm [(11, .val (iv y7)), (13, .val (iv y8)), (15, .call [] [] [.pt (eXCategory.b a0) 0, iv y8, iv s2] [] (iv v9)), (18, .val (bv false)), (31, .val (iv y11)), (33, .val (iv y12)), (34, .call [] [] [.pt (eXCategory.b a0) 0, iv s2, iv y12] [] (iv v13))] [0, 12, 14, 110] [(0, .d (.pt (eXCategory.b a0) 0)), (12, .d (iv v1)), (14, .d (iv s2)), (110, .d (bv (v13 != s2)))] (.cons hy7'.1 (.cons hy7'.2.1 (.cons (at_b0 eI_ok hy7'.2.2 (d := iv y7) (by kernel_rfl)) (.cons hy8'.1 (.cons hy8'.2.1 (.cons (at_b0 eI_ok hy8'.2.2 (d := iv y8) (by kernel_rfl)) (cc0 ok76 (iC_then_c a0 y8 s2 _ hv9) (by kernel_rfl) (.cons (congrArg (fun b => bv b) h10) (.cons hy11'.1 (.cons hy11'.2.1 (.cons (at_b0 eI_ok hy11'.2.2 (d := iv y11) (by kernel_rfl)) (.cons hy12'.1 (.cons hy12'.2.1 (.cons (at_b0 eI_ok hy12'.2.2 (d := iv y12) (by kernel_rfl)) (cc0 ok76 (iC_then_c a0 s2 y12 _ hv13) (by kernel_rfl) .nil))))))))))))))) (by kernel_rfl) (by kernel_rfl) ?_
      rcases Bool.eq_false_or_eq_true (v13 != s2) with h14 | h14
      · have hM := ite_true' hM h14
        refine tr_condTe (e := v13 != s2) h14 (by kernel_rfl) ?_
        refine tr_sr hT hm [] [4, 6, 8, 10] [(4, .d (iv 1)), (6, .d (iv s2)), (8, .d (iv 0)), (10, .d (iv 0))] .nil (by kernel_rfl) (by kernel_rfl) ?_
        refine tr_ret (b_r (q_r (l_r (b_r (q_r (rg_r ?_))))))
        obtain rfl := Option.some.inj hM
        exact retg (names := []) .nil (by kernel_rfl)
      · have hM := ite_false' hM h14
        refine tr_condFe (e := v13 != s2) h14 (by kernel_rfl) ?_
        refine tr_skip (b_n (q_n ?_))
        refine tr_r hT hm [] [0, 12, 14] [(0, .d (.pt (eXCategory.b a0) 0)), (12, .d (iv v1)), (14, .d (iv (IntKind.i64.wrap (s2 + 1))))] .nil (by kernel_rfl) (by kernel_rfl) (l_n ?_)
        exact trl_start (ks := [0, 12, 14]) (by kernel_rfl) (ih4 (IntKind.i64.wrap (s2 + 1)) hM)
  · have hM := ite_false' hM h6
    refine tr_condFe (e := decide (s2 < v1)) h6 (by kernel_rfl) ?_
    refine tr_exit (q_x (l_x (b_h (q_n ?_))))
    refine tr_seq ?_
    refine tr_sr hT hm [] [0, 12, 16] [(0, .d (.pt (eXCategory.b a0) 0)), (12, .d (iv v1)), (16, .d (iv 0))] .nil (by kernel_rfl) (by kernel_rfl) ?_
    refine tr_block ?_
    refine tr_iterS (fun (s15 : Int) => [(0, .d (.pt (eXCategory.b a0) 0)), (12, .d (iv v1)), (16, .d (iv s15))]) 0 [0, 12, 16] (by kernel_rfl) hM ?_
    intro n18 next16 ih17 s15 hM
    refine tr_seq ?_
    refine tr_sr hT hm [] [0, 12, 16, 118] [(0, .d (.pt (eXCategory.b a0) 0)), (12, .d (iv v1)), (16, .d (iv s15)), (118, .d (bv (decide (s15 < v1))))] .nil (by kernel_rfl) (by kernel_rfl) ?_
    rcases Bool.eq_false_or_eq_true (decide (s15 < v1)) with h19 | h19
    · have hM := ite_true' hM h19
      refine tr_condTe (e := decide (s15 < v1)) h19 (by kernel_rfl) ?_
      refine tr_skip (q_n ?_)
      refine tr_seq ?_
      refine tr_block ?_
      refine tr_sr hT hm [] [0, 12, 16, 18] [(0, .d (.pt (eXCategory.b a0) 0)), (12, .d (iv v1)), (16, .d (iv s15)), (18, .d (iv 0))] .nil (by kernel_rfl) (by kernel_rfl) ?_
      refine tr_block ?_
      refine tr_iterS (fun (s20 : Int) => [(0, .d (.pt (eXCategory.b a0) 0)), (12, .d (iv v1)), (16, .d (iv s15)), (18, .d (iv s20))]) 0 [0, 12, 16, 18] (by kernel_rfl) hM ?_
      intro n23 next21 ih22 s20 hM
      refine tr_seq ?_
      refine tr_sr hT hm [] [0, 12, 16, 18, 128] [(0, .d (.pt (eXCategory.b a0) 0)), (12, .d (iv v1)), (16, .d (iv s15)), (18, .d (iv s20)), (128, .d (bv (decide (s20 < v1))))] .nil (by kernel_rfl) (by kernel_rfl) ?_
      rcases Bool.eq_false_or_eq_true (decide (s20 < v1)) with h24 | h24
      · have hM := ite_true' hM h24
        refine tr_condTe (e := decide (s20 < v1)) h24 (by kernel_rfl) ?_
        refine tr_skip (q_n ?_)
        refine tr_seq ?_
        refine tr_block ?_
        refine tr_seq ?_
        obtain ⟨v25, hv25, hM⟩ := bind_some' hM
        refine tr_sr hT hm [(3, .call [] [] [.pt (eXCategory.b a0) 0, iv s15, iv s20] [] (iv v25))] [0, 12, 16, 18, 142] [(0, .d (.pt (eXCategory.b a0) 0)), (12, .d (iv v1)), (16, .d (iv s15)), (18, .d (iv s20)), (142, .d (bv (decide (v25 < 0))))] (cc0 ok76 (iC_then_c a0 s15 s20 _ hv25) (by kernel_rfl) .nil) (by kernel_rfl) (by kernel_rfl) ?_
        rcases Bool.eq_false_or_eq_true (decide (v25 < 0)) with h26 | h26
        · have hM := ite_true' hM h26
          refine tr_condTe (e := decide (v25 < 0)) h26 (by kernel_rfl) ?_
          refine tr_exit (q_x (b_h (q_n ?_)))
          refine tr_r hT hm [] [0, 12, 16, 18] [(0, .d (.pt (eXCategory.b a0) 0)), (12, .d (iv v1)), (16, .d (iv s15)), (18, .d (iv (IntKind.i64.wrap (s20 + 1))))] .nil (by kernel_rfl) (by kernel_rfl) (l_n ?_)
          exact trl_start (ks := [0, 12, 16, 18]) (by kernel_rfl) (ih22 (IntKind.i64.wrap (s20 + 1)) hM)
        · have hM := ite_false' hM h26
          refine tr_condFe (e := decide (v25 < 0)) h26 (by kernel_rfl) ?_
          refine tr_skip (q_n ?_)
          refine tr_sr hT hm [] [0, 12, 16, 18, 20] [(0, .d (.pt (eXCategory.b a0) 0)), (12, .d (iv v1)), (16, .d (iv s15)), (18, .d (iv s20)), (20, .d (iv 0))] .nil (by kernel_rfl) (by kernel_rfl) ?_
          refine tr_block ?_
          refine tr_iterS (fun (s27 : Int) => [(0, .d (.pt (eXCategory.b a0) 0)), (12, .d (iv v1)), (16, .d (iv s15)), (18, .d (iv s20)), (20, .d (iv s27))]) 0 [0, 12, 16, 18, 20] (by kernel_rfl) hM ?_
          intro n30 next28 ih29 s27 hM
          refine tr_seq ?_
          refine tr_sr hT hm [] [0, 12, 16, 18, 20, 148] [(0, .d (.pt (eXCategory.b a0) 0)), (12, .d (iv v1)), (16, .d (iv s15)), (18, .d (iv s20)), (20, .d (iv s27)), (148, .d (bv (decide (s27 < v1))))] .nil (by kernel_rfl) (by kernel_rfl) ?_
          rcases Bool.eq_false_or_eq_true (decide (s27 < v1)) with h31 | h31
          · have hM := ite_true' hM h31
            refine tr_condTe (e := decide (s27 < v1)) h31 (by kernel_rfl) ?_
            refine tr_skip (q_n ?_)
            refine tr_seq ?_
            refine tr_block ?_
            obtain ⟨v32, hv32, hM⟩ := bind_some' hM
            rcases Bool.eq_false_or_eq_true (decide (v32 ≥ 0)) with h33 | h33
            · have hM := ite_true' hM h33
              obtain ⟨v34, hv34, hM⟩ := bind_some' hM
              obtain ⟨v35, hv35, hM⟩ := bind_some' hM
              refine tr_sr hT hm [(3, .call [] [] [.pt (eXCategory.b a0) 0, iv s20, iv s27] [] (iv v32)), (5, .val (bv true)), (10, .call [] [] [.pt (eXCategory.b a0) 0, iv s15, iv s20] [] (iv v25)), (12, .call [] [] [.pt (eXCategory.b a0) 0, iv v25, iv s27] [] (iv v34)), (18, .call [] [] [.pt (eXCategory.b a0) 0, iv s20, iv s27] [] (iv v32)), (19, .call [] [] [.pt (eXCategory.b a0) 0, iv s15, iv v32] [] (iv v35))] [0, 12, 16, 18, 20, 196] [(0, .d (.pt (eXCategory.b a0) 0)), (12, .d (iv v1)), (16, .d (iv s15)), (18, .d (iv s20)), (20, .d (iv s27)), (196, .d (bv (v34 != v35)))] (cc0 ok76 (iC_then_c a0 s20 s27 _ hv32) (by kernel_rfl) (.cons (congrArg (fun b => bv b) h33) (cc0 ok76 (iC_then_c a0 s15 s20 _ hv25) (by kernel_rfl) (cc0 ok76 (iC_then_c a0 v25 s27 _ hv34) (by kernel_rfl) (cc0 ok76 (iC_then_c a0 s20 s27 _ hv32) (by kernel_rfl) (cc0 ok76 (iC_then_c a0 s15 v32 _ hv35) (by kernel_rfl) .nil)))))) (by kernel_rfl) (by kernel_rfl) ?_
              rcases Bool.eq_false_or_eq_true (v34 != v35) with h36 | h36
              · have hM := ite_true' hM h36
                refine tr_condTe (e := v34 != v35) h36 (by kernel_rfl) ?_
                refine tr_sr hT hm [] [4, 6, 8, 10] [(4, .d (iv 2)), (6, .d (iv s15)), (8, .d (iv s20)), (10, .d (iv s27))] .nil (by kernel_rfl) (by kernel_rfl) ?_
                refine tr_ret (b_r (q_r (l_r (b_r (b_r (q_r (l_r (b_r (b_r (q_r (l_r (b_r (q_r (rg_r ?_))))))))))))))
                obtain rfl := Option.some.inj hM
                exact retg (names := []) .nil (by kernel_rfl)
              · have hM := ite_false' hM h36
                refine tr_condFe (e := v34 != v35) h36 (by kernel_rfl) ?_
                refine tr_skip (b_n (q_n ?_))
                refine tr_r hT hm [] [0, 12, 16, 18, 20] [(0, .d (.pt (eXCategory.b a0) 0)), (12, .d (iv v1)), (16, .d (iv s15)), (18, .d (iv s20)), (20, .d (iv (IntKind.i64.wrap (s27 + 1))))] .nil (by kernel_rfl) (by kernel_rfl) (l_n ?_)
                exact trl_start (ks := [0, 12, 16, 18, 20]) (by kernel_rfl) (ih29 (IntKind.i64.wrap (s27 + 1)) hM)
            · have hM := ite_false' hM h33
              refine tr_sr hT hm [(3, .call [] [] [.pt (eXCategory.b a0) 0, iv s20, iv s27] [] (iv v32)), (5, .val (bv false))] [0, 12, 16, 18, 20, 196] [(0, .d (.pt (eXCategory.b a0) 0)), (12, .d (iv v1)), (16, .d (iv s15)), (18, .d (iv s20)), (20, .d (iv s27)), (196, .d (bv false))] (cc0 ok76 (iC_then_c a0 s20 s27 _ hv32) (by kernel_rfl) (.cons (congrArg (fun b => bv b) h33) .nil)) (by kernel_rfl) (by kernel_rfl) ?_
              refine tr_condF (by kernel_rfl) ?_
              refine tr_skip (b_n (q_n ?_))
              refine tr_r hT hm [] [0, 12, 16, 18, 20] [(0, .d (.pt (eXCategory.b a0) 0)), (12, .d (iv v1)), (16, .d (iv s15)), (18, .d (iv s20)), (20, .d (iv (IntKind.i64.wrap (s27 + 1))))] .nil (by kernel_rfl) (by kernel_rfl) (l_n ?_)
              exact trl_start (ks := [0, 12, 16, 18, 20]) (by kernel_rfl) (ih29 (IntKind.i64.wrap (s27 + 1)) hM)
          · have hM := ite_false' hM h31
            refine tr_condFe (e := decide (s27 < v1)) h31 (by kernel_rfl) ?_
            refine tr_exit (q_x (l_x (b_h (b_n (q_n ?_)))))
            refine tr_r hT hm [] [0, 12, 16, 18] [(0, .d (.pt (eXCategory.b a0) 0)), (12, .d (iv v1)), (16, .d (iv s15)), (18, .d (iv (IntKind.i64.wrap (s20 + 1))))] .nil (by kernel_rfl) (by kernel_rfl) (l_n ?_)
            exact trl_start (ks := [0, 12, 16, 18]) (by kernel_rfl) (ih22 (IntKind.i64.wrap (s20 + 1)) hM)
      · have hM := ite_false' hM h24
        refine tr_condFe (e := decide (s20 < v1)) h24 (by kernel_rfl) ?_
        refine tr_exit (q_x (l_x (b_h (b_n (q_n ?_)))))
        refine tr_r hT hm [] [0, 12, 16] [(0, .d (.pt (eXCategory.b a0) 0)), (12, .d (iv v1)), (16, .d (iv (IntKind.i64.wrap (s15 + 1))))] .nil (by kernel_rfl) (by kernel_rfl) (l_n ?_)
        exact trl_start (ks := [0, 12, 16]) (by kernel_rfl) (ih17 (IntKind.i64.wrap (s15 + 1)) hM)
    · have hM := ite_false' hM h19
      refine tr_condFe (e := decide (s15 < v1)) h19 (by kernel_rfl) ?_
      refine tr_exit (q_x (l_x (b_h (q_n ?_))))
      refine tr_sr hT hm [] [4, 6, 8, 10] [(4, .d (iv 0)), (6, .d (iv 0)), (8, .d (iv 0)), (10, .d (iv 0))] .nil (by kernel_rfl) (by kernel_rfl) ?_
      refine tr_ret (rg_r ?_)
      obtain rfl := Option.some.inj hM
      exact retg (names := []) .nil (by kernel_rfl)
theorem ok56 : CallOk Try.prog 56 := callOk_of Try.func56 (by kernel_rfl) (by kernel_rfl)
theorem iC_isCategory_c (a0 : XCategory) (r : Bool) (hM : M.iC_isCategory a0 = some r) :
    FnC Try.prog 56 [] [.pt (eXCategory.b a0) 0] [] (bv r) := by
  refine fnc_startG (N := 19) (np := 500) hT Try.func56 rfl rfl (by kernel_rfl) ?_
  unfold M.iC_isCategory at hM
  refine tr_start (ks := [0]) (st' := [(0, .d (.pt (eXCategory.b a0) 0))]) (by kernel_rfl) ?_
  refine tr_sr hT hm [] [0] [(0, .d (.pt (eXCategory.b a0) 0))] .nil (by kernel_rfl) (by kernel_rfl) ?_
  refine tr_seq ?_
  obtain ⟨v1, hv1, hM⟩ := bind_some' hM
  refine tr_sr hT hm [(1, .call [] [] [.pt (eXCategory.b a0) 0] [] (bv v1))] [0, 18] [(0, .d (.pt (eXCategory.b a0) 0)), (18, .d (bv (!v1)))] (cc0 ok102 (iC_isShape_c a0 _ hv1) (by kernel_rfl) .nil) (by kernel_rfl) (by kernel_rfl) ?_
  rcases Bool.eq_false_or_eq_true v1 with h2 | h2
  · have hM := ite_true' hM h2
    refine tr_condFe (e := !v1) (congrArg not h2) (by kernel_rfl) ?_
    refine tr_skip (q_n ?_)
    obtain ⟨v3, hv3, hM⟩ := bind_some' hM
    refine tr_sr hT hm [(1, .call [] [] [.pt (eXCategory.b a0) 0] [] (.tup [iv v3.1, iv v3.2.1, iv v3.2.2.1, iv v3.2.2.2]))] [6] [(6, .d (iv v3.1))] (cc0 ok103 (iC_fault_c a0 _ hv3) (by kernel_rfl) .nil) (by kernel_rfl) (by kernel_rfl) ?_
    refine tr_sr hT hm [] [4] [(4, .d (bv (v3.1 == 0)))] .nil (by kernel_rfl) (by kernel_rfl) ?_
    refine tr_ret (rg_r ?_)
    obtain rfl := Option.some.inj hM
    exact retg (names := []) .nil (by kernel_rfl)
  · have hM := ite_false' hM h2
    refine tr_condTe (e := !v1) (congrArg not h2) (by kernel_rfl) ?_
    refine tr_sr hT hm [] [4] [(4, .d (bv false))] .nil (by kernel_rfl) (by kernel_rfl) ?_
    refine tr_ret (q_r (rg_r ?_))
    obtain rfl := Option.some.inj hM
    exact retg (names := []) .nil (by kernel_rfl)
theorem ok78 : CallOk Try.prog 78 := callOk_of Try.func78 (by kernel_rfl) (by kernel_rfl)
theorem impl_clone_c (a0 : List Int) (r : (List Int)) (hM : M.impl_clone a0 = some r) :
    FnC Try.prog 78 [] [.sl a0.length 0 (a0.flatMap eI.b)] [] (.fr 1 r.length (r.flatMap eI.o)) := by
  refine fnc_startG (N := 6) (np := 500) hT Try.func78 rfl rfl (by kernel_rfl) ?_
  unfold M.impl_clone at hM
  refine tr_start (ks := [0]) (st' := [(0, .d (.sl a0.length 0 (a0.flatMap eI.b)))]) (by kernel_rfl) ?_
  refine tr_sr hT hm [] [0] [(0, .d (.sl a0.length 0 (a0.flatMap eI.b)))] .nil (by kernel_rfl) (by kernel_rfl) ?_
  obtain ⟨h1, hM⟩ := chk_some hM
  refine tr_sr hT hm [(2, .app false)] [4, 2011] [(4, .d (.rs 1005 0 (([] : List Int).length + a0.length))), (2011, .r (.arr 1 (([] : List Int).flatMap eI.o ++ ((a0.flatMap eI.b).drop 0).take (a0.length * 1)) []))] (.cons (lenO_flat eI_ok ([] : List Int)) (.cons (len_take eI_ok.lenB a0) (.cons h1 .nil))) (by kernel_rfl) (by kernel_rfl) ?_
  refine Tr.by (imp_cvE (r := 1005) (sz := 1) (refs := []) (app_take eI_ok.lenB (fun _ => rfl) ([] : List Int) a0) (menO_flat eI_ok _) (by kernel_rfl)) ?_
  refine Tr.by (imp_cvD (k := 4) (congrArg (D.rs 1005 0) ((len_app ([] : List Int) a0) : ([] : List Int).length + a0.length = (([] : List Int) ++ a0).length)) (by kernel_rfl)) ?_
  refine tr_ret (rg_r ?_)
  obtain rfl := Option.some.inj hM
  exact retg (names := []) (.cons (lenO_flat eI_ok (([] : List Int) ++ a0)) .nil) (by kernel_rfl)
theorem ok116 : CallOk Try.prog 116 := callOk_of Try.func116 (by kernel_rfl) (by kernel_rfl)
theorem impl_clones_c (a0 : List (List Int)) (r : (List (List Int))) (hM : M.impl_clones a0 = some r) :
    FnC Try.prog 116 [] [.sl a0.length 0 (a0.flatMap (eS eI).b)] [] (.fr 1 r.length (r.flatMap (eS eI).o)) := by
  refine fnc_startG (N := 22) (np := 500) hT Try.func116 rfl rfl (by kernel_rfl) ?_
  unfold M.impl_clones at hM
  refine tr_start (ks := [0]) (st' := [(0, .d (.sl a0.length 0 (a0.flatMap (eS eI).b)))]) (by kernel_rfl) ?_
  refine tr_sr hT hm [] [0] [(0, .d (.sl a0.length 0 (a0.flatMap (eS eI).b)))] .nil (by kernel_rfl) (by kernel_rfl) ?_
  obtain ⟨h1, hM⟩ := chk_some hM
  refine tr_sr hT hm [] [0, 6, 2017] [(0, .d (.sl a0.length 0 (a0.flatMap (eS eI).b))), (6, .d (.rs 1008 0 (([] : List (List Int)).length))), (2017, .r (.arr 1 (([] : List (List Int)).flatMap (eS eI).o) []))] (.cons (Int.le_refl 0) (.cons h1.1 (.cons h1.2 .nil))) (by kernel_rfl) (by kernel_rfl) ?_
  refine tr_seq ?_
  refine tr_sr hT hm [] [6, 18, 20, 22, 2017] [(6, .d (.rs 1008 0 (([] : List (List Int)).length))), (18, .d (.sl a0.length 0 (a0.flatMap (eS eI).b))), (20, .d (iv (a0.length : Int))), (22, .d (iv 0)), (2017, .r (.arr 1 (([] : List (List Int)).flatMap (eS eI).o) []))] .nil (by kernel_rfl) (by kernel_rfl) ?_
  refine tr_block ?_
  refine tr_iterS (fun (s2 : (List (List Int)) × Int) => [(6, .d (.rs 1008 0 s2.1.length)), (18, .d (.sl a0.length 0 (a0.flatMap (eS eI).b))), (20, .d (iv (a0.length : Int))), (22, .d (iv s2.2)), (2017, .r (.arr 1 (s2.1.flatMap (eS eI).o) []))]) (([] : List (List Int)), 0) [6, 18, 20, 22, 2017] (by kernel_rfl) hM ?_
  intro n5 next3 ih4 s2 hM
  refine tr_sr hT hm [] [6, 18, 20, 22, 24, 2017] [(6, .d (.rs 1008 0 s2.1.length)), (18, .d (.sl a0.length 0 (a0.flatMap (eS eI).b))), (20, .d (iv (a0.length : Int))), (22, .d (iv s2.2)), (24, .d (bv (decide (s2.2 < (a0.length : Int))))), (2017, .r (.arr 1 (s2.1.flatMap (eS eI).o) []))] .nil (by kernel_rfl) (by kernel_rfl) ?_
  refine tr_seq ?_
  rcases Bool.eq_false_or_eq_true (decide (s2.2 < (a0.length : Int))) with h6 | h6
  · have hM := ite_true' hM h6
    refine tr_condTe (e := decide (s2.2 < (a0.length : Int))) h6 (by kernel_rfl) ?_
    refine tr_skip (q_n ?_)
    refine tr_seq ?_
    refine tr_block ?_
    obtain ⟨y7, hy7, hM⟩ := bind_some' hM
    have hy7' := idx_some hy7
    refine tr_sr hT hm [(1, .val (.sl y7.length 0 (y7.flatMap eI.b)))] [6, 10, 18, 20, 22, 2017] [(6, .d (.rs 1008 0 s2.1.length)), (10, .d (.sl y7.length 0 (y7.flatMap eI.b))), (18, .d (.sl a0.length 0 (a0.flatMap (eS eI).b))), (20, .d (iv (a0.length : Int))), (22, .d (iv s2.2)), (2017, .r (.arr 1 (s2.1.flatMap (eS eI).o) []))] (.cons hy7'.1 (.cons hy7'.2.1 (.cons (at_b0 (eS_ok eI_ok) hy7'.2.2 (d := .sl y7.length 0 (y7.flatMap eI.b)) (by kernel_rfl)) .nil))) (by kernel_rfl) (by kernel_rfl) ?_
    obtain ⟨v8, hv8, hM⟩ := bind_some' hM
    obtain ⟨h9, hM⟩ := chk_some hM
    refine tr_r hT hm [(2, .call [] [] [.sl y7.length 0 (y7.flatMap eI.b)] [] (.fr 1 v8.length (v8.flatMap eI.o))), (4, .app true)] [6, 18, 20, 22, 2039, 38001] [(6, .d (.rs 1019 0 (s2.1.length + 1))), (18, .d (.sl a0.length 0 (a0.flatMap (eS eI).b))), (20, .d (iv (a0.length : Int))), (22, .d (iv s2.2)), (2039, .r (.arr 1 (s2.1.flatMap (eS eI).o ++ [.rs 19000 0 v8.length]) [19000])), (38001, .r (.arr 1 (v8.flatMap eI.o) []))] (cc0 ok78 (impl_clone_c y7 _ hv8) (by kernel_rfl) (.cons (lenO_flat (eS_ok eI_ok) s2.1) (.cons (by kernel_rfl : ([.rs 19000 0 v8.length] : List D).length = 1 * 1) (.cons h9 .nil)))) (by kernel_rfl) (by kernel_rfl) (b_n (q_n ?_))
    refine Tr.by (imp_demE (r := 1019) (q := 19000) (sz := 1) (n := v8.length) (j := 0) (pre := s2.1.flatMap (eS eI).o) (l := [.rs 19000 0 v8.length]) (refs := [19000]) (refs' := []) (menO_flat (eS_ok eI_ok) _) (lenO_flat eI_ok v8) (by kernel_rfl) (by kernel_rfl) (by kernel_rfl) (by kernel_rfl) (by kernel_rfl)) ?_
    refine Tr.by (imp_cvE (r := 1019) (sz := 1) (refs := []) (flat_snoc (eS eI).o s2.1 v8) (menO_flat (eS_ok eI_ok) _) (by kernel_rfl)) ?_
    refine Tr.by (imp_cvD (k := 6) (congrArg (D.rs 1019 0) ((len_snoc s2.1 v8) : s2.1.length + 1 = (s2.1 ++ [v8]).length)) (by kernel_rfl)) ?_
    refine tr_r hT hm [] [6, 18, 20, 22, 2039] [(6, .d (.rs 1019 0 ((s2.1 ++ [v8]).length))), (18, .d (.sl a0.length 0 (a0.flatMap (eS eI).b))), (20, .d (iv (a0.length : Int))), (22, .d (iv (IntKind.i64.wrap (s2.2 + 1)))), (2039, .r (.arr 1 ((s2.1 ++ [v8]).flatMap (eS eI).o) []))] .nil (by kernel_rfl) (by kernel_rfl) (l_n ?_)
    refine TrL.by (imp_sel (ks := [6, 18, 20, 22, 2039]) (st' := [(6, .d (.rs 1019 0 ((s2.1 ++ [v8]).length))), (18, .d (.sl a0.length 0 (a0.flatMap (eS eI).b))), (20, .d (iv (a0.length : Int))), (22, .d (iv (IntKind.i64.wrap (s2.2 + 1)))), (2039, .r (.arr 1 ((s2.1 ++ [v8]).flatMap (eS eI).o) []))]) (by kernel_rfl)) ?_
    refine TrL.by (imp_rename (r := 1019) (q := 1008) (by kernel_rfl) (Nat.le_of_ble_eq_true rfl)) ?_
    exact trl_start (ks := [6, 18, 20, 22, 2017]) (by kernel_rfl) (ih4 (s2.1 ++ [v8], IntKind.i64.wrap (s2.2 + 1)) hM)
  · have hM := ite_false' hM h6
    refine tr_condFe (e := decide (s2.2 < (a0.length : Int))) h6 (by kernel_rfl) ?_
    refine tr_exit (q_x (l_x (b_h (q_n ?_))))
    refine tr_sr hT hm [] [4, 2017] [(4, .d (.rs 1008 0 s2.1.length)), (2017, .r (.arr 1 (s2.1.flatMap (eS eI).o) []))] .nil (by kernel_rfl) (by kernel_rfl) ?_
    refine tr_ret (rg_r ?_)
    obtain rfl := Option.some.inj hM
    exact retg (names := []) (.cons (lenO_flat (eS_ok eI_ok) s2.1) .nil) (by kernel_rfl)
theorem ok77 : CallOk Try.prog 77 := callOk_of Try.func77 (by kernel_rfl) (by kernel_rfl)
theorem iC_copy_c (a0 : XCategory) (r : XCategory) (hM : M.iC_copy a0 = some r) :
    FnC Try.prog 77 [] [.pt (eXCategory.b a0) 0] [] (.agg (eXCategory.o r)) := by
  refine fnc_startG (N := 28) (np := 500) hT Try.func77 rfl rfl (by kernel_rfl) ?_
  unfold M.iC_copy at hM
  refine tr_start (ks := [0]) (st' := [(0, .d (.pt (eXCategory.b a0) 0))]) (by kernel_rfl) ?_
  refine tr_sr hT hm [] [0, 4, 2005] [(0, .d (.pt (eXCategory.b a0) 0)), (4, .d (.rp 1002 0)), (2005, .r (.arr 1 [iv 0, nilv, nilv, nilv, nilv] []))] .nil (by kernel_rfl) (by kernel_rfl) ?_
  obtain ⟨v1, hv1, hM⟩ := bind_some' hM
  obtain ⟨v2, hv2, hM⟩ := bind_some' hM
  obtain ⟨v3, hv3, hM⟩ := bind_some' hM
  obtain ⟨v4, hv4, hM⟩ := bind_some' hM
  refine tr_sr hT hm [(8, .call [] [] [.sl a0.From.length 0 (a0.From.flatMap eI.b)] [] (.fr 1 v1.length (v1.flatMap eI.o))), (13, .call [] [] [.sl a0.To.length 0 (a0.To.flatMap eI.b)] [] (.fr 1 v2.length (v2.flatMap eI.o))), (18, .call [] [] [.sl a0.Identity.length 0 (a0.Identity.flatMap eI.b)] [] (.fr 1 v3.length (v3.flatMap eI.o))), (23, .call [] [] [.sl a0.Composites.length 0 (a0.Composites.flatMap (eS eI).b)] [] (.fr 1 v4.length (v4.flatMap (eS eI).o)))] [4, 2005, 26001, 36001, 46001, 56001] [(4, .d (.rp 1002 0)), (2005, .r (.arr 1 [iv a0.Objects, .rs 13000 0 v1.length, .rs 18000 0 v2.length, .rs 23000 0 v3.length, .rs 28000 0 v4.length] [13000, 18000, 23000, 28000])), (26001, .r (.arr 1 (v1.flatMap eI.o) [])), (36001, .r (.arr 1 (v2.flatMap eI.o) [])), (46001, .r (.arr 1 (v3.flatMap eI.o) [])), (56001, .r (.arr 1 (v4.flatMap (eS eI).o) []))] (cc0 ok78 (impl_clone_c a0.From _ hv1) (by kernel_rfl) (cc0 ok78 (impl_clone_c a0.To _ hv2) (by kernel_rfl) (cc0 ok78 (impl_clone_c a0.Identity _ hv3) (by kernel_rfl) (cc0 ok116 (impl_clones_c a0.Composites _ hv4) (by kernel_rfl) (.cons (Nat.le_of_ble_eq_true (n := 5) (m := 5) rfl) .nil))))) (by kernel_rfl) (by kernel_rfl) ?_
  refine tr_ret (rg_r ?_)
  obtain rfl := Option.some.inj hM
  exact retg (names := []) (.cons (lenO_flat eI_ok v1) (.cons (lenO_flat eI_ok v2) (.cons (lenO_flat eI_ok v3) (.cons (lenO_flat (eS_ok eI_ok) v4) .nil)))) (by kernel_rfl)
theorem ok39 : CallOk Try.prog 39 := callOk_of Try.func39 (by kernel_rfl) (by kernel_rfl)
theorem laws_eqInt64S_c (a0 : List Int) (a1 : List Int) (r : Bool) (hM : M.laws_eqInt64S a0 a1 = some r) :
    FnC Try.prog 39 [] [.sl a0.length 0 (a0.flatMap eI.b), .sl a1.length 0 (a1.flatMap eI.b)] [] (bv r) := by
  refine fnc_startG (N := 26) (np := 500) hT Try.func39 rfl rfl (by kernel_rfl) ?_
  unfold M.laws_eqInt64S at hM
  refine tr_start (ks := [0, 2]) (st' := [(0, .d (.sl a0.length 0 (a0.flatMap eI.b))), (2, .d (.sl a1.length 0 (a1.flatMap eI.b)))]) (by kernel_rfl) ?_
  refine tr_sr hT hm [] [0, 2] [(0, .d (.sl a0.length 0 (a0.flatMap eI.b))), (2, .d (.sl a1.length 0 (a1.flatMap eI.b)))] .nil (by kernel_rfl) (by kernel_rfl) ?_
  refine tr_seq ?_
  refine tr_sr hT hm [] [0, 2, 20] [(0, .d (.sl a0.length 0 (a0.flatMap eI.b))), (2, .d (.sl a1.length 0 (a1.flatMap eI.b))), (20, .d (bv ((a0.length : Int) != (a1.length : Int))))] .nil (by kernel_rfl) (by kernel_rfl) ?_
  rcases Bool.eq_false_or_eq_true ((a0.length : Int) != (a1.length : Int)) with h1 | h1
  · have hM := ite_true' hM h1
    refine tr_condTe (e := (a0.length : Int) != (a1.length : Int)) h1 (by kernel_rfl) ?_
    refine tr_sr hT hm [] [8] [(8, .d (bv false))] .nil (by kernel_rfl) (by kernel_rfl) ?_
    refine tr_ret (q_r (rg_r ?_))
    obtain rfl := Option.some.inj hM
    exact retg (names := []) .nil (by kernel_rfl)
  · have hM := ite_false' hM h1
    refine tr_condFe (e := (a0.length : Int) != (a1.length : Int)) h1 (by kernel_rfl) ?_
    refine tr_skip (q_n ?_)
    refine tr_seq ?_
    refine tr_sr hT hm [] [0, 2, 10] [(0, .d (.sl a0.length 0 (a0.flatMap eI.b))), (2, .d (.sl a1.length 0 (a1.flatMap eI.b))), (10, .d (iv 0))] .nil (by kernel_rfl) (by kernel_rfl) ?_
    refine tr_block ?_
    refine tr_iterS (fun (s2 : Int) => [(0, .d (.sl a0.length 0 (a0.flatMap eI.b))), (2, .d (.sl a1.length 0 (a1.flatMap eI.b))), (10, .d (iv s2))]) 0 [0, 2, 10] (by kernel_rfl) hM ?_
    intro n5 next3 ih4 s2 hM
    refine tr_seq ?_
    refine tr_sr hT hm [] [0, 2, 10, 28] [(0, .d (.sl a0.length 0 (a0.flatMap eI.b))), (2, .d (.sl a1.length 0 (a1.flatMap eI.b))), (10, .d (iv s2)), (28, .d (bv (decide (s2 < (a0.length : Int)))))] .nil (by kernel_rfl) (by kernel_rfl) ?_
    rcases Bool.eq_false_or_eq_true (decide (s2 < (a0.length : Int))) with h6 | h6
    · have hM := ite_true' hM h6
      refine tr_condTe (e := decide (s2 < (a0.length : Int))) h6 (by kernel_rfl) ?_
      refine tr_skip (q_n ?_)
      refine tr_seq ?_
      refine tr_block ?_
      obtain ⟨y7, hy7, hM⟩ := bind_some' hM
      have hy7' := idx_some hy7
      obtain ⟨y8, hy8, hM⟩ := bind_some' hM
      have hy8' := idx_some hy8
      refine tr_sr hT hm [(3, .val (iv y7)), (7, .val (iv y8))] [0, 2, 10, 50] [(0, .d (.sl a0.length 0 (a0.flatMap eI.b))), (2, .d (.sl a1.length 0 (a1.flatMap eI.b))), (10, .d (iv s2)), (50, .d (bv (y7 != y8)))] (.cons hy7'.1 (.cons hy7'.2.1 (.cons (at_b0 eI_ok hy7'.2.2 (d := iv y7) (by kernel_rfl)) (.cons hy8'.1 (.cons hy8'.2.1 (.cons (at_b0 eI_ok hy8'.2.2 (d := iv y8) (by kernel_rfl)) .nil)))))) (by kernel_rfl) (by kernel_rfl) ?_
      rcases Bool.eq_false_or_eq_true (y7 != y8) with h9 | h9
      · have hM := ite_true' hM h9
        refine tr_condTe (e := y7 != y8) h9 (by kernel_rfl) ?_
        refine tr_sr hT hm [] [8] [(8, .d (bv false))] .nil (by kernel_rfl) (by kernel_rfl) ?_
        refine tr_ret (b_r (q_r (l_r (b_r (q_r (rg_r ?_))))))
        obtain rfl := Option.some.inj hM
        exact retg (names := []) .nil (by kernel_rfl)
      · have hM := ite_false' hM h9
        refine tr_condFe (e := y7 != y8) h9 (by kernel_rfl) ?_
        refine tr_skip (b_n (q_n ?_))
        refine tr_r hT hm [] [0, 2, 10] [(0, .d (.sl a0.length 0 (a0.flatMap eI.b))), (2, .d (.sl a1.length 0 (a1.flatMap eI.b))), (10, .d (iv (IntKind.i64.wrap (s2 + 1))))] .nil (by kernel_rfl) (by kernel_rfl) (l_n ?_)
        exact trl_start (ks := [0, 2, 10]) (by kernel_rfl) (ih4 (IntKind.i64.wrap (s2 + 1)) hM)
    · have hM := ite_false' hM h6
      refine tr_condFe (e := decide (s2 < (a0.length : Int))) h6 (by kernel_rfl) ?_
      refine tr_exit (q_x (l_x (b_h (q_n ?_))))
      refine tr_sr hT hm [] [8] [(8, .d (bv true))] .nil (by kernel_rfl) (by kernel_rfl) ?_
      refine tr_ret (rg_r ?_)
      obtain rfl := Option.some.inj hM
      exact retg (names := []) .nil (by kernel_rfl)
theorem ok40 : CallOk Try.prog 40 := callOk_of Try.func40 (by kernel_rfl) (by kernel_rfl)
theorem laws_eqInt64SS_c (a0 : List (List Int)) (a1 : List (List Int)) (r : Bool) (hM : M.laws_eqInt64SS a0 a1 = some r) :
    FnC Try.prog 40 [] [.sl a0.length 0 (a0.flatMap (eS eI).b), .sl a1.length 0 (a1.flatMap (eS eI).b)] [] (bv r) := by
  refine fnc_startG (N := 27) (np := 500) hT Try.func40 rfl rfl (by kernel_rfl) ?_
  unfold M.laws_eqInt64SS at hM
  refine tr_start (ks := [0, 2]) (st' := [(0, .d (.sl a0.length 0 (a0.flatMap (eS eI).b))), (2, .d (.sl a1.length 0 (a1.flatMap (eS eI).b)))]) (by kernel_rfl) ?_
  refine tr_sr hT hm [] [0, 2] [(0, .d (.sl a0.length 0 (a0.flatMap (eS eI).b))), (2, .d (.sl a1.length 0 (a1.flatMap (eS eI).b)))] .nil (by kernel_rfl) (by kernel_rfl) ?_
  refine tr_seq ?_
  refine tr_sr hT hm [] [0, 2, 20] [(0, .d (.sl a0.length 0 (a0.flatMap (eS eI).b))), (2, .d (.sl a1.length 0 (a1.flatMap (eS eI).b))), (20, .d (bv ((a0.length : Int) != (a1.length : Int))))] .nil (by kernel_rfl) (by kernel_rfl) ?_
  rcases Bool.eq_false_or_eq_true ((a0.length : Int) != (a1.length : Int)) with h1 | h1
  · have hM := ite_true' hM h1
    refine tr_condTe (e := (a0.length : Int) != (a1.length : Int)) h1 (by kernel_rfl) ?_
    refine tr_sr hT hm [] [8] [(8, .d (bv false))] .nil (by kernel_rfl) (by kernel_rfl) ?_
    refine tr_ret (q_r (rg_r ?_))
    obtain rfl := Option.some.inj hM
    exact retg (names := []) .nil (by kernel_rfl)
  · have hM := ite_false' hM h1
    refine tr_condFe (e := (a0.length : Int) != (a1.length : Int)) h1 (by kernel_rfl) ?_
    refine tr_skip (q_n ?_)
    refine tr_seq ?_
    refine tr_sr hT hm [] [0, 2, 10] [(0, .d (.sl a0.length 0 (a0.flatMap (eS eI).b))), (2, .d (.sl a1.length 0 (a1.flatMap (eS eI).b))), (10, .d (iv 0))] .nil (by kernel_rfl) (by kernel_rfl) ?_
    refine tr_block ?_
    refine tr_iterS (fun (s2 : Int) => [(0, .d (.sl a0.length 0 (a0.flatMap (eS eI).b))), (2, .d (.sl a1.length 0 (a1.flatMap (eS eI).b))), (10, .d (iv s2))]) 0 [0, 2, 10] (by kernel_rfl) hM ?_
    intro n5 next3 ih4 s2 hM
    refine tr_seq ?_
    refine tr_sr hT hm [] [0, 2, 10, 28] [(0, .d (.sl a0.length 0 (a0.flatMap (eS eI).b))), (2, .d (.sl a1.length 0 (a1.flatMap (eS eI).b))), (10, .d (iv s2)), (28, .d (bv (decide (s2 < (a0.length : Int)))))] .nil (by kernel_rfl) (by kernel_rfl) ?_
    rcases Bool.eq_false_or_eq_true (decide (s2 < (a0.length : Int))) with h6 | h6
    · have hM := ite_true' hM h6
      refine tr_condTe (e := decide (s2 < (a0.length : Int))) h6 (by kernel_rfl) ?_
      refine tr_skip (q_n ?_)
      refine tr_seq ?_
      refine tr_block ?_
      obtain ⟨y7, hy7, hM⟩ := bind_some' hM
      have hy7' := idx_some hy7
      obtain ⟨y8, hy8, hM⟩ := bind_some' hM
      have hy8' := idx_some hy8
      obtain ⟨v9, hv9, hM⟩ := bind_some' hM
      refine tr_sr hT hm [(3, .val (.sl y7.length 0 (y7.flatMap eI.b))), (7, .val (.sl y8.length 0 (y8.flatMap eI.b))), (8, .call [] [] [.sl y7.length 0 (y7.flatMap eI.b), .sl y8.length 0 (y8.flatMap eI.b)] [] (bv v9))] [0, 2, 10, 52] [(0, .d (.sl a0.length 0 (a0.flatMap (eS eI).b))), (2, .d (.sl a1.length 0 (a1.flatMap (eS eI).b))), (10, .d (iv s2)), (52, .d (bv (!v9)))] (.cons hy7'.1 (.cons hy7'.2.1 (.cons (at_b0 (eS_ok eI_ok) hy7'.2.2 (d := .sl y7.length 0 (y7.flatMap eI.b)) (by kernel_rfl)) (.cons hy8'.1 (.cons hy8'.2.1 (.cons (at_b0 (eS_ok eI_ok) hy8'.2.2 (d := .sl y8.length 0 (y8.flatMap eI.b)) (by kernel_rfl)) (cc0 ok39 (laws_eqInt64S_c y7 y8 _ hv9) (by kernel_rfl) .nil))))))) (by kernel_rfl) (by kernel_rfl) ?_
      rcases Bool.eq_false_or_eq_true v9 with h10 | h10
      · have hM := ite_true' hM h10
        refine tr_condFe (e := !v9) (congrArg not h10) (by kernel_rfl) ?_
        refine tr_skip (b_n (q_n ?_))
        refine tr_r hT hm [] [0, 2, 10] [(0, .d (.sl a0.length 0 (a0.flatMap (eS eI).b))), (2, .d (.sl a1.length 0 (a1.flatMap (eS eI).b))), (10, .d (iv (IntKind.i64.wrap (s2 + 1))))] .nil (by kernel_rfl) (by kernel_rfl) (l_n ?_)
        exact trl_start (ks := [0, 2, 10]) (by kernel_rfl) (ih4 (IntKind.i64.wrap (s2 + 1)) hM)
      · have hM := ite_false' hM h10
        refine tr_condTe (e := !v9) (congrArg not h10) (by kernel_rfl) ?_
        refine tr_sr hT hm [] [8] [(8, .d (bv false))] .nil (by kernel_rfl) (by kernel_rfl) ?_
        refine tr_ret (b_r (q_r (l_r (b_r (q_r (rg_r ?_))))))
        obtain rfl := Option.some.inj hM
        exact retg (names := []) .nil (by kernel_rfl)
    · have hM := ite_false' hM h6
      refine tr_condFe (e := decide (s2 < (a0.length : Int))) h6 (by kernel_rfl) ?_
      refine tr_exit (q_x (l_x (b_h (q_n ?_))))
      refine tr_sr hT hm [] [8] [(8, .d (bv true))] .nil (by kernel_rfl) (by kernel_rfl) ?_
      refine tr_ret (rg_r ?_)
      obtain rfl := Option.some.inj hM
      exact retg (names := []) .nil (by kernel_rfl)
theorem ok22 : CallOk Try.prog 22 := callOk_of Try.func22 (by kernel_rfl) (by kernel_rfl)
theorem laws_eqCategory_c (a0 : XCategory) (a1 : XCategory) (r : Bool) (hM : M.laws_eqCategory a0 a1 = some r) :
    FnC Try.prog 22 [] [.agg (eXCategory.b a0), .agg (eXCategory.b a1)] [] (bv r) := by
  refine fnc_startG (N := 34) (np := 500) hT Try.func22 rfl rfl (by kernel_rfl) ?_
  unfold M.laws_eqCategory at hM
  refine tr_start (ks := [0, 2]) (st' := [(0, .d (.agg (eXCategory.b a0))), (2, .d (.agg (eXCategory.b a1)))]) (by kernel_rfl) ?_
  refine tr_sr hT hm [] [4, 6, 2005, 2007] [(4, .d (.rp 1002 0)), (6, .d (.rp 1003 0)), bxB 2005 (eXCategory.b a0), bxB 2007 (eXCategory.b a1)] .nil (by kernel_rfl) (by kernel_rfl) ?_
  refine tr_seq ?_
  refine tr_sr hT hm [] [4, 6, 18, 2005, 2007] [(4, .d (.rp 1002 0)), (6, .d (.rp 1003 0)), (18, .d (bv (a0.Objects != a1.Objects))), bxB 2005 (eXCategory.b a0), bxB 2007 (eXCategory.b a1)] .nil (by kernel_rfl) (by kernel_rfl) ?_
  rcases Bool.eq_false_or_eq_true (a0.Objects != a1.Objects) with h1 | h1
  · have hM := ite_true' hM h1
    refine tr_condTe (e := a0.Objects != a1.Objects) h1 (by kernel_rfl) ?_
    refine tr_sr hT hm [] [8] [(8, .d (bv false))] .nil (by kernel_rfl) (by kernel_rfl) ?_
    refine tr_ret (q_r (rg_r ?_))
    obtain rfl := Option.some.inj hM
    exact retg (names := []) .nil (by kernel_rfl)
  · have hM := ite_false' hM h1
    refine tr_condFe (e := a0.Objects != a1.Objects) h1 (by kernel_rfl) ?_
    refine tr_skip (q_n ?_)
    refine tr_seq ?_
    obtain ⟨v2, hv2, hM⟩ := bind_some' hM
    refine tr_sr hT hm [(4, .call [] [] [.sl a0.From.length 0 (a0.From.flatMap eI.b), .sl a1.From.length 0 (a1.From.flatMap eI.b)] [] (bv v2))] [4, 6, 30, 2005, 2007] [(4, .d (.rp 1002 0)), (6, .d (.rp 1003 0)), (30, .d (bv (!v2))), bxB 2005 (eXCategory.b a0), bxB 2007 (eXCategory.b a1)] (cc0 ok39 (laws_eqInt64S_c a0.From a1.From _ hv2) (by kernel_rfl) .nil) (by kernel_rfl) (by kernel_rfl) ?_
    rcases Bool.eq_false_or_eq_true v2 with h3 | h3
    · have hM := ite_true' hM h3
      refine tr_condFe (e := !v2) (congrArg not h3) (by kernel_rfl) ?_
      refine tr_skip (q_n ?_)
      refine tr_seq ?_
      obtain ⟨v4, hv4, hM⟩ := bind_some' hM
      refine tr_sr hT hm [(4, .call [] [] [.sl a0.To.length 0 (a0.To.flatMap eI.b), .sl a1.To.length 0 (a1.To.flatMap eI.b)] [] (bv v4))] [4, 6, 42, 2005, 2007] [(4, .d (.rp 1002 0)), (6, .d (.rp 1003 0)), (42, .d (bv (!v4))), bxB 2005 (eXCategory.b a0), bxB 2007 (eXCategory.b a1)] (cc0 ok39 (laws_eqInt64S_c a0.To a1.To _ hv4) (by kernel_rfl) .nil) (by kernel_rfl) (by kernel_rfl) ?_
      rcases Bool.eq_false_or_eq_true v4 with h5 | h5
      · have hM := ite_true' hM h5
        refine tr_condFe (e := !v4) (congrArg not h5) (by kernel_rfl) ?_
        refine tr_skip (q_n ?_)
        refine tr_seq ?_
        obtain ⟨v6, hv6, hM⟩ := bind_some' hM
        refine tr_sr hT hm [(4, .call [] [] [.sl a0.Identity.length 0 (a0.Identity.flatMap eI.b), .sl a1.Identity.length 0 (a1.Identity.flatMap eI.b)] [] (bv v6))] [4, 6, 54, 2005, 2007] [(4, .d (.rp 1002 0)), (6, .d (.rp 1003 0)), (54, .d (bv (!v6))), bxB 2005 (eXCategory.b a0), bxB 2007 (eXCategory.b a1)] (cc0 ok39 (laws_eqInt64S_c a0.Identity a1.Identity _ hv6) (by kernel_rfl) .nil) (by kernel_rfl) (by kernel_rfl) ?_
        rcases Bool.eq_false_or_eq_true v6 with h7 | h7
        · have hM := ite_true' hM h7
          refine tr_condFe (e := !v6) (congrArg not h7) (by kernel_rfl) ?_
          refine tr_skip (q_n ?_)
          refine tr_seq ?_
          obtain ⟨v8, hv8, hM⟩ := bind_some' hM
          refine tr_sr hT hm [(4, .call [] [] [.sl a0.Composites.length 0 (a0.Composites.flatMap (eS eI).b), .sl a1.Composites.length 0 (a1.Composites.flatMap (eS eI).b)] [] (bv v8))] [66] [(66, .d (bv (!v8)))] (cc0 ok40 (laws_eqInt64SS_c a0.Composites a1.Composites _ hv8) (by kernel_rfl) .nil) (by kernel_rfl) (by kernel_rfl) ?_
          rcases Bool.eq_false_or_eq_true v8 with h9 | h9
          · have hM := ite_true' hM h9
            refine tr_condFe (e := !v8) (congrArg not h9) (by kernel_rfl) ?_
            refine tr_skip (q_n ?_)
            refine tr_sr hT hm [] [8] [(8, .d (bv true))] .nil (by kernel_rfl) (by kernel_rfl) ?_
            refine tr_ret (rg_r ?_)
            obtain rfl := Option.some.inj hM
            exact retg (names := []) .nil (by kernel_rfl)
          · have hM := ite_false' hM h9
            refine tr_condTe (e := !v8) (congrArg not h9) (by kernel_rfl) ?_
            refine tr_sr hT hm [] [8] [(8, .d (bv false))] .nil (by kernel_rfl) (by kernel_rfl) ?_
            refine tr_ret (q_r (rg_r ?_))
            obtain rfl := Option.some.inj hM
            exact retg (names := []) .nil (by kernel_rfl)
        · have hM := ite_false' hM h7
          refine tr_condTe (e := !v6) (congrArg not h7) (by kernel_rfl) ?_
          refine tr_sr hT hm [] [8] [(8, .d (bv false))] .nil (by kernel_rfl) (by kernel_rfl) ?_
          refine tr_ret (q_r (rg_r ?_))
          obtain rfl := Option.some.inj hM
          exact retg (names := []) .nil (by kernel_rfl)
      · have hM := ite_false' hM h5
        refine tr_condTe (e := !v4) (congrArg not h5) (by kernel_rfl) ?_
        refine tr_sr hT hm [] [8] [(8, .d (bv false))] .nil (by kernel_rfl) (by kernel_rfl) ?_
        refine tr_ret (q_r (rg_r ?_))
        obtain rfl := Option.some.inj hM
        exact retg (names := []) .nil (by kernel_rfl)
    · have hM := ite_false' hM h3
      refine tr_condTe (e := !v2) (congrArg not h3) (by kernel_rfl) ?_
      refine tr_sr hT hm [] [8] [(8, .d (bv false))] .nil (by kernel_rfl) (by kernel_rfl) ?_
      refine tr_ret (q_r (rg_r ?_))
      obtain rfl := Option.some.inj hM
      exact retg (names := []) .nil (by kernel_rfl)
theorem ok41 : CallOk Try.prog 41 := callOk_of Try.func41 (by kernel_rfl) (by kernel_rfl)
theorem laws_markInt64S_c (a0 : List Int) (a1 : Int) (r : Int × (List Int)) (hM : M.laws_markInt64S a0 a1 = some r) :
    FnC Try.prog 41 [(0, .arr 1 (a0.flatMap eI.o) [])] [.rs 0 0 a0.length, iv a1] [(0, .arr 1 (r.2.flatMap eI.o) [])] (iv r.1) := by
  refine fnc_startG (N := 19) (np := 500) hT Try.func41 rfl rfl (by kernel_rfl) ?_
  unfold M.laws_markInt64S at hM
  refine tr_start (ks := [0, 1, 2]) (st' := [(0, .d (.rs 0 0 a0.length)), (1, .r (.arr 1 (a0.flatMap eI.o) [])), (2, .d (iv a1))]) (by kernel_rfl) ?_
  refine tr_sr hT hm [] [0, 1, 2] [(0, .d (.rs 0 0 a0.length)), (1, .r (.arr 1 (a0.flatMap eI.o) [])), (2, .d (iv a1))] .nil (by kernel_rfl) (by kernel_rfl) ?_
  refine tr_seq ?_
  refine tr_sr hT hm [] [0, 1, 2, 10] [(0, .d (.rs 0 0 a0.length)), (1, .r (.arr 1 (a0.flatMap eI.o) [])), (2, .d (iv a1)), (10, .d (iv 0))] .nil (by kernel_rfl) (by kernel_rfl) ?_
  refine tr_block ?_
  refine tr_iterS (fun (s1 : (List Int) × Int × Int) => [(0, .d (.rs 0 0 s1.1.length)), (1, .r (.arr 1 (s1.1.flatMap eI.o) [])), (2, .d (iv s1.2.1)), (10, .d (iv s1.2.2))]) (a0, a1, 0) [0, 1, 2, 10] (by kernel_rfl) hM ?_
  intro n4 next2 ih3 s1 hM
  refine tr_seq ?_
  refine tr_sr hT hm [] [0, 1, 2, 10, 18] [(0, .d (.rs 0 0 s1.1.length)), (1, .r (.arr 1 (s1.1.flatMap eI.o) [])), (2, .d (iv s1.2.1)), (10, .d (iv s1.2.2)), (18, .d (bv (decide (s1.2.2 < (s1.1.length : Int)))))] .nil (by kernel_rfl) (by kernel_rfl) ?_
  rcases Bool.eq_false_or_eq_true (decide (s1.2.2 < (s1.1.length : Int))) with h5 | h5
  · have hM := ite_true' hM h5
    refine tr_condTe (e := decide (s1.2.2 < (s1.1.length : Int))) h5 (by kernel_rfl) ?_
    refine tr_skip (q_n ?_)
    refine tr_seq ?_
    refine tr_block ?_
    obtain ⟨y6, hy6, hM⟩ := bind_some' hM
    have hy6' := idx_some hy6
    refine tr_sr hT hm [] [0, 1, 2, 10] [(0, .d (.rs 0 0 s1.1.length)), (1, .r (.arr 1 ((s1.1.flatMap eI.o).take (0 + s1.2.2.toNat * 1) ++ [iv s1.2.1] ++ (s1.1.flatMap eI.o).drop (0 + s1.2.2.toNat * 1 + 1)) [])), (2, .d (iv s1.2.1)), (10, .d (iv s1.2.2))] (.cons hy6'.1 (.cons hy6'.2.1 (.cons (store_le eI_ok hy6'.2.2) .nil))) (by kernel_rfl) (by kernel_rfl) ?_
    refine Tr.by (imp_cvE (r := 0) (sz := 1) (refs := []) (set_flat eI_ok.lenO (y := s1.2.1) hy6'.2.2) (menO_flat eI_ok _) (by kernel_rfl)) ?_
    refine Tr.by (imp_cvD (k := 0) (congrArg (D.rs 0 0) (List.length_set.symm : s1.1.length = (s1.1.set s1.2.2.toNat s1.2.1).length)) (by kernel_rfl)) ?_
    refine tr_r hT hm [] [0, 1, 2, 10] [(0, .d (.rs 0 0 ((s1.1.set s1.2.2.toNat s1.2.1).length))), (1, .r (.arr 1 ((s1.1.set s1.2.2.toNat s1.2.1).flatMap eI.o) [])), (2, .d (iv (IntKind.i64.wrap (s1.2.1 + 1)))), (10, .d (iv s1.2.2))] .nil (by kernel_rfl) (by kernel_rfl) (b_n (q_n ?_))
    refine tr_r hT hm [] [0, 1, 2, 10] [(0, .d (.rs 0 0 ((s1.1.set s1.2.2.toNat s1.2.1).length))), (1, .r (.arr 1 ((s1.1.set s1.2.2.toNat s1.2.1).flatMap eI.o) [])), (2, .d (iv (IntKind.i64.wrap (s1.2.1 + 1)))), (10, .d (iv (IntKind.i64.wrap (s1.2.2 + 1))))] .nil (by kernel_rfl) (by kernel_rfl) (l_n ?_)
    exact trl_start (ks := [0, 1, 2, 10]) (by kernel_rfl) (ih3 (s1.1.set s1.2.2.toNat s1.2.1, IntKind.i64.wrap (s1.2.1 + 1), IntKind.i64.wrap (s1.2.2 + 1)) hM)
  · have hM := ite_false' hM h5
    refine tr_condFe (e := decide (s1.2.2 < (s1.1.length : Int))) h5 (by kernel_rfl) ?_
    refine tr_exit (q_x (l_x (b_h (q_n ?_))))
    refine tr_sr hT hm [] [1, 8] [(1, .r (.arr 1 (s1.1.flatMap eI.o) [])), (8, .d (iv s1.2.1))] .nil (by kernel_rfl) (by kernel_rfl) ?_
    refine tr_ret (rg_r ?_)
    obtain rfl := Option.some.inj hM
    exact retg (names := [0]) .nil (by kernel_rfl)
theorem ok42 : CallOk Try.prog 42 := callOk_of Try.func42 (by kernel_rfl) (by kernel_rfl)
theorem laws_markInt64SS_c (a0 : List (List Int)) (a1 : Int) (r : Int × (List (List Int))) (hM : M.laws_markInt64SS a0 a1 = some r) :
    FnC Try.prog 42 [(0, .arr 1 (a0.flatMap (eS eI).o) [])] [.rs 0 0 a0.length, iv a1] [(0, .arr 1 (r.2.flatMap (eS eI).o) [])] (iv r.1) := by
  refine fnc_startG (N := 19) (np := 500) hT Try.func42 rfl rfl (by kernel_rfl) ?_
  unfold M.laws_markInt64SS at hM
  refine tr_start (ks := [0, 1, 2]) (st' := [(0, .d (.rs 0 0 a0.length)), (1, .r (.arr 1 (a0.flatMap (eS eI).o) [])), (2, .d (iv a1))]) (by kernel_rfl) ?_
  refine tr_sr hT hm [] [0, 1, 2] [(0, .d (.rs 0 0 a0.length)), (1, .r (.arr 1 (a0.flatMap (eS eI).o) [])), (2, .d (iv a1))] .nil (by kernel_rfl) (by kernel_rfl) ?_
  refine tr_seq ?_
  refine tr_sr hT hm [] [0, 1, 2, 10] [(0, .d (.rs 0 0 a0.length)), (1, .r (.arr 1 (a0.flatMap (eS eI).o) [])), (2, .d (iv a1)), (10, .d (iv 0))] .nil (by kernel_rfl) (by kernel_rfl) ?_
  refine tr_block ?_
  refine tr_iterS (fun (s1 : (List (List Int)) × Int × Int) => [(0, .d (.rs 0 0 s1.1.length)), (1, .r (.arr 1 (s1.1.flatMap (eS eI).o) [])), (2, .d (iv s1.2.1)), (10, .d (iv s1.2.2))]) (a0, a1, 0) [0, 1, 2, 10] (by kernel_rfl) hM ?_
  intro n4 next2 ih3 s1 hM
  refine tr_seq ?_
  refine tr_sr hT hm [] [0, 1, 2, 10, 18] [(0, .d (.rs 0 0 s1.1.length)), (1, .r (.arr 1 (s1.1.flatMap (eS eI).o) [])), (2, .d (iv s1.2.1)), (10, .d (iv s1.2.2)), (18, .d (bv (decide (s1.2.2 < (s1.1.length : Int)))))] .nil (by kernel_rfl) (by kernel_rfl) ?_
  rcases Bool.eq_false_or_eq_true (decide (s1.2.2 < (s1.1.length : Int))) with h5 | h5
  · have hM := ite_true' hM h5
    refine tr_condTe (e := decide (s1.2.2 < (s1.1.length : Int))) h5 (by kernel_rfl) ?_
    refine tr_skip (q_n ?_)
    refine tr_seq ?_
    refine tr_block ?_
    obtain ⟨y6, hy6, hM⟩ := bind_some' hM
    have hy6' := idx_some hy6
    refine Tr.by (imp_rowOut (r := 0) (q := 700012) (i := s1.2.2) (xs := s1.1) (e := eI) (eS_ok eI_ok) hy6'.2.2 (by kernel_rfl) (by kernel_rfl)) ?_
    obtain ⟨v7, hv7, hM⟩ := bind_some' hM
    refine tr_r hT hm [(3, .val (.rs 700012 0 y6.length)), (5, .call [] [(0, 700012)] [.rs 0 0 y6.length, iv s1.2.1] [(0, .arr 1 (v7.2.flatMap eI.o) [])] (iv v7.1))] [0, 1, 2, 10, 1400025] [(0, .d (.rs 0 0 s1.1.length)), (1, .r (.arr 1 ((s1.1.flatMap (eS eI).o).set (0 + s1.2.2.toNat * 1) (.rs 700012 0 y6.length)) [700012])), (2, .d (iv v7.1)), (10, .d (iv s1.2.2)), (1400025, .r (.arr 1 (v7.2.flatMap eI.o) []))] (.cons hy6'.1 (.cons hy6'.2.1 (.cons (set_at (d := .rs 700012 0 y6.length) (lt_flat (eS_ok eI_ok) (by kernel_rfl) hy6'.2.2)) (cc (B := []) (ρ := [(0, 700012)]) (rB := []) ok41 (laws_markInt64S_c y6 s1.2.1 _ hv7) (.cons (.pass (.rs rfl)) (.cons (.same rfl) .nil)) (.inl rfl) .nil)))) (by kernel_rfl) (by kernel_rfl) (b_n (q_n ?_))
    refine Tr.by (imp_rowBack (r := 0) (q := 700012) (n := y6.length) (i := s1.2.2) (xs := s1.1) (e := eI) (x' := v7.2) eI_ok hy6'.2.2 (M.len_markInt64S hv7) (by kernel_rfl) (by kernel_rfl) (by kernel_rfl)) ?_
    refine Tr.by (imp_cvD (k := 0) (congrArg (D.rs 0 0) (List.length_set.symm : s1.1.length = (s1.1.set s1.2.2.toNat v7.2).length)) (by kernel_rfl)) ?_
    refine tr_r hT hm [] [0, 1, 2, 10] [(0, .d (.rs 0 0 ((s1.1.set s1.2.2.toNat v7.2).length))), (1, .r (.arr 1 ((s1.1.set s1.2.2.toNat v7.2).flatMap (eS eI).o) [])), (2, .d (iv v7.1)), (10, .d (iv (IntKind.i64.wrap (s1.2.2 + 1))))] .nil (by kernel_rfl) (by kernel_rfl) (l_n ?_)
    exact trl_start (ks := [0, 1, 2, 10]) (by kernel_rfl) (ih3 (s1.1.set s1.2.2.toNat v7.2, v7.1, IntKind.i64.wrap (s1.2.2 + 1)) hM)
  · have hM := ite_false' hM h5
    refine tr_condFe (e := decide (s1.2.2 < (s1.1.length : Int))) h5 (by kernel_rfl) ?_
    refine tr_exit (q_x (l_x (b_h (q_n ?_))))
    refine tr_sr hT hm [] [1, 8] [(1, .r (.arr 1 (s1.1.flatMap (eS eI).o) [])), (8, .d (iv s1.2.1))] .nil (by kernel_rfl) (by kernel_rfl) ?_
    refine tr_ret (rg_r ?_)
    obtain rfl := Option.some.inj hM
    exact retg (names := [0]) .nil (by kernel_rfl)
theorem ok26 : CallOk Try.prog 26 := callOk_of Try.func26 (by kernel_rfl) (by kernel_rfl)
theorem laws_markCategory_c (a0 : XCategory) (a1 : Int) (r : Int × XCategory) (hM : M.laws_markCategory a0 a1 = some r) :
    FnC Try.prog 26 [(101, .arr 1 (a0.From.flatMap eI.o) []), (102, .arr 1 (a0.To.flatMap eI.o) []), (103, .arr 1 (a0.Identity.flatMap eI.o) []), (104, .arr 1 (a0.Composites.flatMap (eS eI).o) [])] [.agg [iv a0.Objects, .rs 101 0 a0.From.length, .rs 102 0 a0.To.length, .rs 103 0 a0.Identity.length, .rs 104 0 a0.Composites.length], iv a1] [(101, .arr 1 (r.2.From.flatMap eI.o) []), (102, .arr 1 (r.2.To.flatMap eI.o) []), (103, .arr 1 (r.2.Identity.flatMap eI.o) []), (104, .arr 1 (r.2.Composites.flatMap (eS eI).o) [])] (iv r.1) := by
  refine fnc_startG (N := 22) (np := 500) hT Try.func26 rfl rfl (by kernel_rfl) ?_
  unfold M.laws_markCategory at hM
  refine tr_start (ks := [0, 2, 203, 205, 207, 209]) (st' := ([(0, .d (.agg (rsC 100 (eXCategory.o a0)))), (2, .d (iv a1))] ++ rsS 100 (eXCategory.o a0))) (by kernel_rfl) ?_
  refine tr_sr hT hm [] [2, 4, 203, 205, 207, 209, 2005] ([(2, .d (iv a1)), (4, .d (.rp 1002 0))] ++ rsS 100 (eXCategory.o a0) ++ [bxO 2005 100 (eXCategory.o a0)]) .nil (by kernel_rfl) (by kernel_rfl) ?_
  obtain ⟨v1, hv1, hM⟩ := bind_some' hM
  refine tr_sr hT hm [(3, .call [] [(0, 101)] [.rs 0 0 a0.From.length, iv a1] [(0, .arr 1 (v1.2.flatMap eI.o) [])] (iv v1.1))] [2, 4, 203, 205, 207, 209, 2005] [(2, .d (iv v1.1)), (4, .d (.rp 1002 0)), (203, .r (.arr 1 (v1.2.flatMap eI.o) [])), (205, .r (.arr 1 (a0.To.flatMap eI.o) [])), (207, .r (.arr 1 (a0.Identity.flatMap eI.o) [])), (209, .r (.arr 1 (a0.Composites.flatMap (eS eI).o) [])), bxO 2005 100 (eXCategory.o a0)] (cc (B := []) (ρ := [(0, 101)]) (rB := []) ok41 (laws_markInt64S_c a0.From a1 _ hv1) (.cons (.pass (.rs rfl)) (.cons (.same rfl) .nil)) (.inl rfl) .nil) (by kernel_rfl) (by kernel_rfl) ?_
  refine Tr.by (imp_cvB (r := 1002) (sz := 1) (cells := [iv a0.Objects, .rs 101 0 a0.From.length, .rs 102 0 a0.To.length, .rs 103 0 a0.Identity.length, .rs 104 0 a0.Composites.length]) (cells' := [iv a0.Objects, .rs 101 0 v1.2.length, .rs 102 0 a0.To.length, .rs 103 0 a0.Identity.length, .rs 104 0 a0.Composites.length]) (refs := [101, 102, 103, 104]) (refs' := [101, 102, 103, 104]) (.cons (.refl _) (.cons (Sub.of_eq (congrArg (D.rs 101 0) ((M.len_markInt64S hv1) : a0.From.length = v1.2.length))) (.cons (.refl _) (.cons (.refl _) (.cons (.refl _) .nil))))) (by kernel_rfl) (by kernel_rfl) (by kernel_rfl)) ?_
  obtain ⟨v2, hv2, hM⟩ := bind_some' hM
  refine tr_sr hT hm [(3, .call [] [(0, 102)] [.rs 0 0 a0.To.length, iv v1.1] [(0, .arr 1 (v2.2.flatMap eI.o) [])] (iv v2.1))] [2, 4, 203, 205, 207, 209, 2005] [(2, .d (iv v2.1)), (4, .d (.rp 1002 0)), (203, .r (.arr 1 (v1.2.flatMap eI.o) [])), (205, .r (.arr 1 (v2.2.flatMap eI.o) [])), (207, .r (.arr 1 (a0.Identity.flatMap eI.o) [])), (209, .r (.arr 1 (a0.Composites.flatMap (eS eI).o) [])), (2005, .r (.arr 1 [iv a0.Objects, .rs 101 0 v1.2.length, .rs 102 0 a0.To.length, .rs 103 0 a0.Identity.length, .rs 104 0 a0.Composites.length] [101, 102, 103, 104]))] (cc (B := []) (ρ := [(0, 102)]) (rB := []) ok41 (laws_markInt64S_c a0.To v1.1 _ hv2) (.cons (.pass (.rs rfl)) (.cons (.same rfl) .nil)) (.inl rfl) .nil) (by kernel_rfl) (by kernel_rfl) ?_
  refine Tr.by (imp_cvB (r := 1002) (sz := 1) (cells := [iv a0.Objects, .rs 101 0 v1.2.length, .rs 102 0 a0.To.length, .rs 103 0 a0.Identity.length, .rs 104 0 a0.Composites.length]) (cells' := [iv a0.Objects, .rs 101 0 v1.2.length, .rs 102 0 v2.2.length, .rs 103 0 a0.Identity.length, .rs 104 0 a0.Composites.length]) (refs := [101, 102, 103, 104]) (refs' := [101, 102, 103, 104]) (.cons (.refl _) (.cons (.refl _) (.cons (Sub.of_eq (congrArg (D.rs 102 0) ((M.len_markInt64S hv2) : a0.To.length = v2.2.length))) (.cons (.refl _) (.cons (.refl _) .nil))))) (by kernel_rfl) (by kernel_rfl) (by kernel_rfl)) ?_
  obtain ⟨v3, hv3, hM⟩ := bind_some' hM
  refine tr_sr hT hm [(3, .call [] [(0, 103)] [.rs 0 0 a0.Identity.length, iv v2.1] [(0, .arr 1 (v3.2.flatMap eI.o) [])] (iv v3.1))] [2, 4, 203, 205, 207, 209, 2005] [(2, .d (iv v3.1)), (4, .d (.rp 1002 0)), (203, .r (.arr 1 (v1.2.flatMap eI.o) [])), (205, .r (.arr 1 (v2.2.flatMap eI.o) [])), (207, .r (.arr 1 (v3.2.flatMap eI.o) [])), (209, .r (.arr 1 (a0.Composites.flatMap (eS eI).o) [])), (2005, .r (.arr 1 [iv a0.Objects, .rs 101 0 v1.2.length, .rs 102 0 v2.2.length, .rs 103 0 a0.Identity.length, .rs 104 0 a0.Composites.length] [101, 102, 103, 104]))] (cc (B := []) (ρ := [(0, 103)]) (rB := []) ok41 (laws_markInt64S_c a0.Identity v2.1 _ hv3) (.cons (.pass (.rs rfl)) (.cons (.same rfl) .nil)) (.inl rfl) .nil) (by kernel_rfl) (by kernel_rfl) ?_
  refine Tr.by (imp_cvB (r := 1002) (sz := 1) (cells := [iv a0.Objects, .rs 101 0 v1.2.length, .rs 102 0 v2.2.length, .rs 103 0 a0.Identity.length, .rs 104 0 a0.Composites.length]) (cells' := [iv a0.Objects, .rs 101 0 v1.2.length, .rs 102 0 v2.2.length, .rs 103 0 v3.2.length, .rs 104 0 a0.Composites.length]) (refs := [101, 102, 103, 104]) (refs' := [101, 102, 103, 104]) (.cons (.refl _) (.cons (.refl _) (.cons (.refl _) (.cons (Sub.of_eq (congrArg (D.rs 103 0) ((M.len_markInt64S hv3) : a0.Identity.length = v3.2.length))) (.cons (.refl _) .nil))))) (by kernel_rfl) (by kernel_rfl) (by kernel_rfl)) ?_
  obtain ⟨v4, hv4, hM⟩ := bind_some' hM
  refine tr_sr hT hm [(3, .call [] [(0, 104)] [.rs 0 0 a0.Composites.length, iv v3.1] [(0, .arr 1 (v4.2.flatMap (eS eI).o) [])] (iv v4.1))] [2, 203, 205, 207, 209] [(2, .d (iv v4.1)), (203, .r (.arr 1 (v1.2.flatMap eI.o) [])), (205, .r (.arr 1 (v2.2.flatMap eI.o) [])), (207, .r (.arr 1 (v3.2.flatMap eI.o) [])), (209, .r (.arr 1 (v4.2.flatMap (eS eI).o) []))] (cc (B := []) (ρ := [(0, 104)]) (rB := []) ok42 (laws_markInt64SS_c a0.Composites v3.1 _ hv4) (.cons (.pass (.rs rfl)) (.cons (.same rfl) .nil)) (.inl rfl) .nil) (by kernel_rfl) (by kernel_rfl) ?_
  refine tr_sr hT hm [] [8, 203, 205, 207, 209] [(8, .d (iv v4.1)), (203, .r (.arr 1 (v1.2.flatMap eI.o) [])), (205, .r (.arr 1 (v2.2.flatMap eI.o) [])), (207, .r (.arr 1 (v3.2.flatMap eI.o) [])), (209, .r (.arr 1 (v4.2.flatMap (eS eI).o) []))] .nil (by kernel_rfl) (by kernel_rfl) ?_
  refine tr_ret (rg_r ?_)
  obtain rfl := Option.some.inj hM
  exact retg (names := [101, 102, 103, 104]) .nil (by kernel_rfl)
theorem ok43 : CallOk Try.prog 43 := callOk_of Try.func43 (by kernel_rfl) (by kernel_rfl)
theorem laws_heldInt64S_c (a0 : List Int) (a1 : Int) (r : Int) (hM : M.laws_heldInt64S a0 a1 = some r) :
    FnC Try.prog 43 [] [.sl a0.length 0 (a0.flatMap eI.b), iv a1] [] (iv r) := by
  refine fnc_startG (N := 21) (np := 500) hT Try.func43 rfl rfl (by kernel_rfl) ?_
  unfold M.laws_heldInt64S at hM
  refine tr_start (ks := [0, 2]) (st' := [(0, .d (.sl a0.length 0 (a0.flatMap eI.b))), (2, .d (iv a1))]) (by kernel_rfl) ?_
  refine tr_sr hT hm [] [0, 2] [(0, .d (.sl a0.length 0 (a0.flatMap eI.b))), (2, .d (iv a1))] .nil (by kernel_rfl) (by kernel_rfl) ?_
  refine tr_seq ?_
  refine tr_sr hT hm [] [0, 2, 10] [(0, .d (.sl a0.length 0 (a0.flatMap eI.b))), (2, .d (iv a1)), (10, .d (iv 0))] .nil (by kernel_rfl) (by kernel_rfl) ?_
  refine tr_block ?_
  refine tr_iterS (fun (s1 : Int × Int) => [(0, .d (.sl a0.length 0 (a0.flatMap eI.b))), (2, .d (iv s1.1)), (10, .d (iv s1.2))]) (a1, 0) [0, 2, 10] (by kernel_rfl) hM ?_
  intro n4 next2 ih3 s1 hM
  refine tr_seq ?_
  refine tr_sr hT hm [] [0, 2, 10, 18] [(0, .d (.sl a0.length 0 (a0.flatMap eI.b))), (2, .d (iv s1.1)), (10, .d (iv s1.2)), (18, .d (bv (decide (s1.2 < (a0.length : Int)))))] .nil (by kernel_rfl) (by kernel_rfl) ?_
  rcases Bool.eq_false_or_eq_true (decide (s1.2 < (a0.length : Int))) with h5 | h5
  · have hM := ite_true' hM h5
    refine tr_condTe (e := decide (s1.2 < (a0.length : Int))) h5 (by kernel_rfl) ?_
    refine tr_skip (q_n ?_)
    refine tr_seq ?_
    refine tr_block ?_
    refine tr_seq ?_
    obtain ⟨y6, hy6, hM⟩ := bind_some' hM
    have hy6' := idx_some hy6
    refine tr_sr hT hm [(3, .val (iv y6))] [0, 2, 10, 34] [(0, .d (.sl a0.length 0 (a0.flatMap eI.b))), (2, .d (iv s1.1)), (10, .d (iv s1.2)), (34, .d (bv (y6 != s1.1)))] (.cons hy6'.1 (.cons hy6'.2.1 (.cons (at_b0 eI_ok hy6'.2.2 (d := iv y6) (by kernel_rfl)) .nil))) (by kernel_rfl) (by kernel_rfl) ?_
    rcases Bool.eq_false_or_eq_true (y6 != s1.1) with h7 | h7
    · have hM := ite_true' hM h7
      refine tr_condTe (e := y6 != s1.1) h7 (by kernel_rfl) ?_
      refine tr_sr hT hm [] [8] [(8, .d (iv (-1)))] .nil (by kernel_rfl) (by kernel_rfl) ?_
      refine tr_ret (q_r (b_r (q_r (l_r (b_r (q_r (rg_r ?_)))))))
      obtain rfl := Option.some.inj hM
      exact retg (names := []) .nil (by kernel_rfl)
    · have hM := ite_false' hM h7
      refine tr_condFe (e := y6 != s1.1) h7 (by kernel_rfl) ?_
      refine tr_skip (q_n ?_)
      refine tr_r hT hm [] [0, 2, 10] [(0, .d (.sl a0.length 0 (a0.flatMap eI.b))), (2, .d (iv (IntKind.i64.wrap (s1.1 + 1)))), (10, .d (iv s1.2))] .nil (by kernel_rfl) (by kernel_rfl) (b_n (q_n ?_))
      refine tr_r hT hm [] [0, 2, 10] [(0, .d (.sl a0.length 0 (a0.flatMap eI.b))), (2, .d (iv (IntKind.i64.wrap (s1.1 + 1)))), (10, .d (iv (IntKind.i64.wrap (s1.2 + 1))))] .nil (by kernel_rfl) (by kernel_rfl) (l_n ?_)
      exact trl_start (ks := [0, 2, 10]) (by kernel_rfl) (ih3 (IntKind.i64.wrap (s1.1 + 1), IntKind.i64.wrap (s1.2 + 1)) hM)
  · have hM := ite_false' hM h5
    refine tr_condFe (e := decide (s1.2 < (a0.length : Int))) h5 (by kernel_rfl) ?_
    refine tr_exit (q_x (l_x (b_h (q_n ?_))))
    refine tr_sr hT hm [] [8] [(8, .d (iv s1.1))] .nil (by kernel_rfl) (by kernel_rfl) ?_
    refine tr_ret (rg_r ?_)
    obtain rfl := Option.some.inj hM
    exact retg (names := []) .nil (by kernel_rfl)
theorem ok59 : CallOk Try.prog 59 := callOk_of Try.func59 (by kernel_rfl) (by kernel_rfl)
theorem laws_heldInt64SS_c (a0 : List (List Int)) (a1 : Int) (r : Int) (hM : M.laws_heldInt64SS a0 a1 = some r) :
    FnC Try.prog 59 [] [.sl a0.length 0 (a0.flatMap (eS eI).b), iv a1] [] (iv r) := by
  refine fnc_startG (N := 21) (np := 500) hT Try.func59 rfl rfl (by kernel_rfl) ?_
  unfold M.laws_heldInt64SS at hM
  refine tr_start (ks := [0, 2]) (st' := [(0, .d (.sl a0.length 0 (a0.flatMap (eS eI).b))), (2, .d (iv a1))]) (by kernel_rfl) ?_
  refine tr_sr hT hm [] [0, 2] [(0, .d (.sl a0.length 0 (a0.flatMap (eS eI).b))), (2, .d (iv a1))] .nil (by kernel_rfl) (by kernel_rfl) ?_
  refine tr_seq ?_
  refine tr_sr hT hm [] [0, 2, 10] [(0, .d (.sl a0.length 0 (a0.flatMap (eS eI).b))), (2, .d (iv a1)), (10, .d (iv 0))] .nil (by kernel_rfl) (by kernel_rfl) ?_
  refine tr_block ?_
  refine tr_iterS (fun (s1 : Int × Int) => [(0, .d (.sl a0.length 0 (a0.flatMap (eS eI).b))), (2, .d (iv s1.1)), (10, .d (iv s1.2))]) (a1, 0) [0, 2, 10] (by kernel_rfl) hM ?_
  intro n4 next2 ih3 s1 hM
  refine tr_seq ?_
  refine tr_sr hT hm [] [0, 2, 10, 18] [(0, .d (.sl a0.length 0 (a0.flatMap (eS eI).b))), (2, .d (iv s1.1)), (10, .d (iv s1.2)), (18, .d (bv (decide (s1.2 < (a0.length : Int)))))] .nil (by kernel_rfl) (by kernel_rfl) ?_
  rcases Bool.eq_false_or_eq_true (decide (s1.2 < (a0.length : Int))) with h5 | h5
  · have hM := ite_true' hM h5
    refine tr_condTe (e := decide (s1.2 < (a0.length : Int))) h5 (by kernel_rfl) ?_
    refine tr_skip (q_n ?_)
    refine tr_seq ?_
    refine tr_block ?_
    obtain ⟨y6, hy6, hM⟩ := bind_some' hM
    have hy6' := idx_some hy6
    obtain ⟨v7, hv7, hM⟩ := bind_some' hM
    refine tr_sr hT hm [(3, .val (.sl y6.length 0 (y6.flatMap eI.b))), (5, .call [] [] [.sl y6.length 0 (y6.flatMap eI.b), iv s1.1] [] (iv v7))] [0, 2, 10] [(0, .d (.sl a0.length 0 (a0.flatMap (eS eI).b))), (2, .d (iv v7)), (10, .d (iv s1.2))] (.cons hy6'.1 (.cons hy6'.2.1 (.cons (at_b0 (eS_ok eI_ok) hy6'.2.2 (d := .sl y6.length 0 (y6.flatMap eI.b)) (by kernel_rfl)) (cc0 ok43 (laws_heldInt64S_c y6 s1.1 _ hv7) (by kernel_rfl) .nil)))) (by kernel_rfl) (by kernel_rfl) ?_
    refine tr_sr hT hm [] [0, 2, 10, 38] [(0, .d (.sl a0.length 0 (a0.flatMap (eS eI).b))), (2, .d (iv v7)), (10, .d (iv s1.2)), (38, .d (bv (decide (v7 < 0))))] .nil (by kernel_rfl) (by kernel_rfl) ?_
    rcases Bool.eq_false_or_eq_true (decide (v7 < 0)) with h8 | h8
    · have hM := ite_true' hM h8
      refine tr_condTe (e := decide (v7 < 0)) h8 (by kernel_rfl) ?_
      refine tr_sr hT hm [] [8] [(8, .d (iv (-1)))] .nil (by kernel_rfl) (by kernel_rfl) ?_
      refine tr_ret (b_r (q_r (l_r (b_r (q_r (rg_r ?_))))))
      obtain rfl := Option.some.inj hM
      exact retg (names := []) .nil (by kernel_rfl)
    · have hM := ite_false' hM h8
      refine tr_condFe (e := decide (v7 < 0)) h8 (by kernel_rfl) ?_
      refine tr_skip (b_n (q_n ?_))
      refine tr_r hT hm [] [0, 2, 10] [(0, .d (.sl a0.length 0 (a0.flatMap (eS eI).b))), (2, .d (iv v7)), (10, .d (iv (IntKind.i64.wrap (s1.2 + 1))))] .nil (by kernel_rfl) (by kernel_rfl) (l_n ?_)
      exact trl_start (ks := [0, 2, 10]) (by kernel_rfl) (ih3 (v7, IntKind.i64.wrap (s1.2 + 1)) hM)
  · have hM := ite_false' hM h5
    refine tr_condFe (e := decide (s1.2 < (a0.length : Int))) h5 (by kernel_rfl) ?_
    refine tr_exit (q_x (l_x (b_h (q_n ?_))))
    refine tr_sr hT hm [] [8] [(8, .d (iv s1.1))] .nil (by kernel_rfl) (by kernel_rfl) ?_
    refine tr_ret (rg_r ?_)
    obtain rfl := Option.some.inj hM
    exact retg (names := []) .nil (by kernel_rfl)
end Go.Proofs.Ythafadgnjkmfkaa.WvB
