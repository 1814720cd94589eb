/- What is proved: the law BeziersMoved, over all its ways: it is true. The conditions are the numbers' own bounds. -/
import Derived.Test.YtnhhphdhkgjbhaaCb
import Derived.Test.YtnhhphdhkgjbhaaBm
import Derived.Test.YtnhhphdhkgjbhaaLm1
import Derived.Test.YtnhhphdhkgjbhaaLm2
import Derived.Test.YtnhhphdhkgjbhaaLm3
import Derived.Test.YtnhhphdhkgjbhaaLm4
import Derived.Test.YtnhhphdhkgjbhaaLmv1
set_option linter.unusedSimpArgs false
set_option linter.unusedVariables false
namespace Go.Proofs.Ytnhhphdhkgjbhaa
open Go Go.RowKit Sx Wi
set_option maxHeartbeats 40000000 in
set_option maxRecDepth 100000 in
theorem beziersMoved_any (x0 x1 x2 x3 x4 x5 x6 x7 x8 x9 x10 x11 x12 x13 x14 x15 x16 x17 x18 x19 x20 x21 x22 x23 x24 x25 x26 x27 x28 x29 x30 x31 x32 x33 x34 x35 x36 : Int) (b0 : (-9223372036854775808) ≤ x0 ∧ x0 ≤ 9223372036854775807) (b1 : (-9223372036854775808) ≤ x1 ∧ x1 ≤ 9223372036854775807) (b2 : (-9223372036854775808) ≤ x2 ∧ x2 ≤ 9223372036854775807) (b3 : (-9223372036854775808) ≤ x3 ∧ x3 ≤ 9223372036854775807) (b4 : (-9223372036854775808) ≤ x4 ∧ x4 ≤ 9223372036854775807) (b5 : (-9223372036854775808) ≤ x5 ∧ x5 ≤ 9223372036854775807) (b6 : (-9223372036854775808) ≤ x6 ∧ x6 ≤ 9223372036854775807) (b7 : (-9223372036854775808) ≤ x7 ∧ x7 ≤ 9223372036854775807) (b8 : (-9223372036854775808) ≤ x8 ∧ x8 ≤ 9223372036854775807) (b9 : (-9223372036854775808) ≤ x9 ∧ x9 ≤ 9223372036854775807) (b10 : (-9223372036854775808) ≤ x10 ∧ x10 ≤ 9223372036854775807) (b11 : (-9223372036854775808) ≤ x11 ∧ x11 ≤ 9223372036854775807) (b12 : (-9223372036854775808) ≤ x12 ∧ x12 ≤ 9223372036854775807) (b13 : (-9223372036854775808) ≤ x13 ∧ x13 ≤ 9223372036854775807) (b14 : (-9223372036854775808) ≤ x14 ∧ x14 ≤ 9223372036854775807) (b15 : (-9223372036854775808) ≤ x15 ∧ x15 ≤ 9223372036854775807) (b16 : (-9223372036854775808) ≤ x16 ∧ x16 ≤ 9223372036854775807) (b17 : (-9223372036854775808) ≤ x17 ∧ x17 ≤ 9223372036854775807) (b18 : (-9223372036854775808) ≤ x18 ∧ x18 ≤ 9223372036854775807) (b19 : (-9223372036854775808) ≤ x19 ∧ x19 ≤ 9223372036854775807) (b20 : (-9223372036854775808) ≤ x20 ∧ x20 ≤ 9223372036854775807) (b21 : (-9223372036854775808) ≤ x21 ∧ x21 ≤ 9223372036854775807) (b22 : (-9223372036854775808) ≤ x22 ∧ x22 ≤ 9223372036854775807) (b23 : (-9223372036854775808) ≤ x23 ∧ x23 ≤ 9223372036854775807) (b24 : (-9223372036854775808) ≤ x24 ∧ x24 ≤ 9223372036854775807) (b25 : (-9223372036854775808) ≤ x25 ∧ x25 ≤ 9223372036854775807) (b26 : (-9223372036854775808) ≤ x26 ∧ x26 ≤ 9223372036854775807) (b27 : (-9223372036854775808) ≤ x27 ∧ x27 ≤ 9223372036854775807) (b28 : (-9223372036854775808) ≤ x28 ∧ x28 ≤ 9223372036854775807) (b29 : (-9223372036854775808) ≤ x29 ∧ x29 ≤ 9223372036854775807) (b30 : (-9223372036854775808) ≤ x30 ∧ x30 ≤ 9223372036854775807) (b31 : (-9223372036854775808) ≤ x31 ∧ x31 ≤ 9223372036854775807) (b32 : (-9223372036854775808) ≤ x32 ∧ x32 ≤ 9223372036854775807) (b33 : (-9223372036854775808) ≤ x33 ∧ x33 ≤ 9223372036854775807) (b34 : (-9223372036854775808) ≤ x34 ∧ x34 ≤ 9223372036854775807) (b35 : (-32768) ≤ x35 ∧ x35 ≤ 32767) (b36 : (-32768) ≤ x36 ∧ x36 ≤ 32767) (w : World) (hw : WOk GB w) : Calls Try.prog 8 #[(.agg #[.int .i64 x0, .int .i64 x1, .int .i64 x2, .int .i64 x3, .int .i64 x4, .int .i64 x5, .int .i64 x6, .int .i64 x7, .int .i64 x8, .int .i64 x9, .int .i64 x10, .int .i64 x11, .int .i64 x12, .int .i64 x13, .int .i64 x14, .int .i64 x15, .int .i64 x16, .int .i64 x17, .int .i64 x18, .int .i64 x19, .int .i64 x20, .int .i64 x21, .int .i64 x22, .int .i64 x23, .int .i64 x24, .int .i64 x25, .int .i64 x26, .int .i64 x27, .int .i64 x28, .int .i64 x29, .int .i64 x30, .int .i64 x31]), (.agg #[.int .i64 x32, .int .i64 x33, .int .i64 x34]), (.agg #[.int .i16 x35, .int .i16 x36])] w (fun e w' => e = .returned (.bool true) ∧ Below w.heap.size w w') := by
  refine (calls_eq (way_calls3 (ρ := rho [x0, x1, x2, x3, x4, x5, x6, x7, x8, x9, x10, x11, x12, x13, x14, x15, x16, x17, x18, x19, x20, x21, x22, x23, x24, x25, x26, x27, x28, x29, x30, x31, x32, x33, x34, x35, x36]) (run := fun fs => withCtx G GI [((-9223372036854775808), 9223372036854775807), ((-9223372036854775808), 9223372036854775807), ((-9223372036854775808), 9223372036854775807), ((-9223372036854775808), 9223372036854775807), ((-9223372036854775808), 9223372036854775807), ((-9223372036854775808), 9223372036854775807), ((-9223372036854775808), 9223372036854775807), ((-9223372036854775808), 9223372036854775807), ((-9223372036854775808), 9223372036854775807), ((-9223372036854775808), 9223372036854775807), ((-9223372036854775808), 9223372036854775807), ((-9223372036854775808), 9223372036854775807), ((-9223372036854775808), 9223372036854775807), ((-9223372036854775808), 9223372036854775807), ((-9223372036854775808), 9223372036854775807), ((-9223372036854775808), 9223372036854775807), ((-9223372036854775808), 9223372036854775807), ((-9223372036854775808), 9223372036854775807), ((-9223372036854775808), 9223372036854775807), ((-9223372036854775808), 9223372036854775807), ((-9223372036854775808), 9223372036854775807), ((-9223372036854775808), 9223372036854775807), ((-9223372036854775808), 9223372036854775807), ((-9223372036854775808), 9223372036854775807), ((-9223372036854775808), 9223372036854775807), ((-9223372036854775808), 9223372036854775807), ((-9223372036854775808), 9223372036854775807), ((-9223372036854775808), 9223372036854775807), ((-9223372036854775808), 9223372036854775807), ((-9223372036854775808), 9223372036854775807), ((-9223372036854775808), 9223372036854775807), ((-9223372036854775808), 9223372036854775807), ((-9223372036854775808), 9223372036854775807), ((-9223372036854775808), 9223372036854775807), ((-9223372036854775808), 9223372036854775807), ((-32768), 32767), ((-32768), 32767)] fs (fun X => exFun Try.prog X GB ct_at 4000 8 [(.agg [(.int .i64 (.var 0)), (.int .i64 (.var 1)), (.int .i64 (.var 2)), (.int .i64 (.var 3)), (.int .i64 (.var 4)), (.int .i64 (.var 5)), (.int .i64 (.var 6)), (.int .i64 (.var 7)), (.int .i64 (.var 8)), (.int .i64 (.var 9)), (.int .i64 (.var 10)), (.int .i64 (.var 11)), (.int .i64 (.var 12)), (.int .i64 (.var 13)), (.int .i64 (.var 14)), (.int .i64 (.var 15)), (.int .i64 (.var 16)), (.int .i64 (.var 17)), (.int .i64 (.var 18)), (.int .i64 (.var 19)), (.int .i64 (.var 20)), (.int .i64 (.var 21)), (.int .i64 (.var 22)), (.int .i64 (.var 23)), (.int .i64 (.var 24)), (.int .i64 (.var 25)), (.int .i64 (.var 26)), (.int .i64 (.var 27)), (.int .i64 (.var 28)), (.int .i64 (.var 29)), (.int .i64 (.var 30)), (.int .i64 (.var 31))]), (.agg [(.int .i64 (.var 32)), (.int .i64 (.var 33)), (.int .i64 (.var 34))]), (.agg [(.int .i16 (.var 35)), (.int .i16 (.var 36))])])) (fun _ => rfl) (by kernel_rfl) (within_get ⟨b0, b1, b2, b3, b4, b5, b6, b7, b8, b9, b10, b11, b12, b13, b14, b15, b16, b17, b18, b19, b20, b21, b22, b23, b24, b25, b26, b27, b28, b29, b30, b31, b32, b33, b34, b35, b36, trivial⟩) gi_ok (fun X hX hG => ct_at_ok hX hG) rfl rfl gbApart_nil ?_ w hw)).2
  refine way_cut (.cmp .lt (.lit 549755813888) (.var 0)) (fun h0 => ?_) (fun h0 => ?_)
  · skip
    refine way_leaf beziersMoved_n1 ?_
    exact ⟨rfl, rfl⟩
  · skip
    refine way_cut (.cmp .lt (.var 0) (.lit (-549755813888))) (fun h1 => ?_) (fun h1 => ?_)
    · skip
      refine way_leaf beziersMoved_n3 ?_
      exact ⟨rfl, rfl⟩
    · skip
      refine way_cut (.cmp .lt (.lit 549755813888) (.var 1)) (fun h2 => ?_) (fun h2 => ?_)
      · skip
        refine way_leaf beziersMoved_n5 ?_
        exact ⟨rfl, rfl⟩
      · skip
        refine way_cut (.cmp .lt (.var 1) (.lit (-549755813888))) (fun h3 => ?_) (fun h3 => ?_)
        · skip
          refine way_leaf beziersMoved_n7 ?_
          exact ⟨rfl, rfl⟩
        · skip
          refine way_cut (.cmp .lt (.lit 549755813888) (.var 2)) (fun h4 => ?_) (fun h4 => ?_)
          · skip
            refine way_leaf beziersMoved_n9 ?_
            exact ⟨rfl, rfl⟩
          · skip
            refine way_cut (.cmp .lt (.var 2) (.lit (-549755813888))) (fun h5 => ?_) (fun h5 => ?_)
            · skip
              refine way_leaf beziersMoved_n11 ?_
              exact ⟨rfl, rfl⟩
            · skip
              refine way_cut (.cmp .lt (.lit 549755813888) (.var 3)) (fun h6 => ?_) (fun h6 => ?_)
              · skip
                refine way_leaf beziersMoved_n13 ?_
                exact ⟨rfl, rfl⟩
              · skip
                refine way_cut (.cmp .lt (.var 3) (.lit (-549755813888))) (fun h7 => ?_) (fun h7 => ?_)
                · skip
                  refine way_leaf beziersMoved_n15 ?_
                  exact ⟨rfl, rfl⟩
                · skip
                  refine way_cut (.cmp .lt (.lit 549755813888) (.var 4)) (fun h8 => ?_) (fun h8 => ?_)
                  · skip
                    refine way_leaf beziersMoved_n17 ?_
                    exact ⟨rfl, rfl⟩
                  · skip
                    refine way_cut (.cmp .lt (.var 4) (.lit (-549755813888))) (fun h9 => ?_) (fun h9 => ?_)
                    · skip
                      refine way_leaf beziersMoved_n19 ?_
                      exact ⟨rfl, rfl⟩
                    · skip
                      refine way_cut (.cmp .lt (.lit 549755813888) (.var 5)) (fun h10 => ?_) (fun h10 => ?_)
                      · skip
                        refine way_leaf beziersMoved_n21 ?_
                        exact ⟨rfl, rfl⟩
                      · skip
                        refine way_cut (.cmp .lt (.var 5) (.lit (-549755813888))) (fun h11 => ?_) (fun h11 => ?_)
                        · skip
                          refine way_leaf beziersMoved_n23 ?_
                          exact ⟨rfl, rfl⟩
                        · skip
                          refine way_cut (.cmp .lt (.lit 549755813888) (.var 6)) (fun h12 => ?_) (fun h12 => ?_)
                          · skip
                            refine way_leaf beziersMoved_n25 ?_
                            exact ⟨rfl, rfl⟩
                          · skip
                            refine way_cut (.cmp .lt (.var 6) (.lit (-549755813888))) (fun h13 => ?_) (fun h13 => ?_)
                            · skip
                              refine way_leaf beziersMoved_n27 ?_
                              exact ⟨rfl, rfl⟩
                            · skip
                              refine way_cut (.cmp .lt (.lit 549755813888) (.var 7)) (fun h14 => ?_) (fun h14 => ?_)
                              · skip
                                refine way_leaf beziersMoved_n29 ?_
                                exact ⟨rfl, rfl⟩
                              · skip
                                refine way_cut (.cmp .lt (.var 7) (.lit (-549755813888))) (fun h15 => ?_) (fun h15 => ?_)
                                · skip
                                  refine way_leaf beziersMoved_n31 ?_
                                  exact ⟨rfl, rfl⟩
                                · skip
                                  refine way_cut (.cmp .lt (.lit 549755813888) (.var 8)) (fun h16 => ?_) (fun h16 => ?_)
                                  · skip
                                    refine way_leaf beziersMoved_n33 ?_
                                    exact ⟨rfl, rfl⟩
                                  · skip
                                    refine way_cut (.cmp .lt (.var 8) (.lit (-549755813888))) (fun h17 => ?_) (fun h17 => ?_)
                                    · skip
                                      refine way_leaf beziersMoved_n35 ?_
                                      exact ⟨rfl, rfl⟩
                                    · skip
                                      refine way_cut (.cmp .lt (.lit 549755813888) (.var 9)) (fun h18 => ?_) (fun h18 => ?_)
                                      · skip
                                        refine way_leaf beziersMoved_n37 ?_
                                        exact ⟨rfl, rfl⟩
                                      · skip
                                        refine way_cut (.cmp .lt (.var 9) (.lit (-549755813888))) (fun h19 => ?_) (fun h19 => ?_)
                                        · skip
                                          refine way_leaf beziersMoved_n39 ?_
                                          exact ⟨rfl, rfl⟩
                                        · skip
                                          refine way_cut (.cmp .lt (.lit 549755813888) (.var 10)) (fun h20 => ?_) (fun h20 => ?_)
                                          · skip
                                            refine way_leaf beziersMoved_n41 ?_
                                            exact ⟨rfl, rfl⟩
                                          · skip
                                            refine way_cut (.cmp .lt (.var 10) (.lit (-549755813888))) (fun h21 => ?_) (fun h21 => ?_)
                                            · skip
                                              refine way_leaf beziersMoved_n43 ?_
                                              exact ⟨rfl, rfl⟩
                                            · skip
                                              refine way_cut (.cmp .lt (.lit 549755813888) (.var 11)) (fun h22 => ?_) (fun h22 => ?_)
                                              · skip
                                                refine way_leaf beziersMoved_n45 ?_
                                                exact ⟨rfl, rfl⟩
                                              · skip
                                                refine way_cut (.cmp .lt (.var 11) (.lit (-549755813888))) (fun h23 => ?_) (fun h23 => ?_)
                                                · skip
                                                  refine way_leaf beziersMoved_n47 ?_
                                                  exact ⟨rfl, rfl⟩
                                                · skip
                                                  refine way_cut (.cmp .lt (.lit 549755813888) (.var 12)) (fun h24 => ?_) (fun h24 => ?_)
                                                  · skip
                                                    refine way_leaf beziersMoved_n49 ?_
                                                    exact ⟨rfl, rfl⟩
                                                  · skip
                                                    refine way_cut (.cmp .lt (.var 12) (.lit (-549755813888))) (fun h25 => ?_) (fun h25 => ?_)
                                                    · skip
                                                      refine way_leaf beziersMoved_n51 ?_
                                                      exact ⟨rfl, rfl⟩
                                                    · skip
                                                      refine way_cut (.cmp .lt (.lit 549755813888) (.var 13)) (fun h26 => ?_) (fun h26 => ?_)
                                                      · skip
                                                        refine way_leaf beziersMoved_n53 ?_
                                                        exact ⟨rfl, rfl⟩
                                                      · skip
                                                        refine way_cut (.cmp .lt (.var 13) (.lit (-549755813888))) (fun h27 => ?_) (fun h27 => ?_)
                                                        · skip
                                                          refine way_leaf beziersMoved_n55 ?_
                                                          exact ⟨rfl, rfl⟩
                                                        · skip
                                                          refine way_cut (.cmp .lt (.lit 549755813888) (.var 14)) (fun h28 => ?_) (fun h28 => ?_)
                                                          · skip
                                                            refine way_leaf beziersMoved_n57 ?_
                                                            exact ⟨rfl, rfl⟩
                                                          · skip
                                                            refine way_cut (.cmp .lt (.var 14) (.lit (-549755813888))) (fun h29 => ?_) (fun h29 => ?_)
                                                            · skip
                                                              refine way_leaf beziersMoved_n59 ?_
                                                              exact ⟨rfl, rfl⟩
                                                            · skip
                                                              refine way_cut (.cmp .lt (.lit 549755813888) (.var 15)) (fun h30 => ?_) (fun h30 => ?_)
                                                              · skip
                                                                refine way_leaf beziersMoved_n61 ?_
                                                                exact ⟨rfl, rfl⟩
                                                              · skip
                                                                refine way_cut (.cmp .lt (.var 15) (.lit (-549755813888))) (fun h31 => ?_) (fun h31 => ?_)
                                                                · skip
                                                                  refine way_leaf beziersMoved_n63 ?_
                                                                  exact ⟨rfl, rfl⟩
                                                                · skip
                                                                  refine way_cut (.cmp .lt (.lit 549755813888) (.var 16)) (fun h32 => ?_) (fun h32 => ?_)
                                                                  · skip
                                                                    refine way_leaf beziersMoved_n65 ?_
                                                                    exact ⟨rfl, rfl⟩
                                                                  · skip
                                                                    refine way_cut (.cmp .lt (.var 16) (.lit (-549755813888))) (fun h33 => ?_) (fun h33 => ?_)
                                                                    · skip
                                                                      refine way_leaf beziersMoved_n67 ?_
                                                                      exact ⟨rfl, rfl⟩
                                                                    · skip
                                                                      refine way_cut (.cmp .lt (.lit 549755813888) (.var 17)) (fun h34 => ?_) (fun h34 => ?_)
                                                                      · skip
                                                                        refine way_leaf beziersMoved_n69 ?_
                                                                        exact ⟨rfl, rfl⟩
                                                                      · skip
                                                                        refine way_cut (.cmp .lt (.var 17) (.lit (-549755813888))) (fun h35 => ?_) (fun h35 => ?_)
                                                                        · skip
                                                                          refine way_leaf beziersMoved_n71 ?_
                                                                          exact ⟨rfl, rfl⟩
                                                                        · skip
                                                                          refine way_cut (.cmp .lt (.lit 549755813888) (.var 18)) (fun h36 => ?_) (fun h36 => ?_)
                                                                          · skip
                                                                            refine way_leaf beziersMoved_n73 ?_
                                                                            exact ⟨rfl, rfl⟩
                                                                          · skip
                                                                            refine way_cut (.cmp .lt (.var 18) (.lit (-549755813888))) (fun h37 => ?_) (fun h37 => ?_)
                                                                            · skip
                                                                              refine way_leaf beziersMoved_n75 ?_
                                                                              exact ⟨rfl, rfl⟩
                                                                            · skip
                                                                              refine way_cut (.cmp .lt (.lit 549755813888) (.var 19)) (fun h38 => ?_) (fun h38 => ?_)
                                                                              · skip
                                                                                refine way_leaf beziersMoved_n77 ?_
                                                                                exact ⟨rfl, rfl⟩
                                                                              · skip
                                                                                refine way_cut (.cmp .lt (.var 19) (.lit (-549755813888))) (fun h39 => ?_) (fun h39 => ?_)
                                                                                · skip
                                                                                  refine way_leaf beziersMoved_n79 ?_
                                                                                  exact ⟨rfl, rfl⟩
                                                                                · skip
                                                                                  refine way_cut (.cmp .lt (.lit 549755813888) (.var 20)) (fun h40 => ?_) (fun h40 => ?_)
                                                                                  · skip
                                                                                    refine way_leaf beziersMoved_n81 ?_
                                                                                    exact ⟨rfl, rfl⟩
                                                                                  · skip
                                                                                    refine way_cut (.cmp .lt (.var 20) (.lit (-549755813888))) (fun h41 => ?_) (fun h41 => ?_)
                                                                                    · skip
                                                                                      refine way_leaf beziersMoved_n83 ?_
                                                                                      exact ⟨rfl, rfl⟩
                                                                                    · skip
                                                                                      refine way_cut (.cmp .lt (.lit 549755813888) (.var 21)) (fun h42 => ?_) (fun h42 => ?_)
                                                                                      · skip
                                                                                        refine way_leaf beziersMoved_n85 ?_
                                                                                        exact ⟨rfl, rfl⟩
                                                                                      · skip
                                                                                        refine way_cut (.cmp .lt (.var 21) (.lit (-549755813888))) (fun h43 => ?_) (fun h43 => ?_)
                                                                                        · skip
                                                                                          refine way_leaf beziersMoved_n87 ?_
                                                                                          exact ⟨rfl, rfl⟩
                                                                                        · skip
                                                                                          refine way_cut (.cmp .lt (.lit 549755813888) (.var 22)) (fun h44 => ?_) (fun h44 => ?_)
                                                                                          · skip
                                                                                            refine way_leaf beziersMoved_n89 ?_
                                                                                            exact ⟨rfl, rfl⟩
                                                                                          · skip
                                                                                            refine way_cut (.cmp .lt (.var 22) (.lit (-549755813888))) (fun h45 => ?_) (fun h45 => ?_)
                                                                                            · skip
                                                                                              refine way_leaf beziersMoved_n91 ?_
                                                                                              exact ⟨rfl, rfl⟩
                                                                                            · skip
                                                                                              refine way_cut (.cmp .lt (.lit 549755813888) (.var 23)) (fun h46 => ?_) (fun h46 => ?_)
                                                                                              · skip
                                                                                                refine way_leaf beziersMoved_n93 ?_
                                                                                                exact ⟨rfl, rfl⟩
                                                                                              · skip
                                                                                                refine way_cut (.cmp .lt (.var 23) (.lit (-549755813888))) (fun h47 => ?_) (fun h47 => ?_)
                                                                                                · skip
                                                                                                  refine way_leaf beziersMoved_n95 ?_
                                                                                                  exact ⟨rfl, rfl⟩
                                                                                                · skip
                                                                                                  refine way_cut (.cmp .lt (.lit 549755813888) (.var 24)) (fun h48 => ?_) (fun h48 => ?_)
                                                                                                  · skip
                                                                                                    refine way_leaf beziersMoved_n97 ?_
                                                                                                    exact ⟨rfl, rfl⟩
                                                                                                  · skip
                                                                                                    refine way_cut (.cmp .lt (.var 24) (.lit (-549755813888))) (fun h49 => ?_) (fun h49 => ?_)
                                                                                                    · skip
                                                                                                      refine way_leaf beziersMoved_n99 ?_
                                                                                                      exact ⟨rfl, rfl⟩
                                                                                                    · skip
                                                                                                      refine way_cut (.cmp .lt (.lit 549755813888) (.var 25)) (fun h50 => ?_) (fun h50 => ?_)
                                                                                                      · skip
                                                                                                        refine way_leaf beziersMoved_n101 ?_
                                                                                                        exact ⟨rfl, rfl⟩
                                                                                                      · skip
                                                                                                        refine way_cut (.cmp .lt (.var 25) (.lit (-549755813888))) (fun h51 => ?_) (fun h51 => ?_)
                                                                                                        · skip
                                                                                                          refine way_leaf beziersMoved_n103 ?_
                                                                                                          exact ⟨rfl, rfl⟩
                                                                                                        · skip
                                                                                                          refine way_cut (.cmp .lt (.lit 549755813888) (.var 26)) (fun h52 => ?_) (fun h52 => ?_)
                                                                                                          · skip
                                                                                                            refine way_leaf beziersMoved_n105 ?_
                                                                                                            exact ⟨rfl, rfl⟩
                                                                                                          · skip
                                                                                                            refine way_cut (.cmp .lt (.var 26) (.lit (-549755813888))) (fun h53 => ?_) (fun h53 => ?_)
                                                                                                            · skip
                                                                                                              refine way_leaf beziersMoved_n107 ?_
                                                                                                              exact ⟨rfl, rfl⟩
                                                                                                            · skip
                                                                                                              refine way_cut (.cmp .lt (.lit 549755813888) (.var 27)) (fun h54 => ?_) (fun h54 => ?_)
                                                                                                              · skip
                                                                                                                refine way_leaf beziersMoved_n109 ?_
                                                                                                                exact ⟨rfl, rfl⟩
                                                                                                              · skip
                                                                                                                refine way_cut (.cmp .lt (.var 27) (.lit (-549755813888))) (fun h55 => ?_) (fun h55 => ?_)
                                                                                                                · skip
                                                                                                                  refine way_leaf beziersMoved_n111 ?_
                                                                                                                  exact ⟨rfl, rfl⟩
                                                                                                                · skip
                                                                                                                  refine way_cut (.cmp .lt (.lit 549755813888) (.var 28)) (fun h56 => ?_) (fun h56 => ?_)
                                                                                                                  · skip
                                                                                                                    refine way_leaf beziersMoved_n113 ?_
                                                                                                                    exact ⟨rfl, rfl⟩
                                                                                                                  · skip
                                                                                                                    refine way_cut (.cmp .lt (.var 28) (.lit (-549755813888))) (fun h57 => ?_) (fun h57 => ?_)
                                                                                                                    · skip
                                                                                                                      refine way_leaf beziersMoved_n115 ?_
                                                                                                                      exact ⟨rfl, rfl⟩
                                                                                                                    · skip
                                                                                                                      refine way_cut (.cmp .lt (.lit 549755813888) (.var 29)) (fun h58 => ?_) (fun h58 => ?_)
                                                                                                                      · skip
                                                                                                                        refine way_leaf beziersMoved_n117 ?_
                                                                                                                        exact ⟨rfl, rfl⟩
                                                                                                                      · skip
                                                                                                                        refine way_cut (.cmp .lt (.var 29) (.lit (-549755813888))) (fun h59 => ?_) (fun h59 => ?_)
                                                                                                                        · skip
                                                                                                                          refine way_leaf beziersMoved_n119 ?_
                                                                                                                          exact ⟨rfl, rfl⟩
                                                                                                                        · skip
                                                                                                                          refine way_cut (.cmp .lt (.lit 549755813888) (.var 30)) (fun h60 => ?_) (fun h60 => ?_)
                                                                                                                          · skip
                                                                                                                            refine way_leaf beziersMoved_n121 ?_
                                                                                                                            exact ⟨rfl, rfl⟩
                                                                                                                          · skip
                                                                                                                            refine way_cut (.cmp .lt (.var 30) (.lit (-549755813888))) (fun h61 => ?_) (fun h61 => ?_)
                                                                                                                            · skip
                                                                                                                              refine way_leaf beziersMoved_n123 ?_
                                                                                                                              exact ⟨rfl, rfl⟩
                                                                                                                            · skip
                                                                                                                              refine way_cut (.cmp .lt (.lit 549755813888) (.var 31)) (fun h62 => ?_) (fun h62 => ?_)
                                                                                                                              · skip
                                                                                                                                refine way_leaf beziersMoved_n125 ?_
                                                                                                                                exact ⟨rfl, rfl⟩
                                                                                                                              · skip
                                                                                                                                refine way_cut (.cmp .lt (.var 31) (.lit (-549755813888))) (fun h63 => ?_) (fun h63 => ?_)
                                                                                                                                · skip
                                                                                                                                  refine way_leaf beziersMoved_n127 ?_
                                                                                                                                  exact ⟨rfl, rfl⟩
                                                                                                                                · skip
                                                                                                                                  refine way_cut (.and (.cmp .le (.lit 0) (.var 34)) (.and (.cmp .le (.var 34) (.lit 6)) (.and (.cmp .le (.lit 0) (.var 32)) (.and (.cmp .le (.var 32) (.op .shl (.lit 1) (.var 34))) (.and (.cmp .le (.lit 0) (.var 33)) (.and (.cmp .le (.var 33) (.op .shl (.lit 1) (.var 34))) (.and (.cmp .le (.lit (-1099511627776)) (.var 0)) (.and (.cmp .le (.var 0) (.lit 1099511627776)) (.and (.cmp .le (.lit (-1099511627776)) (.var 2)) (.and (.cmp .le (.var 2) (.lit 1099511627776)) (.and (.cmp .le (.lit (-1099511627776)) (.var 4)) (.and (.cmp .le (.var 4) (.lit 1099511627776)) (.and (.cmp .le (.lit (-1099511627776)) (.var 6)) (.and (.cmp .le (.var 6) (.lit 1099511627776)) (.and (.cmp .le (.lit (-1099511627776)) (.var 8)) (.and (.cmp .le (.var 8) (.lit 1099511627776)) (.and (.cmp .le (.lit (-1099511627776)) (.var 10)) (.and (.cmp .le (.var 10) (.lit 1099511627776)) (.and (.cmp .le (.lit (-1099511627776)) (.var 12)) (.and (.cmp .le (.var 12) (.lit 1099511627776)) (.and (.cmp .le (.lit (-1099511627776)) (.var 14)) (.and (.cmp .le (.var 14) (.lit 1099511627776)) (.and (.cmp .le (.lit (-1099511627776)) (.var 16)) (.and (.cmp .le (.var 16) (.lit 1099511627776)) (.and (.cmp .le (.lit (-1099511627776)) (.var 18)) (.and (.cmp .le (.var 18) (.lit 1099511627776)) (.and (.cmp .le (.lit (-1099511627776)) (.var 20)) (.and (.cmp .le (.var 20) (.lit 1099511627776)) (.and (.cmp .le (.lit (-1099511627776)) (.var 22)) (.and (.cmp .le (.var 22) (.lit 1099511627776)) (.and (.cmp .le (.lit (-1099511627776)) (.var 24)) (.and (.cmp .le (.var 24) (.lit 1099511627776)) (.and (.cmp .le (.lit (-1099511627776)) (.var 26)) (.and (.cmp .le (.var 26) (.lit 1099511627776)) (.and (.cmp .le (.lit (-1099511627776)) (.var 28)) (.and (.cmp .le (.var 28) (.lit 1099511627776)) (.and (.cmp .le (.lit (-1099511627776)) (.var 30)) (.and (.cmp .le (.var 30) (.lit 1099511627776)) (.and (.cmp .le (.lit (-1099511627776)) (.var 1)) (.and (.cmp .le (.var 1) (.lit 1099511627776)) (.and (.cmp .le (.lit (-1099511627776)) (.var 3)) (.and (.cmp .le (.var 3) (.lit 1099511627776)) (.and (.cmp .le (.lit (-1099511627776)) (.var 5)) (.and (.cmp .le (.var 5) (.lit 1099511627776)) (.and (.cmp .le (.lit (-1099511627776)) (.var 7)) (.and (.cmp .le (.var 7) (.lit 1099511627776)) (.and (.cmp .le (.lit (-1099511627776)) (.var 9)) (.and (.cmp .le (.var 9) (.lit 1099511627776)) (.and (.cmp .le (.lit (-1099511627776)) (.var 11)) (.and (.cmp .le (.var 11) (.lit 1099511627776)) (.and (.cmp .le (.lit (-1099511627776)) (.var 13)) (.and (.cmp .le (.var 13) (.lit 1099511627776)) (.and (.cmp .le (.lit (-1099511627776)) (.var 15)) (.and (.cmp .le (.var 15) (.lit 1099511627776)) (.and (.cmp .le (.lit (-1099511627776)) (.var 17)) (.and (.cmp .le (.var 17) (.lit 1099511627776)) (.and (.cmp .le (.lit (-1099511627776)) (.var 19)) (.and (.cmp .le (.var 19) (.lit 1099511627776)) (.and (.cmp .le (.lit (-1099511627776)) (.var 21)) (.and (.cmp .le (.var 21) (.lit 1099511627776)) (.and (.cmp .le (.lit (-1099511627776)) (.var 23)) (.and (.cmp .le (.var 23) (.lit 1099511627776)) (.and (.cmp .le (.lit (-1099511627776)) (.var 25)) (.and (.cmp .le (.var 25) (.lit 1099511627776)) (.and (.cmp .le (.lit (-1099511627776)) (.var 27)) (.and (.cmp .le (.var 27) (.lit 1099511627776)) (.and (.cmp .le (.lit (-1099511627776)) (.var 29)) (.and (.cmp .le (.var 29) (.lit 1099511627776)) (.and (.cmp .le (.lit (-1099511627776)) (.var 31)) (.cmp .le (.var 31) (.lit 1099511627776))))))))))))))))))))))))))))))))))))))))))))))))))))))))))))))))))))))) (fun h64 => ?_) (fun h64 => ?_)
                                                                                                                                  · skip
                                                                                                                                    refine way_cut (.cmp .eq (.app 11 (.cons (.op .add (.var 0) (.op .mul (.lit 256) (.var 35))) (.cons (.op .add (.var 2) (.op .mul (.lit 256) (.var 35))) (.cons (.op .add (.var 4) (.op .mul (.lit 256) (.var 35))) (.cons (.op .add (.var 6) (.op .mul (.lit 256) (.var 35))) (.cons (.op .add (.var 8) (.op .mul (.lit 256) (.var 35))) (.cons (.op .add (.var 10) (.op .mul (.lit 256) (.var 35))) (.cons (.op .add (.var 12) (.op .mul (.lit 256) (.var 35))) (.cons (.op .add (.var 14) (.op .mul (.lit 256) (.var 35))) (.cons (.op .add (.var 16) (.op .mul (.lit 256) (.var 35))) (.cons (.op .add (.var 18) (.op .mul (.lit 256) (.var 35))) (.cons (.op .add (.var 20) (.op .mul (.lit 256) (.var 35))) (.cons (.op .add (.var 22) (.op .mul (.lit 256) (.var 35))) (.cons (.op .add (.var 24) (.op .mul (.lit 256) (.var 35))) (.cons (.op .add (.var 26) (.op .mul (.lit 256) (.var 35))) (.cons (.op .add (.var 28) (.op .mul (.lit 256) (.var 35))) (.cons (.op .add (.var 30) (.op .mul (.lit 256) (.var 35))) (.cons (.var 32) (.cons (.var 33) (.cons (.var 34) .nil)))))))))))))))))))) (.op .add (.app 11 (.cons (.var 0) (.cons (.var 2) (.cons (.var 4) (.cons (.var 6) (.cons (.var 8) (.cons (.var 10) (.cons (.var 12) (.cons (.var 14) (.cons (.var 16) (.cons (.var 18) (.cons (.var 20) (.cons (.var 22) (.cons (.var 24) (.cons (.var 26) (.cons (.var 28) (.cons (.var 30) (.cons (.var 32) (.cons (.var 33) (.cons (.var 34) .nil)))))))))))))))))))) (.var 35))) (fun h65 => ?_) (fun h65 => ?_)
                                                                                                                                    · skip
                                                                                                                                      refine way_cut (.cmp .eq (.app 11 (.cons (.op .add (.var 1) (.op .mul (.lit 256) (.var 36))) (.cons (.op .add (.var 3) (.op .mul (.lit 256) (.var 36))) (.cons (.op .add (.var 5) (.op .mul (.lit 256) (.var 36))) (.cons (.op .add (.var 7) (.op .mul (.lit 256) (.var 36))) (.cons (.op .add (.var 9) (.op .mul (.lit 256) (.var 36))) (.cons (.op .add (.var 11) (.op .mul (.lit 256) (.var 36))) (.cons (.op .add (.var 13) (.op .mul (.lit 256) (.var 36))) (.cons (.op .add (.var 15) (.op .mul (.lit 256) (.var 36))) (.cons (.op .add (.var 17) (.op .mul (.lit 256) (.var 36))) (.cons (.op .add (.var 19) (.op .mul (.lit 256) (.var 36))) (.cons (.op .add (.var 21) (.op .mul (.lit 256) (.var 36))) (.cons (.op .add (.var 23) (.op .mul (.lit 256) (.var 36))) (.cons (.op .add (.var 25) (.op .mul (.lit 256) (.var 36))) (.cons (.op .add (.var 27) (.op .mul (.lit 256) (.var 36))) (.cons (.op .add (.var 29) (.op .mul (.lit 256) (.var 36))) (.cons (.op .add (.var 31) (.op .mul (.lit 256) (.var 36))) (.cons (.var 32) (.cons (.var 33) (.cons (.var 34) .nil)))))))))))))))))))) (.op .add (.app 11 (.cons (.var 1) (.cons (.var 3) (.cons (.var 5) (.cons (.var 7) (.cons (.var 9) (.cons (.var 11) (.cons (.var 13) (.cons (.var 15) (.cons (.var 17) (.cons (.var 19) (.cons (.var 21) (.cons (.var 23) (.cons (.var 25) (.cons (.var 27) (.cons (.var 29) (.cons (.var 31) (.cons (.var 32) (.cons (.var 33) (.cons (.var 34) .nil)))))))))))))))))))) (.var 36))) (fun h66 => ?_) (fun h66 => ?_)
                                                                                                                                      · skip
                                                                                                                                        refine way_leaf beziersMoved_n131 ?_
                                                                                                                                        exact ⟨rfl, rfl⟩
                                                                                                                                      · skip
                                                                                                                                        refine way_leaf beziersMoved_n132 ?_
                                                                                                                                        exact beziersMoved_l65 _ _ _ _ _ _ _ _ _ _ _ _ _ _ _ _ _ _ _ _ _ _ _ _ _ _ _ _ _ _ _ _ _ _ _ _ _ b0 b1 b2 b3 b4 b5 b6 b7 b8 b9 b10 b11 b12 b13 b14 b15 b16 b17 b18 b19 b20 b21 b22 b23 b24 b25 b26 b27 b28 b29 b30 b31 b32 b33 b34 b35 b36 h0 h1 h2 h3 h4 h5 h6 h7 h8 h9 h10 h11 h12 h13 h14 h15 h16 h17 h18 h19 h20 h21 h22 h23 h24 h25 h26 h27 h28 h29 h30 h31 h32 h33 h34 h35 h36 h37 h38 h39 h40 h41 h42 h43 h44 h45 h46 h47 h48 h49 h50 h51 h52 h53 h54 h55 h56 h57 h58 h59 h60 h61 h62 h63 h64 h65 h66
                                                                                                                                    · skip
                                                                                                                                      refine way_leaf beziersMoved_n133 ?_
                                                                                                                                      exact beziersMoved_l66 _ _ _ _ _ _ _ _ _ _ _ _ _ _ _ _ _ _ _ _ _ _ _ _ _ _ _ _ _ _ _ _ _ _ _ _ _ b0 b1 b2 b3 b4 b5 b6 b7 b8 b9 b10 b11 b12 b13 b14 b15 b16 b17 b18 b19 b20 b21 b22 b23 b24 b25 b26 b27 b28 b29 b30 b31 b32 b33 b34 b35 b36 h0 h1 h2 h3 h4 h5 h6 h7 h8 h9 h10 h11 h12 h13 h14 h15 h16 h17 h18 h19 h20 h21 h22 h23 h24 h25 h26 h27 h28 h29 h30 h31 h32 h33 h34 h35 h36 h37 h38 h39 h40 h41 h42 h43 h44 h45 h46 h47 h48 h49 h50 h51 h52 h53 h54 h55 h56 h57 h58 h59 h60 h61 h62 h63 h64 h65
                                                                                                                                  · skip
                                                                                                                                    refine way_cut (.and (.cmp .le (.lit 0) (.var 34)) (.and (.cmp .le (.var 34) (.lit 6)) (.and (.cmp .le (.lit 0) (.var 32)) (.and (.cmp .le (.var 32) (.op .shl (.lit 1) (.var 34))) (.and (.cmp .le (.lit 0) (.var 33)) (.and (.cmp .le (.var 33) (.op .shl (.lit 1) (.var 34))) (.and (.cmp .le (.lit (-1099511627776)) (.op .add (.var 0) (.op .mul (.lit 256) (.var 35)))) (.and (.cmp .le (.op .add (.var 0) (.op .mul (.lit 256) (.var 35))) (.lit 1099511627776)) (.and (.cmp .le (.lit (-1099511627776)) (.op .add (.var 2) (.op .mul (.lit 256) (.var 35)))) (.and (.cmp .le (.op .add (.var 2) (.op .mul (.lit 256) (.var 35))) (.lit 1099511627776)) (.and (.cmp .le (.lit (-1099511627776)) (.op .add (.var 4) (.op .mul (.lit 256) (.var 35)))) (.and (.cmp .le (.op .add (.var 4) (.op .mul (.lit 256) (.var 35))) (.lit 1099511627776)) (.and (.cmp .le (.lit (-1099511627776)) (.op .add (.var 6) (.op .mul (.lit 256) (.var 35)))) (.and (.cmp .le (.op .add (.var 6) (.op .mul (.lit 256) (.var 35))) (.lit 1099511627776)) (.and (.cmp .le (.lit (-1099511627776)) (.op .add (.var 8) (.op .mul (.lit 256) (.var 35)))) (.and (.cmp .le (.op .add (.var 8) (.op .mul (.lit 256) (.var 35))) (.lit 1099511627776)) (.and (.cmp .le (.lit (-1099511627776)) (.op .add (.var 10) (.op .mul (.lit 256) (.var 35)))) (.and (.cmp .le (.op .add (.var 10) (.op .mul (.lit 256) (.var 35))) (.lit 1099511627776)) (.and (.cmp .le (.lit (-1099511627776)) (.op .add (.var 12) (.op .mul (.lit 256) (.var 35)))) (.and (.cmp .le (.op .add (.var 12) (.op .mul (.lit 256) (.var 35))) (.lit 1099511627776)) (.and (.cmp .le (.lit (-1099511627776)) (.op .add (.var 14) (.op .mul (.lit 256) (.var 35)))) (.and (.cmp .le (.op .add (.var 14) (.op .mul (.lit 256) (.var 35))) (.lit 1099511627776)) (.and (.cmp .le (.lit (-1099511627776)) (.op .add (.var 16) (.op .mul (.lit 256) (.var 35)))) (.and (.cmp .le (.op .add (.var 16) (.op .mul (.lit 256) (.var 35))) (.lit 1099511627776)) (.and (.cmp .le (.lit (-1099511627776)) (.op .add (.var 18) (.op .mul (.lit 256) (.var 35)))) (.and (.cmp .le (.op .add (.var 18) (.op .mul (.lit 256) (.var 35))) (.lit 1099511627776)) (.and (.cmp .le (.lit (-1099511627776)) (.op .add (.var 20) (.op .mul (.lit 256) (.var 35)))) (.and (.cmp .le (.op .add (.var 20) (.op .mul (.lit 256) (.var 35))) (.lit 1099511627776)) (.and (.cmp .le (.lit (-1099511627776)) (.op .add (.var 22) (.op .mul (.lit 256) (.var 35)))) (.and (.cmp .le (.op .add (.var 22) (.op .mul (.lit 256) (.var 35))) (.lit 1099511627776)) (.and (.cmp .le (.lit (-1099511627776)) (.op .add (.var 24) (.op .mul (.lit 256) (.var 35)))) (.and (.cmp .le (.op .add (.var 24) (.op .mul (.lit 256) (.var 35))) (.lit 1099511627776)) (.and (.cmp .le (.lit (-1099511627776)) (.op .add (.var 26) (.op .mul (.lit 256) (.var 35)))) (.and (.cmp .le (.op .add (.var 26) (.op .mul (.lit 256) (.var 35))) (.lit 1099511627776)) (.and (.cmp .le (.lit (-1099511627776)) (.op .add (.var 28) (.op .mul (.lit 256) (.var 35)))) (.and (.cmp .le (.op .add (.var 28) (.op .mul (.lit 256) (.var 35))) (.lit 1099511627776)) (.and (.cmp .le (.lit (-1099511627776)) (.op .add (.var 30) (.op .mul (.lit 256) (.var 35)))) (.and (.cmp .le (.op .add (.var 30) (.op .mul (.lit 256) (.var 35))) (.lit 1099511627776)) (.and (.cmp .le (.lit (-1099511627776)) (.op .add (.var 1) (.op .mul (.lit 256) (.var 36)))) (.and (.cmp .le (.op .add (.var 1) (.op .mul (.lit 256) (.var 36))) (.lit 1099511627776)) (.and (.cmp .le (.lit (-1099511627776)) (.op .add (.var 3) (.op .mul (.lit 256) (.var 36)))) (.and (.cmp .le (.op .add (.var 3) (.op .mul (.lit 256) (.var 36))) (.lit 1099511627776)) (.and (.cmp .le (.lit (-1099511627776)) (.op .add (.var 5) (.op .mul (.lit 256) (.var 36)))) (.and (.cmp .le (.op .add (.var 5) (.op .mul (.lit 256) (.var 36))) (.lit 1099511627776)) (.and (.cmp .le (.lit (-1099511627776)) (.op .add (.var 7) (.op .mul (.lit 256) (.var 36)))) (.and (.cmp .le (.op .add (.var 7) (.op .mul (.lit 256) (.var 36))) (.lit 1099511627776)) (.and (.cmp .le (.lit (-1099511627776)) (.op .add (.var 9) (.op .mul (.lit 256) (.var 36)))) (.and (.cmp .le (.op .add (.var 9) (.op .mul (.lit 256) (.var 36))) (.lit 1099511627776)) (.and (.cmp .le (.lit (-1099511627776)) (.op .add (.var 11) (.op .mul (.lit 256) (.var 36)))) (.and (.cmp .le (.op .add (.var 11) (.op .mul (.lit 256) (.var 36))) (.lit 1099511627776)) (.and (.cmp .le (.lit (-1099511627776)) (.op .add (.var 13) (.op .mul (.lit 256) (.var 36)))) (.and (.cmp .le (.op .add (.var 13) (.op .mul (.lit 256) (.var 36))) (.lit 1099511627776)) (.and (.cmp .le (.lit (-1099511627776)) (.op .add (.var 15) (.op .mul (.lit 256) (.var 36)))) (.and (.cmp .le (.op .add (.var 15) (.op .mul (.lit 256) (.var 36))) (.lit 1099511627776)) (.and (.cmp .le (.lit (-1099511627776)) (.op .add (.var 17) (.op .mul (.lit 256) (.var 36)))) (.and (.cmp .le (.op .add (.var 17) (.op .mul (.lit 256) (.var 36))) (.lit 1099511627776)) (.and (.cmp .le (.lit (-1099511627776)) (.op .add (.var 19) (.op .mul (.lit 256) (.var 36)))) (.and (.cmp .le (.op .add (.var 19) (.op .mul (.lit 256) (.var 36))) (.lit 1099511627776)) (.and (.cmp .le (.lit (-1099511627776)) (.op .add (.var 21) (.op .mul (.lit 256) (.var 36)))) (.and (.cmp .le (.op .add (.var 21) (.op .mul (.lit 256) (.var 36))) (.lit 1099511627776)) (.and (.cmp .le (.lit (-1099511627776)) (.op .add (.var 23) (.op .mul (.lit 256) (.var 36)))) (.and (.cmp .le (.op .add (.var 23) (.op .mul (.lit 256) (.var 36))) (.lit 1099511627776)) (.and (.cmp .le (.lit (-1099511627776)) (.op .add (.var 25) (.op .mul (.lit 256) (.var 36)))) (.and (.cmp .le (.op .add (.var 25) (.op .mul (.lit 256) (.var 36))) (.lit 1099511627776)) (.and (.cmp .le (.lit (-1099511627776)) (.op .add (.var 27) (.op .mul (.lit 256) (.var 36)))) (.and (.cmp .le (.op .add (.var 27) (.op .mul (.lit 256) (.var 36))) (.lit 1099511627776)) (.and (.cmp .le (.lit (-1099511627776)) (.op .add (.var 29) (.op .mul (.lit 256) (.var 36)))) (.and (.cmp .le (.op .add (.var 29) (.op .mul (.lit 256) (.var 36))) (.lit 1099511627776)) (.and (.cmp .le (.lit (-1099511627776)) (.op .add (.var 31) (.op .mul (.lit 256) (.var 36)))) (.cmp .le (.op .add (.var 31) (.op .mul (.lit 256) (.var 36))) (.lit 1099511627776))))))))))))))))))))))))))))))))))))))))))))))))))))))))))))))))))))))) (fun h65 => ?_) (fun h65 => ?_)
                                                                                                                                    · skip
                                                                                                                                      refine way_cut (.cmp .eq (.app 11 (.cons (.op .add (.var 0) (.op .mul (.lit 256) (.var 35))) (.cons (.op .add (.var 2) (.op .mul (.lit 256) (.var 35))) (.cons (.op .add (.var 4) (.op .mul (.lit 256) (.var 35))) (.cons (.op .add (.var 6) (.op .mul (.lit 256) (.var 35))) (.cons (.op .add (.var 8) (.op .mul (.lit 256) (.var 35))) (.cons (.op .add (.var 10) (.op .mul (.lit 256) (.var 35))) (.cons (.op .add (.var 12) (.op .mul (.lit 256) (.var 35))) (.cons (.op .add (.var 14) (.op .mul (.lit 256) (.var 35))) (.cons (.op .add (.var 16) (.op .mul (.lit 256) (.var 35))) (.cons (.op .add (.var 18) (.op .mul (.lit 256) (.var 35))) (.cons (.op .add (.var 20) (.op .mul (.lit 256) (.var 35))) (.cons (.op .add (.var 22) (.op .mul (.lit 256) (.var 35))) (.cons (.op .add (.var 24) (.op .mul (.lit 256) (.var 35))) (.cons (.op .add (.var 26) (.op .mul (.lit 256) (.var 35))) (.cons (.op .add (.var 28) (.op .mul (.lit 256) (.var 35))) (.cons (.op .add (.var 30) (.op .mul (.lit 256) (.var 35))) (.cons (.var 32) (.cons (.var 33) (.cons (.var 34) .nil)))))))))))))))))))) (.op .add (.app 11 (.cons (.var 0) (.cons (.var 2) (.cons (.var 4) (.cons (.var 6) (.cons (.var 8) (.cons (.var 10) (.cons (.var 12) (.cons (.var 14) (.cons (.var 16) (.cons (.var 18) (.cons (.var 20) (.cons (.var 22) (.cons (.var 24) (.cons (.var 26) (.cons (.var 28) (.cons (.var 30) (.cons (.var 32) (.cons (.var 33) (.cons (.var 34) .nil)))))))))))))))))))) (.var 35))) (fun h66 => ?_) (fun h66 => ?_)
                                                                                                                                      · skip
                                                                                                                                        refine way_cut (.cmp .eq (.app 11 (.cons (.op .add (.var 1) (.op .mul (.lit 256) (.var 36))) (.cons (.op .add (.var 3) (.op .mul (.lit 256) (.var 36))) (.cons (.op .add (.var 5) (.op .mul (.lit 256) (.var 36))) (.cons (.op .add (.var 7) (.op .mul (.lit 256) (.var 36))) (.cons (.op .add (.var 9) (.op .mul (.lit 256) (.var 36))) (.cons (.op .add (.var 11) (.op .mul (.lit 256) (.var 36))) (.cons (.op .add (.var 13) (.op .mul (.lit 256) (.var 36))) (.cons (.op .add (.var 15) (.op .mul (.lit 256) (.var 36))) (.cons (.op .add (.var 17) (.op .mul (.lit 256) (.var 36))) (.cons (.op .add (.var 19) (.op .mul (.lit 256) (.var 36))) (.cons (.op .add (.var 21) (.op .mul (.lit 256) (.var 36))) (.cons (.op .add (.var 23) (.op .mul (.lit 256) (.var 36))) (.cons (.op .add (.var 25) (.op .mul (.lit 256) (.var 36))) (.cons (.op .add (.var 27) (.op .mul (.lit 256) (.var 36))) (.cons (.op .add (.var 29) (.op .mul (.lit 256) (.var 36))) (.cons (.op .add (.var 31) (.op .mul (.lit 256) (.var 36))) (.cons (.var 32) (.cons (.var 33) (.cons (.var 34) .nil)))))))))))))))))))) (.op .add (.app 11 (.cons (.var 1) (.cons (.var 3) (.cons (.var 5) (.cons (.var 7) (.cons (.var 9) (.cons (.var 11) (.cons (.var 13) (.cons (.var 15) (.cons (.var 17) (.cons (.var 19) (.cons (.var 21) (.cons (.var 23) (.cons (.var 25) (.cons (.var 27) (.cons (.var 29) (.cons (.var 31) (.cons (.var 32) (.cons (.var 33) (.cons (.var 34) .nil)))))))))))))))))))) (.var 36))) (fun h67 => ?_) (fun h67 => ?_)
                                                                                                                                        · skip
                                                                                                                                          refine way_leaf beziersMoved_n137 ?_
                                                                                                                                          exact ⟨rfl, rfl⟩
                                                                                                                                        · skip
                                                                                                                                          refine way_leaf beziersMoved_n138 ?_
                                                                                                                                          exact beziersMoved_l68 _ _ _ _ _ _ _ _ _ _ _ _ _ _ _ _ _ _ _ _ _ _ _ _ _ _ _ _ _ _ _ _ _ _ _ _ _ b0 b1 b2 b3 b4 b5 b6 b7 b8 b9 b10 b11 b12 b13 b14 b15 b16 b17 b18 b19 b20 b21 b22 b23 b24 b25 b26 b27 b28 b29 b30 b31 b32 b33 b34 b35 b36 h0 h1 h2 h3 h4 h5 h6 h7 h8 h9 h10 h11 h12 h13 h14 h15 h16 h17 h18 h19 h20 h21 h22 h23 h24 h25 h26 h27 h28 h29 h30 h31 h32 h33 h34 h35 h36 h37 h38 h39 h40 h41 h42 h43 h44 h45 h46 h47 h48 h49 h50 h51 h52 h53 h54 h55 h56 h57 h58 h59 h60 h61 h62 h63 h64 h65 h66 h67
                                                                                                                                      · skip
                                                                                                                                        refine way_leaf beziersMoved_n139 ?_
                                                                                                                                        exact beziersMoved_l69 _ _ _ _ _ _ _ _ _ _ _ _ _ _ _ _ _ _ _ _ _ _ _ _ _ _ _ _ _ _ _ _ _ _ _ _ _ b0 b1 b2 b3 b4 b5 b6 b7 b8 b9 b10 b11 b12 b13 b14 b15 b16 b17 b18 b19 b20 b21 b22 b23 b24 b25 b26 b27 b28 b29 b30 b31 b32 b33 b34 b35 b36 h0 h1 h2 h3 h4 h5 h6 h7 h8 h9 h10 h11 h12 h13 h14 h15 h16 h17 h18 h19 h20 h21 h22 h23 h24 h25 h26 h27 h28 h29 h30 h31 h32 h33 h34 h35 h36 h37 h38 h39 h40 h41 h42 h43 h44 h45 h46 h47 h48 h49 h50 h51 h52 h53 h54 h55 h56 h57 h58 h59 h60 h61 h62 h63 h64 h65 h66
                                                                                                                                    · skip
                                                                                                                                      refine way_leaf beziersMoved_n140 ?_
                                                                                                                                      exact ⟨rfl, rfl⟩
end Go.Proofs.Ytnhhphdhkgjbhaa
