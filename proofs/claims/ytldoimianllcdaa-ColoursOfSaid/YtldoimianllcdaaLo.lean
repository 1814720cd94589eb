/- What is proved: the law ColoursOf, over all its ways: it is true. The conditions are the numbers' own bounds. -/
import Derived.Test.YtldoimianllcdaaCa
import Derived.Test.YtldoimianllcdaaTh
import Derived.Test.YtldoimianllcdaaLo1
import Derived.Test.YtldoimianllcdaaLo2
import Derived.Test.YtldoimianllcdaaLo3
import Derived.Test.YtldoimianllcdaaLo4
import Derived.Test.YtldoimianllcdaaLo5
import Derived.Test.YtldoimianllcdaaLo6
import Derived.Test.YtldoimianllcdaaLo7
import Derived.Test.YtldoimianllcdaaLo8
import Derived.Test.YtldoimianllcdaaLov1
import Derived.Test.YtldoimianllcdaaLov2
import Derived.Test.YtldoimianllcdaaLov3
import Derived.Test.YtldoimianllcdaaLov4
import Derived.Test.YtldoimianllcdaaLov5
import Derived.Test.YtldoimianllcdaaLov6
import Derived.Test.YtldoimianllcdaaLov7
import Derived.Test.YtldoimianllcdaaLov8
set_option linter.unusedSimpArgs false
set_option linter.unusedVariables false
namespace Go.Proofs.Ytldoimianllcdaa
open Go Go.RowKit Sx Wi
set_option maxHeartbeats 8000000 in
set_option maxRecDepth 100000 in
theorem coloursOf_any (x0 x1 x2 x3 x4 x5 x6 x7 x8 : Int) (b0 : 0 ≤ x0 ∧ x0 ≤ 255) (b1 : 0 ≤ x1 ∧ x1 ≤ 255) (b2 : (-2147483648) ≤ x2 ∧ x2 ≤ 2147483647) (b3 : (-2147483648) ≤ x3 ∧ x3 ≤ 2147483647) (b4 : (-2147483648) ≤ x4 ∧ x4 ≤ 2147483647) (b5 : (-2147483648) ≤ x5 ∧ x5 ≤ 2147483647) (b6 : 0 ≤ x6 ∧ x6 ≤ 255) (b7 : 0 ≤ x7 ∧ x7 ≤ 255) (b8 : (-9223372036854775808) ≤ x8 ∧ x8 ≤ 9223372036854775807) (w : World) (hw : WOk GB w) : Calls Try.prog 3 #[(.agg #[.int .u8 x0, .int .u8 x1]), (.agg #[.int .i32 x2, .int .i32 x3, .int .i32 x4, .int .i32 x5]), (.agg #[.int .u8 x6, .int .u8 x7, .int .i64 x8])] w (fun e w' => e = .returned (.bool true) ∧ Below w.heap.size w w') := by
  refine (calls_eq (way_calls2 (ρ := rho [x0, x1, x2, x3, x4, x5, x6, x7, x8]) (run := fun fs => exFun Try.prog (Ctx.more ⟨G, GI, [(0, 255), (0, 255), ((-2147483648), 2147483647), ((-2147483648), 2147483647), ((-2147483648), 2147483647), ((-2147483648), 2147483647), (0, 255), (0, 255), ((-9223372036854775808), 9223372036854775807)], fs⟩) GB ct_to 4000 3 [(.agg [(.int .u8 (.var 0)), (.int .u8 (.var 1))]), (.agg [(.int .i32 (.var 2)), (.int .i32 (.var 3)), (.int .i32 (.var 4)), (.int .i32 (.var 5))]), (.agg [(.int .u8 (.var 6)), (.int .u8 (.var 7)), (.int .i64 (.var 8))])]) (fun _ => rfl) (by kernel_rfl) (within_get ⟨b0, b1, b2, b3, b4, b5, b6, b7, b8, trivial⟩) gi_ok (fun fs hf => ct_to_ok (X := ⟨G, GI, _, fs⟩) ⟨within_get ⟨b0, b1, b2, b3, b4, b5, b6, b7, b8, trivial⟩, hf, gi_ok⟩ rfl) rfl rfl gbApart_nil ?_ w hw)).2
  refine way_need coloursOf_n0 (fun h0 => ?_) (fun h0 => ?_)
  · skip
    refine way_need coloursOf_n1 (fun h1 => ?_) (fun h1 => ?_)
    · skip
      refine way_need coloursOf_n2 (fun h2 => ?_) (fun h2 => ?_)
      · skip
        refine way_leaf coloursOf_n3 ?_
        exact coloursOf_l0 _ _ _ _ _ _ _ _ _ b0 b1 b2 b3 b4 b5 b6 b7 b8 h0 h1 h2
      · skip
        refine way_need coloursOf_n4 (fun h3 => ?_) (fun h3 => ?_)
        · skip
          refine way_leaf coloursOf_n5 ?_
          exact coloursOf_l1 _ _ _ _ _ _ _ _ _ b0 b1 b2 b3 b4 b5 b6 b7 b8 h0 h1 h2 h3
        · skip
          refine way_need coloursOf_n6 (fun h4 => ?_) (fun h4 => ?_)
          · skip
            refine way_leaf coloursOf_n7 ?_
            exact coloursOf_l2 _ _ _ _ _ _ _ _ _ b0 b1 b2 b3 b4 b5 b6 b7 b8 h0 h1 h2 h3 h4
          · skip
            refine way_need coloursOf_n8 (fun h5 => ?_) (fun h5 => ?_)
            · skip
              refine way_leaf coloursOf_n9 ?_
              exact coloursOf_l3 _ _ _ _ _ _ _ _ _ b0 b1 b2 b3 b4 b5 b6 b7 b8 h0 h1 h2 h3 h4 h5
            · skip
              refine way_need coloursOf_n10 (fun h6 => ?_) (fun h6 => ?_)
              · skip
                refine way_need coloursOf_n11 (fun h7 => ?_) (fun h7 => ?_)
                · skip
                  refine way_need coloursOf_n12 (fun h8 => ?_) (fun h8 => ?_)
                  · skip
                    refine way_leaf coloursOf_n13 ?_
                    exact ⟨rfl, rfl⟩
                  · skip
                    refine way_leaf coloursOf_n14 ?_
                    exact coloursOf_l5 _ _ _ _ _ _ _ _ _ b0 b1 b2 b3 b4 b5 b6 b7 b8 h0 h1 h2 h3 h4 h5 h6 h7 h8
                · skip
                  refine way_need coloursOf_n15 (fun h8 => ?_) (fun h8 => ?_)
                  · skip
                    refine way_leaf coloursOf_n16 ?_
                    exact ⟨rfl, rfl⟩
                  · skip
                    refine way_leaf coloursOf_n17 ?_
                    exact coloursOf_l7 _ _ _ _ _ _ _ _ _ b0 b1 b2 b3 b4 b5 b6 b7 b8 h0 h1 h2 h3 h4 h5 h6 h7 h8
              · skip
                refine way_leaf coloursOf_n18 ?_
                exact coloursOf_l8 _ _ _ _ _ _ _ _ _ b0 b1 b2 b3 b4 b5 b6 b7 b8 h0 h1 h2 h3 h4 h5 h6
    · skip
      refine way_need coloursOf_n19 (fun h2 => ?_) (fun h2 => ?_)
      · skip
        refine way_need coloursOf_n20 (fun h3 => ?_) (fun h3 => ?_)
        · skip
          refine way_leaf coloursOf_n21 ?_
          exact coloursOf_l9 _ _ _ _ _ _ _ _ _ b0 b1 b2 b3 b4 b5 b6 b7 b8 h0 h1 h2 h3
        · skip
          refine way_need coloursOf_n22 (fun h4 => ?_) (fun h4 => ?_)
          · skip
            refine way_leaf coloursOf_n23 ?_
            exact coloursOf_l10 _ _ _ _ _ _ _ _ _ b0 b1 b2 b3 b4 b5 b6 b7 b8 h0 h1 h2 h3 h4
          · skip
            refine way_need coloursOf_n24 (fun h5 => ?_) (fun h5 => ?_)
            · skip
              refine way_leaf coloursOf_n25 ?_
              exact coloursOf_l11 _ _ _ _ _ _ _ _ _ b0 b1 b2 b3 b4 b5 b6 b7 b8 h0 h1 h2 h3 h4 h5
            · skip
              refine way_need coloursOf_n26 (fun h6 => ?_) (fun h6 => ?_)
              · skip
                refine way_leaf coloursOf_n27 ?_
                exact coloursOf_l12 _ _ _ _ _ _ _ _ _ b0 b1 b2 b3 b4 b5 b6 b7 b8 h0 h1 h2 h3 h4 h5 h6
              · skip
                refine way_need coloursOf_n28 (fun h7 => ?_) (fun h7 => ?_)
                · skip
                  refine way_need coloursOf_n29 (fun h8 => ?_) (fun h8 => ?_)
                  · skip
                    refine way_need coloursOf_n30 (fun h9 => ?_) (fun h9 => ?_)
                    · skip
                      refine way_leaf coloursOf_n31 ?_
                      exact ⟨rfl, rfl⟩
                    · skip
                      refine way_leaf coloursOf_n32 ?_
                      exact coloursOf_l14 _ _ _ _ _ _ _ _ _ b0 b1 b2 b3 b4 b5 b6 b7 b8 h0 h1 h2 h3 h4 h5 h6 h7 h8 h9
                  · skip
                    refine way_need coloursOf_n33 (fun h9 => ?_) (fun h9 => ?_)
                    · skip
                      refine way_leaf coloursOf_n34 ?_
                      exact ⟨rfl, rfl⟩
                    · skip
                      refine way_leaf coloursOf_n35 ?_
                      exact coloursOf_l16 _ _ _ _ _ _ _ _ _ b0 b1 b2 b3 b4 b5 b6 b7 b8 h0 h1 h2 h3 h4 h5 h6 h7 h8 h9
                · skip
                  refine way_leaf coloursOf_n36 ?_
                  exact coloursOf_l17 _ _ _ _ _ _ _ _ _ b0 b1 b2 b3 b4 b5 b6 b7 b8 h0 h1 h2 h3 h4 h5 h6 h7
      · skip
        refine way_need coloursOf_n37 (fun h3 => ?_) (fun h3 => ?_)
        · skip
          refine way_need coloursOf_n38 (fun h4 => ?_) (fun h4 => ?_)
          · skip
            refine way_leaf coloursOf_n39 ?_
            exact coloursOf_l18 _ _ _ _ _ _ _ _ _ b0 b1 b2 b3 b4 b5 b6 b7 b8 h0 h1 h2 h3 h4
          · skip
            refine way_need coloursOf_n40 (fun h5 => ?_) (fun h5 => ?_)
            · skip
              refine way_leaf coloursOf_n41 ?_
              exact coloursOf_l19 _ _ _ _ _ _ _ _ _ b0 b1 b2 b3 b4 b5 b6 b7 b8 h0 h1 h2 h3 h4 h5
            · skip
              refine way_need coloursOf_n42 (fun h6 => ?_) (fun h6 => ?_)
              · skip
                refine way_leaf coloursOf_n43 ?_
                exact coloursOf_l20 _ _ _ _ _ _ _ _ _ b0 b1 b2 b3 b4 b5 b6 b7 b8 h0 h1 h2 h3 h4 h5 h6
              · skip
                refine way_need coloursOf_n44 (fun h7 => ?_) (fun h7 => ?_)
                · skip
                  refine way_leaf coloursOf_n45 ?_
                  exact coloursOf_l21 _ _ _ _ _ _ _ _ _ b0 b1 b2 b3 b4 b5 b6 b7 b8 h0 h1 h2 h3 h4 h5 h6 h7
                · skip
                  refine way_need coloursOf_n46 (fun h8 => ?_) (fun h8 => ?_)
                  · skip
                    refine way_need coloursOf_n47 (fun h9 => ?_) (fun h9 => ?_)
                    · skip
                      refine way_need coloursOf_n48 (fun h10 => ?_) (fun h10 => ?_)
                      · skip
                        refine way_leaf coloursOf_n49 ?_
                        exact ⟨rfl, rfl⟩
                      · skip
                        refine way_leaf coloursOf_n50 ?_
                        exact coloursOf_l23 _ _ _ _ _ _ _ _ _ b0 b1 b2 b3 b4 b5 b6 b7 b8 h0 h1 h2 h3 h4 h5 h6 h7 h8 h9 h10
                    · skip
                      refine way_need coloursOf_n51 (fun h10 => ?_) (fun h10 => ?_)
                      · skip
                        refine way_leaf coloursOf_n52 ?_
                        exact ⟨rfl, rfl⟩
                      · skip
                        refine way_leaf coloursOf_n53 ?_
                        exact coloursOf_l25 _ _ _ _ _ _ _ _ _ b0 b1 b2 b3 b4 b5 b6 b7 b8 h0 h1 h2 h3 h4 h5 h6 h7 h8 h9 h10
                  · skip
                    refine way_leaf coloursOf_n54 ?_
                    exact coloursOf_l26 _ _ _ _ _ _ _ _ _ b0 b1 b2 b3 b4 b5 b6 b7 b8 h0 h1 h2 h3 h4 h5 h6 h7 h8
        · skip
          refine way_need coloursOf_n55 (fun h4 => ?_) (fun h4 => ?_)
          · skip
            refine way_leaf coloursOf_n56 ?_
            exact coloursOf_l27 _ _ _ _ _ _ _ _ _ b0 b1 b2 b3 b4 b5 b6 b7 b8 h0 h1 h2 h3 h4
          · skip
            refine way_need coloursOf_n57 (fun h5 => ?_) (fun h5 => ?_)
            · skip
              refine way_leaf coloursOf_n58 ?_
              exact coloursOf_l28 _ _ _ _ _ _ _ _ _ b0 b1 b2 b3 b4 b5 b6 b7 b8 h0 h1 h2 h3 h4 h5
            · skip
              refine way_need coloursOf_n59 (fun h6 => ?_) (fun h6 => ?_)
              · skip
                refine way_leaf coloursOf_n60 ?_
                exact coloursOf_l29 _ _ _ _ _ _ _ _ _ b0 b1 b2 b3 b4 b5 b6 b7 b8 h0 h1 h2 h3 h4 h5 h6
              · skip
                refine way_need coloursOf_n61 (fun h7 => ?_) (fun h7 => ?_)
                · skip
                  refine way_leaf coloursOf_n62 ?_
                  exact coloursOf_l30 _ _ _ _ _ _ _ _ _ b0 b1 b2 b3 b4 b5 b6 b7 b8 h0 h1 h2 h3 h4 h5 h6 h7
                · skip
                  refine way_need coloursOf_n63 (fun h8 => ?_) (fun h8 => ?_)
                  · skip
                    refine way_need coloursOf_n64 (fun h9 => ?_) (fun h9 => ?_)
                    · skip
                      refine way_need coloursOf_n65 (fun h10 => ?_) (fun h10 => ?_)
                      · skip
                        refine way_leaf coloursOf_n66 ?_
                        exact ⟨rfl, rfl⟩
                      · skip
                        refine way_leaf coloursOf_n67 ?_
                        exact coloursOf_l32 _ _ _ _ _ _ _ _ _ b0 b1 b2 b3 b4 b5 b6 b7 b8 h0 h1 h2 h3 h4 h5 h6 h7 h8 h9 h10
                    · skip
                      refine way_need coloursOf_n68 (fun h10 => ?_) (fun h10 => ?_)
                      · skip
                        refine way_leaf coloursOf_n69 ?_
                        exact ⟨rfl, rfl⟩
                      · skip
                        refine way_leaf coloursOf_n70 ?_
                        exact coloursOf_l34 _ _ _ _ _ _ _ _ _ b0 b1 b2 b3 b4 b5 b6 b7 b8 h0 h1 h2 h3 h4 h5 h6 h7 h8 h9 h10
                  · skip
                    refine way_leaf coloursOf_n71 ?_
                    exact coloursOf_l35 _ _ _ _ _ _ _ _ _ b0 b1 b2 b3 b4 b5 b6 b7 b8 h0 h1 h2 h3 h4 h5 h6 h7 h8
  · skip
    refine way_need coloursOf_n72 (fun h1 => ?_) (fun h1 => ?_)
    · skip
      refine way_need coloursOf_n73 (fun h2 => ?_) (fun h2 => ?_)
      · skip
        refine way_need coloursOf_n74 (fun h3 => ?_) (fun h3 => ?_)
        · skip
          refine way_leaf coloursOf_n75 ?_
          exact coloursOf_l36 _ _ _ _ _ _ _ _ _ b0 b1 b2 b3 b4 b5 b6 b7 b8 h0 h1 h2 h3
        · skip
          refine way_need coloursOf_n76 (fun h4 => ?_) (fun h4 => ?_)
          · skip
            refine way_leaf coloursOf_n77 ?_
            exact coloursOf_l37 _ _ _ _ _ _ _ _ _ b0 b1 b2 b3 b4 b5 b6 b7 b8 h0 h1 h2 h3 h4
          · skip
            refine way_need coloursOf_n78 (fun h5 => ?_) (fun h5 => ?_)
            · skip
              refine way_leaf coloursOf_n79 ?_
              exact coloursOf_l38 _ _ _ _ _ _ _ _ _ b0 b1 b2 b3 b4 b5 b6 b7 b8 h0 h1 h2 h3 h4 h5
            · skip
              refine way_need coloursOf_n80 (fun h6 => ?_) (fun h6 => ?_)
              · skip
                refine way_leaf coloursOf_n81 ?_
                exact coloursOf_l39 _ _ _ _ _ _ _ _ _ b0 b1 b2 b3 b4 b5 b6 b7 b8 h0 h1 h2 h3 h4 h5 h6
              · skip
                refine way_need coloursOf_n82 (fun h7 => ?_) (fun h7 => ?_)
                · skip
                  refine way_need coloursOf_n83 (fun h8 => ?_) (fun h8 => ?_)
                  · skip
                    refine way_need coloursOf_n84 (fun h9 => ?_) (fun h9 => ?_)
                    · skip
                      refine way_leaf coloursOf_n85 ?_
                      exact ⟨rfl, rfl⟩
                    · skip
                      refine way_leaf coloursOf_n86 ?_
                      exact coloursOf_l41 _ _ _ _ _ _ _ _ _ b0 b1 b2 b3 b4 b5 b6 b7 b8 h0 h1 h2 h3 h4 h5 h6 h7 h8 h9
                  · skip
                    refine way_need coloursOf_n87 (fun h9 => ?_) (fun h9 => ?_)
                    · skip
                      refine way_leaf coloursOf_n88 ?_
                      exact ⟨rfl, rfl⟩
                    · skip
                      refine way_leaf coloursOf_n89 ?_
                      exact coloursOf_l43 _ _ _ _ _ _ _ _ _ b0 b1 b2 b3 b4 b5 b6 b7 b8 h0 h1 h2 h3 h4 h5 h6 h7 h8 h9
                · skip
                  refine way_leaf coloursOf_n90 ?_
                  exact coloursOf_l44 _ _ _ _ _ _ _ _ _ b0 b1 b2 b3 b4 b5 b6 b7 b8 h0 h1 h2 h3 h4 h5 h6 h7
      · skip
        refine way_need coloursOf_n91 (fun h3 => ?_) (fun h3 => ?_)
        · skip
          refine way_need coloursOf_n92 (fun h4 => ?_) (fun h4 => ?_)
          · skip
            refine way_leaf coloursOf_n93 ?_
            exact coloursOf_l45 _ _ _ _ _ _ _ _ _ b0 b1 b2 b3 b4 b5 b6 b7 b8 h0 h1 h2 h3 h4
          · skip
            refine way_need coloursOf_n94 (fun h5 => ?_) (fun h5 => ?_)
            · skip
              refine way_leaf coloursOf_n95 ?_
              exact coloursOf_l46 _ _ _ _ _ _ _ _ _ b0 b1 b2 b3 b4 b5 b6 b7 b8 h0 h1 h2 h3 h4 h5
            · skip
              refine way_need coloursOf_n96 (fun h6 => ?_) (fun h6 => ?_)
              · skip
                refine way_leaf coloursOf_n97 ?_
                exact coloursOf_l47 _ _ _ _ _ _ _ _ _ b0 b1 b2 b3 b4 b5 b6 b7 b8 h0 h1 h2 h3 h4 h5 h6
              · skip
                refine way_need coloursOf_n98 (fun h7 => ?_) (fun h7 => ?_)
                · skip
                  refine way_leaf coloursOf_n99 ?_
                  exact coloursOf_l48 _ _ _ _ _ _ _ _ _ b0 b1 b2 b3 b4 b5 b6 b7 b8 h0 h1 h2 h3 h4 h5 h6 h7
                · skip
                  refine way_need coloursOf_n100 (fun h8 => ?_) (fun h8 => ?_)
                  · skip
                    refine way_need coloursOf_n101 (fun h9 => ?_) (fun h9 => ?_)
                    · skip
                      refine way_need coloursOf_n102 (fun h10 => ?_) (fun h10 => ?_)
                      · skip
                        refine way_leaf coloursOf_n103 ?_
                        exact ⟨rfl, rfl⟩
                      · skip
                        refine way_leaf coloursOf_n104 ?_
                        exact coloursOf_l50 _ _ _ _ _ _ _ _ _ b0 b1 b2 b3 b4 b5 b6 b7 b8 h0 h1 h2 h3 h4 h5 h6 h7 h8 h9 h10
                    · skip
                      refine way_need coloursOf_n105 (fun h10 => ?_) (fun h10 => ?_)
                      · skip
                        refine way_leaf coloursOf_n106 ?_
                        exact ⟨rfl, rfl⟩
                      · skip
                        refine way_leaf coloursOf_n107 ?_
                        exact coloursOf_l52 _ _ _ _ _ _ _ _ _ b0 b1 b2 b3 b4 b5 b6 b7 b8 h0 h1 h2 h3 h4 h5 h6 h7 h8 h9 h10
                  · skip
                    refine way_leaf coloursOf_n108 ?_
                    exact coloursOf_l53 _ _ _ _ _ _ _ _ _ b0 b1 b2 b3 b4 b5 b6 b7 b8 h0 h1 h2 h3 h4 h5 h6 h7 h8
        · skip
          refine way_need coloursOf_n109 (fun h4 => ?_) (fun h4 => ?_)
          · skip
            refine way_need coloursOf_n110 (fun h5 => ?_) (fun h5 => ?_)
            · skip
              refine way_leaf coloursOf_n111 ?_
              exact coloursOf_l54 _ _ _ _ _ _ _ _ _ b0 b1 b2 b3 b4 b5 b6 b7 b8 h0 h1 h2 h3 h4 h5
            · skip
              refine way_need coloursOf_n112 (fun h6 => ?_) (fun h6 => ?_)
              · skip
                refine way_leaf coloursOf_n113 ?_
                exact coloursOf_l55 _ _ _ _ _ _ _ _ _ b0 b1 b2 b3 b4 b5 b6 b7 b8 h0 h1 h2 h3 h4 h5 h6
              · skip
                refine way_need coloursOf_n114 (fun h7 => ?_) (fun h7 => ?_)
                · skip
                  refine way_leaf coloursOf_n115 ?_
                  exact coloursOf_l56 _ _ _ _ _ _ _ _ _ b0 b1 b2 b3 b4 b5 b6 b7 b8 h0 h1 h2 h3 h4 h5 h6 h7
                · skip
                  refine way_need coloursOf_n116 (fun h8 => ?_) (fun h8 => ?_)
                  · skip
                    refine way_leaf coloursOf_n117 ?_
                    exact coloursOf_l57 _ _ _ _ _ _ _ _ _ b0 b1 b2 b3 b4 b5 b6 b7 b8 h0 h1 h2 h3 h4 h5 h6 h7 h8
                  · skip
                    refine way_need coloursOf_n118 (fun h9 => ?_) (fun h9 => ?_)
                    · skip
                      refine way_need coloursOf_n119 (fun h10 => ?_) (fun h10 => ?_)
                      · skip
                        refine way_need coloursOf_n120 (fun h11 => ?_) (fun h11 => ?_)
                        · skip
                          refine way_leaf coloursOf_n121 ?_
                          exact ⟨rfl, rfl⟩
                        · skip
                          refine way_leaf coloursOf_n122 ?_
                          exact coloursOf_l59 _ _ _ _ _ _ _ _ _ b0 b1 b2 b3 b4 b5 b6 b7 b8 h0 h1 h2 h3 h4 h5 h6 h7 h8 h9 h10 h11
                      · skip
                        refine way_need coloursOf_n123 (fun h11 => ?_) (fun h11 => ?_)
                        · skip
                          refine way_leaf coloursOf_n124 ?_
                          exact ⟨rfl, rfl⟩
                        · skip
                          refine way_leaf coloursOf_n125 ?_
                          exact coloursOf_l61 _ _ _ _ _ _ _ _ _ b0 b1 b2 b3 b4 b5 b6 b7 b8 h0 h1 h2 h3 h4 h5 h6 h7 h8 h9 h10 h11
                    · skip
                      refine way_leaf coloursOf_n126 ?_
                      exact coloursOf_l62 _ _ _ _ _ _ _ _ _ b0 b1 b2 b3 b4 b5 b6 b7 b8 h0 h1 h2 h3 h4 h5 h6 h7 h8 h9
          · skip
            refine way_need coloursOf_n127 (fun h5 => ?_) (fun h5 => ?_)
            · skip
              refine way_leaf coloursOf_n128 ?_
              exact coloursOf_l63 _ _ _ _ _ _ _ _ _ b0 b1 b2 b3 b4 b5 b6 b7 b8 h0 h1 h2 h3 h4 h5
            · skip
              refine way_need coloursOf_n129 (fun h6 => ?_) (fun h6 => ?_)
              · skip
                refine way_leaf coloursOf_n130 ?_
                exact coloursOf_l64 _ _ _ _ _ _ _ _ _ b0 b1 b2 b3 b4 b5 b6 b7 b8 h0 h1 h2 h3 h4 h5 h6
              · skip
                refine way_need coloursOf_n131 (fun h7 => ?_) (fun h7 => ?_)
                · skip
                  refine way_leaf coloursOf_n132 ?_
                  exact coloursOf_l65 _ _ _ _ _ _ _ _ _ b0 b1 b2 b3 b4 b5 b6 b7 b8 h0 h1 h2 h3 h4 h5 h6 h7
                · skip
                  refine way_need coloursOf_n133 (fun h8 => ?_) (fun h8 => ?_)
                  · skip
                    refine way_leaf coloursOf_n134 ?_
                    exact coloursOf_l66 _ _ _ _ _ _ _ _ _ b0 b1 b2 b3 b4 b5 b6 b7 b8 h0 h1 h2 h3 h4 h5 h6 h7 h8
                  · skip
                    refine way_need coloursOf_n135 (fun h9 => ?_) (fun h9 => ?_)
                    · skip
                      refine way_need coloursOf_n136 (fun h10 => ?_) (fun h10 => ?_)
                      · skip
                        refine way_need coloursOf_n137 (fun h11 => ?_) (fun h11 => ?_)
                        · skip
                          refine way_leaf coloursOf_n138 ?_
                          exact ⟨rfl, rfl⟩
                        · skip
                          refine way_leaf coloursOf_n139 ?_
                          exact coloursOf_l68 _ _ _ _ _ _ _ _ _ b0 b1 b2 b3 b4 b5 b6 b7 b8 h0 h1 h2 h3 h4 h5 h6 h7 h8 h9 h10 h11
                      · skip
                        refine way_need coloursOf_n140 (fun h11 => ?_) (fun h11 => ?_)
                        · skip
                          refine way_leaf coloursOf_n141 ?_
                          exact ⟨rfl, rfl⟩
                        · skip
                          refine way_leaf coloursOf_n142 ?_
                          exact coloursOf_l70 _ _ _ _ _ _ _ _ _ b0 b1 b2 b3 b4 b5 b6 b7 b8 h0 h1 h2 h3 h4 h5 h6 h7 h8 h9 h10 h11
                    · skip
                      refine way_leaf coloursOf_n143 ?_
                      exact coloursOf_l71 _ _ _ _ _ _ _ _ _ b0 b1 b2 b3 b4 b5 b6 b7 b8 h0 h1 h2 h3 h4 h5 h6 h7 h8 h9
    · skip
      refine way_need coloursOf_n144 (fun h2 => ?_) (fun h2 => ?_)
      · skip
        refine way_need coloursOf_n145 (fun h3 => ?_) (fun h3 => ?_)
        · skip
          refine way_need coloursOf_n146 (fun h4 => ?_) (fun h4 => ?_)
          · skip
            refine way_leaf coloursOf_n147 ?_
            exact coloursOf_l72 _ _ _ _ _ _ _ _ _ b0 b1 b2 b3 b4 b5 b6 b7 b8 h0 h1 h2 h3 h4
          · skip
            refine way_need coloursOf_n148 (fun h5 => ?_) (fun h5 => ?_)
            · skip
              refine way_leaf coloursOf_n149 ?_
              exact coloursOf_l73 _ _ _ _ _ _ _ _ _ b0 b1 b2 b3 b4 b5 b6 b7 b8 h0 h1 h2 h3 h4 h5
            · skip
              refine way_need coloursOf_n150 (fun h6 => ?_) (fun h6 => ?_)
              · skip
                refine way_leaf coloursOf_n151 ?_
                exact coloursOf_l74 _ _ _ _ _ _ _ _ _ b0 b1 b2 b3 b4 b5 b6 b7 b8 h0 h1 h2 h3 h4 h5 h6
              · skip
                refine way_need coloursOf_n152 (fun h7 => ?_) (fun h7 => ?_)
                · skip
                  refine way_leaf coloursOf_n153 ?_
                  exact coloursOf_l75 _ _ _ _ _ _ _ _ _ b0 b1 b2 b3 b4 b5 b6 b7 b8 h0 h1 h2 h3 h4 h5 h6 h7
                · skip
                  refine way_need coloursOf_n154 (fun h8 => ?_) (fun h8 => ?_)
                  · skip
                    refine way_need coloursOf_n155 (fun h9 => ?_) (fun h9 => ?_)
                    · skip
                      refine way_need coloursOf_n156 (fun h10 => ?_) (fun h10 => ?_)
                      · skip
                        refine way_leaf coloursOf_n157 ?_
                        exact ⟨rfl, rfl⟩
                      · skip
                        refine way_leaf coloursOf_n158 ?_
                        exact coloursOf_l77 _ _ _ _ _ _ _ _ _ b0 b1 b2 b3 b4 b5 b6 b7 b8 h0 h1 h2 h3 h4 h5 h6 h7 h8 h9 h10
                    · skip
                      refine way_need coloursOf_n159 (fun h10 => ?_) (fun h10 => ?_)
                      · skip
                        refine way_leaf coloursOf_n160 ?_
                        exact ⟨rfl, rfl⟩
                      · skip
                        refine way_leaf coloursOf_n161 ?_
                        exact coloursOf_l79 _ _ _ _ _ _ _ _ _ b0 b1 b2 b3 b4 b5 b6 b7 b8 h0 h1 h2 h3 h4 h5 h6 h7 h8 h9 h10
                  · skip
                    refine way_leaf coloursOf_n162 ?_
                    exact coloursOf_l80 _ _ _ _ _ _ _ _ _ b0 b1 b2 b3 b4 b5 b6 b7 b8 h0 h1 h2 h3 h4 h5 h6 h7 h8
        · skip
          refine way_need coloursOf_n163 (fun h4 => ?_) (fun h4 => ?_)
          · skip
            refine way_need coloursOf_n164 (fun h5 => ?_) (fun h5 => ?_)
            · skip
              refine way_leaf coloursOf_n165 ?_
              exact coloursOf_l81 _ _ _ _ _ _ _ _ _ b0 b1 b2 b3 b4 b5 b6 b7 b8 h0 h1 h2 h3 h4 h5
            · skip
              refine way_need coloursOf_n166 (fun h6 => ?_) (fun h6 => ?_)
              · skip
                refine way_leaf coloursOf_n167 ?_
                exact coloursOf_l82 _ _ _ _ _ _ _ _ _ b0 b1 b2 b3 b4 b5 b6 b7 b8 h0 h1 h2 h3 h4 h5 h6
              · skip
                refine way_need coloursOf_n168 (fun h7 => ?_) (fun h7 => ?_)
                · skip
                  refine way_leaf coloursOf_n169 ?_
                  exact coloursOf_l83 _ _ _ _ _ _ _ _ _ b0 b1 b2 b3 b4 b5 b6 b7 b8 h0 h1 h2 h3 h4 h5 h6 h7
                · skip
                  refine way_need coloursOf_n170 (fun h8 => ?_) (fun h8 => ?_)
                  · skip
                    refine way_leaf coloursOf_n171 ?_
                    exact coloursOf_l84 _ _ _ _ _ _ _ _ _ b0 b1 b2 b3 b4 b5 b6 b7 b8 h0 h1 h2 h3 h4 h5 h6 h7 h8
                  · skip
                    refine way_need coloursOf_n172 (fun h9 => ?_) (fun h9 => ?_)
                    · skip
                      refine way_need coloursOf_n173 (fun h10 => ?_) (fun h10 => ?_)
                      · skip
                        refine way_need coloursOf_n174 (fun h11 => ?_) (fun h11 => ?_)
                        · skip
                          refine way_leaf coloursOf_n175 ?_
                          exact ⟨rfl, rfl⟩
                        · skip
                          refine way_leaf coloursOf_n176 ?_
                          exact coloursOf_l86 _ _ _ _ _ _ _ _ _ b0 b1 b2 b3 b4 b5 b6 b7 b8 h0 h1 h2 h3 h4 h5 h6 h7 h8 h9 h10 h11
                      · skip
                        refine way_need coloursOf_n177 (fun h11 => ?_) (fun h11 => ?_)
                        · skip
                          refine way_leaf coloursOf_n178 ?_
                          exact ⟨rfl, rfl⟩
                        · skip
                          refine way_leaf coloursOf_n179 ?_
                          exact coloursOf_l88 _ _ _ _ _ _ _ _ _ b0 b1 b2 b3 b4 b5 b6 b7 b8 h0 h1 h2 h3 h4 h5 h6 h7 h8 h9 h10 h11
                    · skip
                      refine way_leaf coloursOf_n180 ?_
                      exact coloursOf_l89 _ _ _ _ _ _ _ _ _ b0 b1 b2 b3 b4 b5 b6 b7 b8 h0 h1 h2 h3 h4 h5 h6 h7 h8 h9
          · skip
            refine way_need coloursOf_n181 (fun h5 => ?_) (fun h5 => ?_)
            · skip
              refine way_need coloursOf_n182 (fun h6 => ?_) (fun h6 => ?_)
              · skip
                refine way_leaf coloursOf_n183 ?_
                exact coloursOf_l90 _ _ _ _ _ _ _ _ _ b0 b1 b2 b3 b4 b5 b6 b7 b8 h0 h1 h2 h3 h4 h5 h6
              · skip
                refine way_need coloursOf_n184 (fun h7 => ?_) (fun h7 => ?_)
                · skip
                  refine way_leaf coloursOf_n185 ?_
                  exact coloursOf_l91 _ _ _ _ _ _ _ _ _ b0 b1 b2 b3 b4 b5 b6 b7 b8 h0 h1 h2 h3 h4 h5 h6 h7
                · skip
                  refine way_need coloursOf_n186 (fun h8 => ?_) (fun h8 => ?_)
                  · skip
                    refine way_leaf coloursOf_n187 ?_
                    exact coloursOf_l92 _ _ _ _ _ _ _ _ _ b0 b1 b2 b3 b4 b5 b6 b7 b8 h0 h1 h2 h3 h4 h5 h6 h7 h8
                  · skip
                    refine way_need coloursOf_n188 (fun h9 => ?_) (fun h9 => ?_)
                    · skip
                      refine way_leaf coloursOf_n189 ?_
                      exact coloursOf_l93 _ _ _ _ _ _ _ _ _ b0 b1 b2 b3 b4 b5 b6 b7 b8 h0 h1 h2 h3 h4 h5 h6 h7 h8 h9
                    · skip
                      refine way_need coloursOf_n190 (fun h10 => ?_) (fun h10 => ?_)
                      · skip
                        refine way_need coloursOf_n191 (fun h11 => ?_) (fun h11 => ?_)
                        · skip
                          refine way_need coloursOf_n192 (fun h12 => ?_) (fun h12 => ?_)
                          · skip
                            refine way_leaf coloursOf_n193 ?_
                            exact ⟨rfl, rfl⟩
                          · skip
                            refine way_leaf coloursOf_n194 ?_
                            exact coloursOf_l95 _ _ _ _ _ _ _ _ _ b0 b1 b2 b3 b4 b5 b6 b7 b8 h0 h1 h2 h3 h4 h5 h6 h7 h8 h9 h10 h11 h12
                        · skip
                          refine way_need coloursOf_n195 (fun h12 => ?_) (fun h12 => ?_)
                          · skip
                            refine way_leaf coloursOf_n196 ?_
                            exact ⟨rfl, rfl⟩
                          · skip
                            refine way_leaf coloursOf_n197 ?_
                            exact coloursOf_l97 _ _ _ _ _ _ _ _ _ b0 b1 b2 b3 b4 b5 b6 b7 b8 h0 h1 h2 h3 h4 h5 h6 h7 h8 h9 h10 h11 h12
                      · skip
                        refine way_leaf coloursOf_n198 ?_
                        exact coloursOf_l98 _ _ _ _ _ _ _ _ _ b0 b1 b2 b3 b4 b5 b6 b7 b8 h0 h1 h2 h3 h4 h5 h6 h7 h8 h9 h10
            · skip
              refine way_need coloursOf_n199 (fun h6 => ?_) (fun h6 => ?_)
              · skip
                refine way_leaf coloursOf_n200 ?_
                exact coloursOf_l99 _ _ _ _ _ _ _ _ _ b0 b1 b2 b3 b4 b5 b6 b7 b8 h0 h1 h2 h3 h4 h5 h6
              · skip
                refine way_need coloursOf_n201 (fun h7 => ?_) (fun h7 => ?_)
                · skip
                  refine way_leaf coloursOf_n202 ?_
                  exact coloursOf_l100 _ _ _ _ _ _ _ _ _ b0 b1 b2 b3 b4 b5 b6 b7 b8 h0 h1 h2 h3 h4 h5 h6 h7
                · skip
                  refine way_need coloursOf_n203 (fun h8 => ?_) (fun h8 => ?_)
                  · skip
                    refine way_leaf coloursOf_n204 ?_
                    exact coloursOf_l101 _ _ _ _ _ _ _ _ _ b0 b1 b2 b3 b4 b5 b6 b7 b8 h0 h1 h2 h3 h4 h5 h6 h7 h8
                  · skip
                    refine way_need coloursOf_n205 (fun h9 => ?_) (fun h9 => ?_)
                    · skip
                      refine way_leaf coloursOf_n206 ?_
                      exact coloursOf_l102 _ _ _ _ _ _ _ _ _ b0 b1 b2 b3 b4 b5 b6 b7 b8 h0 h1 h2 h3 h4 h5 h6 h7 h8 h9
                    · skip
                      refine way_need coloursOf_n207 (fun h10 => ?_) (fun h10 => ?_)
                      · skip
                        refine way_need coloursOf_n208 (fun h11 => ?_) (fun h11 => ?_)
                        · skip
                          refine way_need coloursOf_n209 (fun h12 => ?_) (fun h12 => ?_)
                          · skip
                            refine way_leaf coloursOf_n210 ?_
                            exact ⟨rfl, rfl⟩
                          · skip
                            refine way_leaf coloursOf_n211 ?_
                            exact coloursOf_l104 _ _ _ _ _ _ _ _ _ b0 b1 b2 b3 b4 b5 b6 b7 b8 h0 h1 h2 h3 h4 h5 h6 h7 h8 h9 h10 h11 h12
                        · skip
                          refine way_need coloursOf_n212 (fun h12 => ?_) (fun h12 => ?_)
                          · skip
                            refine way_leaf coloursOf_n213 ?_
                            exact ⟨rfl, rfl⟩
                          · skip
                            refine way_leaf coloursOf_n214 ?_
                            exact coloursOf_l106 _ _ _ _ _ _ _ _ _ b0 b1 b2 b3 b4 b5 b6 b7 b8 h0 h1 h2 h3 h4 h5 h6 h7 h8 h9 h10 h11 h12
                      · skip
                        refine way_leaf coloursOf_n215 ?_
                        exact coloursOf_l107 _ _ _ _ _ _ _ _ _ b0 b1 b2 b3 b4 b5 b6 b7 b8 h0 h1 h2 h3 h4 h5 h6 h7 h8 h9 h10
      · skip
        refine way_need coloursOf_n216 (fun h3 => ?_) (fun h3 => ?_)
        · skip
          refine way_leaf coloursOf_n217 ?_
          exact coloursOf_l108 _ _ _ _ _ _ _ _ _ b0 b1 b2 b3 b4 b5 b6 b7 b8 h0 h1 h2 h3
        · skip
          refine way_need coloursOf_n218 (fun h4 => ?_) (fun h4 => ?_)
          · skip
            refine way_leaf coloursOf_n219 ?_
            exact coloursOf_l109 _ _ _ _ _ _ _ _ _ b0 b1 b2 b3 b4 b5 b6 b7 b8 h0 h1 h2 h3 h4
          · skip
            refine way_need coloursOf_n220 (fun h5 => ?_) (fun h5 => ?_)
            · skip
              refine way_leaf coloursOf_n221 ?_
              exact coloursOf_l110 _ _ _ _ _ _ _ _ _ b0 b1 b2 b3 b4 b5 b6 b7 b8 h0 h1 h2 h3 h4 h5
            · skip
              refine way_need coloursOf_n222 (fun h6 => ?_) (fun h6 => ?_)
              · skip
                refine way_leaf coloursOf_n223 ?_
                exact coloursOf_l111 _ _ _ _ _ _ _ _ _ b0 b1 b2 b3 b4 b5 b6 b7 b8 h0 h1 h2 h3 h4 h5 h6
              · skip
                refine way_need coloursOf_n224 (fun h7 => ?_) (fun h7 => ?_)
                · skip
                  refine way_need coloursOf_n225 (fun h8 => ?_) (fun h8 => ?_)
                  · skip
                    refine way_need coloursOf_n226 (fun h9 => ?_) (fun h9 => ?_)
                    · skip
                      refine way_leaf coloursOf_n227 ?_
                      exact ⟨rfl, rfl⟩
                    · skip
                      refine way_leaf coloursOf_n228 ?_
                      exact coloursOf_l113 _ _ _ _ _ _ _ _ _ b0 b1 b2 b3 b4 b5 b6 b7 b8 h0 h1 h2 h3 h4 h5 h6 h7 h8 h9
                  · skip
                    refine way_need coloursOf_n229 (fun h9 => ?_) (fun h9 => ?_)
                    · skip
                      refine way_leaf coloursOf_n230 ?_
                      exact ⟨rfl, rfl⟩
                    · skip
                      refine way_leaf coloursOf_n231 ?_
                      exact coloursOf_l115 _ _ _ _ _ _ _ _ _ b0 b1 b2 b3 b4 b5 b6 b7 b8 h0 h1 h2 h3 h4 h5 h6 h7 h8 h9
                · skip
                  refine way_leaf coloursOf_n232 ?_
                  exact coloursOf_l116 _ _ _ _ _ _ _ _ _ b0 b1 b2 b3 b4 b5 b6 b7 b8 h0 h1 h2 h3 h4 h5 h6 h7
end Go.Proofs.Ytldoimianllcdaa
