/- What is proved: the statement RingsLine,for every input,with no condition. -/
import Derived.Test.YtkpdiehbaiepaaaQa16
import Derived.Test.YtkpdiehbaiepaaaQg5
import Derived.Test.YtkpdiehbaiepaaaRows
import Derived.Test.YtkpdiehbaiepaaaChecked
set_option linter.unusedSimpArgs false
set_option linter.unusedVariables false
namespace Go.Proofs.Ytkpdiehbaiepaaa
open Go.ChangeShapes Go.WideShapes Go.ChangeAt Go.RowKit
theorem aA1:ownKnob Try.prog.godebug=none:=by kernel_rfl
theorem qO:laidOutB Try.prog=true:=by kernel_rfl
set_option maxRecDepth 100000 in
theorem sK (os:Os) (started:os.Started) (H:Type) (enc:TypeId × Value→H):
  ReturnsInHanded {} Try.checked os 3 .any (Rows.ringsLineSpec.pre6 enc Try.prog Try.f3 Rows.ringsLineRow.domain false) (Rows.ringsLineSpec.post enc Try.prog Try.f3 false true false false):=by
 refine aIF (C:=Try.checked) (B:=4) aA1 started (by kernel_rfl) Try.func3 qO ?_ rfl Try.underlying4 rfl ?_
  (ChangeSpec.witness6 (enc:=enc) (C:=Try.checked) false ⟨#[],#[(.agg #[.int .i64 0,.int .i64 0,.int .i64 0,.int .i64 0,.int .i64 0,.int .i64 0,.int .i64 0,.int .i64 0,.int .i64 0,.int .i64 0,.int .i64 0,.int .i64 0,.int .i64 0,.int .i64 0,.int .i64 0,.int .i64 0,.int .i64 0,.int .i64 0,.int .i64 0,.int .i64 0,.int .i64 0,.int .i64 0,.int .i64 0,.int .i64 0,.int .i64 0,.int .i64 0,.int .i64 0,.int .i64 0,.int .i64 0,.int .i64 0,.int .i64 0,.int .i64 0]),.int .i64 0],[]⟩ 8 (by kernel_rfl) (by kernel_rfl) (by kernel_rfl) (by kernel_rfl)) ?_
 ·intro t ht
  have hall:(Try.f3.params.toList.all fun t=>Try.prog.readableRec t && decide (t<Try.prog.types.size))=true:=by kernel_rfl
  have hq:=List.all_eq_true.1 hall t ht
  rw[Bool.and_eq_true,decide_eq_true_eq]at hq
  exact hq
 ·intro ds hd
  obtain⟨d0,d1,rfl⟩:=bDN (show ds.length=2 from hd)
  rfl
 ·intro W base args ds p hsz hval hA
  replace hval:∀ (j:Nat) t v,Try.f3.params[j]?=some t→args[j]?=some v→Value.okWide Try.prog W .any base t v:=hval
  obtain⟨v0,v1,rfl⟩:=bDz (show args.size=2 from hsz)
  rw[Try.params3]at hval
  obtain⟨f0,rfl,f0b⟩:=aN3 (k := .i64) (n:=32) (by kernel_rfl) (by kernel_rfl) (by kernel_rfl) (hval 0 25 v0 rfl rfl)
  obtain⟨n1,rfl,n1b⟩:=aSR (k := .i64) (by kernel_rfl) (hval 1 3 v1 rfl rfl)
  exact aA2 (f0 0) (f0 1) (f0 2) (f0 3) (f0 4) (f0 5) (f0 6) (f0 7) (f0 8) (f0 9) (f0 10) (f0 11) (f0 12) (f0 13) (f0 14) (f0 15) (f0 16) (f0 17) (f0 18) (f0 19) (f0 20) (f0 21) (f0 22) (f0 23) (f0 24) (f0 25) (f0 26) (f0 27) (f0 28) (f0 29) (f0 30) (f0 31) n1 (show (-9223372036854775808)≤f0 0∧f0 0≤9223372036854775807 from f0b 0 (by decide)) (show (-9223372036854775808)≤f0 1∧f0 1≤9223372036854775807 from f0b 1 (by decide)) (show (-9223372036854775808)≤f0 2∧f0 2≤9223372036854775807 from f0b 2 (by decide)) (show (-9223372036854775808)≤f0 3∧f0 3≤9223372036854775807 from f0b 3 (by decide)) (show (-9223372036854775808)≤f0 4∧f0 4≤9223372036854775807 from f0b 4 (by decide)) (show (-9223372036854775808)≤f0 5∧f0 5≤9223372036854775807 from f0b 5 (by decide)) (show (-9223372036854775808)≤f0 6∧f0 6≤9223372036854775807 from f0b 6 (by decide)) (show (-9223372036854775808)≤f0 7∧f0 7≤9223372036854775807 from f0b 7 (by decide)) (show (-9223372036854775808)≤f0 8∧f0 8≤9223372036854775807 from f0b 8 (by decide)) (show (-9223372036854775808)≤f0 9∧f0 9≤9223372036854775807 from f0b 9 (by decide)) (show (-9223372036854775808)≤f0 10∧f0 10≤9223372036854775807 from f0b 10 (by decide)) (show (-9223372036854775808)≤f0 11∧f0 11≤9223372036854775807 from f0b 11 (by decide)) (show (-9223372036854775808)≤f0 12∧f0 12≤9223372036854775807 from f0b 12 (by decide)) (show (-9223372036854775808)≤f0 13∧f0 13≤9223372036854775807 from f0b 13 (by decide)) (show (-9223372036854775808)≤f0 14∧f0 14≤9223372036854775807 from f0b 14 (by decide)) (show (-9223372036854775808)≤f0 15∧f0 15≤9223372036854775807 from f0b 15 (by decide)) (show (-9223372036854775808)≤f0 16∧f0 16≤9223372036854775807 from f0b 16 (by decide)) (show (-9223372036854775808)≤f0 17∧f0 17≤9223372036854775807 from f0b 17 (by decide)) (show (-9223372036854775808)≤f0 18∧f0 18≤9223372036854775807 from f0b 18 (by decide)) (show (-9223372036854775808)≤f0 19∧f0 19≤9223372036854775807 from f0b 19 (by decide)) (show (-9223372036854775808)≤f0 20∧f0 20≤9223372036854775807 from f0b 20 (by decide)) (show (-9223372036854775808)≤f0 21∧f0 21≤9223372036854775807 from f0b 21 (by decide)) (show (-9223372036854775808)≤f0 22∧f0 22≤9223372036854775807 from f0b 22 (by decide)) (show (-9223372036854775808)≤f0 23∧f0 23≤9223372036854775807 from f0b 23 (by decide)) (show (-9223372036854775808)≤f0 24∧f0 24≤9223372036854775807 from f0b 24 (by decide)) (show (-9223372036854775808)≤f0 25∧f0 25≤9223372036854775807 from f0b 25 (by decide)) (show (-9223372036854775808)≤f0 26∧f0 26≤9223372036854775807 from f0b 26 (by decide)) (show (-9223372036854775808)≤f0 27∧f0 27≤9223372036854775807 from f0b 27 (by decide)) (show (-9223372036854775808)≤f0 28∧f0 28≤9223372036854775807 from f0b 28 (by decide)) (show (-9223372036854775808)≤f0 29∧f0 29≤9223372036854775807 from f0b 29 (by decide)) (show (-9223372036854775808)≤f0 30∧f0 30≤9223372036854775807 from f0b 30 (by decide)) (show (-9223372036854775808)≤f0 31∧f0 31≤9223372036854775807 from f0b 31 (by decide)) (show (-9223372036854775808)≤n1∧n1≤9223372036854775807 from n1b) W (Sx.aXk W)
theorem ringsLine_holds:Rows.RingsLineSaid:=
 OpenClaim.holds_of_wide 3 Try.f3 rfl rfl rfl rfl rfl rfl rfl ⟨rfl,rfl,rfl,rfl,rfl⟩ rfl rfl rfl rfl rfl (by kernel_rfl) Try.func3 (by kernel_rfl)
  (of_decide_eq_true (by kernel_rfl)) (by unfold Func.isWrapper;first|(rw[if_pos (by decide +kernel)];kernel_rfl)|(rw[if_neg (by decide +kernel)];exact⟨rfl,rfl⟩))
  (fun os started H enc _=>sK os started H enc)
#print axioms ringsLine_holds
end Go.Proofs.Ytkpdiehbaiepaaa
