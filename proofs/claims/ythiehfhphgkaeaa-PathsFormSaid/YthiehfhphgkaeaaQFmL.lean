/- What is proved: the statement PathsForm,for every input,with no condition. -/
import Derived.Test.YthiehfhphgkaeaaQa7
import Derived.Test.YthiehfhphgkaeaaRows
import Derived.Test.YthiehfhphgkaeaaChecked
set_option linter.unusedSimpArgs false
set_option linter.unusedVariables false
set_option maxRecDepth 100000
namespace Go.Proofs.Ythiehfhphgkaeaa
open Go.ChangeShapes Go.WideShapes Go.ChangeAt Go.RowKit Sx Wi
def sgs:List CK:=[.int .u8,.int .i32,.int .i32,.int .i32,.int .i32,.int .i32,.int .i32]
theorem vV:ownKnob Try.prog.godebug=none:=by kernel_rfl
theorem oW:laidOutB Try.prog=true:=by kernel_rfl
set_option maxRecDepth 100000 in
theorem qC (os:Os) (started:os.Started) (H:Type) (enc:TypeId × Value→H):
  ReturnsInHanded {} Try.checked os 8 .any (Rows.pathsFormSpec.pre6 enc Try.prog Try.f8 Rows.pathsFormRow.domain false) (Rows.pathsFormSpec.post enc Try.prog Try.f8 false true false false):=by
 refine aCg (C:=Try.checked) (B:=4) vV started (by kernel_rfl) Try.func8 oW ?_ rfl Try.underlying4 rfl ?_
  (ChangeSpec.witness6 (enc:=enc) (C:=Try.checked) false ⟨#[],#[.slice none 0 0],[]⟩ 8 (by kernel_rfl) (by kernel_rfl) (by kernel_rfl) (by kernel_rfl)) ?_
 ·intro t ht
  have hall:(Try.f8.params.toList.all fun t=>Try.prog.readableRec t && decide (t<Try.prog.types.size))=true:=by kernel_rfl
  have hq:=List.all_eq_true.1 hall t ht
  rw[Bool.and_eq_true,decide_eq_true_eq]at hq
  exact hq
 ·intro ds hd
  obtain⟨d0,rfl⟩:=aKm (show ds.length=1 from hd)
  rfl
 ·intro W base args ds p hsz hval hA
  replace hval:∀ (j:Nat) t v,Try.f8.params[j]?=some t→args[j]?=some v→Value.okWide Try.prog W .any base t v:=hval
  obtain⟨v0,rfl⟩:=aLG (show args.size=1 from hsz)
  rw[Try.params8]at hval
  obtain⟨d0,rfl⟩:=aKm (show ds.length=1 from(lU _ _ _ _ hA).2)
  obtain⟨p0,q0,hT,_,_⟩:∃ p0 q0,DataW.Trod enc Try.prog W 0 (fun _=>true) true 28 v0 d0 p0∧_∧_:=hA
  obtain⟨b,L,hv,hnil,hle,hmax,hblk,hrows,hview⟩:=aFE (e:=38) sgs (by kernel_rfl) (show lD Try.prog 8 38=some sgs by kernel_rfl) (by kernel_rfl) (by decide) (hval 0 28 v0 rfl rfl) hT
  have hm:=aKQ (L.length:Int) (Lc.enc L) ⟨by omega,by omega⟩ (by rw[Lc.dec_enc])
  refine aJI (α:=fun id=>(([(b,[.vec sgs (.var 1) (.var 0) true])]:List (Sx.Loc × List SV))[id]?).map (·.1)) (vals:=[_]) hm (aFw [(b,[.vec sgs (.var 1) (.var 0) true])] ?_) (yX [[.vec sgs (.var 1) (.var 0) true]]) (aX (aGk (b:=b) rfl rfl hv hnil hle) bB) rfl rfl
  intro q hq
  simp only[List.mem_cons,List.mem_nil_iff,or_false]at hq
  subst hq
  exact⟨hblk,_,hview,aI1 rfl rfl⟩
theorem pathsForm_holds:Rows.PathsFormSaid:=
 OpenClaim.holds_of_wide 8 Try.f8 rfl rfl rfl rfl rfl rfl rfl ⟨rfl,rfl,rfl,rfl,rfl⟩ rfl rfl rfl rfl rfl (by kernel_rfl) Try.func8 (by kernel_rfl)
  (of_decide_eq_true (by kernel_rfl)) (by unfold Func.isWrapper;first|(rw[if_pos (by decide +kernel)];kernel_rfl)|(rw[if_neg (by decide +kernel)];exact⟨rfl,rfl⟩))
  (fun os started H enc _=>qC os started H enc)
#print axioms pathsForm_holds
end Go.Proofs.Ythiehfhphgkaeaa
