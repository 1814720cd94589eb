/- What is proved: the statement PathsMoved,for every input,with no condition. -/
import Derived.Test.YthiehfhphgkaeaaQa8
import Derived.Test.YthiehfhphgkaeaaRows
import Derived.Test.YthiehfhphgkaeaaChecked
set_option linter.unusedSimpArgs false
set_option linter.unusedVariables false
set_option maxRecDepth 100000
namespace Go.Proofs.Ythiehfhphgkaeaa
open Go.ChangeShapes Go.WideShapes Go.ChangeAt Go.RowKit Sx Wi
def sgs:List CK:=[.int .u8,.int .i32,.int .i32,.int .i32,.int .i32,.int .i32,.int .i32]
theorem wU:ownKnob Try.prog.godebug=none:=by kernel_rfl
theorem pN:laidOutB Try.prog=true:=by kernel_rfl
set_option maxRecDepth 100000 in
theorem qA (os:Os) (started:os.Started) (H:Type) (enc:TypeId × Value→H):
  ReturnsInHanded {} Try.checked os 5 .any (Rows.pathsMovedSpec.pre6 enc Try.prog Try.f5 Rows.pathsMovedRow.domain false) (Rows.pathsMovedSpec.post enc Try.prog Try.f5 false true false false):=by
 refine aDp (C:=Try.checked) (B:=4) wU started (by kernel_rfl) Try.func5 pN ?_ rfl Try.underlying4 rfl ?_
  (ChangeSpec.witness6 (enc:=enc) (C:=Try.checked) false ⟨#[],#[.slice none 0 0,.int .i16 0,.int .i16 0],[]⟩ 8 (by kernel_rfl) (by kernel_rfl) (by kernel_rfl) (by kernel_rfl)) ?_
 ·intro t ht
  have hall:(Try.f5.params.toList.all fun t=>Try.prog.readableRec t && decide (t<Try.prog.types.size))=true:=by kernel_rfl
  have hq:=List.all_eq_true.1 hall t ht
  rw[Bool.and_eq_true,decide_eq_true_eq]at hq
  exact hq
 ·intro ds hd
  obtain⟨d0,d1,d2,rfl⟩:=aMv (show ds.length=3 from hd)
  rfl
 ·intro W base args ds p hsz hval hA
  replace hval:∀ (j:Nat) t v,Try.f5.params[j]?=some t→args[j]?=some v→Value.okWide Try.prog W .any base t v:=hval
  obtain⟨v0,v1,v2,rfl⟩:=aOp (show args.size=3 from hsz)
  rw[Try.params5]at hval
  obtain⟨d0,d1,d2,rfl⟩:=aMv (show ds.length=3 from(mS _ _ _ _ hA).2)
  obtain⟨p0,q0,hT0,_,_⟩:∃ p0 q0,DataW.Trod enc Try.prog W 0 (fun _=>true) true 28 v0 d0 p0∧_∧_:=hA
  obtain⟨c0,L0,hv0,hnil0,hle0,hmax0,hblk0,hrows0,hview0,hsub0⟩:=aFP (e:=38) sgs (by kernel_rfl) (show mD Try.prog 8 38=some sgs by kernel_rfl) (by kernel_rfl) (by decide) (hval 0 28 v0 rfl rfl) hT0
  obtain⟨n1,rfl,n1b⟩:=aBB (k := .i16) (by kernel_rfl) (hval 1 39 v1 rfl rfl)
  obtain⟨n2,rfl,n2b⟩:=aBB (k := .i16) (by kernel_rfl) (hval 2 39 v2 rfl rfl)
  have hm:=aMH (L0.length:Int) n1 n2 (Lc.enc L0) ⟨by omega,by omega⟩ (show -32768≤n1∧n1≤32767 from n1b) (show -32768≤n2∧n2≤32767 from n2b) (by rw[Lc.dec_enc])
  refine aLj (α:=fun id=>(([(c0,[.vec sgs (.var 3) (.var 0) true])]:List (Sx.Loc × List SV))[id]?).map (·.1)) (vals:=[_,.int .i16 n1,.int .i16 n2]) hm (aGh [(c0,[.vec sgs (.var 3) (.var 0) true])] ?_) (aAV [[.vec sgs (.var 3) (.var 0) true]]) (aV (aJ9 (b:=c0) rfl rfl hv0 hnil0 hle0) (aV (by simp only[SV.R];rfl) (aV (by simp only[SV.R];rfl) aZ))) rfl rfl
  intro q hq
  simp only[List.mem_cons,List.mem_nil_iff,or_false]at hq
  subst hq
  exact⟨hblk0,hsub0,_,hview0,aLT rfl rfl⟩
theorem pathsMoved_holds:Rows.PathsMovedSaid:=
 OpenClaim.holds_of_wide 5 Try.f5 rfl rfl rfl rfl rfl rfl rfl ⟨rfl,rfl,rfl,rfl,rfl⟩ rfl rfl rfl rfl rfl (by kernel_rfl) Try.func5 (by kernel_rfl)
  (of_decide_eq_true (by kernel_rfl)) (by unfold Func.isWrapper;first|(rw[if_pos (by decide +kernel)];kernel_rfl)|(rw[if_neg (by decide +kernel)];exact⟨rfl,rfl⟩))
  (fun os started H enc _=>qA os started H enc)
#print axioms pathsMoved_holds
end Go.Proofs.Ythiehfhphgkaeaa
