/- What is proved: the statement PathsJoin,for every input,with no condition. -/
import Derived.Test.YthiehfhphgkaeaaQa7
import Derived.Test.YthiehfhphgkaeaaRows
import Derived.Test.YthiehfhphgkaeaaChecked
set_option linter.unusedSimpArgs false
set_option linter.unusedVariables false
set_option maxRecDepth 100000
namespace Go.Proofs.Ythiehfhphgkaeaa
open Go.ChangeShapes Go.WideShapes Go.ChangeAt Go.RowKit Sx Wi
def sgs:List CK:=[.int .u8,.int .i32,.int .i32,.int .i32,.int .i32,.int .i32,.int .i32]
theorem xF:ownKnob Try.prog.godebug=none:=by kernel_rfl
theorem qB:laidOutB Try.prog=true:=by kernel_rfl
set_option maxRecDepth 100000 in
theorem qZ (os:Os) (started:os.Started) (H:Type) (enc:TypeId × Value→H):
  ReturnsInHanded {} Try.checked os 7 .any (Rows.pathsJoinSpec.pre6 enc Try.prog Try.f7 Rows.pathsJoinRow.domain false) (Rows.pathsJoinSpec.post enc Try.prog Try.f7 false true false false):=by
 refine aC6 (C:=Try.checked) (B:=4) xF started (by kernel_rfl) Try.func7 qB ?_ rfl Try.underlying4 rfl ?_
  (ChangeSpec.witness6 (enc:=enc) (C:=Try.checked) false ⟨#[],#[.slice none 0 0,.slice none 0 0],[]⟩ 8 (by kernel_rfl) (by kernel_rfl) (by kernel_rfl) (by kernel_rfl)) ?_
 ·intro t ht
  have hall:(Try.f7.params.toList.all fun t=>Try.prog.readableRec t && decide (t<Try.prog.types.size))=true:=by kernel_rfl
  have hq:=List.all_eq_true.1 hall t ht
  rw[Bool.and_eq_true,decide_eq_true_eq]at hq
  exact hq
 ·intro ds hd
  obtain⟨d0,d1,rfl⟩:=aLx (show ds.length=2 from hd)
  rfl
 ·intro W base args ds p hsz hval hA
  replace hval:∀ (j:Nat) t v,Try.f7.params[j]?=some t→args[j]?=some v→Value.okWide Try.prog W .any base t v:=hval
  obtain⟨v0,v1,rfl⟩:=aM1 (show args.size=2 from hsz)
  rw[Try.params7]at hval
  obtain⟨d0,d1,rfl⟩:=aLx (show ds.length=2 from(mS _ _ _ _ hA).2)
  obtain⟨p0,q0,hT0,hA1,_⟩:∃ p0 q0,DataW.Trod enc Try.prog W 0 (fun _=>true) true 28 v0 d0 p0∧_∧_:=hA
  obtain⟨p1,q1,hT1,_,_⟩:∃ p1 q1,DataW.Trod enc Try.prog W 0 (fun _=>true) true 28 v1 d1 p1∧_∧_:=hA1
  obtain⟨c0,L0,hv0,hnil0,hle0,hmax0,hblk0,hrows0,hview0,hsub0⟩:=yY (e:=38) sgs (by kernel_rfl) (show jI Try.prog 8 38=some sgs by kernel_rfl) (by kernel_rfl) (by decide) (hval 0 28 v0 rfl rfl) hT0
  obtain⟨c1,L1,hv1,hnil1,hle1,hmax1,hblk1,hrows1,hview1,hsub1⟩:=yY (e:=38) sgs (by kernel_rfl) (show jI Try.prog 8 38=some sgs by kernel_rfl) (by kernel_rfl) (by decide) (hval 1 28 v1 rfl rfl) hT1
  have hm:=aLX (L0.length:Int) (L1.length:Int) (Lc.enc L0) (Lc.enc L1) ⟨by omega,by omega⟩ ⟨by omega,by omega⟩ (by rw[Lc.dec_enc]) (by rw[Lc.dec_enc])
  refine aLh (α:=fun id=>(([(c0,[.vec sgs (.var 2) (.var 0) true]),(c1,[.vec sgs (.var 3) (.var 1) true])]:List (Sx.Loc × List SV))[id]?).map (·.1)) (vals:=[_,_]) hm (aGu [(c0,[.vec sgs (.var 2) (.var 0) true]),(c1,[.vec sgs (.var 3) (.var 1) true])] ?_) (aAv [[.vec sgs (.var 2) (.var 0) true],[.vec sgs (.var 3) (.var 1) true]]) (aV (aBd (b:=c0) rfl rfl hv0 hnil0 hle0) (aV (aBd (b:=c1) rfl rfl hv1 hnil1 hle1) aY)) rfl rfl
  intro q hq
  simp only[List.mem_cons,List.mem_nil_iff,or_false]at hq
  rcases hq with rfl|rfl
  ·exact⟨hblk0,hsub0,_,hview0,aEb rfl rfl⟩
  ·exact⟨hblk1,hsub1,_,hview1,aEb rfl rfl⟩
theorem pathsJoin_holds:Rows.PathsJoinSaid:=
 OpenClaim.holds_of_wide 7 Try.f7 rfl rfl rfl rfl rfl rfl rfl ⟨rfl,rfl,rfl,rfl,rfl⟩ rfl rfl rfl rfl rfl (by kernel_rfl) Try.func7 (by kernel_rfl)
  (of_decide_eq_true (by kernel_rfl)) (by unfold Func.isWrapper;first|(rw[if_pos (by decide +kernel)];kernel_rfl)|(rw[if_neg (by decide +kernel)];exact⟨rfl,rfl⟩))
  (fun os started H enc _=>qZ os started H enc)
#print axioms pathsJoin_holds
end Go.Proofs.Ythiehfhphgkaeaa
