/- What is proved: the statement FillsOrder,for every input,with no condition. -/
import Derived.Test.YtoiecphddchknaaQa13
import Derived.Test.YtoiecphddchknaaRows
import Derived.Test.YtoiecphddchknaaChecked
set_option linter.unusedSimpArgs false
set_option linter.unusedVariables false
set_option maxRecDepth 100000
namespace Go.Proofs.Ytoiecphddchknaa
open Go.ChangeShapes Go.WideShapes Go.ChangeAt Go.RowKit Sx Wi
theorem ir {ρ:Nat→Int} {α:aU} {k:IntKind} {e:E} {v:Int} (h:e.den G ρ=v):SV.R G ρ α (.int k e) (.int k v):=by simp only[SV.R];rw[h]
def fos:List CK:=[.int .i64,.int .i64,.int .i64,.int .i64,.int .i64,.int .i64,.int .i32,.int .i32,.int .i32,.int .i32,.int .i32,.int .i32,.int .i64,.int .u64,.int .i64,.int .i64,.int .u64,.int .i64,.int .i64,.int .u64,.int .i64,.int .i64,.int .u64,.int .i64,.int .i64,.int .u64,.int .i64,.int .i64,.int .u64,.int .i64,.int .i64,.int .u64,.int .i64,.int .i64,.int .u64,.int .i64,.int .i64,.int .u64,.int .i64,.int .i64,.int .u64,.int .i64,.int .i64,.int .u64,.int .i64,.int .i64,.int .u64,.int .i64,.int .i64,.int .u64,.int .i64,.int .i64,.int .u64,.int .i64,.int .i64,.int .u64,.int .i64,.int .i64,.int .u64,.int .i64,.int .i64,.int .i64]
theorem yR:ownKnob Try.prog.godebug=none:=by kernel_rfl
theorem qF:laidOutB Try.prog=true:=by kernel_rfl
set_option maxRecDepth 100000 in
theorem rY (os:Os) (started:os.Started) (H:Type) (enc:TypeId × Value→H):
  ReturnsInHanded {} Try.checked os 7 .any (Rows.fillsOrderSpec.pre6 enc Try.prog Try.f7 Rows.fillsOrderRow.domain false) (Rows.fillsOrderSpec.post enc Try.prog Try.f7 false true false false):=by
 refine aFk (C:=Try.checked) (B:=4) yR started (by kernel_rfl) Try.func7 qF ?_ rfl Try.underlying4 rfl ?_
  (ChangeSpec.witness6 (enc:=enc) (C:=Try.checked) false ⟨#[],#[.slice none 0 0,.agg #[.int .i64 0,.int .u64 0,.int .i64 0,.int .i64 0,.int .u64 0,.int .i64 0,.int .i64 0,.int .u64 0,.int .i64 0,.int .i64 0,.int .u64 0,.int .i64 0,.int .i64 0,.int .u64 0,.int .i64 0,.int .i64 0,.int .u64 0,.int .i64 0,.int .i64 0,.int .u64 0,.int .i64 0,.int .i64 0,.int .u64 0,.int .i64 0,.int .i64 0,.int .u64 0,.int .i64 0,.int .i64 0,.int .u64 0,.int .i64 0,.int .i64 0,.int .u64 0,.int .i64 0,.int .i64 0,.int .u64 0,.int .i64 0,.int .i64 0,.int .u64 0,.int .i64 0,.int .i64 0,.int .u64 0,.int .i64 0,.int .i64 0,.int .u64 0,.int .i64 0,.int .i64 0,.int .u64 0,.int .i64 0],.int .u8 0],[]⟩ 8 (by kernel_rfl) (by kernel_rfl) (by kernel_rfl) (by kernel_rfl)) ?_
 ·intro t ht
  have hall:(Try.f7.params.toList.all fun t=>Try.prog.readableRec t && decide (t<Try.prog.types.size))=true:=by kernel_rfl
  have hq:=List.all_eq_true.1 hall t ht
  rw[Bool.and_eq_true,decide_eq_true_eq]at hq
  exact hq
 ·intro ds hd
  obtain⟨d0,d1,d2,rfl⟩:=aNV (show ds.length=3 from hd)
  rfl
 ·intro W base args ds p hsz hval hA
  replace hval:∀ (j:Nat) t v,Try.f7.params[j]?=some t→args[j]?=some v→Value.okWide Try.prog W .any base t v:=hval
  obtain⟨v0,v1,v2,rfl⟩:=aPO (show args.size=3 from hsz)
  rw[Try.params7]at hval
  obtain⟨d0,d1,d2,rfl⟩:=aNV (show ds.length=3 from(nV _ _ _ _ hA).2)
  obtain⟨p0,q0,hT,_,_⟩:∃ p0 q0,DataW.Trod enc Try.prog W 0 (fun _=>true) true 61 v0 d0 p0∧_∧_:=hA
  obtain⟨b,L,hv,hnil,hle,hmax,hblk,hrows,hview⟩:=aH7 (e:=73) fos (by kernel_rfl) (show mW Try.prog 8 73=some fos by kernel_rfl) (by kernel_rfl) (by decide) (hval 0 61 v0 rfl rfl) hT
  obtain⟨f,rfl,fb⟩:=aDK [.i64,.u64,.i64,.i64,.u64,.i64,.i64,.u64,.i64,.i64,.u64,.i64,.i64,.u64,.i64,.i64,.u64,.i64,.i64,.u64,.i64,.i64,.u64,.i64,.i64,.u64,.i64,.i64,.u64,.i64,.i64,.u64,.i64,.i64,.u64,.i64,.i64,.u64,.i64,.i64,.u64,.i64,.i64,.u64,.i64,.i64,.u64,.i64] (by kernel_rfl) (by kernel_rfl) (by kernel_rfl) (hval 1 71 v1 rfl rfl)
  obtain⟨u,rfl,ub1,ub2⟩:=aJ9 (k := .u8) (by kernel_rfl) (hval 2 5 v2 rfl rfl)
  have hm:=aOX (L.length:Int) (f 0) (f 1) (f 2) (f 3) (f 4) (f 5) (f 6) (f 7) (f 8) (f 9) (f 10) (f 11) (f 12) (f 13) (f 14) (f 15) (f 16) (f 17) (f 18) (f 19) (f 20) (f 21) (f 22) (f 23) (f 24) (f 25) (f 26) (f 27) (f 28) (f 29) (f 30) (f 31) (f 32) (f 33) (f 34) (f 35) (f 36) (f 37) (f 38) (f 39) (f 40) (f 41) (f 42) (f 43) (f 44) (f 45) (f 46) (f 47) u (Lc.enc L) ⟨by omega,by omega⟩ (fb 0 .i64 rfl) (fb 1 .u64 rfl) (fb 2 .i64 rfl) (fb 3 .i64 rfl) (fb 4 .u64 rfl) (fb 5 .i64 rfl) (fb 6 .i64 rfl) (fb 7 .u64 rfl) (fb 8 .i64 rfl) (fb 9 .i64 rfl) (fb 10 .u64 rfl) (fb 11 .i64 rfl) (fb 12 .i64 rfl) (fb 13 .u64 rfl) (fb 14 .i64 rfl) (fb 15 .i64 rfl) (fb 16 .u64 rfl) (fb 17 .i64 rfl) (fb 18 .i64 rfl) (fb 19 .u64 rfl) (fb 20 .i64 rfl) (fb 21 .i64 rfl) (fb 22 .u64 rfl) (fb 23 .i64 rfl) (fb 24 .i64 rfl) (fb 25 .u64 rfl) (fb 26 .i64 rfl) (fb 27 .i64 rfl) (fb 28 .u64 rfl) (fb 29 .i64 rfl) (fb 30 .i64 rfl) (fb 31 .u64 rfl) (fb 32 .i64 rfl) (fb 33 .i64 rfl) (fb 34 .u64 rfl) (fb 35 .i64 rfl) (fb 36 .i64 rfl) (fb 37 .u64 rfl) (fb 38 .i64 rfl) (fb 39 .i64 rfl) (fb 40 .u64 rfl) (fb 41 .i64 rfl) (fb 42 .i64 rfl) (fb 43 .u64 rfl) (fb 44 .i64 rfl) (fb 45 .i64 rfl) (fb 46 .u64 rfl) (fb 47 .i64 rfl) ⟨ub1,ub2⟩
  refine aLX (α:=fun id=>(([(b,[.vec fos (.var 50) (.var 0) true])]:List (Sx.Loc × List SV))[id]?).map (·.1)) (vals:=[_,_,_]) hm (aH2 [(b,[.vec fos (.var 50) (.var 0) true])] ?_) (aBk [[.vec fos (.var 50) (.var 0) true]]) (aR (aJp (b:=b) rfl rfl hv hnil hle) (aR ?_ (aR (ir rfl) bL))) rfl rfl
  ·intro q hq
   simp only[List.mem_cons,List.mem_nil_iff,or_false]at hq
   subst hq
   exact⟨hblk,_,hview,aNb rfl rfl⟩
  ·simp only[SV.R]
   exact⟨[.int .i64 (f 0),.int .u64 (f 1),.int .i64 (f 2),.int .i64 (f 3),.int .u64 (f 4),.int .i64 (f 5),.int .i64 (f 6),.int .u64 (f 7),.int .i64 (f 8),.int .i64 (f 9),.int .u64 (f 10),.int .i64 (f 11),.int .i64 (f 12),.int .u64 (f 13),.int .i64 (f 14),.int .i64 (f 15),.int .u64 (f 16),.int .i64 (f 17),.int .i64 (f 18),.int .u64 (f 19),.int .i64 (f 20),.int .i64 (f 21),.int .u64 (f 22),.int .i64 (f 23),.int .i64 (f 24),.int .u64 (f 25),.int .i64 (f 26),.int .i64 (f 27),.int .u64 (f 28),.int .i64 (f 29),.int .i64 (f 30),.int .u64 (f 31),.int .i64 (f 32),.int .i64 (f 33),.int .u64 (f 34),.int .i64 (f 35),.int .i64 (f 36),.int .u64 (f 37),.int .i64 (f 38),.int .i64 (f 39),.int .u64 (f 40),.int .i64 (f 41),.int .i64 (f 42),.int .u64 (f 43),.int .i64 (f 44),.int .i64 (f 45),.int .u64 (f 46),.int .i64 (f 47)],rfl,aR (ir rfl) (aR (ir rfl) (aR (ir rfl) (aR (ir rfl) (aR (ir rfl) (aR (ir rfl) (aR (ir rfl) (aR (ir rfl) (aR (ir rfl) (aR (ir rfl) (aR (ir rfl) (aR (ir rfl) (aR (ir rfl) (aR (ir rfl) (aR (ir rfl) (aR (ir rfl) (aR (ir rfl) (aR (ir rfl) (aR (ir rfl) (aR (ir rfl) (aR (ir rfl) (aR (ir rfl) (aR (ir rfl) (aR (ir rfl) (aR (ir rfl) (aR (ir rfl) (aR (ir rfl) (aR (ir rfl) (aR (ir rfl) (aR (ir rfl) (aR (ir rfl) (aR (ir rfl) (aR (ir rfl) (aR (ir rfl) (aR (ir rfl) (aR (ir rfl) (aR (ir rfl) (aR (ir rfl) (aR (ir rfl) (aR (ir rfl) (aR (ir rfl) (aR (ir rfl) (aR (ir rfl) (aR (ir rfl) (aR (ir rfl) (aR (ir rfl) (aR (ir rfl) (aR (ir rfl) bL)))))))))))))))))))))))))))))))))))))))))))))))⟩
theorem fillsOrder_holds:Rows.FillsOrderSaid:=
 OpenClaim.holds_of_wide 7 Try.f7 rfl rfl rfl rfl rfl rfl rfl ⟨rfl,rfl,rfl,rfl,rfl⟩ rfl rfl rfl rfl rfl (by kernel_rfl) Try.func7 (by kernel_rfl)
  (of_decide_eq_true (by kernel_rfl)) (by unfold Func.isWrapper;first|(rw[if_pos (by decide +kernel)];kernel_rfl)|(rw[if_neg (by decide +kernel)];exact⟨rfl,rfl⟩))
  (fun os started H enc _=>rY os started H enc)
#print axioms fillsOrder_holds
end Go.Proofs.Ytoiecphddchknaa
