/- What is proved: the statement LookupsFlat,for every input,with no condition. -/
import Derived.Test.YtdldallkeheciaaQFll
import Derived.Test.YtdldallkeheciaaQa12
import Derived.Test.YtdldallkeheciaaRows
import Derived.Test.YtdldallkeheciaaChecked
set_option linter.unusedSimpArgs false
set_option linter.unusedVariables false
set_option maxRecDepth 100000
set_option maxHeartbeats 1000000
namespace Go.Proofs.Ytdldallkeheciaa
open Go.ChangeShapes Go.WideShapes Go.ChangeAt Go.RowKit Sx Wi
theorem wS:ownKnob Try.prog.godebug=none:=by kernel_rfl
theorem qY:laidOutB Try.prog=true:=by kernel_rfl
set_option maxRecDepth 100000 in
theorem sC (os:Os) (started:os.Started) (H:Type) (enc:TypeId × Value→H):
  ReturnsInHanded {} Try.checked os 4 .any (Rows.lookupsFlatSpec.pre6 enc Try.prog Try.f4 Rows.lookupsFlatRow.domain false) (Rows.lookupsFlatSpec.post enc Try.prog Try.f4 false true false false):=by
 refine vT (C:=Try.checked) (B:=4) wS started (by kernel_rfl) Try.func4 qY ?_ rfl Try.underlying4 rfl ?_
  (ChangeSpec.witness6 (enc:=enc) (C:=Try.checked) false ⟨#[],#[.agg #[.int .u8 0,.slice none 0 0,.slice none 0 0,.slice none 0 0,.int .i64 0,.slice none 0 0,.slice none 0 0,.slice none 0 0,.slice none 0 0,.slice none 0 0,.int .i32 0,.slice none 0 0,.slice none 0 0,.string ⟨#[]⟩],.slice none 0 0,.bool false],[]⟩ 8 (by kernel_rfl) (by kernel_rfl) (by kernel_rfl) (by kernel_rfl)) ?_
 ·intro t ht
  have hall:(Try.f4.params.toList.all fun t=>Try.prog.readableRec t && decide (t<Try.prog.types.size))=true:=by kernel_rfl
  have hq:=List.all_eq_true.1 hall t ht
  rw[Bool.and_eq_true,decide_eq_true_eq]at hq
  exact hq
 ·intro ds hd
  obtain⟨d0,d1,d2,rfl⟩:=aTr (show ds.length=3 from hd)
  rfl
 ·intro W base args ds p hsz hval hA hwt
  replace hval:∀ (j:Nat) t v,Try.f4.params[j]?=some t→args[j]?=some v→Value.okWide Try.prog W .any base t v:=hval
  obtain⟨v0,v1,v2,rfl⟩:=aWH (show args.size=3 from hsz)
  rw[Try.params4]at hval
  obtain⟨d0,d1,d2,rfl⟩:=aTr (show ds.length=3 from(pX _ _ _ _ hA).2)
  obtain⟨p0,q0,hT0,hA0,_⟩:∃ p q,DataW.Trod enc Try.prog W 0 (fun _=>true) true 30 v0 d0 p∧DataW.TrodAll enc Try.prog W 0 (fun _=>true) true [26,4] [v1,v2] [d1,d2] q∧_:=hA
  obtain⟨p1,q1,hT1,hA1,_⟩:∃ p q,DataW.Trod enc Try.prog W 0 (fun _=>true) true 26 v1 d1 p∧DataW.TrodAll enc Try.prog W 0 (fun _=>true) true [4] [v2] [d2] q∧_:=hA0
  obtain⟨p2,q2,hT2,hA2,_⟩:∃ p q,DataW.Trod enc Try.prog W 0 (fun _=>true) true 4 v2 d2 p∧DataW.TrodAll enc Try.prog W 0 (fun _=>true) true [] [] [] q∧_:=hA1
  obtain⟨x0,x4,x10,b1,b2,b3,b5,b6,b7,b8,b9,b11,b12,D,R,S,E,De,B,n8,n9,n11,n12,tx,rfl,y0,y4,y10,ht,hS,s1,s2,s3,s5,s6,s7,s8,s9,s11,s12,v1',v2',v3',v5',v6',v7',v8',v9',v11',v12'⟩:=aIA (hval 0 30 v0 rfl rfl) hT0 (hwt 0 30 d0 rfl rfl)
  obtain⟨b13,IN,rfl,s13,v13'⟩:=jQ (e:=27) (d0:=8) [.int .i32] (by kernel_rfl) (by kernel_rfl) (by kernel_rfl) (by decide) (hval 1 26 v1 rfl rfl) (fun _=>⟨_,_,hT1⟩)
  obtain⟨t,rfl⟩:=okWide_bool (by kernel_rfl) (hval 2 4 v2 rfl rfl)
  have y15:(0:Int)≤(if t then 1 else 0)∧(if t then 1 else 0:Int)≤1:=by cases t<;>decide
  have hm:=aUT x0 (D.length:Int) (R.length:Int) (S.length:Int) x4 (E.length:Int) (De.length:Int) (B.length:Int) (n8:Int) (n9:Int) x10 (n11:Int) (n12:Int) (tx.size:Int) (IN.length:Int) (if t then 1 else 0) (Lc.enc D) (Lc.enc R) (Lc.enc S) (Lc.enc E) (Lc.enc De) (Lc.enc B) (Lc.enc IN) y0 ⟨by omega,by have:=s1.2.2;omega⟩ ⟨by omega,by have:=s2.2.2;omega⟩ ⟨by omega,by omega⟩ y4 ⟨by omega,by have:=s5.2.2;omega⟩ ⟨by omega,by have:=s6.2.2;omega⟩ ⟨by omega,by have:=s7.2.2;omega⟩ ⟨by omega,by have:=s8.2.2;omega⟩ ⟨by omega,by have:=s9.2.2;omega⟩ y10 ⟨by omega,by have:=s11.2.2;omega⟩ ⟨by omega,by have:=s12.2.2;omega⟩ ⟨by omega,by omega⟩ ⟨by omega,by have:=s13.2.2;omega⟩ y15
  let vs:List (Sx.Loc × List SV):=[(b1,[.vec [.int .i32,.int .i32] (.var 16) (.var 1) true]),(b2,[.vec [.int .i32,.int .i32] (.var 17) (.var 2) true]),(b3,[.vec [.int .i64] (.var 18) (.var 3) true]),(b5,[.vec [.int .i32,.int .i32] (.var 19) (.var 5) true]),(b6,[.vec [.int .i32,.int .i32] (.var 20) (.var 6) true]),(b7,[.vec [.int .u8] (.var 21) (.var 7) true]),(b8,[.vec [.int .i64] (.lit 0) (.lit 0) true]),(b9,[.vec [.int .i64] (.lit 0) (.lit 0) true]),(b11,[.vec [.int .i64] (.lit 0) (.lit 0) true]),(b12,[.vec [.int .i64] (.lit 0) (.lit 0) true]),(b13,[.vec [.int .i32] (.var 22) (.var 14) true])]
  let α:aV:=fun id=>(vs[id]?).map (·.1)
  refine aNW (α:=α) (vals:=[_,_,_]) hm (aIp vs ?_) (aB2 [[.vec [.int .i32,.int .i32] (.var 16) (.var 1) true],[.vec [.int .i32,.int .i32] (.var 17) (.var 2) true],[.vec [.int .i64] (.var 18) (.var 3) true],[.vec [.int .i32,.int .i32] (.var 19) (.var 5) true],[.vec [.int .i32,.int .i32] (.var 20) (.var 6) true],[.vec [.int .u8] (.var 21) (.var 7) true],[.vec [.int .i64] (.lit 0) (.lit 0) true],[.vec [.int .i64] (.lit 0) (.lit 0) true],[.vec [.int .i64] (.lit 0) (.lit 0) true],[.vec [.int .i64] (.lit 0) (.lit 0) true],[.vec [.int .i32] (.var 22) (.var 14) true]]) (aW (aPX (aW (aDi (k := .u8) (e := .var 0) rfl) (aW (lS (α:=α) (id:=0) (n:=(.var 1)) rfl rfl s1) (aW (lS (α:=α) (id:=1) (n:=(.var 2)) rfl rfl s2) (aW (lS (α:=α) (id:=2) (n:=(.var 3)) rfl rfl s3) (aW (aDi (k := .i64) (e := .var 4) rfl) (aW (lS (α:=α) (id:=3) (n:=(.var 5)) rfl rfl s5) (aW (lS (α:=α) (id:=4) (n:=(.var 6)) rfl rfl s6) (aW (lS (α:=α) (id:=5) (n:=(.var 7)) rfl rfl s7) (aW (lS (α:=α) (id:=6) (n:=(.var 8)) rfl rfl s8) (aW (lS (α:=α) (id:=7) (n:=(.var 9)) rfl rfl s9) (aW (aDi (k := .i32) (e := .var 10) rfl) (aW (lS (α:=α) (id:=8) (n:=(.var 11)) rfl rfl s11) (aW (lS (α:=α) (id:=9) (n:=(.var 12)) rfl rfl s12) (aW (aMc (e := .var 13) rfl) bC))))))))))))))) (aW (lS (α:=α) (id:=10) (n := .var 14) rfl rfl s13) (aW (aK5 (b:=(.cmp .lt (.lit 0) (.var 15))) (t:=t) (by cases t<;>rfl)) bC))) rfl rfl
  intro q hq
  simp only[vs,List.mem_cons,List.mem_nil_iff,or_false]at hq
  rcases hq with rfl|rfl|rfl|rfl|rfl|rfl|rfl|rfl|rfl|rfl|rfl
  ·exact⟨v1'.1,_,v1'.2,iX rfl rfl⟩
  ·exact⟨v2'.1,_,v2'.2,iX rfl rfl⟩
  ·exact⟨v3'.1,_,v3'.2,iX rfl rfl⟩
  ·exact⟨v5'.1,_,v5'.2,iX rfl rfl⟩
  ·exact⟨v6'.1,_,v6'.2,iX rfl rfl⟩
  ·exact⟨v7'.1,_,v7'.2,iX rfl rfl⟩
  ·exact⟨v8'.1,_,v8'.2,iX rfl rfl⟩
  ·exact⟨v9'.1,_,v9'.2,iX rfl rfl⟩
  ·exact⟨v11'.1,_,v11'.2,iX rfl rfl⟩
  ·exact⟨v12'.1,_,v12'.2,iX rfl rfl⟩
  ·exact⟨v13'.1,_,v13'.2,iX rfl rfl⟩
theorem lookupsFlat_holds:Rows.LookupsFlatSaid:=
 OpenClaim.holds_of_wide 4 Try.f4 rfl rfl rfl rfl rfl rfl rfl ⟨rfl,rfl,rfl,rfl,rfl⟩ rfl rfl rfl rfl rfl (by kernel_rfl) Try.func4 (by kernel_rfl)
  (of_decide_eq_true (by kernel_rfl)) (by unfold Func.isWrapper;first|(rw[if_pos (by decide +kernel)];kernel_rfl)|(rw[if_neg (by decide +kernel)];exact⟨rfl,rfl⟩))
  (fun os started H enc _=>sC os started H enc)
#print axioms lookupsFlat_holds
end Go.Proofs.Ytdldallkeheciaa
