/- What is proved: lists that are filled with one row,and aK by it,in plain Lean. No condition but those that are stated. -/
import Derived.Test.YtkpdiehbaiepaaaQg6
import Derived.Test.YtkpdiehbaiepaaaQg4
import Derived.Test.YtkpdiehbaiepaaaQg3
import Derived.Test.YtkpdiehbaiepaaaProg
import Derived.Test.YtkpdiehbaiepaaaQNn
set_option linter.unusedSimpArgs false
set_option linter.unusedVariables false
namespace Go.Proofs.Ytkpdiehbaiepaaa
open Go Go.RowKit Sx Wi
def jD (C:Int) (m:List Int) (k:Nat):Int:=if k=0 then C else Lc.enc (List.replicate k m++(Lc.dec C).drop k)
theorem aL5 (C:Int) (m:List Int) (k:Nat):Lc.dec (jD C m k)=List.replicate k m++(Lc.dec C).drop k:=by
 unfold jD
 split
 ·rename_i h;subst h;simp
 ·rw[Lc.dec_enc]
theorem tN (C:Int) (m:List Int) (k:Nat) (hk:k<(Lc.dec C).length):G 92 (jD C m k::(k:Int)::m)=jD C m (k+1):=by
 have e:G 92 (jD C m k::(k:Int)::m)=Lc.enc ((Lc.dec (jD C m k)).set (k:Int).toNat m):=kC 92 _ (by decide) (by decide)
 rw[e,aL5,Int.toNat_natCast]
 have e2:jD C m (k+1)=Lc.enc (List.replicate (k+1) m++(Lc.dec C).drop (k+1)):=by unfold jD;rw[if_neg (by omega)]
 rw[e2]
 congr 1
 rw[List.drop_eq_getElem_cons hk,List.set_append,if_neg (by simp),List.length_replicate,Nat.sub_self,List.set_cons_zero,List.replicate_succ',List.append_assoc]
 rfl
theorem wT (C N:Int) (m:List Int) (h:N=((Lc.dec C).length:Int)) (h1:1≤N):jD C m N.toNat=G 96 (N::m):=by
 have e:G 96 (N::m)=Lc.enc (List.replicate N.toNat m):=kC 96 _ (by decide) (by decide)
 rw[e]
 unfold jD
 rw[if_neg (by omega),List.drop_eq_nil_of_le (by omega),List.append_nil]
theorem vM (n:Int) (m:List Int) (h:0≤n):G 91 (G 96 (n::m)::m)=G 96 ((n+1)::m):=by
 have e:∀ n:Int,G 96 (n::m)=Lc.enc (List.replicate n.toNat m):=fun n=>kC 96 _ (by decide) (by decide)
 rw[e,e,gU kC,show (n+1).toNat=n.toNat+1 by omega,List.replicate_succ']
theorem aDM (m:List Int):G 91 (0::m)=G 96 (1::m):=by
 have h:=vM 0 m (Int.le_refl _)
 have e:G 96 (0::m)=0:=kC 96 _ (by decide) (by decide)
 rw[e]at h
 exact h
theorem bF (k:IntKind) (n i j:Int) (m:List Int) (h:0≤i∧i<n):G (80+Lc.kNo k) [G 96 (n::m),i,j]=k.wrap (m.getD j.toNat 0):=by
 have h8:Lc.kNo k<8:=by cases k<;>decide
 have e:G 96 (n::m)=Lc.enc (List.replicate n.toNat m):=kC 96 _ (by decide) (by decide)
 rw[kC _ _ (by omega) (by omega),Lc.fn_rd]
 unfold Lc.rd Lc.row
 rw[e,Lc.dec_enc]
 congr 2
 rw[List.getD_eq_getElem?_getD,List.getElem?_replicate,if_pos (by omega)]
 rfl
theorem pX {p:Int × Int} {l:List (Int × Int)} {xs:List Int} (h:fE (p::l) xs):∃ x ys,xs=x::ys∧(p.1≤x∧x≤p.2)∧fE l ys:=by
 cases xs with
 |nil=>exact h.elim
 |cons x ys=>exact⟨x,ys,rfl,h.1,h.2⟩
theorem nD {xs:List Int} (h:fE [] xs):xs=[]:=by
 cases xs with
 |nil=>rfl
 |cons x ys=>exact h.elim
theorem aPK {xs:List Int} (h:xs.length=1):∃ a,xs=[a]:=by
 match xs,h with
 |[a],_=>exact⟨a,rfl⟩
theorem aVG {xs:List Int} (h:xs.length=2):∃ a b,xs=[a,b]:=by
 match xs,h with
 |[a,b],_=>exact⟨a,b,rfl⟩
theorem uL {P:Program} {gb:fO} {f:FuncId} {F:FunS} {ρ:Nat→Int} (id:Nat) {sh:List CK} {C n:E} {ex:Bool} {T:TypeId} (hH:F.H[id]?=some (some ([.vec sh C n ex],T))) (h:n.den G ρ=((Lc.dec (C.den G ρ)).length:Int)→gZ P G gb f F ρ):gZ P G gb f F ρ:=by
 intro α w vals hW hv
 refine h ?_ α w vals hW hv
 obtain⟨b,vs,h1,h2,h3⟩:=hW.blk id _ _ hH
 simp only[SV.RL,SV.R]at h3
 obtain⟨v,vs',e1,⟨_,e3⟩,_⟩:=h3
 exact e3.symm
def wY (g h:Ctx→List SV→aL→Res (SV × aL)):Ctx→List SV→aL→Res (SV × aL):=fun X args σ=>
 match g X args σ with
 | .fail _=>h X args σ
 |r=>r
theorem sM {P:Program} {X:Ctx} {ρ:Nat→Int} {gb:fO} {f:FuncId} {g h:Ctx→List SV→aL→Res (SV × aL)} (hg:gY P X ρ gb f g) (hh:gY P X ρ gb f h):gY P X ρ gb f (wY g h):=by
 intro args σ s σ' e
 unfold wY at e
 split at e
 ·exact hh args σ s σ' e
 ·exact hg args σ s σ' e
set_option maxRecDepth 100000
open Go Go.RowKit Sx Wi
def aK1 (P:Program) (fs:List B):Res SV:=bM G GI [] fs (fun X=>aB4 P X GB aPY 3000 14 [])
def aO1:List B:=[]
theorem aPy:aK1 Try.prog aO1 = .ok (.bool (.cmp .eq (.lit 1) (.lit 1))):=by kernel_rfl
set_option maxRecDepth 100000
open Go Go.RowKit Sx Wi
def lE (P:Program) (fs:List B):Res SV:=bM G GI [((-9223372036854775808),9223372036854775807),((-9223372036854775808),9223372036854775807),((-9223372036854775808),9223372036854775807),((-9223372036854775808),9223372036854775807),((-9223372036854775808),9223372036854775807),((-9223372036854775808),9223372036854775807),((-9223372036854775808),9223372036854775807),((-9223372036854775808),9223372036854775807),((-9223372036854775808),9223372036854775807),((-9223372036854775808),9223372036854775807)] fs (fun X=>aB4 P X GB aPY 4000 95 [(.agg [(.int .i64 (.var 0)),(.int .i64 (.var 1)),(.int .i64 (.var 2)),(.int .i64 (.var 3)),(.int .i64 (.var 4)),(.int .i64 (.var 5)),(.int .i64 (.var 6)),(.int .i64 (.var 7))]),(.int .i64 (.var 8)),(.int .i64 (.var 9))])
def aI7:List B:=[]
def aJ1:B:=(.cmp .le (.lit 0) (.var 9))
def aJm:List B:=aK aJ1++aI7
def aKF:B:=(.cmp .le (.var 9) (.lit 6))
def aJR:List B:=aK aKF++aJm
def aJy:B:=(.cmp .le (.lit 0) (.var 8))
def aKr:List B:=aK aJy++aJR
def aKf:B:=(.cmp .lt (.op .shl (.lit 1) (.var 9)) (.var 8))
def aTo:List B:=aK aKf++aKr
def aJM:List B:=aK (B.neg aKf)++aKr
def aJN:B:=(.cmp .lt (.lit 1099511627776) (.op .max (.op .max (.op .max (.var 0) (.wrap .i64 (.op .sub (.lit 0) (.var 0)))) (.var 1)) (.wrap .i64 (.op .sub (.lit 0) (.var 1)))))
def aSv:List B:=aK aJN++aJM
def aJ3:List B:=aK (B.neg aJN)++aJM
def aKS:B:=(.cmp .lt (.op .min (.var 0) (.var 1)) (.lit (-1099511627776)))
def aRb:List B:=aK aKS++aJ3
def aI8:List B:=aK (B.neg aKS)++aJ3
def aJf:B:=(.cmp .lt (.lit 1099511627776) (.op .max (.op .max (.op .max (.var 2) (.wrap .i64 (.op .sub (.lit 0) (.var 2)))) (.var 3)) (.wrap .i64 (.op .sub (.lit 0) (.var 3)))))
def aPn:List B:=aK aJf++aI8
def aFq:List B:=aK (B.neg aJf)++aI8
def aFE:B:=(.cmp .lt (.op .min (.var 2) (.var 3)) (.lit (-1099511627776)))
def aMU:List B:=aK aFE++aFq
def aGe:List B:=aK (B.neg aFE)++aFq
def aG5:B:=(.cmp .lt (.lit 1099511627776) (.op .max (.op .max (.op .max (.var 4) (.wrap .i64 (.op .sub (.lit 0) (.var 4)))) (.var 5)) (.wrap .i64 (.op .sub (.lit 0) (.var 5)))))
def aOD:List B:=aK aG5++aGe
def aG0:List B:=aK (B.neg aG5)++aGe
def aEL:B:=(.cmp .lt (.op .min (.var 4) (.var 5)) (.lit (-1099511627776)))
def aQB:List B:=aK aEL++aG0
def aFJ:List B:=aK (B.neg aEL)++aG0
def aEH:B:=(.cmp .lt (.lit 1099511627776) (.op .max (.op .max (.op .max (.var 6) (.wrap .i64 (.op .sub (.lit 0) (.var 6)))) (.var 7)) (.wrap .i64 (.op .sub (.lit 0) (.var 7)))))
def aOo:List B:=aK aEH++aFJ
def aFj:List B:=aK (B.neg aEH)++aFJ
def aFG:B:=(.cmp .lt (.op .min (.var 6) (.var 7)) (.lit (-1099511627776)))
def aOI:List B:=aK aFG++aFj
def aOu:List B:=aK (B.neg aFG)++aFj
def aP8:List B:=aK (B.neg aJy)++aJR
def aQC:List B:=aK (B.neg aKF)++aJm
def aOW:List B:=aK (B.neg aJ1)++aI7
theorem aRe:lE Try.prog aTo = .ok (.tuple [(.agg [(.int .i64 (.lit 0)),(.int .i64 (.lit 0))]),(.int .i64 (.lit 1))]):=by kernel_rfl
theorem aSy:lE Try.prog aSv = .ok (.tuple [(.agg [(.int .i64 (.lit 0)),(.int .i64 (.lit 0))]),(.int .i64 (.lit 1))]):=by kernel_rfl
theorem aTy:lE Try.prog aRb = .ok (.tuple [(.agg [(.int .i64 (.lit 0)),(.int .i64 (.lit 0))]),(.int .i64 (.lit 1))]):=by kernel_rfl
theorem aO2:lE Try.prog aPn = .ok (.tuple [(.agg [(.int .i64 (.lit 0)),(.int .i64 (.lit 0))]),(.int .i64 (.lit 1))]):=by kernel_rfl
theorem aN7:lE Try.prog aMU = .ok (.tuple [(.agg [(.int .i64 (.lit 0)),(.int .i64 (.lit 0))]),(.int .i64 (.lit 1))]):=by kernel_rfl
theorem aNn:lE Try.prog aOD = .ok (.tuple [(.agg [(.int .i64 (.lit 0)),(.int .i64 (.lit 0))]),(.int .i64 (.lit 1))]):=by kernel_rfl
theorem aQT:lE Try.prog aQB = .ok (.tuple [(.agg [(.int .i64 (.lit 0)),(.int .i64 (.lit 0))]),(.int .i64 (.lit 1))]):=by kernel_rfl
theorem aPW:lE Try.prog aOo = .ok (.tuple [(.agg [(.int .i64 (.lit 0)),(.int .i64 (.lit 0))]),(.int .i64 (.lit 1))]):=by kernel_rfl
theorem aPD:lE Try.prog aOI = .ok (.tuple [(.agg [(.int .i64 (.lit 0)),(.int .i64 (.lit 0))]),(.int .i64 (.lit 1))]):=by kernel_rfl
theorem aQm:lE Try.prog aOu = .ok (.tuple [(.agg [(.int .i64 (.app 2 (.cons (.op .add (.op .add (.op .add (.op .add (.lit 0) (.op .mul (.var 0) (.op .mul (.op .mul (.op .sub (.op .shl (.lit 1) (.var 9)) (.var 8)) (.op .sub (.op .shl (.lit 1) (.var 9)) (.var 8))) (.op .sub (.op .shl (.lit 1) (.var 9)) (.var 8))))) (.op .mul (.var 2) (.op .mul (.op .mul (.op .mul (.lit 3) (.op .sub (.op .shl (.lit 1) (.var 9)) (.var 8))) (.op .sub (.op .shl (.lit 1) (.var 9)) (.var 8))) (.var 8)))) (.op .mul (.var 4) (.op .mul (.op .mul (.op .mul (.lit 3) (.op .sub (.op .shl (.lit 1) (.var 9)) (.var 8))) (.var 8)) (.var 8)))) (.op .mul (.var 6) (.op .mul (.op .mul (.var 8) (.var 8)) (.var 8)))) (.cons (.op .shl (.lit 256) (.op .mul (.lit 3) (.var 9))) .nil)))),(.int .i64 (.app 2 (.cons (.op .add (.op .add (.op .add (.op .add (.lit 0) (.op .mul (.var 1) (.op .mul (.op .mul (.op .sub (.op .shl (.lit 1) (.var 9)) (.var 8)) (.op .sub (.op .shl (.lit 1) (.var 9)) (.var 8))) (.op .sub (.op .shl (.lit 1) (.var 9)) (.var 8))))) (.op .mul (.var 3) (.op .mul (.op .mul (.op .mul (.lit 3) (.op .sub (.op .shl (.lit 1) (.var 9)) (.var 8))) (.op .sub (.op .shl (.lit 1) (.var 9)) (.var 8))) (.var 8)))) (.op .mul (.var 5) (.op .mul (.op .mul (.op .mul (.lit 3) (.op .sub (.op .shl (.lit 1) (.var 9)) (.var 8))) (.var 8)) (.var 8)))) (.op .mul (.var 7) (.op .mul (.op .mul (.var 8) (.var 8)) (.var 8)))) (.cons (.op .shl (.lit 256) (.op .mul (.lit 3) (.var 9))) .nil))))]),(.int .i64 (.lit 0))]):=by kernel_rfl
theorem aQb:lE Try.prog aP8 = .ok (.tuple [(.agg [(.int .i64 (.lit 0)),(.int .i64 (.lit 0))]),(.int .i64 (.lit 1))]):=by kernel_rfl
theorem aOM:lE Try.prog aQC = .ok (.tuple [(.agg [(.int .i64 (.lit 0)),(.int .i64 (.lit 0))]),(.int .i64 (.lit 1))]):=by kernel_rfl
theorem aQx:lE Try.prog aOW = .ok (.tuple [(.agg [(.int .i64 (.lit 0)),(.int .i64 (.lit 0))]),(.int .i64 (.lit 1))]):=by kernel_rfl
open Go Go.RowKit Sx Wi
set_option maxRecDepth 100000 in
theorem aLd   (w:World) (hw:WOk GB w):jC Try.prog 14∧Calls Try.prog 14 #[] w (fun e w'=>e = .returned (.bool true)∧Below w.heap.size w w'):=by
 refine vU (uF (ρ:=dJ []) (run:=fun fs=>aK1 Try.prog fs) (fun _=>rfl) fits (cM trivial) eE (fun X hX hG=>zX hX hG) rfl rfl oD ?_ w hw)
 refine aH aPy ?_
 exact⟨rfl,rfl⟩
def rI:qN:=fun _ args=>
 match args with
 |[] => .ok (.bool (.lit true))
 |_ => .fail 201
theorem aOE {X:Ctx} {ρ:Nat→Int} (hX:X.Ok ρ) (hG:X.G=G):lT Try.prog X ρ GB 14 rI:=by
 obtain⟨XG,XI,XV,XF⟩:=X
 simp only at hG
 subst hG
 intro args s h α w vals hv hw
 unfold rI at h
 split at h
 ·cases h
  exact fQ hv rfl rfl (aLd w hw)
 ·cases h
set_option maxHeartbeats 8000000 in
set_option maxRecDepth 100000 in
theorem aO6 (x0 x1 x2 x3 x4 x5 x6 x7 x8 x9:Int) (b0:zzi x0) (b1:zzi x1) (b2:zzi x2) (b3:zzi x3) (b4:zzi x4) (b5:zzi x5) (b6:zzi x6) (b7:zzi x7) (b8:zzi x8) (b9:zzi x9) (w:World) (hw:WOk GB w):jC Try.prog 95∧Calls Try.prog 95 #[(.agg #[.int .i64 x0,.int .i64 x1,.int .i64 x2,.int .i64 x3,.int .i64 x4,.int .i64 x5,.int .i64 x6,.int .i64 x7]),.int .i64 x8,.int .i64 x9] w (fun e w'=>e = .returned (if oH x0 x1 x2 x3 x4 x5 x6 x7 x8 x9 then .tuple #[.agg #[.int .i64 (eX x0 x2 x4 x6 x8 x9),.int .i64 (eX x1 x3 x5 x7 x8 x9)],.int .i64 0] else .tuple #[.agg #[.int .i64 0,.int .i64 0],.int .i64 1])∧Below w.heap.size w w'):=by
 refine vU (uF (ρ:=dJ [x0,x1,x2,x3,x4,x5,x6,x7,x8,x9]) (run:=fun fs=>lE Try.prog fs) (fun _=>rfl) fits (cM ⟨b0,b1,b2,b3,b4,b5,b6,b7,b8,b9,trivial⟩) eE (fun X hX hG=>zX hX hG) rfl rfl oD ?_ w hw)
 refine aG (.cmp .le (.lit 0) (.var 9)) (fun h0=>?_) (fun h0=>?_)
 rotate_left
 ·skip
  refine aH aQx ?_
  refine⟨rfl,?_⟩;simp only[nn,G,wG,fC,fB]at *;(try simp only[show ∀ k:Int,1*2 ^ k.toNat=p2 k from fun _=>rfl]at *);(try simp only[Int.not_lt,Int.not_le,Int.max_le,Int.le_min]at *);rw[if_neg (by unfold oH gK;(try simp only[IntKind.wrap_i64]at *);omega)]<;>rfl
 refine aG (.cmp .le (.var 9) (.lit 6)) (fun h1=>?_) (fun h1=>?_)
 rotate_left
 ·skip
  refine aH aOM ?_
  refine⟨rfl,?_⟩;simp only[nn,G,wG,fC,fB]at *;(try simp only[show ∀ k:Int,1*2 ^ k.toNat=p2 k from fun _=>rfl]at *);(try simp only[Int.not_lt,Int.not_le,Int.max_le,Int.le_min]at *);rw[if_neg (by unfold oH gK;(try simp only[IntKind.wrap_i64]at *);omega)]<;>rfl
 refine aG (.cmp .le (.lit 0) (.var 8)) (fun h2=>?_) (fun h2=>?_)
 rotate_left
 ·skip
  refine aH aQb ?_
  refine⟨rfl,?_⟩;simp only[nn,G,wG,fC,fB]at *;(try simp only[show ∀ k:Int,1*2 ^ k.toNat=p2 k from fun _=>rfl]at *);(try simp only[Int.not_lt,Int.not_le,Int.max_le,Int.le_min]at *);rw[if_neg (by unfold oH gK;(try simp only[IntKind.wrap_i64]at *);omega)]<;>rfl
 refine aG (.cmp .lt (.op .shl (.lit 1) (.var 9)) (.var 8)) (fun h3=>?_) (fun h3=>?_)
 ·skip
  refine aH aRe ?_
  refine⟨rfl,?_⟩;simp only[nn,G,wG,fC,fB]at *;(try simp only[show ∀ k:Int,1*2 ^ k.toNat=p2 k from fun _=>rfl]at *);(try simp only[Int.not_lt,Int.not_le,Int.max_le,Int.le_min]at *);rw[if_neg (by unfold oH gK;(try simp only[IntKind.wrap_i64]at *);omega)]<;>rfl
 refine aG (.cmp .lt (.lit 1099511627776) (.op .max (.op .max (.op .max (.var 0) (.wrap .i64 (.op .sub (.lit 0) (.var 0)))) (.var 1)) (.wrap .i64 (.op .sub (.lit 0) (.var 1))))) (fun h4=>?_) (fun h4=>?_)
 ·skip
  refine aH aSy ?_
  refine⟨rfl,?_⟩;simp only[nn,G,wG,fC,fB]at *;(try simp only[show ∀ k:Int,1*2 ^ k.toNat=p2 k from fun _=>rfl]at *);(try simp only[Int.not_lt,Int.not_le,Int.max_le,Int.le_min]at *);rw[if_neg (by unfold oH gK;(try simp only[IntKind.wrap_i64]at *);omega)]<;>rfl
 refine aG (.cmp .lt (.op .min (.var 0) (.var 1)) (.lit (-1099511627776))) (fun h5=>?_) (fun h5=>?_)
 ·skip
  refine aH aTy ?_
  refine⟨rfl,?_⟩;simp only[nn,G,wG,fC,fB]at *;(try simp only[show ∀ k:Int,1*2 ^ k.toNat=p2 k from fun _=>rfl]at *);(try simp only[Int.not_lt,Int.not_le,Int.max_le,Int.le_min]at *);rw[if_neg (by unfold oH gK;(try simp only[IntKind.wrap_i64]at *);omega)]<;>rfl
 refine aG (.cmp .lt (.lit 1099511627776) (.op .max (.op .max (.op .max (.var 2) (.wrap .i64 (.op .sub (.lit 0) (.var 2)))) (.var 3)) (.wrap .i64 (.op .sub (.lit 0) (.var 3))))) (fun h6=>?_) (fun h6=>?_)
 ·skip
  refine aH aO2 ?_
  refine⟨rfl,?_⟩;simp only[nn,G,wG,fC,fB]at *;(try simp only[show ∀ k:Int,1*2 ^ k.toNat=p2 k from fun _=>rfl]at *);(try simp only[Int.not_lt,Int.not_le,Int.max_le,Int.le_min]at *);rw[if_neg (by unfold oH gK;(try simp only[IntKind.wrap_i64]at *);omega)]<;>rfl
 refine aG (.cmp .lt (.op .min (.var 2) (.var 3)) (.lit (-1099511627776))) (fun h7=>?_) (fun h7=>?_)
 ·skip
  refine aH aN7 ?_
  refine⟨rfl,?_⟩;simp only[nn,G,wG,fC,fB]at *;(try simp only[show ∀ k:Int,1*2 ^ k.toNat=p2 k from fun _=>rfl]at *);(try simp only[Int.not_lt,Int.not_le,Int.max_le,Int.le_min]at *);rw[if_neg (by unfold oH gK;(try simp only[IntKind.wrap_i64]at *);omega)]<;>rfl
 refine aG (.cmp .lt (.lit 1099511627776) (.op .max (.op .max (.op .max (.var 4) (.wrap .i64 (.op .sub (.lit 0) (.var 4)))) (.var 5)) (.wrap .i64 (.op .sub (.lit 0) (.var 5))))) (fun h8=>?_) (fun h8=>?_)
 ·skip
  refine aH aNn ?_
  refine⟨rfl,?_⟩;simp only[nn,G,wG,fC,fB]at *;(try simp only[show ∀ k:Int,1*2 ^ k.toNat=p2 k from fun _=>rfl]at *);(try simp only[Int.not_lt,Int.not_le,Int.max_le,Int.le_min]at *);rw[if_neg (by unfold oH gK;(try simp only[IntKind.wrap_i64]at *);omega)]<;>rfl
 refine aG (.cmp .lt (.op .min (.var 4) (.var 5)) (.lit (-1099511627776))) (fun h9=>?_) (fun h9=>?_)
 ·skip
  refine aH aQT ?_
  refine⟨rfl,?_⟩;simp only[nn,G,wG,fC,fB]at *;(try simp only[show ∀ k:Int,1*2 ^ k.toNat=p2 k from fun _=>rfl]at *);(try simp only[Int.not_lt,Int.not_le,Int.max_le,Int.le_min]at *);rw[if_neg (by unfold oH gK;(try simp only[IntKind.wrap_i64]at *);omega)]<;>rfl
 refine aG (.cmp .lt (.lit 1099511627776) (.op .max (.op .max (.op .max (.var 6) (.wrap .i64 (.op .sub (.lit 0) (.var 6)))) (.var 7)) (.wrap .i64 (.op .sub (.lit 0) (.var 7))))) (fun h10=>?_) (fun h10=>?_)
 ·skip
  refine aH aPW ?_
  refine⟨rfl,?_⟩;simp only[nn,G,wG,fC,fB]at *;(try simp only[show ∀ k:Int,1*2 ^ k.toNat=p2 k from fun _=>rfl]at *);(try simp only[Int.not_lt,Int.not_le,Int.max_le,Int.le_min]at *);rw[if_neg (by unfold oH gK;(try simp only[IntKind.wrap_i64]at *);omega)]<;>rfl
 refine aG (.cmp .lt (.op .min (.var 6) (.var 7)) (.lit (-1099511627776))) (fun h11=>?_) (fun h11=>?_)
 ·skip
  refine aH aPD ?_
  refine⟨rfl,?_⟩;simp only[nn,G,wG,fC,fB]at *;(try simp only[show ∀ k:Int,1*2 ^ k.toNat=p2 k from fun _=>rfl]at *);(try simp only[Int.not_lt,Int.not_le,Int.max_le,Int.le_min]at *);rw[if_neg (by unfold oH gK;(try simp only[IntKind.wrap_i64]at *);omega)]<;>rfl
 refine aH aQm ?_
 refine⟨rfl,?_⟩;simp only[nn,G,wG,fC,fB]at *;(try simp only[show ∀ k:Int,1*2 ^ k.toNat=p2 k from fun _=>rfl]at *);(try simp only[Int.not_lt,Int.not_le,Int.max_le,Int.le_min]at *);have hk:oH x0 x1 x2 x3 x4 x5 x6 x7 x8 x9:=(by unfold oH gK;refine⟨⟨?_,?_⟩,⟨?_,?_⟩,⟨?_,?_⟩,⟨?_,?_⟩,⟨?_,?_⟩,⟨?_,?_⟩,⟨?_,?_⟩,⟨?_,?_⟩,⟨?_,?_⟩,⟨?_,?_⟩⟩<;>omega);rw[if_pos hk,←aKJ (aUl hk) rfl (aW7 x9 (by omega) (by omega)),←aKJ (aUh hk) rfl (aW7 x9 (by omega) (by omega))]
theorem aFv {ρ:Nat→Int} {a0 a1 a2 a3 a4 a5 a6 a7 a8 a9:E}:B.den G ρ ((.and (.cmp .le (.lit 0) a9) (.and (.cmp .le a9 (.lit 6)) (.and (.cmp .le (.lit 0) a8) (.and (.cmp .le a8 (.op .shl (.lit 1) a9)) (.and (.cmp .le (.lit (-1099511627776)) a0) (.and (.cmp .le a0 (.lit 1099511627776)) (.and (.cmp .le (.lit (-1099511627776)) a1) (.and (.cmp .le a1 (.lit 1099511627776)) (.and (.cmp .le (.lit (-1099511627776)) a2) (.and (.cmp .le a2 (.lit 1099511627776)) (.and (.cmp .le (.lit (-1099511627776)) a3) (.and (.cmp .le a3 (.lit 1099511627776)) (.and (.cmp .le (.lit (-1099511627776)) a4) (.and (.cmp .le a4 (.lit 1099511627776)) (.and (.cmp .le (.lit (-1099511627776)) a5) (.and (.cmp .le a5 (.lit 1099511627776)) (.and (.cmp .le (.lit (-1099511627776)) a6) (.and (.cmp .le a6 (.lit 1099511627776)) (.and (.cmp .le (.lit (-1099511627776)) a7) (.cmp .le a7 (.lit 1099511627776))))))))))))))))))))))=true↔oH (E.den G ρ a0) (E.den G ρ a1) (E.den G ρ a2) (E.den G ρ a3) (E.den G ρ a4) (E.den G ρ a5) (E.den G ρ a6) (E.den G ρ a7) (E.den G ρ a8) (E.den G ρ a9):=by
 simp only[B.den,aDh,E.den,EL.den,aJS,Bool.and_eq_true,decide_eq_true_eq];simp only[show ∀ k:Int,1*2 ^ k.toNat=p2 k from fun _=>rfl];unfold oH gK;simp only[and_assoc]
def tS:qN:=fun X args=>
 match args with
 |[(.agg [.int .i64 a0,.int .i64 a1,.int .i64 a2,.int .i64 a3,.int .i64 a4,.int .i64 a5,.int .i64 a6,.int .i64 a7]),.int .i64 a8,.int .i64 a9]=>if a0.fits X .i64 && a1.fits X .i64 && a2.fits X .i64 && a3.fits X .i64 && a4.fits X .i64 && a5.fits X .i64 && a6.fits X .i64 && a7.fits X .i64 && a8.fits X .i64 && a9.fits X .i64 then (Res.testW X ((.and (.cmp .le (.lit 0) a9) (.and (.cmp .le a9 (.lit 6)) (.and (.cmp .le (.lit 0) a8) (.and (.cmp .le a8 (.op .shl (.lit 1) a9)) (.and (.cmp .le (.lit (-1099511627776)) a0) (.and (.cmp .le a0 (.lit 1099511627776)) (.and (.cmp .le (.lit (-1099511627776)) a1) (.and (.cmp .le a1 (.lit 1099511627776)) (.and (.cmp .le (.lit (-1099511627776)) a2) (.and (.cmp .le a2 (.lit 1099511627776)) (.and (.cmp .le (.lit (-1099511627776)) a3) (.and (.cmp .le a3 (.lit 1099511627776)) (.and (.cmp .le (.lit (-1099511627776)) a4) (.and (.cmp .le a4 (.lit 1099511627776)) (.and (.cmp .le (.lit (-1099511627776)) a5) (.and (.cmp .le a5 (.lit 1099511627776)) (.and (.cmp .le (.lit (-1099511627776)) a6) (.and (.cmp .le a6 (.lit 1099511627776)) (.and (.cmp .le (.lit (-1099511627776)) a7) (.cmp .le a7 (.lit 1099511627776))))))))))))))))))))))).bind fun t=>if t then .ok (.tuple [.agg [.int .i64 (.app 10 (.cons a0 (.cons a2 (.cons a4 (.cons a6 (.cons a8 (.cons a9 .nil))))))),.int .i64 (.app 10 (.cons a1 (.cons a3 (.cons a5 (.cons a7 (.cons a8 (.cons a9 .nil)))))))],.int .i64 (.lit 0)]) else .ok (.tuple [.agg [.int .i64 (.lit 0),.int .i64 (.lit 0)],.int .i64 (.lit 1)]) else .fail 200
 |_ => .fail 201
theorem aSP {X:Ctx} {ρ:Nat→Int} (hX:X.Ok ρ) (hG:X.G=G):lT Try.prog X ρ GB 95 tS:=by
 obtain⟨XG,XI,XV,XF⟩:=X
 simp only at hG
 subst hG
 intro args s h α w vals hv hw
 unfold tS at h
 split at h
 ·split at h
  ·rename_i hg
   try simp only[Bool.and_eq_true]at hg
   obtain⟨⟨⟨⟨⟨⟨⟨⟨⟨g0,g1⟩,g2⟩,g3⟩,g4⟩,g5⟩,g6⟩,g7⟩,g8⟩,g9⟩:=hg
   obtain⟨t,ht,h⟩:=Res.bind_ok h
   have ht:=Res.testW_ok hX ht
   have k:=aO6 _ _ _ _ _ _ _ _ _ _ (E.fits_in hX g0) (E.fits_in hX g1) (E.fits_in hX g2) (E.fits_in hX g3) (E.fits_in hX g4) (E.fits_in hX g5) (E.fits_in hX g6) (E.fits_in hX g7) (E.fits_in hX g8) (E.fits_in hX g9) w hw
   cases t with
   |true=>
    cases h
    rw[if_pos (aFv.1 ht)]at k
    exact fQ hv rfl rfl k
   |false=>
    cases h
    rw[if_neg (fun q=>by have:=aFv.2 q;rw[ht]at this;cases this)]at k
    exact fQ hv rfl rfl k
  ·cases h
 ·cases h
def aGL:bS:=nI 14 rI aPY
theorem aFi {X:Ctx} {ρ:Nat→Int} (hX:X.Ok ρ) (hG:X.G=G):lJ Try.prog X ρ GB aGL:=kA (aOE hX hG) (zX hX hG)
def dM:bS:=nI 95 tS aGL
theorem bO {X:Ctx} {ρ:Nat→Int} (hX:X.Ok ρ) (hG:X.G=G):lJ Try.prog X ρ GB dM:=kA (aSP hX hG) (aFi hX hG)
def aCz:List (Int × Int):=[(1,10000),(0,10000)]
def aCx:List (Int × Int):=[(1,10000)]
def aUt:St:=⟨((.own 0 (.lit 1) none)::.any::(.int .i64 (.lit 0))::(.int .i64 (.var 1))::zzn 28 ([])),[some ([.tuple [.agg [(.own 1 (.var 0) (some (.var 0))),(.con (.slice none 0 0)),(.int .i64 (.lit (-9))),(.int .i64 (.lit 3))],.int .i64 (.lit 4),.bool (.lit false)]],aT+108),bE [.int .i64,.int .i64] (.var 2) (.var 0) 23]⟩
def aQZ:St:=⟨((.own 0 (.lit 1) none)::.any::(.int .i64 (.lit 0))::zzn 29 ([])),[some ([.tuple [.agg [(.own 1 (.var 0) (some (.var 0))),(.con (.slice none 0 0)),(.int .i64 (.lit (-9))),(.int .i64 (.lit 3))],.int .i64 (.lit 4),.bool (.lit false)]],aT+108),bE [.int .i64,.int .i64] (.app 96 (.cons (.var 0) (.cons (.lit (-9)) (.cons (.lit 3) .nil)))) (.var 0) 23]⟩
def aQE:LoopS:=⟨1,2,aUt,.lit true,.exit 2,aQZ,.exit 2,aQZ⟩
def aHJ:LoopU:=⟨aQE,[(.var 0),(.lit 0),(.var 1)],aCz,.lit true⟩
def tJ (P:Program) (fs:List B):Res SV:=bM G GI aCz fs fun X=>eG P X GB dM eJ 4000 (bC (aY P 58) 1) aQE
def aO8:fJ:=gC 4 (fW (bX GB) [aHJ]) eJ
def aQw:FunS:=⟨[(.own 0 (.lit 1) none)],[some ([.tuple [.agg [(.own 1 (.var 0) (some (.var 0))),(.con (.slice none 0 0)),(.int .i64 (.lit (-9))),(.int .i64 (.lit 3))],.int .i64 (.lit 4),.bool (.lit false)]],aT+108),bE [.int .i64,.int .i64] (.var 1) (.var 0) 23],.lit true,(.tuple []),[some ([.tuple [.agg [(.own 1 (.var 0) (some (.var 0))),(.con (.slice none 0 0)),(.int .i64 (.lit (-9))),(.int .i64 (.lit 3))],.int .i64 (.lit 4),.bool (.lit false)]],aT+108),bE [.int .i64,.int .i64] (.app 96 (.cons (.var 0) (.cons (.lit (-9)) (.cons (.lit 3) .nil)))) (.var 0) 23],(.tuple []),[some ([.tuple [.agg [(.own 1 (.var 0) (some (.var 0))),(.con (.slice none 0 0)),(.int .i64 (.lit (-9))),(.int .i64 (.lit 3))],.int .i64 (.lit 4),.bool (.lit false)]],aT+108),bE [.int .i64,.int .i64] (.app 96 (.cons (.var 0) (.cons (.lit (-9)) (.cons (.lit 3) .nil)))) (.var 0) 23]⟩
def aI9 (P:Program) (fs:List B):Res SV:=bM G GI aCx fs fun X=>iL P X GB dM aO8 4000 58 aQw
set_option maxRecDepth 100000
open Go Go.RowKit Sx Wi
def aPF (P:Program) (fs:List B):Res SV:=aI9 P fs
def aMO:List B:=[]
theorem aLN:aPF Try.prog aMO = .ok (.tuple [(.agg []),(.bool (.lit true))]):=by kernel_rfl
set_option maxRecDepth 100000
open Go Go.RowKit Sx Wi
def aCe (P:Program) (fs:List B):Res SV:=tJ P fs
def aAg:List B:=[]
def nJ:B:=(.cmp .lt (.var 1) (.var 0))
def aH6:List B:=aK nJ++aAg
def aHz:List B:=aK (B.neg nJ)++aAg
theorem aHZ:aCe Try.prog aH6 = .ok (.agg [(.int .i64 (.op .add (.var 1) (.lit 1))),(.int .i64 (.var 1)),(.int .i64 (.app 92 (.cons (.var 2) (.cons (.var 1) (.cons (.lit (-9)) (.cons (.lit 3) .nil)))))),(.int .i64 (.var 2))]):=by kernel_rfl
theorem aID:aCe Try.prog aHz = .ok (.tuple [(.agg [(.int .i64 (.var 2)),(.int .i64 (.app 96 (.cons (.var 0) (.cons (.lit (-9)) (.cons (.lit 3) .nil)))))]),(.bool (.lit true))]):=by kernel_rfl
open Go Go.RowKit Sx Wi
def jU (N C1:Int) (a:Nat):Nat→Int:=dJ ([N]++[(a:Int),jD C1 [(-9),3] a])
theorem aLR (N C1:Int) (b0:1≤N∧N≤10000) (a:Nat) (ha:(a:Int)≤N):∀ i q,aCz[i]?=some q→q.1≤jU N C1 a i∧jU N C1 a i≤q.2:=by
 unfold jU aCz
 exact eL (xs:=[N,(a:Int)]) (ls:=[jD C1 [(-9),3] a]) (by exact⟨b0,by omega,trivial⟩)
set_option maxHeartbeats 2000000 in
set_option maxRecDepth 100000 in
theorem aPw (N C1:Int) (b0:1≤N∧N≤10000) (hC1:N=((Lc.dec C1).length:Int)) (a:Nat) (ha:(a:Int)≤N):Sx.sC (tJ Try.prog) G (jU N C1 a) (aZ G (jU N C1) (dJ ([N]++[C1])) 1 (.lit true) (fun a=>(a:Int)≤N) (fun a=>N.toNat-a) a) []:=by
 refine aG nJ (fun h0=>?_) (fun h0=>?_)
 ·skip
  refine aH aHZ ?_
  unfold nJ at h0;simp only[nn,jU,List.cons_append,List.nil_append,Bool.or_eq_true,aV,ne_eq]at h0;have q:G 92 [jD C1 [(-9),3] a,(a:Int),(-9),3]=jD C1 [(-9),3] (a+1):=tN C1 [(-9),3] a (by omega);have hm:N.toNat-(a+1)<N.toNat-a:=(by omega);have hg:((a+1:Nat):Int)≤N:=(by omega);clear h0;simp only[aZ];refine⟨a+1,hg,hm,cP (by simp),?_⟩;simp only[aU];clear hm hg;simp only[nn,Int.natCast_add,Int.cast_ofNat_Int,Int.natCast_one,jU,List.cons_append,List.nil_append,Bool.or_eq_true,aV,ne_eq];(repeat' refine And.intro ?_ ?_)<;>first|with_reducible exact q|with_reducible rfl|with_reducible trivial
 refine aH aID ?_
 unfold nJ at h0;simp only[nn,jU,List.cons_append,List.nil_append,Bool.or_eq_true,aV,ne_eq]at h0;have e:a=N.toNat:=(by omega);have q:jD C1 [(-9),3] a=G 96 [N,(-9),3]:=(by rw[e];exact wT C1 N [(-9),3] hC1 b0.1);clear h0 e;simp only[aZ];refine⟨rfl,cP (by simp),?_⟩;simp only[aU];simp only[nn,jU,List.cons_append,List.nil_append,Bool.or_eq_true,aV,ne_eq];(repeat' refine And.intro ?_ ?_)<;>first|with_reducible exact q|with_reducible rfl|with_reducible trivial
set_option maxRecDepth 100000 in
theorem aOm (N C1:Int) (b0:1≤N∧N≤10000) (hC1:N=((Lc.dec C1).length:Int)):dY Try.prog G (bX GB) (bC (aY Try.prog 58) 1) aHJ (dJ ([N]++[C1])):=by
 intro _ _
 have e:fM G (dJ ([N]++[C1])) aHJ.es=jU N C1 0:=by
  rw[cR]
  rfl
 rw[e]
 exact⟨N.toNat+1,bU (ι:=Nat) (ρ:=jU N C1) (ρT:=dJ ([N]++[C1])) (m:=fun a=>N.toNat-a) (Good:=fun a=>(a:Int)≤N) (run:=tJ Try.prog) (fun _=>rfl) fits rfl eE (fun a ha=>aLR N C1 b0 a ha) (fun _ _ X hX hG=>bO hX hG) (fun _ _ X hX hG=>cJ) (fun a ha=>aPw N C1 b0 hC1 a ha) (by decide) (N.toNat+1) 0 (by show ((0:Nat):Int)≤N;omega) (by show N.toNat-0<N.toNat+1;omega)⟩
theorem aMC:bD (aY Try.prog 58)=[bC (aY Try.prog 58) 0,bC (aY Try.prog 58) 1]:=by kernel_rfl
set_option maxHeartbeats 1000000 in
set_option maxRecDepth 100000 in
theorem aSI (N C1:Int) (b0:1≤N∧N≤10000):gZ Try.prog G GB 58 aQw (dJ ([N]++[C1])):=by
 refine uL 1 rfl (fun hC1=>?_)
 replace hC1:N=((Lc.dec C1).length:Int):=hC1
 refine eA (lp:=aO8) (run:=aI9 Try.prog) (fun _=>rfl) fits (eL (xs:=[N]) (ls:=[C1]) (by exact⟨b0,trivial⟩)) eE (fun X hX hG=>bO hX hG) (fun X hX hG fn c hf hc=>?_) rfl ?_
 ·refine eN ((congrArg bD (eV hf hc)).symm.trans aMC) ?_
  intro b hb
  simp only[List.mem_cons,List.mem_nil_iff,or_false]at hb
  rcases hb with rfl|rfl
  ·exact fT (j:=1) (by kernel_rfl) (by decide) gR
  ·refine gD hX hG (by kernel_rfl) ?_
   intro p hp'
   simp only[List.mem_cons,List.mem_nil_iff,or_false]at hp'
   subst hp'
   exact aOm N C1 b0 hC1
 ·skip
  refine aH aLN ?_
  exact⟨rfl,trivial⟩
def aBT:Ctx→List SV→aL→Res (SV × aL):=fL GB aCx 1 (.lit true) aQw
theorem aV9 {X:Ctx} {ρ:Nat→Int} (hX:X.Ok ρ) (hG:X.G=G):gY Try.prog X ρ GB 58 aBT:=by
 obtain⟨XG,XI,XV,XF⟩:=X
 simp only at hG
 subst hG
 refine dS hX ?_
 intro xs ls hw hl hp
 unfold aCx at hw
 obtain⟨x0,y0,e0,b0,h0⟩:=pX hw
 have e1:=nD h0
 subst e1 e0
 obtain⟨l0,rfl⟩:=aPK hl
 exact aSI x0 l0 b0
def rN:List (Int × Int):=[(1,10000),(0,10000)]
def aEf:List (Int × Int):=[(1,10000)]
def aUO:St:=⟨((.own 0 (.lit 2) none)::.any::(.int .i64 (.lit 0))::(.int .i64 (.var 1))::zzn 28 ([])),[zzS (.own 1 (.var 0) (some (.var 0))) (.con (.slice none 0 0)) (.own 2 (.var 0) (some (.var 0))) (.con (.slice none 0 0)),bE zzK (.var 2) (.var 0) 54,bE zzK (.var 3) (.var 0) 54]⟩
def aPr:St:=⟨((.own 0 (.lit 2) none)::.any::(.int .i64 (.lit 0))::zzn 29 ([])),[zzS (.own 1 (.var 0) (some (.var 0))) (.con (.slice none 0 0)) (.own 2 (.var 0) (some (.var 0))) (.con (.slice none 0 0)),bE zzK (zz1 (.var 0)) (.var 0) 54,bE zzK (.var 2) (.var 0) 54]⟩
def aP2:LoopS:=⟨1,3,aUO,.lit true,.exit 2,aPr,.exit 2,aPr⟩
def aIi:LoopU:=⟨aP2,[(.var 0),(.lit 0),(.var 1),(.var 2)],rN,.lit true⟩
def tQ (P:Program) (fs:List B):Res SV:=bM G GI rN fs fun X=>eG P X GB dM eJ 4000 (bC (aY P 59) 1) aP2
def aWH:St:=⟨((.own 0 (.lit 2) none)::.any::(.int .i64 (.lit 1))::(.int .i64 (.var 1))::zzn 28 ([])),[zzS (.own 1 (.var 0) (some (.var 0))) (.con (.slice none 0 0)) (.own 2 (.var 0) (some (.var 0))) (.con (.slice none 0 0)),bE zzK (zz1 (.var 0)) (.var 0) 54,bE zzK (.var 2) (.var 0) 54]⟩
def aOS:St:=⟨((.own 0 (.lit 2) none)::.any::(.int .i64 (.lit 1))::zzn 29 ([])),[zzS (.own 1 (.var 0) (some (.var 0))) (.con (.slice none 0 0)) (.own 2 (.var 0) (some (.var 0))) (.con (.slice none 0 0)),bE zzK (zz1 (.var 0)) (.var 0) 54,bE zzK (zz2 (.var 0)) (.var 0) 54]⟩
def aNd:LoopS:=⟨1,3,aWH,.lit true,.exit 2,aOS,.exit 2,aOS⟩
def aH0:LoopU:=⟨aNd,[(.var 0),(.lit 0),(.var 2)],rN,.lit true⟩
def uJ (P:Program) (fs:List B):Res SV:=bM G GI rN fs fun X=>eG P X GB dM eJ 4000 (bC (aY P 59) 1) aNd
def aM5:fJ:=gC 4 (fW (bX GB) [aIi,aH0]) eJ
def aND:FunS:=⟨[(.own 0 (.lit 2) none)],[zzS (.own 1 (.var 0) (some (.var 0))) (.con (.slice none 0 0)) (.own 2 (.var 0) (some (.var 0))) (.con (.slice none 0 0)),bE zzK (.var 1) (.var 0) 54,bE zzK (.var 2) (.var 0) 54],.lit true,(.tuple []),[zzS (.own 1 (.var 0) (some (.var 0))) (.con (.slice none 0 0)) (.own 2 (.var 0) (some (.var 0))) (.con (.slice none 0 0)),bE zzK (zz1 (.var 0)) (.var 0) 54,bE zzK (zz2 (.var 0)) (.var 0) 54],(.tuple []),[zzS (.own 1 (.var 0) (some (.var 0))) (.con (.slice none 0 0)) (.own 2 (.var 0) (some (.var 0))) (.con (.slice none 0 0)),bE zzK (zz1 (.var 0)) (.var 0) 54,bE zzK (zz2 (.var 0)) (.var 0) 54]⟩
def aJW (P:Program) (fs:List B):Res SV:=bM G GI aEf fs fun X=>iL P X GB dM aM5 4000 59 aND
set_option maxRecDepth 100000
open Go Go.RowKit Sx Wi
def aNf (P:Program) (fs:List B):Res SV:=aJW P fs
def aL7:List B:=[]
theorem aMa:aNf Try.prog aL7 = .ok (.tuple [(.agg []),(.bool (.lit true))]):=by kernel_rfl
set_option maxRecDepth 100000
open Go Go.RowKit Sx Wi
def aBW (P:Program) (fs:List B):Res SV:=tQ P fs
def aAP:List B:=[]
def nM:B:=(.cmp .lt (.var 1) (.var 0))
def aIh:List B:=aK nM++aAP
def aAZ:SV:=(.agg [(.int .i64 (.op .add (.var 1) (.lit 1))),(.int .i64 (.var 1)),(.int .i64 (.app 92 (.cons (.var 2) (.cons (.var 1) (.cons (.lit 0) (.cons (.lit 0) (.cons (.lit 0) (.cons (.lit 0) (.cons (.lit 0) (.cons (.lit 0) (.cons (.lit 1) (.cons (.lit 0) (.cons (.lit 0) (.cons (.lit 0) (.cons (.lit 0) (.cons (.lit 0) .nil)))))))))))))))),(.int .i64 (.var 2)),(.int .i64 (.var 3)),(.int .i64 (.var 3))])
def aH4:List B:=aK (B.neg nM)++aAP
def aAv:SV:=(.tuple [(.agg [(.int .i64 (.var 2)),(.int .i64 (zz1 (.var 0))),(.int .i64 (.var 3)),(.int .i64 (.var 2))]),(.bool (.lit true))])
theorem aH1:aBW Try.prog aIh = .ok aAZ:=by kernel_rfl
theorem aHT:aBW Try.prog aH4 = .ok aAv:=by kernel_rfl
set_option maxRecDepth 100000
open Go Go.RowKit Sx Wi
def aBG (P:Program) (fs:List B):Res SV:=uJ P fs
def aA6:List B:=[]
def nB:B:=(.cmp .lt (.var 1) (.var 0))
def aId:List B:=aK nB++aA6
def aAC:SV:=(.agg [(.int .i64 (.op .add (.var 1) (.lit 1))),(.int .i64 (.var 1)),(.int .i64 (.app 92 (.cons (.var 2) (.cons (.var 1) (.cons (.lit 0) (.cons (.lit 0) (.cons (.lit 0) (.cons (.lit 0) (.cons (.lit 0) (.cons (.lit 0) (.cons (.lit 2) (.cons (.lit 0) (.cons (.lit 0) (.cons (.lit 0) (.cons (.lit 0) (.cons (.lit 0) .nil)))))))))))))))),(.int .i64 (.var 2))])
def aH5:List B:=aK (B.neg nB)++aA6
def aAX:SV:=(.tuple [(.agg [(.int .i64 (.var 2)),(.int .i64 (zz2 (.var 0)))]),(.bool (.lit true))])
theorem aIx:aBG Try.prog aId = .ok aAC:=by kernel_rfl
theorem aIJ:aBG Try.prog aH5 = .ok aAX:=by kernel_rfl
open Go Go.RowKit Sx Wi
def jP (N C1 C2:Int) (a:Nat):Nat→Int:=dJ ([N]++[(a:Int),jD C1 [0,0,0,0,0,0,1,0,0,0,0,0] a,C2])
theorem aLh (N C1 C2:Int) (b0:1≤N∧N≤10000) (a:Nat) (ha:(a:Int)≤N):∀ i q,rN[i]?=some q→q.1≤jP N C1 C2 a i∧jP N C1 C2 a i≤q.2:=by
 unfold jP rN
 exact eL (xs:=[N,(a:Int)]) (ls:=[jD C1 [0,0,0,0,0,0,1,0,0,0,0,0] a,C2]) (by exact⟨b0,by omega,trivial⟩)
set_option maxHeartbeats 2000000 in
set_option maxRecDepth 100000 in
theorem aQU (N C1 C2:Int) (b0:1≤N∧N≤10000) (hC1:N=((Lc.dec C1).length:Int)) (hC2:N=((Lc.dec C2).length:Int)) (a:Nat) (ha:(a:Int)≤N):Sx.sC (tQ Try.prog) G (jP N C1 C2 a) (aZ G (jP N C1 C2) (dJ ([N]++[C1,C2])) 1 (.lit true) (fun a=>(a:Int)≤N) (fun a=>N.toNat-a) a) []:=by
 refine aG nM (fun h0=>?_) (fun h0=>?_)
 ·skip
  refine aH aH1 ?_
  unfold nM at h0;unfold aAZ;simp only[nn,jP,List.cons_append,List.nil_append,Bool.or_eq_true,aV,ne_eq]at h0;have q:G 92 [jD C1 [0,0,0,0,0,0,1,0,0,0,0,0] a,(a:Int),0,0,0,0,0,0,1,0,0,0,0,0]=jD C1 [0,0,0,0,0,0,1,0,0,0,0,0] (a+1):=tN C1 [0,0,0,0,0,0,1,0,0,0,0,0] a (by omega);have hm:N.toNat-(a+1)<N.toNat-a:=(by omega);have hg:((a+1:Nat):Int)≤N:=(by omega);clear h0;simp only[aZ];refine⟨a+1,hg,hm,cP (by simp),?_⟩;simp only[aU];clear hm hg;simp only[nn,Int.natCast_add,Int.cast_ofNat_Int,Int.natCast_one,jP,List.cons_append,List.nil_append,Bool.or_eq_true,aV,ne_eq];(repeat' refine And.intro ?_ ?_)<;>first|with_reducible exact q|with_reducible rfl|with_reducible trivial
 refine aH aHT ?_
 unfold nM at h0;unfold aAv;simp only[nn,jP,List.cons_append,List.nil_append,Bool.or_eq_true,aV,ne_eq]at h0;have e:a=N.toNat:=(by omega);have q:jD C1 [0,0,0,0,0,0,1,0,0,0,0,0] a=G 96 [N,0,0,0,0,0,0,1,0,0,0,0,0]:=(by rw[e];exact wT C1 N [0,0,0,0,0,0,1,0,0,0,0,0] hC1 b0.1);clear h0 e;simp only[aZ];refine⟨rfl,cP (by simp),?_⟩;simp only[aU];simp only[nn,jP,List.cons_append,List.nil_append,Bool.or_eq_true,aV,ne_eq];(repeat' refine And.intro ?_ ?_)<;>first|with_reducible exact q|with_reducible rfl|with_reducible trivial
set_option maxRecDepth 100000 in
theorem aPI (N C1 C2:Int) (b0:1≤N∧N≤10000) (hC1:N=((Lc.dec C1).length:Int)) (hC2:N=((Lc.dec C2).length:Int)):dY Try.prog G (bX GB) (bC (aY Try.prog 59) 1) aIi (dJ ([N]++[C1,C2])):=by
 intro _ _
 have e:fM G (dJ ([N]++[C1,C2])) aIi.es=jP N C1 C2 0:=by
  rw[cR]
  rfl
 rw[e]
 exact⟨N.toNat+1,bU (ι:=Nat) (ρ:=jP N C1 C2) (ρT:=dJ ([N]++[C1,C2])) (m:=fun a=>N.toNat-a) (Good:=fun a=>(a:Int)≤N) (run:=tQ Try.prog) (fun _=>rfl) fits rfl eE (fun a ha=>aLh N C1 C2 b0 a ha) (fun _ _ X hX hG=>bO hX hG) (fun _ _ X hX hG=>cJ) (fun a ha=>aQU N C1 C2 b0 hC1 hC2 a ha) (by decide) (N.toNat+1) 0 (by show ((0:Nat):Int)≤N;omega) (by show N.toNat-0<N.toNat+1;omega)⟩
def jN (N C2:Int) (a:Nat):Nat→Int:=dJ ([N]++[(a:Int),jD C2 [0,0,0,0,0,0,2,0,0,0,0,0] a])
theorem aLm (N C2:Int) (b0:1≤N∧N≤10000) (a:Nat) (ha:(a:Int)≤N):∀ i q,rN[i]?=some q→q.1≤jN N C2 a i∧jN N C2 a i≤q.2:=by
 unfold jN rN
 exact eL (xs:=[N,(a:Int)]) (ls:=[jD C2 [0,0,0,0,0,0,2,0,0,0,0,0] a]) (by exact⟨b0,by omega,trivial⟩)
set_option maxHeartbeats 2000000 in
set_option maxRecDepth 100000 in
theorem aPB (N C1 C2:Int) (b0:1≤N∧N≤10000) (hC1:N=((Lc.dec C1).length:Int)) (hC2:N=((Lc.dec C2).length:Int)) (a:Nat) (ha:(a:Int)≤N):Sx.sC (uJ Try.prog) G (jN N C2 a) (aZ G (jN N C2) (dJ ([N]++[C1,C2])) 1 (.lit true) (fun a=>(a:Int)≤N) (fun a=>N.toNat-a) a) []:=by
 refine aG nB (fun h0=>?_) (fun h0=>?_)
 ·skip
  refine aH aIx ?_
  unfold nB at h0;unfold aAC;simp only[nn,jN,List.cons_append,List.nil_append,Bool.or_eq_true,aV,ne_eq]at h0;have q:G 92 [jD C2 [0,0,0,0,0,0,2,0,0,0,0,0] a,(a:Int),0,0,0,0,0,0,2,0,0,0,0,0]=jD C2 [0,0,0,0,0,0,2,0,0,0,0,0] (a+1):=tN C2 [0,0,0,0,0,0,2,0,0,0,0,0] a (by omega);have hm:N.toNat-(a+1)<N.toNat-a:=(by omega);have hg:((a+1:Nat):Int)≤N:=(by omega);clear h0;simp only[aZ];refine⟨a+1,hg,hm,cP (by simp),?_⟩;simp only[aU];clear hm hg;simp only[nn,Int.natCast_add,Int.cast_ofNat_Int,Int.natCast_one,jN,List.cons_append,List.nil_append,Bool.or_eq_true,aV,ne_eq];(repeat' refine And.intro ?_ ?_)<;>first|with_reducible exact q|with_reducible rfl|with_reducible trivial
 refine aH aIJ ?_
 unfold nB at h0;unfold aAX;simp only[nn,jN,List.cons_append,List.nil_append,Bool.or_eq_true,aV,ne_eq]at h0;have e:a=N.toNat:=(by omega);have q:jD C2 [0,0,0,0,0,0,2,0,0,0,0,0] a=G 96 [N,0,0,0,0,0,0,2,0,0,0,0,0]:=(by rw[e];exact wT C2 N [0,0,0,0,0,0,2,0,0,0,0,0] hC2 b0.1);clear h0 e;simp only[aZ];refine⟨rfl,cP (by simp),?_⟩;simp only[aU];simp only[nn,jN,List.cons_append,List.nil_append,Bool.or_eq_true,aV,ne_eq];(repeat' refine And.intro ?_ ?_)<;>first|with_reducible exact q|with_reducible rfl|with_reducible trivial
set_option maxRecDepth 100000 in
theorem aQL (N C1 C2:Int) (b0:1≤N∧N≤10000) (hC1:N=((Lc.dec C1).length:Int)) (hC2:N=((Lc.dec C2).length:Int)):dY Try.prog G (bX GB) (bC (aY Try.prog 59) 1) aH0 (dJ ([N]++[C1,C2])):=by
 intro _ _
 have e:fM G (dJ ([N]++[C1,C2])) aH0.es=jN N C2 0:=by
  rw[cR]
  rfl
 rw[e]
 exact⟨N.toNat+1,bU (ι:=Nat) (ρ:=jN N C2) (ρT:=dJ ([N]++[C1,C2])) (m:=fun a=>N.toNat-a) (Good:=fun a=>(a:Int)≤N) (run:=uJ Try.prog) (fun _=>rfl) fits rfl eE (fun a ha=>aLm N C2 b0 a ha) (fun _ _ X hX hG=>bO hX hG) (fun _ _ X hX hG=>cJ) (fun a ha=>aPB N C1 C2 b0 hC1 hC2 a ha) (by decide) (N.toNat+1) 0 (by show ((0:Nat):Int)≤N;omega) (by show N.toNat-0<N.toNat+1;omega)⟩
theorem aLw:bD (aY Try.prog 59)=[bC (aY Try.prog 59) 0,bC (aY Try.prog 59) 1]:=by kernel_rfl
set_option maxHeartbeats 1000000 in
set_option maxRecDepth 100000 in
theorem aSA (N C1 C2:Int) (b0:1≤N∧N≤10000):gZ Try.prog G GB 59 aND (dJ ([N]++[C1,C2])):=by
 refine uL 1 rfl (fun hC1=>?_)
 replace hC1:N=((Lc.dec C1).length:Int):=hC1
 refine uL 2 rfl (fun hC2=>?_)
 replace hC2:N=((Lc.dec C2).length:Int):=hC2
 refine eA (lp:=aM5) (run:=aJW Try.prog) (fun _=>rfl) fits (eL (xs:=[N]) (ls:=[C1,C2]) (by exact⟨b0,trivial⟩)) eE (fun X hX hG=>bO hX hG) (fun X hX hG fn c hf hc=>?_) rfl ?_
 ·refine eN ((congrArg bD (eV hf hc)).symm.trans aLw) ?_
  intro b hb
  simp only[List.mem_cons,List.mem_nil_iff,or_false]at hb
  rcases hb with rfl|rfl
  ·exact fT (j:=1) (by kernel_rfl) (by decide) gR
  ·refine gD hX hG (by kernel_rfl) ?_
   intro p hp'
   simp only[List.mem_cons,List.mem_nil_iff,or_false]at hp'
   rcases hp' with rfl|rfl
   ·exact aPI N C1 C2 b0 hC1 hC2
   ·exact aQL N C1 C2 b0 hC1 hC2
 ·skip
  refine aH aMa ?_
  exact⟨rfl,trivial⟩
def aBQ:Ctx→List SV→aL→Res (SV × aL):=fL GB aEf 2 (.lit true) aND
theorem aUU {X:Ctx} {ρ:Nat→Int} (hX:X.Ok ρ) (hG:X.G=G):gY Try.prog X ρ GB 59 aBQ:=by
 obtain⟨XG,XI,XV,XF⟩:=X
 simp only at hG
 subst hG
 refine dS hX ?_
 intro xs ls hw hl hp
 unfold aEf at hw
 obtain⟨x0,y0,e0,b0,h0⟩:=pX hw
 have e1:=nD h0
 subst e1 e0
 obtain⟨l0,l1,rfl⟩:=aVG hl
 exact aSA x0 l0 l1 b0
def aEm:List (Int × Int):=[(1,10000)]
def aAd:List (Int × Int):=[(1,10000),(1,24)]
def aSd:St:=⟨((.own 0 (.lit 1) none)::.any::(.int .i64 (.lit 0))::(.int .i64 (.var 1))::zzn 35 ([])),[some ([.tuple [.agg [(.own 1 (.var 0) (some (.var 0))),(.own 18 (.op .add (.var 0) (.var 1)) none),(.int .i64 (.lit (-9))),(.int .i64 (.lit 3))],.int .i64 (.lit 4),.bool (.lit false)]],aT+108),bE [.int .i64,.int .i64] (.app 96 (.cons (.var 0) (.cons (.lit (-9)) (.cons (.lit 3) .nil)))) (.var 0) 23,none,none,none,none,none,none,none,none,none,none,none,none,none,none,none,none,bE [.int .i64,.int .i64] (.var 2) (.op .add (.var 0) (.var 1)) 23]⟩
def aJI:St:=⟨((.own 0 (.lit 1) none)::.any::(.int .i64 (.lit 0))::zzn 36 ([])),[some ([.tuple [.agg [(.own 1 (.var 0) (some (.var 0))),(.own 18 (.op .add (.var 0) (.lit 24)) none),(.int .i64 (.lit (-9))),(.int .i64 (.lit 3))],.int .i64 (.lit 4),.bool (.lit false)]],aT+108),bE [.int .i64,.int .i64] (.app 96 (.cons (.var 0) (.cons (.lit (-9)) (.cons (.lit 3) .nil)))) (.var 0) 23,none,none,none,none,none,none,none,none,none,none,none,none,none,none,none,none,bE [.int .i64,.int .i64] (.app 96 (.cons (.op .add (.var 0) (.lit 24)) (.cons (.lit (-9)) (.cons (.lit 3) .nil)))) (.op .add (.var 0) (.lit 24)) 23]⟩
def aKD:LoopS:=⟨1,18,aSd,.lit true,.exit 2,aJI,.exit 2,aJI⟩
def aCB:LoopU:=⟨aKD,[(.var 0),(.lit 1),(.app 91 (.cons (.app 96 (.cons (.var 0) (.cons (.lit (-9)) (.cons (.lit 3) .nil)))) (.cons (.lit (-9)) (.cons (.lit 3) .nil))))],aAd,.lit true⟩
def rB (P:Program) (fs:List B):Res SV:=bM G GI aAd fs fun X=>eG P X GB dM eJ 4000 (bC (aY P 71) 1) aKD
def aKp:fJ:=gC 5 (sO (bX GB) [aCB]) eJ
def aIP:FunS:=⟨[(.own 0 (.lit 1) none)],[some ([.tuple [.agg [(.own 1 (.var 0) (some (.var 0))),(.con (.slice none 0 0)),(.int .i64 (.lit (-9))),(.int .i64 (.lit 3))],.int .i64 (.lit 4),.bool (.lit false)]],aT+108),bE [.int .i64,.int .i64] (.app 96 (.cons (.var 0) (.cons (.lit (-9)) (.cons (.lit 3) .nil)))) (.var 0) 23],.lit true,(.tuple []),[some ([.tuple [.agg [(.own 1 (.var 0) (some (.var 0))),(.own 2 (.op .add (.var 0) (.lit 24)) none),(.int .i64 (.lit (-9))),(.int .i64 (.lit 3))],.int .i64 (.lit 4),.bool (.lit false)]],aT+108),bE [.int .i64,.int .i64] (.app 96 (.cons (.var 0) (.cons (.lit (-9)) (.cons (.lit 3) .nil)))) (.var 0) 23,bE [.int .i64,.int .i64] (.app 96 (.cons (.op .add (.var 0) (.lit 24)) (.cons (.lit (-9)) (.cons (.lit 3) .nil)))) (.op .add (.var 0) (.lit 24)) 23],(.tuple []),[some ([.tuple [.agg [(.own 1 (.var 0) (some (.var 0))),(.own 2 (.op .add (.var 0) (.lit 24)) none),(.int .i64 (.lit (-9))),(.int .i64 (.lit 3))],.int .i64 (.lit 4),.bool (.lit false)]],aT+108),bE [.int .i64,.int .i64] (.app 96 (.cons (.var 0) (.cons (.lit (-9)) (.cons (.lit 3) .nil)))) (.var 0) 23,bE [.int .i64,.int .i64] (.app 96 (.cons (.op .add (.var 0) (.lit 24)) (.cons (.lit (-9)) (.cons (.lit 3) .nil)))) (.op .add (.var 0) (.lit 24)) 23]⟩
def aG7 (P:Program) (fs:List B):Res SV:=bM G GI aEm fs fun X=>iL P X GB dM aKp 4000 71 aIP
def aAa:List (Int × Int):=[(1,24)]
def aRL:St:=⟨((.own 0 (.lit 1) none)::.any::(.int .i64 (.lit 0))::(.int .i64 (.var 0))::zzn 35 ([])),[some ([.tuple [.agg [(.con (.slice none 0 0)),(.own 17 (.var 0) none),(.int .i64 (.lit (-9))),(.int .i64 (.lit 3))],.int .i64 (.lit 4),.bool (.lit false)]],aT+108),none,none,none,none,none,none,none,none,none,none,none,none,none,none,none,none,bE [.int .i64,.int .i64] (.var 1) (.var 0) 23]⟩
def aKU:St:=⟨((.own 0 (.lit 1) none)::.any::(.int .i64 (.lit 0))::zzn 36 ([])),[some ([.tuple [.agg [(.con (.slice none 0 0)),(.own 17 (.lit 24) none),(.int .i64 (.lit (-9))),(.int .i64 (.lit 3))],.int .i64 (.lit 4),.bool (.lit false)]],aT+108),none,none,none,none,none,none,none,none,none,none,none,none,none,none,none,none,bE [.int .i64,.int .i64] (.app 96 (.cons (.lit 24) (.cons (.lit (-9)) (.cons (.lit 3) .nil)))) (.lit 24) 23]⟩
def aKw:LoopS:=⟨0,17,aRL,.lit true,.exit 2,aKU,.exit 2,aKU⟩
def aCw:LoopU:=⟨aKw,[(.lit 1),(.app 91 (.cons (.lit 0) (.cons (.lit (-9)) (.cons (.lit 3) .nil))))],aAa,.lit true⟩
def sA (P:Program) (fs:List B):Res SV:=bM G GI aAa fs fun X=>eG P X GB dM eJ 4000 (bC (aY P 71) 1) aKw
def aJd:fJ:=gC 5 (sO (bX GB) [aCw]) eJ
def aIu:FunS:=⟨[(.own 0 (.lit 1) none)],[some ([.tuple [.agg [(.con (.slice none 0 0)),(.con (.slice none 0 0)),(.int .i64 (.lit (-9))),(.int .i64 (.lit 3))],.int .i64 (.lit 4),.bool (.lit false)]],aT+108)],.lit true,(.tuple []),[some ([.tuple [.agg [(.con (.slice none 0 0)),(.own 1 (.lit 24) none),(.int .i64 (.lit (-9))),(.int .i64 (.lit 3))],.int .i64 (.lit 4),.bool (.lit false)]],aT+108),bE [.int .i64,.int .i64] (.app 96 (.cons (.lit 24) (.cons (.lit (-9)) (.cons (.lit 3) .nil)))) (.lit 24) 23],(.tuple []),[some ([.tuple [.agg [(.con (.slice none 0 0)),(.own 1 (.lit 24) none),(.int .i64 (.lit (-9))),(.int .i64 (.lit 3))],.int .i64 (.lit 4),.bool (.lit false)]],aT+108),bE [.int .i64,.int .i64] (.app 96 (.cons (.lit 24) (.cons (.lit (-9)) (.cons (.lit 3) .nil)))) (.lit 24) 23]⟩
def aFK (P:Program) (fs:List B):Res SV:=bM G GI [] fs fun X=>iL P X GB dM aJd 4000 71 aIu
set_option maxRecDepth 100000
open Go Go.RowKit Sx Wi
def aLU (P:Program) (fs:List B):Res SV:=aG7 P fs
def aIw:List B:=[]
theorem aIT:aLU Try.prog aIw = .ok (.tuple [(.agg []),(.bool (.lit true))]):=by kernel_rfl
set_option maxRecDepth 100000
open Go Go.RowKit Sx Wi
def aA9 (P:Program) (fs:List B):Res SV:=rB P fs
def yB:List B:=[]
def lY:B:=(.cmp .lt (.var 1) (.lit 24))
def aFF:List B:=aK lY++yB
def yG:SV:=(.agg [(.int .i64 (.op .add (.var 1) (.lit 1))),(.int .i64 (.var 1)),(.int .i64 (.op .add (.op .add (.var 0) (.var 1)) (.lit 1))),(.int .i64 (.op .add (.var 0) (.var 1))),(.int .i64 (.app 91 (.cons (.var 2) (.cons (.lit (-9)) (.cons (.lit 3) .nil))))),(.int .i64 (.var 2)),(.int .i64 (.op .add (.op .add (.var 0) (.var 1)) (.lit 1))),(.int .i64 (.op .add (.var 0) (.var 1)))])
def aG6:List B:=aK (B.neg lY)++yB
def zM:SV:=(.tuple [(.agg [(.int .i64 (.op .add (.var 0) (.var 1))),(.int .i64 (.op .add (.var 0) (.lit 24))),(.int .i64 (.var 2)),(.int .i64 (.app 96 (.cons (.op .add (.var 0) (.lit 24)) (.cons (.lit (-9)) (.cons (.lit 3) .nil))))),(.int .i64 (.op .add (.var 0) (.var 1))),(.int .i64 (.op .add (.var 0) (.lit 24)))]),(.bool (.lit true))])
theorem aFx:aA9 Try.prog aFF = .ok yG:=by kernel_rfl
theorem aF5:aA9 Try.prog aG6 = .ok zM:=by kernel_rfl
set_option maxRecDepth 100000
open Go Go.RowKit Sx Wi
def aMx (P:Program) (fs:List B):Res SV:=aFK P fs
def aHK:List B:=[]
theorem aIS:aMx Try.prog aHK = .ok (.tuple [(.agg []),(.bool (.lit true))]):=by kernel_rfl
end Go.Proofs.Ytkpdiehbaiepaaa
