/- What is proved: the run of a function over its ways,and what is known on each. No condition. -/
import Derived.Test.YtkpdiehbaiepaaaQa1
import Derived.Test.YtkpdiehbaiepaaaQNn
import Derived.Test.YtkpdiehbaiepaaaQg4
set_option linter.unusedSimpArgs false
set_option linter.unusedVariables false
set_option maxRecDepth 100000
namespace Go.Proofs.Ytkpdiehbaiepaaa
open Go Go.RowKit Sx Wi
def aBo (P:Program) (fs:List B):Res SV:=sA P fs
def yN:List B:=[]
def mE:B:=(.cmp .lt (.var 0) (.lit 24))
def aFH:List B:=aK mE++yN
def yT:SV:=(.agg [(.int .i64 (.op .add (.var 0) (.lit 1))),(.int .i64 (.var 0)),(.int .i64 (.op .add (.var 0) (.lit 1))),(.int .i64 (.var 0)),(.int .i64 (.app 91 (.cons (.var 1) (.cons (.lit (-9)) (.cons (.lit 3) .nil))))),(.int .i64 (.var 1)),(.int .i64 (.op .add (.var 0) (.lit 1))),(.int .i64 (.var 0))])
def aFX:List B:=aK (B.neg mE)++yN
theorem aHj:aBo Try.prog aFH = .ok yT:=by kernel_rfl
theorem aGG:aBo Try.prog aFX = .ok (.tuple [(.agg [(.int .i64 (.var 0)),(.int .i64 (.lit 24)),(.int .i64 (.var 1)),(.int .i64 (.app 96 (.cons (.lit 24) (.cons (.lit (-9)) (.cons (.lit 3) .nil))))),(.int .i64 (.var 0)),(.int .i64 (.lit 24))]),(.bool (.lit true))]):=by kernel_rfl
open Go Go.RowKit Sx Wi
theorem aB1:bD (aY Try.prog 71)=[bC (aY Try.prog 71) 0,bC (aY Try.prog 71) 1]:=by kernel_rfl
theorem aIf (n:Int) (h:0≤n):G 91 [G 96 [n,(-9),3],(-9),3]=G 96 [n+1,(-9),3]:=vM n [(-9),3] h
def iA (N:Int) (a:Nat):Nat→Int:=dJ ([N]++[(a:Int),G 96 [N+(a:Int),(-9),3]])
theorem aI2 (N:Int) (b0:1≤N∧N≤10000) (a:Nat) (ha:1≤a∧a≤24):∀ i q,aAd[i]?=some q→q.1≤iA N a i∧iA N a i≤q.2:=by
 unfold iA aAd
 exact eL (xs:=[N,(a:Int)]) (ls:=[G 96 [N+(a:Int),(-9),3]]) (by exact⟨b0,by omega,trivial⟩)
set_option maxHeartbeats 4000000 in
set_option maxRecDepth 100000 in
theorem aMG (N:Int) (b0:1≤N∧N≤10000) (a:Nat) (ha:1≤a∧a≤24):Sx.sC (rB Try.prog) G (iA N a) (aZ G (iA N) (dJ [N]) 1 (.lit true) (fun a=>1≤a∧a≤24) (fun a=>24-a) a) []:=by
 refine aG lY (fun h0=>?_) (fun h0=>?_)
 ·skip
  refine aH aFx ?_
  unfold lY at h0;unfold yG;simp only[nn,iA,List.cons_append,List.nil_append,Bool.or_eq_true,aV,ne_eq]at h0;have q:G 91 [G 96 [N+(a:Int),(-9),3],(-9),3]=G 96 [N+((a:Int)+1),(-9),3]:=(by rw[aIf (N+(a:Int)) (by omega),Int.add_assoc]);have hm:24-(a+1)<24-a:=(by omega);have hg:1≤a+1∧a+1≤24:=(by omega);clear h0;simp only[aZ];refine⟨a+1,hg,hm,cP (by simp),?_⟩;simp only[aU];clear hm hg;simp only[nn,Int.natCast_add,Int.cast_ofNat_Int,Int.natCast_one,iA,List.cons_append,List.nil_append,Bool.or_eq_true,aV,ne_eq];(repeat' refine And.intro ?_ ?_)<;>first|with_reducible exact q|with_reducible rfl|with_reducible trivial|exact Int.add_assoc _ _ _|(clear q;omega)
 refine aH aF5 ?_
 unfold lY at h0;unfold zM;simp only[nn,iA,List.cons_append,List.nil_append,Bool.or_eq_true,aV,ne_eq]at h0;have e:(a:Int)=24:=(by omega);clear h0;simp only[aZ];refine⟨rfl,gA (by simp),?_⟩;simp only[aU];simp only[nn,iA,List.cons_append,List.nil_append,Bool.or_eq_true,aV,ne_eq];try rw[e];all_goals ((repeat' refine And.intro ?_ ?_)<;>first|with_reducible rfl|with_reducible trivial)
set_option maxRecDepth 100000 in
theorem aMt (N:Int) (b0:1≤N∧N≤10000):dY Try.prog G (bX GB) (bC (aY Try.prog 71) 1) aCB (dJ [N]):=by
 intro _ _
 have e:fM G (dJ [N]) aCB.es=iA N 1:=by
  rw[cR]
  unfold iA
  rw[show G 96 [N+((1:Nat):Int),(-9),3]=_ from(aIf N (by omega)).symm]
  rfl
 rw[e]
 exact⟨25,bU (ι:=Nat) (ρ:=iA N) (ρT:=dJ [N]) (m:=fun a=>24-a) (Good:=fun a=>1≤a∧a≤24) (run:=rB Try.prog) (fun _=>rfl) fits rfl eE (fun a ha=>aI2 N b0 a ha) (fun _ _ X hX hG=>bO hX hG) (fun _ _ X hX hG=>cJ) (fun a ha=>aMG N b0 a ha) (by decide) 25 1 (by decide) (by decide)⟩
set_option maxHeartbeats 1000000 in
set_option maxRecDepth 100000 in
theorem aQN (N:Int) (b0:1≤N∧N≤10000):gZ Try.prog G GB 71 aIP (dJ [N]):=by
 refine eA (lp:=aKp) (run:=aG7 Try.prog) (fun _=>rfl) fits (cM ⟨b0,trivial⟩) eE (fun X hX hG=>bO hX hG) (fun X hX hG fn c hf hc=>?_) rfl ?_
 ·refine eN ((congrArg bD (eV hf hc)).symm.trans aB1) ?_
  intro b hb
  simp only[List.mem_cons,List.mem_nil_iff,or_false]at hb
  rcases hb with rfl|rfl
  ·exact fT (j:=1) (by kernel_rfl) (by decide) gR
  ·refine vI hX hG (by kernel_rfl) ?_
   intro p hp'
   simp only[List.mem_cons,List.mem_nil_iff,or_false]at hp'
   subst hp'
   exact aMt N b0
 ·skip
  refine aH aIT ?_
  exact⟨rfl,trivial⟩
def aA4:Ctx→List SV→aL→Res (SV × aL):=fL GB aEm 0 (.lit true) aIP
theorem aRk {X:Ctx} {ρ:Nat→Int} (hX:X.Ok ρ) (hG:X.G=G):gY Try.prog X ρ GB 71 aA4:=by
 obtain⟨XG,XI,XV,XF⟩:=X
 simp only at hG
 subst hG
 refine dS hX ?_
 intro xs ls hw hl hp
 unfold aEm at hw
 obtain⟨x0,y0,e0,b0,h0⟩:=pX hw
 have e1:=nD h0
 subst e1 e0
 have hl':ls=[]:=List.length_eq_zero_iff.1 hl
 subst hl'
 exact by rw[List.append_nil];exact aQN x0 b0
def iC (a:Nat):Nat→Int:=dJ (([]:List Int)++[(a:Int),G 96 [(a:Int),(-9),3]])
theorem aIt (a:Nat) (ha:1≤a∧a≤24):∀ i q,aAa[i]?=some q→q.1≤iC a i∧iC a i≤q.2:=by
 unfold iC aAa
 exact eL (xs:=[(a:Int)]) (ls:=[G 96 [(a:Int),(-9),3]]) (by exact⟨by omega,trivial⟩)
set_option maxHeartbeats 4000000 in
set_option maxRecDepth 100000 in
theorem aK8 (a:Nat) (ha:1≤a∧a≤24):Sx.sC (sA Try.prog) G (iC a) (aZ G (iC) (dJ ([]:List Int)) 0 (.lit true) (fun a=>1≤a∧a≤24) (fun a=>24-a) a) []:=by
 refine aG mE (fun h0=>?_) (fun h0=>?_)
 ·skip
  refine aH aHj ?_
  unfold mE at h0;unfold yT;simp only[nn,iC,List.cons_append,List.nil_append,Bool.or_eq_true,aV,ne_eq]at h0;have q:=aIf (a:Int) (by omega);have hm:24-(a+1)<24-a:=(by omega);have hg:1≤a+1∧a+1≤24:=(by omega);clear h0;simp only[aZ];refine⟨a+1,hg,hm,cP (by simp),?_⟩;simp only[aU];clear hm hg;simp only[nn,Int.natCast_add,Int.cast_ofNat_Int,Int.natCast_one,iC,List.cons_append,List.nil_append,Bool.or_eq_true,aV,ne_eq];(repeat' refine And.intro ?_ ?_)<;>first|with_reducible exact q|with_reducible rfl|with_reducible trivial|exact Int.add_assoc _ _ _|(clear q;omega)
 refine aH aGG ?_
 unfold mE at h0;simp only[nn,iC,List.cons_append,List.nil_append,Bool.or_eq_true,aV,ne_eq]at h0;have e:(a:Int)=24:=(by omega);clear h0;simp only[aZ];refine⟨rfl,gA (by simp),?_⟩;simp only[aU];simp only[nn,iC,List.cons_append,List.nil_append,Bool.or_eq_true,aV,ne_eq];try rw[e];all_goals ((repeat' refine And.intro ?_ ?_)<;>first|with_reducible rfl|with_reducible trivial)
set_option maxRecDepth 100000 in
theorem aL4:dY Try.prog G (bX GB) (bC (aY Try.prog 71) 1) aCw (dJ ([]:List Int)):=by
 intro _ _
 have e:fM G (dJ ([]:List Int)) aCw.es=iC 1:=by
  rw[cR]
  unfold iC
  rw[show G 96 [((1:Nat):Int),(-9),3]=_ from(aDM [(-9),3]).symm]
  rfl
 rw[e]
 exact⟨25,bU (ι:=Nat) (ρ:=iC) (ρT:=dJ ([]:List Int)) (m:=fun a=>24-a) (Good:=fun a=>1≤a∧a≤24) (run:=sA Try.prog) (fun _=>rfl) fits rfl eE (fun a ha=>aIt a ha) (fun _ _ X hX hG=>bO hX hG) (fun _ _ X hX hG=>cJ) (fun a ha=>aK8 a ha) (by decide) 25 1 (by decide) (by decide)⟩
set_option maxHeartbeats 1000000 in
set_option maxRecDepth 100000 in
theorem aN5:gZ Try.prog G GB 71 aIu (dJ ([]:List Int)):=by
 refine eA (lp:=aJd) (run:=aFK Try.prog) (fun _=>rfl) fits (cM trivial) eE (fun X hX hG=>bO hX hG) (fun X hX hG fn c hf hc=>?_) rfl ?_
 ·refine eN ((congrArg bD (eV hf hc)).symm.trans aB1) ?_
  intro b hb
  simp only[List.mem_cons,List.mem_nil_iff,or_false]at hb
  rcases hb with rfl|rfl
  ·exact fT (j:=1) (by kernel_rfl) (by decide) gR
  ·refine vI hX hG (by kernel_rfl) ?_
   intro p hp'
   simp only[List.mem_cons,List.mem_nil_iff,or_false]at hp'
   subst hp'
   exact aL4
 ·skip
  refine aH aIS ?_
  exact⟨rfl,trivial⟩
def aAk:Ctx→List SV→aL→Res (SV × aL):=fL GB [] 0 (.lit true) aIu
theorem aRN {X:Ctx} {ρ:Nat→Int} (hX:X.Ok ρ) (hG:X.G=G):gY Try.prog X ρ GB 71 aAk:=by
 obtain⟨XG,XI,XV,XF⟩:=X
 simp only at hG
 subst hG
 refine dS hX ?_
 intro xs ls hw hl hp
 have e0:=nD hw
 subst e0
 have hl':ls=[]:=List.length_eq_zero_iff.1 hl
 subst hl'
 exact aN5
def aBP:=wY aA4 aAk
theorem aUN {X:Ctx} {ρ:Nat→Int} (hX:X.Ok ρ) (hG:X.G=G):gY Try.prog X ρ GB 71 aBP:=sM (aRk hX hG) (aRN hX hG)
def aEt:List (Int × Int):=[(1,10000)]
def nP:List (Int × Int):=[(1,10000),(1,24)]
def aSa:St:=⟨((.own 0 (.lit 2) none)::.any::(.int .i64 (.lit 0))::(.int .i64 (.var 1))::zzn 35 ([])),[zzS (.own 1 (.var 0) (some (.var 0))) (.own 19 (.op .add (.var 0) (.var 1)) none) (.own 2 (.var 0) (some (.var 0))) (.con (.slice none 0 0)),bE zzK (zz1 (.var 0)) (.var 0) 54,bE zzK (zz2 (.var 0)) (.var 0) 54,none,none,none,none,none,none,none,none,none,none,none,none,none,none,none,none,bE zzK (.var 2) (.op .add (.var 0) (.var 1)) 54]⟩
def aJa:St:=⟨((.own 0 (.lit 2) none)::.any::(.int .i64 (.lit 0))::zzn 36 ([])),[zzS (.own 1 (.var 0) (some (.var 0))) (.own 19 (.op .add (.var 0) (.lit 24)) none) (.own 2 (.var 0) (some (.var 0))) (.con (.slice none 0 0)),bE zzK (zz1 (.var 0)) (.var 0) 54,bE zzK (zz2 (.var 0)) (.var 0) 54,none,none,none,none,none,none,none,none,none,none,none,none,none,none,none,none,bE zzK (zz1 (.op .add (.var 0) (.lit 24))) (.op .add (.var 0) (.lit 24)) 54]⟩
def aKg:LoopS:=⟨1,19,aSa,.lit true,.exit 2,aJa,.exit 2,aJa⟩
def aDG:LoopU:=⟨aKg,[(.var 0),(.lit 1),(.app 91 (.cons (zz1 (.var 0)) (.cons (.lit 0) (.cons (.lit 0) (.cons (.lit 0) (.cons (.lit 0) (.cons (.lit 0) (.cons (.lit 0) (.cons (.lit 1) (.cons (.lit 0) (.cons (.lit 0) (.cons (.lit 0) (.cons (.lit 0) (.cons (.lit 0) .nil))))))))))))))],nP,.lit true⟩
def rU (P:Program) (fs:List B):Res SV:=bM G GI nP fs fun X=>eG P X GB dM eJ 4000 (bC (aY P 72) 1) aKg
def aRu:St:=⟨((.own 0 (.lit 2) none)::.any::(.int .i64 (.lit 1))::(.int .i64 (.var 1))::zzn 35 ([])),[zzS (.own 1 (.var 0) (some (.var 0))) (.own 19 (.op .add (.var 0) (.lit 24)) none) (.own 2 (.var 0) (some (.var 0))) (.own 36 (.op .add (.var 0) (.var 1)) none),bE zzK (zz1 (.var 0)) (.var 0) 54,bE zzK (zz2 (.var 0)) (.var 0) 54,none,none,none,none,none,none,none,none,none,none,none,none,none,none,none,none,bE zzK (zz1 (.op .add (.var 0) (.lit 24))) (.op .add (.var 0) (.lit 24)) 54,none,none,none,none,none,none,none,none,none,none,none,none,none,none,none,none,bE zzK (.var 2) (.op .add (.var 0) (.var 1)) 54]⟩
def aKY:St:=⟨((.own 0 (.lit 2) none)::.any::(.int .i64 (.lit 1))::zzn 36 ([])),[zzS (.own 1 (.var 0) (some (.var 0))) (.own 19 (.op .add (.var 0) (.lit 24)) none) (.own 2 (.var 0) (some (.var 0))) (.own 36 (.op .add (.var 0) (.lit 24)) none),bE zzK (zz1 (.var 0)) (.var 0) 54,bE zzK (zz2 (.var 0)) (.var 0) 54,none,none,none,none,none,none,none,none,none,none,none,none,none,none,none,none,bE zzK (zz1 (.op .add (.var 0) (.lit 24))) (.op .add (.var 0) (.lit 24)) 54,none,none,none,none,none,none,none,none,none,none,none,none,none,none,none,none,bE zzK (zz2 (.op .add (.var 0) (.lit 24))) (.op .add (.var 0) (.lit 24)) 54]⟩
def aJJ:LoopS:=⟨1,36,aRu,.lit true,.exit 2,aKY,.exit 2,aKY⟩
def aDI:LoopU:=⟨aJJ,[(.var 0),(.lit 1),(.app 91 (.cons (zz2 (.var 0)) (.cons (.lit 0) (.cons (.lit 0) (.cons (.lit 0) (.cons (.lit 0) (.cons (.lit 0) (.cons (.lit 0) (.cons (.lit 2) (.cons (.lit 0) (.cons (.lit 0) (.cons (.lit 0) (.cons (.lit 0) (.cons (.lit 0) .nil))))))))))))))],nP,.lit true⟩
def qT (P:Program) (fs:List B):Res SV:=bM G GI nP fs fun X=>eG P X GB dM eJ 4000 (bC (aY P 72) 1) aJJ
def aKc:fJ:=gC 5 (sO (bX GB) [aDG,aDI]) eJ
def aIO:FunS:=⟨[(.own 0 (.lit 2) none)],[zzS (.own 1 (.var 0) (some (.var 0))) (.con (.slice none 0 0)) (.own 2 (.var 0) (some (.var 0))) (.con (.slice none 0 0)),bE zzK (zz1 (.var 0)) (.var 0) 54,bE zzK (zz2 (.var 0)) (.var 0) 54],.lit true,(.tuple []),[zzS (.own 1 (.var 0) (some (.var 0))) (.own 3 (.op .add (.var 0) (.lit 24)) none) (.own 2 (.var 0) (some (.var 0))) (.own 4 (.op .add (.var 0) (.lit 24)) none),bE zzK (zz1 (.var 0)) (.var 0) 54,bE zzK (zz2 (.var 0)) (.var 0) 54,bE zzK (zz1 (.op .add (.var 0) (.lit 24))) (.op .add (.var 0) (.lit 24)) 54,bE zzK (zz2 (.op .add (.var 0) (.lit 24))) (.op .add (.var 0) (.lit 24)) 54],(.tuple []),[zzS (.own 1 (.var 0) (some (.var 0))) (.own 3 (.op .add (.var 0) (.lit 24)) none) (.own 2 (.var 0) (some (.var 0))) (.own 4 (.op .add (.var 0) (.lit 24)) none),bE zzK (zz1 (.var 0)) (.var 0) 54,bE zzK (zz2 (.var 0)) (.var 0) 54,bE zzK (zz1 (.op .add (.var 0) (.lit 24))) (.op .add (.var 0) (.lit 24)) 54,bE zzK (zz2 (.op .add (.var 0) (.lit 24))) (.op .add (.var 0) (.lit 24)) 54]⟩
def aGa (P:Program) (fs:List B):Res SV:=bM G GI aEt fs fun X=>iL P X GB dM aKc 4000 72 aIO
def nQ:List (Int × Int):=[(1,24)]
def aRH:St:=⟨((.own 0 (.lit 2) none)::.any::(.int .i64 (.lit 0))::(.int .i64 (.var 0))::zzn 35 ([])),[zzS (.con (.slice none 0 0)) (.own 17 (.var 0) none) (.con (.slice none 0 0)) (.con (.slice none 0 0)),none,none,none,none,none,none,none,none,none,none,none,none,none,none,none,none,bE zzK (.var 1) (.var 0) 54]⟩
def aKZ:St:=⟨((.own 0 (.lit 2) none)::.any::(.int .i64 (.lit 0))::zzn 36 ([])),[zzS (.con (.slice none 0 0)) (.own 17 (.lit 24) none) (.con (.slice none 0 0)) (.con (.slice none 0 0)),none,none,none,none,none,none,none,none,none,none,none,none,none,none,none,none,bE zzK (zz1 (.lit 24)) (.lit 24) 54]⟩
def aJU:LoopS:=⟨0,17,aRH,.lit true,.exit 2,aKZ,.exit 2,aKZ⟩
def aCu:LoopU:=⟨aJU,[(.lit 1),(.app 91 (.cons (.lit 0) (.cons (.lit 0) (.cons (.lit 0) (.cons (.lit 0) (.cons (.lit 0) (.cons (.lit 0) (.cons (.lit 0) (.cons (.lit 1) (.cons (.lit 0) (.cons (.lit 0) (.cons (.lit 0) (.cons (.lit 0) (.cons (.lit 0) .nil))))))))))))))],nQ,.lit true⟩
def rH (P:Program) (fs:List B):Res SV:=bM G GI nQ fs fun X=>eG P X GB dM eJ 4000 (bC (aY P 72) 1) aJU
def aSF:St:=⟨((.own 0 (.lit 2) none)::.any::(.int .i64 (.lit 1))::(.int .i64 (.var 0))::zzn 35 ([])),[zzS (.con (.slice none 0 0)) (.own 17 (.lit 24) none) (.con (.slice none 0 0)) (.own 34 (.var 0) none),none,none,none,none,none,none,none,none,none,none,none,none,none,none,none,none,bE zzK (zz1 (.lit 24)) (.lit 24) 54,none,none,none,none,none,none,none,none,none,none,none,none,none,none,none,none,bE zzK (.var 1) (.var 0) 54]⟩
def aJO:St:=⟨((.own 0 (.lit 2) none)::.any::(.int .i64 (.lit 1))::zzn 36 ([])),[zzS (.con (.slice none 0 0)) (.own 17 (.lit 24) none) (.con (.slice none 0 0)) (.own 34 (.lit 24) none),none,none,none,none,none,none,none,none,none,none,none,none,none,none,none,none,bE zzK (zz1 (.lit 24)) (.lit 24) 54,none,none,none,none,none,none,none,none,none,none,none,none,none,none,none,none,bE zzK (zz2 (.lit 24)) (.lit 24) 54]⟩
def aKE:LoopS:=⟨0,34,aSF,.lit true,.exit 2,aJO,.exit 2,aJO⟩
def aDJ:LoopU:=⟨aKE,[(.lit 1),(.app 91 (.cons (.lit 0) (.cons (.lit 0) (.cons (.lit 0) (.cons (.lit 0) (.cons (.lit 0) (.cons (.lit 0) (.cons (.lit 0) (.cons (.lit 2) (.cons (.lit 0) (.cons (.lit 0) (.cons (.lit 0) (.cons (.lit 0) (.cons (.lit 0) .nil))))))))))))))],nQ,.lit true⟩
def qY (P:Program) (fs:List B):Res SV:=bM G GI nQ fs fun X=>eG P X GB dM eJ 4000 (bC (aY P 72) 1) aKE
def aJi:fJ:=gC 5 (sO (bX GB) [aCu,aDJ]) eJ
def aIo:FunS:=⟨[(.own 0 (.lit 2) none)],[zzS (.con (.slice none 0 0)) (.con (.slice none 0 0)) (.con (.slice none 0 0)) (.con (.slice none 0 0))],.lit true,(.tuple []),[zzS (.con (.slice none 0 0)) (.own 1 (.lit 24) none) (.con (.slice none 0 0)) (.own 2 (.lit 24) none),bE zzK (zz1 (.lit 24)) (.lit 24) 54,bE zzK (zz2 (.lit 24)) (.lit 24) 54],(.tuple []),[zzS (.con (.slice none 0 0)) (.own 1 (.lit 24) none) (.con (.slice none 0 0)) (.own 2 (.lit 24) none),bE zzK (zz1 (.lit 24)) (.lit 24) 54,bE zzK (zz2 (.lit 24)) (.lit 24) 54]⟩
def aFh (P:Program) (fs:List B):Res SV:=bM G GI [] fs fun X=>iL P X GB dM aJi 4000 72 aIo
set_option maxRecDepth 100000
open Go Go.RowKit Sx Wi
def aK6 (P:Program) (fs:List B):Res SV:=aGa P fs
def aHL:List B:=[]
theorem aIc:aK6 Try.prog aHL = .ok (.tuple [(.agg []),(.bool (.lit true))]):=by kernel_rfl
set_option maxRecDepth 100000
open Go Go.RowKit Sx Wi
def aA8 (P:Program) (fs:List B):Res SV:=rU P fs
def yX:List B:=[]
def lV:B:=(.cmp .lt (.var 1) (.lit 24))
def aFc:List B:=aK lV++yX
def yK:SV:=(.agg [(.int .i64 (.op .add (.var 1) (.lit 1))),(.int .i64 (.var 1)),(.int .i64 (.op .add (.op .add (.var 0) (.var 1)) (.lit 1))),(.int .i64 (.op .add (.var 0) (.var 1))),(.int .i64 (.app 91 (.cons (.var 2) (.cons (.lit 0) (.cons (.lit 0) (.cons (.lit 0) (.cons (.lit 0) (.cons (.lit 0) (.cons (.lit 0) (.cons (.lit 1) (.cons (.lit 0) (.cons (.lit 0) (.cons (.lit 0) (.cons (.lit 0) (.cons (.lit 0) .nil))))))))))))))),(.int .i64 (.var 2)),(.int .i64 (.op .add (.op .add (.var 0) (.var 1)) (.lit 1))),(.int .i64 (.op .add (.var 0) (.var 1)))])
def aGi:List B:=aK (B.neg lV)++yX
def xY:SV:=(.tuple [(.agg [(.int .i64 (.op .add (.var 0) (.var 1))),(.int .i64 (.op .add (.var 0) (.lit 24))),(.int .i64 (.var 2)),(.int .i64 (zz1 (.op .add (.var 0) (.lit 24)))),(.int .i64 (.op .add (.var 0) (.var 1))),(.int .i64 (.op .add (.var 0) (.lit 24)))]),(.bool (.lit true))])
theorem aGI:aA8 Try.prog aFc = .ok yK:=by kernel_rfl
theorem aGJ:aA8 Try.prog aGi = .ok xY:=by kernel_rfl
set_option maxRecDepth 100000
open Go Go.RowKit Sx Wi
def aAm (P:Program) (fs:List B):Res SV:=qT P fs
def yI:List B:=[]
def lW:B:=(.cmp .lt (.var 1) (.lit 24))
def aEP:List B:=aK lW++yI
def zJ:SV:=(.agg [(.int .i64 (.op .add (.var 1) (.lit 1))),(.int .i64 (.var 1)),(.int .i64 (.op .add (.op .add (.var 0) (.var 1)) (.lit 1))),(.int .i64 (.op .add (.var 0) (.var 1))),(.int .i64 (.app 91 (.cons (.var 2) (.cons (.lit 0) (.cons (.lit 0) (.cons (.lit 0) (.cons (.lit 0) (.cons (.lit 0) (.cons (.lit 0) (.cons (.lit 2) (.cons (.lit 0) (.cons (.lit 0) (.cons (.lit 0) (.cons (.lit 0) (.cons (.lit 0) .nil))))))))))))))),(.int .i64 (.var 2)),(.int .i64 (.op .add (.op .add (.var 0) (.var 1)) (.lit 1))),(.int .i64 (.op .add (.var 0) (.var 1)))])
def aE0:List B:=aK (B.neg lW)++yI
def yO:SV:=(.tuple [(.agg [(.int .i64 (.op .add (.var 0) (.var 1))),(.int .i64 (.op .add (.var 0) (.lit 24))),(.int .i64 (.var 2)),(.int .i64 (zz2 (.op .add (.var 0) (.lit 24)))),(.int .i64 (.op .add (.var 0) (.var 1))),(.int .i64 (.op .add (.var 0) (.lit 24)))]),(.bool (.lit true))])
theorem aGH:aAm Try.prog aEP = .ok zJ:=by kernel_rfl
theorem aGX:aAm Try.prog aE0 = .ok yO:=by kernel_rfl
set_option maxRecDepth 100000
open Go Go.RowKit Sx Wi
def aLv (P:Program) (fs:List B):Res SV:=aFh P fs
def aIl:List B:=[]
theorem aHt:aLv Try.prog aIl = .ok (.tuple [(.agg []),(.bool (.lit true))]):=by kernel_rfl
set_option maxRecDepth 100000
open Go Go.RowKit Sx Wi
def aBa (P:Program) (fs:List B):Res SV:=rH P fs
def zN:List B:=[]
def mD:B:=(.cmp .lt (.var 0) (.lit 24))
def aFN:List B:=aK mD++zN
def yQ:SV:=(.agg [(.int .i64 (.op .add (.var 0) (.lit 1))),(.int .i64 (.var 0)),(.int .i64 (.op .add (.var 0) (.lit 1))),(.int .i64 (.var 0)),(.int .i64 (.app 91 (.cons (.var 1) (.cons (.lit 0) (.cons (.lit 0) (.cons (.lit 0) (.cons (.lit 0) (.cons (.lit 0) (.cons (.lit 0) (.cons (.lit 1) (.cons (.lit 0) (.cons (.lit 0) (.cons (.lit 0) (.cons (.lit 0) (.cons (.lit 0) .nil))))))))))))))),(.int .i64 (.var 1)),(.int .i64 (.op .add (.var 0) (.lit 1))),(.int .i64 (.var 0))])
def aFf:List B:=aK (B.neg mD)++zN
def yP:SV:=(.tuple [(.agg [(.int .i64 (.var 0)),(.int .i64 (.lit 24)),(.int .i64 (.var 1)),(.int .i64 (zz1 (.lit 24))),(.int .i64 (.var 0)),(.int .i64 (.lit 24))]),(.bool (.lit true))])
theorem aEX:aBa Try.prog aFN = .ok yQ:=by kernel_rfl
theorem aGO:aBa Try.prog aFf = .ok yP:=by kernel_rfl
set_option maxRecDepth 100000
open Go Go.RowKit Sx Wi
def aBg (P:Program) (fs:List B):Res SV:=qY P fs
def yE:List B:=[]
def lX:B:=(.cmp .lt (.var 0) (.lit 24))
def aHc:List B:=aK lX++yE
def yR:SV:=(.agg [(.int .i64 (.op .add (.var 0) (.lit 1))),(.int .i64 (.var 0)),(.int .i64 (.op .add (.var 0) (.lit 1))),(.int .i64 (.var 0)),(.int .i64 (.app 91 (.cons (.var 1) (.cons (.lit 0) (.cons (.lit 0) (.cons (.lit 0) (.cons (.lit 0) (.cons (.lit 0) (.cons (.lit 0) (.cons (.lit 2) (.cons (.lit 0) (.cons (.lit 0) (.cons (.lit 0) (.cons (.lit 0) (.cons (.lit 0) .nil))))))))))))))),(.int .i64 (.var 1)),(.int .i64 (.op .add (.var 0) (.lit 1))),(.int .i64 (.var 0))])
def aEF:List B:=aK (B.neg lX)++yE
def yL:SV:=(.tuple [(.agg [(.int .i64 (.var 0)),(.int .i64 (.lit 24)),(.int .i64 (.var 1)),(.int .i64 (zz2 (.lit 24))),(.int .i64 (.var 0)),(.int .i64 (.lit 24))]),(.bool (.lit true))])
theorem aFL:aBg Try.prog aHc = .ok yR:=by kernel_rfl
theorem aF3:aBg Try.prog aEF = .ok yL:=by kernel_rfl
open Go Go.RowKit Sx Wi
theorem aCd:bD (aY Try.prog 72)=[bC (aY Try.prog 72) 0,bC (aY Try.prog 72) 1]:=by kernel_rfl
theorem aHG (n:Int) (h:0≤n):G 91 [G 96 [n,0,0,0,0,0,0,1,0,0,0,0,0],0,0,0,0,0,0,1,0,0,0,0,0]=G 96 [n+1,0,0,0,0,0,0,1,0,0,0,0,0]:=vM n [0,0,0,0,0,0,1,0,0,0,0,0] h
theorem aIb (n:Int) (h:0≤n):G 91 [G 96 [n,0,0,0,0,0,0,2,0,0,0,0,0],0,0,0,0,0,0,2,0,0,0,0,0]=G 96 [n+1,0,0,0,0,0,0,2,0,0,0,0,0]:=vM n [0,0,0,0,0,0,2,0,0,0,0,0] h
def iE (N:Int) (a:Nat):Nat→Int:=dJ ([N]++[(a:Int),G 96 [N+(a:Int),0,0,0,0,0,0,1,0,0,0,0,0]])
theorem aHC (N:Int) (b0:1≤N∧N≤10000) (a:Nat) (ha:1≤a∧a≤24):∀ i q,nP[i]?=some q→q.1≤iE N a i∧iE N a i≤q.2:=by
 unfold iE nP
 exact eL (xs:=[N,(a:Int)]) (ls:=[G 96 [N+(a:Int),0,0,0,0,0,0,1,0,0,0,0,0]]) (by exact⟨b0,by omega,trivial⟩)
set_option maxHeartbeats 4000000 in
set_option maxRecDepth 100000 in
theorem aK5 (N:Int) (b0:1≤N∧N≤10000) (a:Nat) (ha:1≤a∧a≤24):Sx.sC (rU Try.prog) G (iE N a) (aZ G (iE N) (dJ [N]) 1 (.lit true) (fun a=>1≤a∧a≤24) (fun a=>24-a) a) []:=by
 refine aG lV (fun h0=>?_) (fun h0=>?_)
 ·skip
  refine aH aGI ?_
  unfold lV at h0;unfold yK;simp only[nn,iE,List.cons_append,List.nil_append,Bool.or_eq_true,aV,ne_eq]at h0;have q:G 91 [G 96 [N+(a:Int),0,0,0,0,0,0,1,0,0,0,0,0],0,0,0,0,0,0,1,0,0,0,0,0]=G 96 [N+((a:Int)+1),0,0,0,0,0,0,1,0,0,0,0,0]:=(by rw[aHG (N+(a:Int)) (by omega),Int.add_assoc]);have hm:24-(a+1)<24-a:=(by omega);have hg:1≤a+1∧a+1≤24:=(by omega);clear h0;simp only[aZ];refine⟨a+1,hg,hm,cP (by simp),?_⟩;simp only[aU];clear hm hg;simp only[nn,Int.natCast_add,Int.cast_ofNat_Int,Int.natCast_one,iE,List.cons_append,List.nil_append,Bool.or_eq_true,aV,ne_eq];(repeat' refine And.intro ?_ ?_)<;>first|with_reducible exact q|with_reducible rfl|with_reducible trivial|exact Int.add_assoc _ _ _|(clear q;omega)
 refine aH aGJ ?_
 unfold lV at h0;unfold xY;simp only[nn,iE,List.cons_append,List.nil_append,Bool.or_eq_true,aV,ne_eq]at h0;have e:(a:Int)=24:=(by omega);clear h0;simp only[aZ];refine⟨rfl,gA (by simp),?_⟩;simp only[aU];simp only[nn,iE,List.cons_append,List.nil_append,Bool.or_eq_true,aV,ne_eq];try rw[e];all_goals ((repeat' refine And.intro ?_ ?_)<;>first|with_reducible rfl|with_reducible trivial)
set_option maxRecDepth 100000 in
theorem aL0 (N:Int) (b0:1≤N∧N≤10000):dY Try.prog G (bX GB) (bC (aY Try.prog 72) 1) aDG (dJ [N]):=by
 intro _ _
 have e:fM G (dJ [N]) aDG.es=iE N 1:=by
  rw[cR]
  unfold iE
  rw[show G 96 [N+((1:Nat):Int),0,0,0,0,0,0,1,0,0,0,0,0]=_ from(aHG N (by omega)).symm]
  rfl
 rw[e]
 exact⟨25,bU (ι:=Nat) (ρ:=iE N) (ρT:=dJ [N]) (m:=fun a=>24-a) (Good:=fun a=>1≤a∧a≤24) (run:=rU Try.prog) (fun _=>rfl) fits rfl eE (fun a ha=>aHC N b0 a ha) (fun _ _ X hX hG=>bO hX hG) (fun _ _ X hX hG=>cJ) (fun a ha=>aK5 N b0 a ha) (by decide) 25 1 (by decide) (by decide)⟩
def iD (N:Int) (a:Nat):Nat→Int:=dJ ([N]++[(a:Int),G 96 [N+(a:Int),0,0,0,0,0,0,2,0,0,0,0,0]])
theorem aI1 (N:Int) (b0:1≤N∧N≤10000) (a:Nat) (ha:1≤a∧a≤24):∀ i q,nP[i]?=some q→q.1≤iD N a i∧iD N a i≤q.2:=by
 unfold iD nP
 exact eL (xs:=[N,(a:Int)]) (ls:=[G 96 [N+(a:Int),0,0,0,0,0,0,2,0,0,0,0,0]]) (by exact⟨b0,by omega,trivial⟩)
set_option maxHeartbeats 4000000 in
set_option maxRecDepth 100000 in
theorem aMH (N:Int) (b0:1≤N∧N≤10000) (a:Nat) (ha:1≤a∧a≤24):Sx.sC (qT Try.prog) G (iD N a) (aZ G (iD N) (dJ [N]) 1 (.lit true) (fun a=>1≤a∧a≤24) (fun a=>24-a) a) []:=by
 refine aG lW (fun h0=>?_) (fun h0=>?_)
 ·skip
  refine aH aGH ?_
  unfold lW at h0;unfold zJ;simp only[nn,iD,List.cons_append,List.nil_append,Bool.or_eq_true,aV,ne_eq]at h0;have q:G 91 [G 96 [N+(a:Int),0,0,0,0,0,0,2,0,0,0,0,0],0,0,0,0,0,0,2,0,0,0,0,0]=G 96 [N+((a:Int)+1),0,0,0,0,0,0,2,0,0,0,0,0]:=(by rw[aIb (N+(a:Int)) (by omega),Int.add_assoc]);have hm:24-(a+1)<24-a:=(by omega);have hg:1≤a+1∧a+1≤24:=(by omega);clear h0;simp only[aZ];refine⟨a+1,hg,hm,cP (by simp),?_⟩;simp only[aU];clear hm hg;simp only[nn,Int.natCast_add,Int.cast_ofNat_Int,Int.natCast_one,iD,List.cons_append,List.nil_append,Bool.or_eq_true,aV,ne_eq];(repeat' refine And.intro ?_ ?_)<;>first|with_reducible exact q|with_reducible rfl|with_reducible trivial|exact Int.add_assoc _ _ _|(clear q;omega)
 refine aH aGX ?_
 unfold lW at h0;unfold yO;simp only[nn,iD,List.cons_append,List.nil_append,Bool.or_eq_true,aV,ne_eq]at h0;have e:(a:Int)=24:=(by omega);clear h0;simp only[aZ];refine⟨rfl,gA (by simp),?_⟩;simp only[aU];simp only[nn,iD,List.cons_append,List.nil_append,Bool.or_eq_true,aV,ne_eq];try rw[e];all_goals ((repeat' refine And.intro ?_ ?_)<;>first|with_reducible rfl|with_reducible trivial)
set_option maxRecDepth 100000 in
theorem aLs (N:Int) (b0:1≤N∧N≤10000):dY Try.prog G (bX GB) (bC (aY Try.prog 72) 1) aDI (dJ [N]):=by
 intro _ _
 have e:fM G (dJ [N]) aDI.es=iD N 1:=by
  rw[cR]
  unfold iD
  rw[show G 96 [N+((1:Nat):Int),0,0,0,0,0,0,2,0,0,0,0,0]=_ from(aIb N (by omega)).symm]
  rfl
 rw[e]
 exact⟨25,bU (ι:=Nat) (ρ:=iD N) (ρT:=dJ [N]) (m:=fun a=>24-a) (Good:=fun a=>1≤a∧a≤24) (run:=qT Try.prog) (fun _=>rfl) fits rfl eE (fun a ha=>aI1 N b0 a ha) (fun _ _ X hX hG=>bO hX hG) (fun _ _ X hX hG=>cJ) (fun a ha=>aMH N b0 a ha) (by decide) 25 1 (by decide) (by decide)⟩
set_option maxHeartbeats 1000000 in
set_option maxRecDepth 100000 in
theorem aNP (N:Int) (b0:1≤N∧N≤10000):gZ Try.prog G GB 72 aIO (dJ [N]):=by
 refine eA (lp:=aKc) (run:=aGa Try.prog) (fun _=>rfl) fits (cM ⟨b0,trivial⟩) eE (fun X hX hG=>bO hX hG) (fun X hX hG fn c hf hc=>?_) rfl ?_
 ·refine eN ((congrArg bD (eV hf hc)).symm.trans aCd) ?_
  intro b hb
  simp only[List.mem_cons,List.mem_nil_iff,or_false]at hb
  rcases hb with rfl|rfl
  ·exact fT (j:=1) (by kernel_rfl) (by decide) gR
  ·refine vI hX hG (by kernel_rfl) ?_
   intro p hp'
   simp only[List.mem_cons,List.mem_nil_iff,or_false]at hp'
   rcases hp' with rfl|rfl
   ·exact aL0 N b0
   ·exact aLs N b0
 ·skip
  refine aH aIc ?_
  exact⟨rfl,trivial⟩
def aA5:Ctx→List SV→aL→Res (SV × aL):=fL GB aEt 0 (.lit true) aIO
theorem aTb {X:Ctx} {ρ:Nat→Int} (hX:X.Ok ρ) (hG:X.G=G):gY Try.prog X ρ GB 72 aA5:=by
 obtain⟨XG,XI,XV,XF⟩:=X
 simp only at hG
 subst hG
 refine dS hX ?_
 intro xs ls hw hl hp
 unfold aEt at hw
 obtain⟨x0,y0,e0,b0,h0⟩:=pX hw
 have e1:=nD h0
 subst e1 e0
 have hl':ls=[]:=List.length_eq_zero_iff.1 hl
 subst hl'
 exact by rw[List.append_nil];exact aNP x0 b0
def iB (a:Nat):Nat→Int:=dJ (([]:List Int)++[(a:Int),G 96 [(a:Int),0,0,0,0,0,0,1,0,0,0,0,0]])
theorem aIq (a:Nat) (ha:1≤a∧a≤24):∀ i q,nQ[i]?=some q→q.1≤iB a i∧iB a i≤q.2:=by
 unfold iB nQ
 exact eL (xs:=[(a:Int)]) (ls:=[G 96 [(a:Int),0,0,0,0,0,0,1,0,0,0,0,0]]) (by exact⟨by omega,trivial⟩)
set_option maxHeartbeats 4000000 in
set_option maxRecDepth 100000 in
theorem aLT (a:Nat) (ha:1≤a∧a≤24):Sx.sC (rH Try.prog) G (iB a) (aZ G (iB) (dJ ([]:List Int)) 0 (.lit true) (fun a=>1≤a∧a≤24) (fun a=>24-a) a) []:=by
 refine aG mD (fun h0=>?_) (fun h0=>?_)
 ·skip
  refine aH aEX ?_
  unfold mD at h0;unfold yQ;simp only[nn,iB,List.cons_append,List.nil_append,Bool.or_eq_true,aV,ne_eq]at h0;have q:=aHG (a:Int) (by omega);have hm:24-(a+1)<24-a:=(by omega);have hg:1≤a+1∧a+1≤24:=(by omega);clear h0;simp only[aZ];refine⟨a+1,hg,hm,cP (by simp),?_⟩;simp only[aU];clear hm hg;simp only[nn,Int.natCast_add,Int.cast_ofNat_Int,Int.natCast_one,iB,List.cons_append,List.nil_append,Bool.or_eq_true,aV,ne_eq];(repeat' refine And.intro ?_ ?_)<;>first|with_reducible exact q|with_reducible rfl|with_reducible trivial|exact Int.add_assoc _ _ _|(clear q;omega)
 refine aH aGO ?_
 unfold mD at h0;unfold yP;simp only[nn,iB,List.cons_append,List.nil_append,Bool.or_eq_true,aV,ne_eq]at h0;have e:(a:Int)=24:=(by omega);clear h0;simp only[aZ];refine⟨rfl,gA (by simp),?_⟩;simp only[aU];simp only[nn,iB,List.cons_append,List.nil_append,Bool.or_eq_true,aV,ne_eq];try rw[e];all_goals ((repeat' refine And.intro ?_ ?_)<;>first|with_reducible rfl|with_reducible trivial)
set_option maxRecDepth 100000 in
theorem aMd:dY Try.prog G (bX GB) (bC (aY Try.prog 72) 1) aCu (dJ ([]:List Int)):=by
 intro _ _
 have e:fM G (dJ ([]:List Int)) aCu.es=iB 1:=by
  rw[cR]
  unfold iB
  rw[show G 96 [((1:Nat):Int),0,0,0,0,0,0,1,0,0,0,0,0]=_ from(aDM [0,0,0,0,0,0,1,0,0,0,0,0]).symm]
  rfl
 rw[e]
 exact⟨25,bU (ι:=Nat) (ρ:=iB) (ρT:=dJ ([]:List Int)) (m:=fun a=>24-a) (Good:=fun a=>1≤a∧a≤24) (run:=rH Try.prog) (fun _=>rfl) fits rfl eE (fun a ha=>aIq a ha) (fun _ _ X hX hG=>bO hX hG) (fun _ _ X hX hG=>cJ) (fun a ha=>aLT a ha) (by decide) 25 1 (by decide) (by decide)⟩
def hZ (a:Nat):Nat→Int:=dJ (([]:List Int)++[(a:Int),G 96 [(a:Int),0,0,0,0,0,0,2,0,0,0,0,0]])
theorem aIF (a:Nat) (ha:1≤a∧a≤24):∀ i q,nQ[i]?=some q→q.1≤hZ a i∧hZ a i≤q.2:=by
 unfold hZ nQ
 exact eL (xs:=[(a:Int)]) (ls:=[G 96 [(a:Int),0,0,0,0,0,0,2,0,0,0,0,0]]) (by exact⟨by omega,trivial⟩)
set_option maxHeartbeats 4000000 in
set_option maxRecDepth 100000 in
theorem aMb (a:Nat) (ha:1≤a∧a≤24):Sx.sC (qY Try.prog) G (hZ a) (aZ G (hZ) (dJ ([]:List Int)) 0 (.lit true) (fun a=>1≤a∧a≤24) (fun a=>24-a) a) []:=by
 refine aG lX (fun h0=>?_) (fun h0=>?_)
 ·skip
  refine aH aFL ?_
  unfold lX at h0;unfold yR;simp only[nn,hZ,List.cons_append,List.nil_append,Bool.or_eq_true,aV,ne_eq]at h0;have q:=aIb (a:Int) (by omega);have hm:24-(a+1)<24-a:=(by omega);have hg:1≤a+1∧a+1≤24:=(by omega);clear h0;simp only[aZ];refine⟨a+1,hg,hm,cP (by simp),?_⟩;simp only[aU];clear hm hg;simp only[nn,Int.natCast_add,Int.cast_ofNat_Int,Int.natCast_one,hZ,List.cons_append,List.nil_append,Bool.or_eq_true,aV,ne_eq];(repeat' refine And.intro ?_ ?_)<;>first|with_reducible exact q|with_reducible rfl|with_reducible trivial|exact Int.add_assoc _ _ _|(clear q;omega)
 refine aH aF3 ?_
 unfold lX at h0;unfold yL;simp only[nn,hZ,List.cons_append,List.nil_append,Bool.or_eq_true,aV,ne_eq]at h0;have e:(a:Int)=24:=(by omega);clear h0;simp only[aZ];refine⟨rfl,gA (by simp),?_⟩;simp only[aU];simp only[nn,hZ,List.cons_append,List.nil_append,Bool.or_eq_true,aV,ne_eq];try rw[e];all_goals ((repeat' refine And.intro ?_ ?_)<;>first|with_reducible rfl|with_reducible trivial)
set_option maxRecDepth 100000 in
theorem aMq:dY Try.prog G (bX GB) (bC (aY Try.prog 72) 1) aDJ (dJ ([]:List Int)):=by
 intro _ _
 have e:fM G (dJ ([]:List Int)) aDJ.es=hZ 1:=by
  rw[cR]
  unfold hZ
  rw[show G 96 [((1:Nat):Int),0,0,0,0,0,0,2,0,0,0,0,0]=_ from(aDM [0,0,0,0,0,0,2,0,0,0,0,0]).symm]
  rfl
 rw[e]
 exact⟨25,bU (ι:=Nat) (ρ:=hZ) (ρT:=dJ ([]:List Int)) (m:=fun a=>24-a) (Good:=fun a=>1≤a∧a≤24) (run:=qY Try.prog) (fun _=>rfl) fits rfl eE (fun a ha=>aIF a ha) (fun _ _ X hX hG=>bO hX hG) (fun _ _ X hX hG=>cJ) (fun a ha=>aMb a ha) (by decide) 25 1 (by decide) (by decide)⟩
set_option maxHeartbeats 1000000 in
set_option maxRecDepth 100000 in
theorem aMW:gZ Try.prog G GB 72 aIo (dJ ([]:List Int)):=by
 refine eA (lp:=aJi) (run:=aFh Try.prog) (fun _=>rfl) fits (cM trivial) eE (fun X hX hG=>bO hX hG) (fun X hX hG fn c hf hc=>?_) rfl ?_
 ·refine eN ((congrArg bD (eV hf hc)).symm.trans aCd) ?_
  intro b hb
  simp only[List.mem_cons,List.mem_nil_iff,or_false]at hb
  rcases hb with rfl|rfl
  ·exact fT (j:=1) (by kernel_rfl) (by decide) gR
  ·refine vI hX hG (by kernel_rfl) ?_
   intro p hp'
   simp only[List.mem_cons,List.mem_nil_iff,or_false]at hp'
   rcases hp' with rfl|rfl
   ·exact aMd
   ·exact aMq
 ·skip
  refine aH aHt ?_
  exact⟨rfl,trivial⟩
def aAr:Ctx→List SV→aL→Res (SV × aL):=fL GB [] 0 (.lit true) aIo
theorem aSx {X:Ctx} {ρ:Nat→Int} (hX:X.Ok ρ) (hG:X.G=G):gY Try.prog X ρ GB 72 aAr:=by
 obtain⟨XG,XI,XV,XF⟩:=X
 simp only at hG
 subst hG
 refine dS hX ?_
 intro xs ls hw hl hp
 have e0:=nD hw
 subst e0
 have hl':ls=[]:=List.length_eq_zero_iff.1 hl
 subst hl'
 exact aMW
def aBI:=wY aA5 aAr
theorem aWB {X:Ctx} {ρ:Nat→Int} (hX:X.Ok ρ) (hG:X.G=G):gY Try.prog X ρ GB 72 aBI:=sM (aTb hX hG) (aSx hX hG)
end Go.Proofs.Ytkpdiehbaiepaaa
