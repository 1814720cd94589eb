/- What is proved: lists that are marked: the states. No condition but the numbers' own bounds. -/
import Derived.Test.YtkpdiehbaiepaaaQa1
import Derived.Test.YtkpdiehbaiepaaaQg4
import Derived.Test.YtkpdiehbaiepaaaQNn
set_option linter.unusedSimpArgs false
set_option linter.unusedVariables false
namespace Go.Proofs.Ytkpdiehbaiepaaa
open Go Go.RowKit Sx Wi
def aEc:List (Int × Int):=[(1,10000)]
def zW:List (Int × Int):=[(1,10000),(0,10024)]
def aS5:St:=⟨((.own 0 (.lit 1) none)::.any::.any::(.int .i64 (.lit 0))::(.int .i64 (.var 1))::zzn 56 ([])),[some ([.tuple [.agg [(.own 1 (.var 0) (some (.var 0))),(.own 2 (.op .add (.var 0) (.lit 24)) none),(.int .i64 (.lit (-9))),(.int .i64 (.lit 3))],.int .i64 (.lit 4),.bool (.lit false)]],aT+108),bE [.int .i64,.int .i64] (.app 96 (.cons (.var 0) (.cons (.lit (-9)) (.cons (.lit 3) .nil)))) (.var 0) 23,bE [.int .i64,.int .i64] (.app 96 (.cons (.op .add (.var 0) (.lit 24)) (.cons (.lit (-9)) (.cons (.lit 3) .nil)))) (.op .add (.var 0) (.lit 24)) 23]⟩
def aJk:St:=⟨((.own 0 (.lit 1) none)::.any::.any::(.int .i64 (.lit 0))::zzn 57 ([])),[some ([.tuple [.agg [(.own 1 (.var 0) (some (.var 0))),(.own 2 (.op .add (.var 0) (.lit 24)) none),(.int .i64 (.lit (-9))),(.int .i64 (.lit 3))],.int .i64 (.lit 4),.bool (.lit false)]],aT+108),bE [.int .i64,.int .i64] (.app 96 (.cons (.var 0) (.cons (.lit (-9)) (.cons (.lit 3) .nil)))) (.var 0) 23,bE [.int .i64,.int .i64] (.app 96 (.cons (.op .add (.var 0) (.lit 24)) (.cons (.lit (-9)) (.cons (.lit 3) .nil)))) (.op .add (.var 0) (.lit 24)) 23]⟩
def aJ5:LoopS:=⟨1,3,aS5,.lit true,.exit 2,aJk,.exit 2,aJk⟩
def aCM:LoopU:=⟨aJ5,[(.var 0),(.lit 0)],zW,.lit true⟩
def sG (P:Program) (fs:List B):Res SV:=bM G GI zW fs fun X=>eG P X GB dM eJ 4000 (bC (aY P 84) 1) aJ5
def aJY:fJ:=gC 5 (fW (bX GB) [aCM]) eJ
def aH7:FunS:=⟨[(.own 0 (.lit 1) none)],[some ([.tuple [.agg [(.own 1 (.var 0) (some (.var 0))),(.own 2 (.op .add (.var 0) (.lit 24)) none),(.int .i64 (.lit (-9))),(.int .i64 (.lit 3))],.int .i64 (.lit 4),.bool (.lit false)]],aT+108),bE [.int .i64,.int .i64] (.app 96 (.cons (.var 0) (.cons (.lit (-9)) (.cons (.lit 3) .nil)))) (.var 0) 23,bE [.int .i64,.int .i64] (.app 96 (.cons (.op .add (.var 0) (.lit 24)) (.cons (.lit (-9)) (.cons (.lit 3) .nil)))) (.op .add (.var 0) (.lit 24)) 23],.lit true,(.bool (.lit true)),[some ([.tuple [.agg [(.own 1 (.var 0) (some (.var 0))),(.own 2 (.op .add (.var 0) (.lit 24)) none),(.int .i64 (.lit (-9))),(.int .i64 (.lit 3))],.int .i64 (.lit 4),.bool (.lit false)]],aT+108),bE [.int .i64,.int .i64] (.app 96 (.cons (.var 0) (.cons (.lit (-9)) (.cons (.lit 3) .nil)))) (.var 0) 23,bE [.int .i64,.int .i64] (.app 96 (.cons (.op .add (.var 0) (.lit 24)) (.cons (.lit (-9)) (.cons (.lit 3) .nil)))) (.op .add (.var 0) (.lit 24)) 23],(.bool (.lit true)),[some ([.tuple [.agg [(.own 1 (.var 0) (some (.var 0))),(.own 2 (.op .add (.var 0) (.lit 24)) none),(.int .i64 (.lit (-9))),(.int .i64 (.lit 3))],.int .i64 (.lit 4),.bool (.lit false)]],aT+108),bE [.int .i64,.int .i64] (.app 96 (.cons (.var 0) (.cons (.lit (-9)) (.cons (.lit 3) .nil)))) (.var 0) 23,bE [.int .i64,.int .i64] (.app 96 (.cons (.op .add (.var 0) (.lit 24)) (.cons (.lit (-9)) (.cons (.lit 3) .nil)))) (.op .add (.var 0) (.lit 24)) 23]⟩
def aGQ (P:Program) (fs:List B):Res SV:=bM G GI aEc fs fun X=>iL P X GB dM aJY 4000 84 aH7
def zS:List (Int × Int):=[(0,24)]
def aRc:St:=⟨((.own 0 (.lit 1) none)::.any::.any::(.int .i64 (.lit 0))::(.int .i64 (.var 0))::zzn 56 ([])),[some ([.tuple [.agg [(.con (.slice none 0 0)),(.own 1 (.lit 24) none),(.int .i64 (.lit (-9))),(.int .i64 (.lit 3))],.int .i64 (.lit 4),.bool (.lit false)]],aT+108),bE [.int .i64,.int .i64] (.app 96 (.cons (.lit 24) (.cons (.lit (-9)) (.cons (.lit 3) .nil)))) (.lit 24) 23]⟩
def aKH:St:=⟨((.own 0 (.lit 1) none)::.any::.any::(.int .i64 (.lit 0))::zzn 57 ([])),[some ([.tuple [.agg [(.con (.slice none 0 0)),(.own 1 (.lit 24) none),(.int .i64 (.lit (-9))),(.int .i64 (.lit 3))],.int .i64 (.lit 4),.bool (.lit false)]],aT+108),bE [.int .i64,.int .i64] (.app 96 (.cons (.lit 24) (.cons (.lit (-9)) (.cons (.lit 3) .nil)))) (.lit 24) 23]⟩
def aKn:LoopS:=⟨0,2,aRc,.lit true,.exit 2,aKH,.exit 2,aKH⟩
def aD4:LoopU:=⟨aKn,[(.lit 0)],zS,.lit true⟩
def rG (P:Program) (fs:List B):Res SV:=bM G GI zS fs fun X=>eG P X GB dM eJ 4000 (bC (aY P 84) 1) aKn
def aJZ:fJ:=gC 5 (fW (bX GB) [aD4]) eJ
def aHA:FunS:=⟨[(.own 0 (.lit 1) none)],[some ([.tuple [.agg [(.con (.slice none 0 0)),(.own 1 (.lit 24) none),(.int .i64 (.lit (-9))),(.int .i64 (.lit 3))],.int .i64 (.lit 4),.bool (.lit false)]],aT+108),bE [.int .i64,.int .i64] (.app 96 (.cons (.lit 24) (.cons (.lit (-9)) (.cons (.lit 3) .nil)))) (.lit 24) 23],.lit true,(.bool (.lit true)),[some ([.tuple [.agg [(.con (.slice none 0 0)),(.own 1 (.lit 24) none),(.int .i64 (.lit (-9))),(.int .i64 (.lit 3))],.int .i64 (.lit 4),.bool (.lit false)]],aT+108),bE [.int .i64,.int .i64] (.app 96 (.cons (.lit 24) (.cons (.lit (-9)) (.cons (.lit 3) .nil)))) (.lit 24) 23],(.bool (.lit true)),[some ([.tuple [.agg [(.con (.slice none 0 0)),(.own 1 (.lit 24) none),(.int .i64 (.lit (-9))),(.int .i64 (.lit 3))],.int .i64 (.lit 4),.bool (.lit false)]],aT+108),bE [.int .i64,.int .i64] (.app 96 (.cons (.lit 24) (.cons (.lit (-9)) (.cons (.lit 3) .nil)))) (.lit 24) 23]⟩
def aGZ (P:Program) (fs:List B):Res SV:=bM G GI [] fs fun X=>iL P X GB dM aJZ 4000 84 aHA
set_option maxRecDepth 100000
open Go Go.RowKit Sx Wi
def aLx (P:Program) (fs:List B):Res SV:=aGQ P fs
def aHp:List B:=[]
theorem aI0:aLx Try.prog aHp = .ok (.tuple [(.agg []),(.bool (.lit true))]):=by kernel_rfl
set_option maxRecDepth 100000
open Go Go.RowKit Sx Wi
def uH (P:Program) (fs:List B):Res SV:=sG P fs
def yC:List B:=[]
def gN:B:=(.cmp .lt (.var 1) (.op .add (.var 0) (.lit 24)))
def aFz:List B:=aK gN++yC
def iR:B:=(.cmp .ne (.app 83 (.cons (.app 96 (.cons (.op .add (.var 0) (.lit 24)) (.cons (.lit (-9)) (.cons (.lit 3) .nil)))) (.cons (.var 1) (.cons (.lit 0) .nil)))) (.lit (-9)))
def aGU:List B:=aK (B.neg iR)++aFz
def jQ:B:=(.cmp .ne (.app 83 (.cons (.app 96 (.cons (.op .add (.var 0) (.lit 24)) (.cons (.lit (-9)) (.cons (.lit 3) .nil)))) (.cons (.var 1) (.cons (.lit 1) .nil)))) (.lit 3))
def xW:List B:=aK (B.neg jQ)++aGU
def jH:B:=(.cmp .lt (.var 1) (.var 0))
def aGV:List B:=aK jH++xW
def mH:B:=(.cmp .ne (.app 83 (.cons (.app 96 (.cons (.var 0) (.cons (.lit (-9)) (.cons (.lit 3) .nil)))) (.cons (.var 1) (.cons (.lit 0) .nil)))) (.lit (-9)))
def aFM:List B:=aK (B.neg mH)++aGV
def oB:B:=(.cmp .ne (.app 83 (.cons (.app 96 (.cons (.var 0) (.cons (.lit (-9)) (.cons (.lit 3) .nil)))) (.cons (.var 1) (.cons (.lit 1) .nil)))) (.lit 3))
def aDP:List B:=aK (B.neg oB)++aFM
def aDC:List B:=aK (B.neg jH)++xW
def aDu:List B:=aK (B.neg gN)++yC
theorem aDk:uH Try.prog aDP = .ok (.agg [(.int .i64 (.op .add (.var 1) (.lit 1))),(.int .i64 (.var 1))]):=by kernel_rfl
theorem aCQ:uH Try.prog aDC = .ok (.agg [(.int .i64 (.op .add (.var 1) (.lit 1))),(.int .i64 (.var 1))]):=by kernel_rfl
theorem aCn:uH Try.prog aDu = .ok (.tuple [(.agg []),(.bool (.lit true))]):=by kernel_rfl
set_option maxRecDepth 100000
open Go Go.RowKit Sx Wi
def aLJ (P:Program) (fs:List B):Res SV:=aGZ P fs
def aHv:List B:=[]
theorem aI4:aLJ Try.prog aHv = .ok (.tuple [(.agg []),(.bool (.lit true))]):=by kernel_rfl
set_option maxRecDepth 100000
open Go Go.RowKit Sx Wi
def aAJ (P:Program) (fs:List B):Res SV:=rG P fs
def xV:List B:=[]
def jI:B:=(.cmp .lt (.var 0) (.lit 24))
def aF0:List B:=aK jI++xV
def mG:B:=(.cmp .ne (.app 83 (.cons (.app 96 (.cons (.lit 24) (.cons (.lit (-9)) (.cons (.lit 3) .nil)))) (.cons (.var 0) (.cons (.lit 0) .nil)))) (.lit (-9)))
def aE7:List B:=aK (B.neg mG)++aF0
def nU:B:=(.cmp .ne (.app 83 (.cons (.app 96 (.cons (.lit 24) (.cons (.lit (-9)) (.cons (.lit 3) .nil)))) (.cons (.var 0) (.cons (.lit 1) .nil)))) (.lit 3))
def aGb:List B:=aK (B.neg nU)++aE7
def aGm:List B:=aK (B.neg jI)++xV
theorem aGs:aAJ Try.prog aGb = .ok (.agg [(.int .i64 (.op .add (.var 0) (.lit 1))),(.int .i64 (.var 0))]):=by kernel_rfl
theorem aG3:aAJ Try.prog aGm = .ok (.tuple [(.agg []),(.bool (.lit true))]):=by kernel_rfl
open Go Go.RowKit Sx Wi
theorem aCk:bD (aY Try.prog 84)=[bC (aY Try.prog 84) 0,bC (aY Try.prog 84) 1]:=by kernel_rfl
def gS (N:Int) (a:Nat):Nat→Int:=dJ ([N]++[(a:Int)])
theorem aMz (N:Int) (b0:1≤N∧N≤10000) (a:Nat) (ha:(a:Int)≤N+24):∀ i q,zW[i]?=some q→q.1≤gS N a i∧gS N a i≤q.2:=by
 unfold gS zW
 exact cM (xs:=[N,(a:Int)]) (by exact⟨b0,by omega,trivial⟩)
set_option maxHeartbeats 4000000 in
set_option maxRecDepth 100000 in
theorem aLp (N:Int) (b0:1≤N∧N≤10000) (a:Nat) (ha:(a:Int)≤N+24):Sx.sC (sG Try.prog) G (gS N a) (aZ G (gS N) (dJ [N]) 1 (.lit true) (fun a=>(a:Int)≤N+24) (fun a=>(N+24).toNat-a) a) []:=by
 refine aG gN (fun h0=>?_) (fun h0=>?_)
 rotate_left
 ·skip
  refine aH aCn ?_
  unfold gN at h0;simp only[aZ];exact⟨rfl,gA (by simp),by simp only[aU]⟩
 refine aG iR (fun h1=>?_) (fun h1=>?_)
 ·skip
  refine aM ?_
  unfold gN at h0;unfold iR at h1;exfalso;simp only[nn,gS,List.cons_append,List.nil_append,Bool.or_eq_true,aV,ne_eq]at h0 h1;have q:G 83 [G 96 [N+24,(-9),3],(a:Int),0]=(-9):=bF .i64 (N+24) (a:Int) 0 [(-9),3] ⟨by omega,by clear h1;omega⟩;exact absurd q h1
 refine aG jQ (fun h2=>?_) (fun h2=>?_)
 ·skip
  refine aM ?_
  unfold gN at h0;unfold iR at h1;unfold jQ at h2;exfalso;simp only[nn,gS,List.cons_append,List.nil_append,Bool.or_eq_true,aV,ne_eq]at h0 h2;have q:G 83 [G 96 [N+24,(-9),3],(a:Int),1]=3:=bF .i64 (N+24) (a:Int) 1 [(-9),3] ⟨by omega,by clear h1 h2;omega⟩;exact absurd q h2
 refine aG jH (fun h3=>?_) (fun h3=>?_)
 rotate_left
 ·skip
  refine aH aCQ ?_
  unfold gN at h0;unfold iR at h1;unfold jQ at h2;unfold jH at h3;simp only[nn,gS,List.cons_append,List.nil_append,Bool.or_eq_true,aV,ne_eq]at h0;have hm:(N+24).toNat-(a+1)<(N+24).toNat-a:=(by clear h1 h2 h3;omega);have hg:((a+1:Nat):Int)≤N+24:=(by clear h1 h2 h3;omega);clear h0 h1 h2 h3;simp only[aZ];refine⟨a+1,hg,hm,cP (by simp),?_⟩;simp only[aU];clear hm hg;simp only[nn,Int.natCast_add,Int.cast_ofNat_Int,Int.natCast_one,gS,List.cons_append,List.nil_append,Bool.or_eq_true,aV,ne_eq];try ((repeat' refine And.intro ?_ ?_)<;>first|with_reducible rfl|with_reducible trivial)
 refine aG mH (fun h4=>?_) (fun h4=>?_)
 ·skip
  refine aM ?_
  unfold gN at h0;unfold iR at h1;unfold jQ at h2;unfold jH at h3;unfold mH at h4;exfalso;simp only[nn,gS,List.cons_append,List.nil_append,Bool.or_eq_true,aV,ne_eq]at h0 h3 h4;have q:G 83 [G 96 [N,(-9),3],(a:Int),0]=(-9):=bF .i64 (N) (a:Int) 0 [(-9),3] ⟨by omega,by clear h1 h2 h4;omega⟩;exact absurd q h4
 refine aG oB (fun h5=>?_) (fun h5=>?_)
 ·skip
  refine aM ?_
  unfold gN at h0;unfold iR at h1;unfold jQ at h2;unfold jH at h3;unfold mH at h4;unfold oB at h5;exfalso;simp only[nn,gS,List.cons_append,List.nil_append,Bool.or_eq_true,aV,ne_eq]at h0 h3 h5;have q:G 83 [G 96 [N,(-9),3],(a:Int),1]=3:=bF .i64 (N) (a:Int) 1 [(-9),3] ⟨by omega,by clear h1 h2 h4 h5;omega⟩;exact absurd q h5
 refine aH aDk ?_
 unfold gN at h0;unfold iR at h1;unfold jQ at h2;unfold jH at h3;unfold mH at h4;unfold oB at h5;simp only[nn,gS,List.cons_append,List.nil_append,Bool.or_eq_true,aV,ne_eq]at h0;have hm:(N+24).toNat-(a+1)<(N+24).toNat-a:=(by clear h1 h2 h3 h4 h5;omega);have hg:((a+1:Nat):Int)≤N+24:=(by clear h1 h2 h3 h4 h5;omega);clear h0 h1 h2 h3 h4 h5;simp only[aZ];refine⟨a+1,hg,hm,cP (by simp),?_⟩;simp only[aU];clear hm hg;simp only[nn,Int.natCast_add,Int.cast_ofNat_Int,Int.natCast_one,gS,List.cons_append,List.nil_append,Bool.or_eq_true,aV,ne_eq];try ((repeat' refine And.intro ?_ ?_)<;>first|with_reducible rfl|with_reducible trivial)
set_option maxRecDepth 100000 in
theorem aLo (N:Int) (b0:1≤N∧N≤10000):dY Try.prog G (bX GB) (bC (aY Try.prog 84) 1) aCM (dJ [N]):=by
 intro _ _
 have e:fM G (dJ [N]) aCM.es=gS N 0:=by
  rw[cR]
  rfl
 rw[e]
 exact⟨(N+24).toNat+1,bU (ι:=Nat) (ρ:=gS N) (ρT:=dJ [N]) (m:=fun a=>(N+24).toNat-a) (Good:=fun a=>(a:Int)≤N+24) (run:=sG Try.prog) (fun _=>rfl) fits rfl eE (fun a ha=>aMz N b0 a ha) (fun _ _ X hX hG=>bO hX hG) (fun _ _ X hX hG=>cJ) (fun a ha=>aLp N b0 a ha) (by decide) _ 0 (by show ((0:Nat):Int)≤N+24;omega) (by show (N+24).toNat-0<_;omega)⟩
set_option maxHeartbeats 1000000 in
set_option maxRecDepth 100000 in
theorem aQA (N:Int) (b0:1≤N∧N≤10000):gZ Try.prog G GB 84 aH7 (dJ [N]):=by
 refine eA (lp:=aJY) (run:=aGQ Try.prog) (fun _=>rfl) fits (cM ⟨b0,trivial⟩) eE (fun X hX hG=>bO hX hG) (fun X hX hG fn c hf hc=>?_) rfl ?_
 ·refine eN ((congrArg bD (eV hf hc)).symm.trans aCk) ?_
  intro b hb
  simp only[List.mem_cons,List.mem_nil_iff,or_false]at hb
  rcases hb with rfl|rfl
  ·exact fT (j:=2) (by kernel_rfl) (by decide) gR
  ·refine gD hX hG (by kernel_rfl) ?_
   intro p hp'
   simp only[List.mem_cons,List.mem_nil_iff,or_false]at hp'
   subst hp'
   exact aLo N b0
 ·skip
  refine aH aI0 ?_
  exact⟨rfl,trivial⟩
def aAO:Ctx→List SV→aL→Res (SV × aL):=fL GB aEc 0 (.lit true) aH7
theorem aRO {X:Ctx} {ρ:Nat→Int} (hX:X.Ok ρ) (hG:X.G=G):gY Try.prog X ρ GB 84 aAO:=by
 obtain⟨XG,XI,XV,XF⟩:=X
 simp only at hG
 subst hG
 refine dS hX ?_
 intro xs ls hw hl hp
 unfold aEc at hw
 obtain⟨x0,y0,e0,b0,h0⟩:=pX hw
 have e1:=nD h0
 subst e1 e0
 have hl':ls=[]:=List.length_eq_zero_iff.1 hl
 subst hl'
 exact by rw[List.append_nil];exact aQA x0 b0
def jO (a:Nat):Nat→Int:=dJ (([]:List Int)++[(a:Int)])
theorem aLl (a:Nat) (ha:(a:Int)≤24):∀ i q,zS[i]?=some q→q.1≤jO a i∧jO a i≤q.2:=by
 unfold jO zS
 exact cM (xs:=[(a:Int)]) (by exact⟨by omega,trivial⟩)
set_option maxHeartbeats 4000000 in
set_option maxRecDepth 100000 in
theorem aMP (a:Nat) (ha:(a:Int)≤24):Sx.sC (rG Try.prog) G (jO a) (aZ G (jO) (dJ ([]:List Int)) 0 (.lit true) (fun a=>(a:Int)≤24) (fun a=>(24:Int).toNat-a) a) []:=by
 refine aG jI (fun h0=>?_) (fun h0=>?_)
 rotate_left
 ·skip
  refine aH aG3 ?_
  unfold jI at h0;simp only[aZ];exact⟨rfl,gA (by simp),by simp only[aU]⟩
 refine aG mG (fun h1=>?_) (fun h1=>?_)
 ·skip
  refine aM ?_
  unfold jI at h0;unfold mG at h1;exfalso;simp only[nn,jO,List.cons_append,List.nil_append,Bool.or_eq_true,aV,ne_eq]at h0 h1;have q:G 83 [G 96 [24,(-9),3],(a:Int),0]=(-9):=bF .i64 (24) (a:Int) 0 [(-9),3] ⟨by omega,by clear h1;omega⟩;exact absurd q h1
 refine aG nU (fun h2=>?_) (fun h2=>?_)
 ·skip
  refine aM ?_
  unfold jI at h0;unfold mG at h1;unfold nU at h2;exfalso;simp only[nn,jO,List.cons_append,List.nil_append,Bool.or_eq_true,aV,ne_eq]at h0 h2;have q:G 83 [G 96 [24,(-9),3],(a:Int),1]=3:=bF .i64 (24) (a:Int) 1 [(-9),3] ⟨by omega,by clear h1 h2;omega⟩;exact absurd q h2
 refine aH aGs ?_
 unfold jI at h0;unfold mG at h1;unfold nU at h2;simp only[nn,jO,List.cons_append,List.nil_append,Bool.or_eq_true,aV,ne_eq]at h0;have hm:(24:Int).toNat-(a+1)<(24:Int).toNat-a:=(by clear h1 h2;omega);have hg:((a+1:Nat):Int)≤24:=(by clear h1 h2;omega);clear h0 h1 h2;simp only[aZ];refine⟨a+1,hg,hm,cP (by simp),?_⟩;simp only[aU];clear hm hg;simp only[nn,Int.natCast_add,Int.cast_ofNat_Int,Int.natCast_one,jO,List.cons_append,List.nil_append,Bool.or_eq_true,aV,ne_eq];try ((repeat' refine And.intro ?_ ?_)<;>first|with_reducible rfl|with_reducible trivial)
set_option maxRecDepth 100000 in
theorem aLc:dY Try.prog G (bX GB) (bC (aY Try.prog 84) 1) aD4 (dJ ([]:List Int)):=by
 intro _ _
 have e:fM G (dJ ([]:List Int)) aD4.es=jO 0:=by
  rw[cR]
  rfl
 rw[e]
 exact⟨(24:Int).toNat+1,bU (ι:=Nat) (ρ:=jO) (ρT:=dJ ([]:List Int)) (m:=fun a=>(24:Int).toNat-a) (Good:=fun a=>(a:Int)≤24) (run:=rG Try.prog) (fun _=>rfl) fits rfl eE (fun a ha=>aLl a ha) (fun _ _ X hX hG=>bO hX hG) (fun _ _ X hX hG=>cJ) (fun a ha=>aMP a ha) (by decide) _ 0 (by show ((0:Nat):Int)≤24;omega) (by show (24:Int).toNat-0<_;omega)⟩
set_option maxHeartbeats 1000000 in
set_option maxRecDepth 100000 in
theorem aNp:gZ Try.prog G GB 84 aHA (dJ ([]:List Int)):=by
 refine eA (lp:=aJZ) (run:=aGZ Try.prog) (fun _=>rfl) fits (cM trivial) eE (fun X hX hG=>bO hX hG) (fun X hX hG fn c hf hc=>?_) rfl ?_
 ·refine eN ((congrArg bD (eV hf hc)).symm.trans aCk) ?_
  intro b hb
  simp only[List.mem_cons,List.mem_nil_iff,or_false]at hb
  rcases hb with rfl|rfl
  ·exact fT (j:=2) (by kernel_rfl) (by decide) gR
  ·refine gD hX hG (by kernel_rfl) ?_
   intro p hp'
   simp only[List.mem_cons,List.mem_nil_iff,or_false]at hp'
   subst hp'
   exact aLc
 ·skip
  refine aH aI4 ?_
  exact⟨rfl,trivial⟩
def aBd:Ctx→List SV→aL→Res (SV × aL):=fL GB [] 0 (.lit true) aHA
theorem aSD {X:Ctx} {ρ:Nat→Int} (hX:X.Ok ρ) (hG:X.G=G):gY Try.prog X ρ GB 84 aBd:=by
 obtain⟨XG,XI,XV,XF⟩:=X
 simp only at hG
 subst hG
 refine dS hX ?_
 intro xs ls hw hl hp
 have e0:=nD hw
 subst e0
 have hl':ls=[]:=List.length_eq_zero_iff.1 hl
 subst hl'
 exact aNp
def aBA:=wY aAO aBd
theorem aUF {X:Ctx} {ρ:Nat→Int} (hX:X.Ok ρ) (hG:X.G=G):gY Try.prog X ρ GB 84 aBA:=sM (aRO hX hG) (aSD hX hG)
def aDS:List (Int × Int):=[(1,10000)]
def sQ:List (Int × Int):=[(1,10000),(0,10024)]
def aRP:St:=⟨((.own 0 (.lit 2) none)::.any::.any::(.int .i64 (.lit 0))::(.int .i64 (.var 1))::zzn 56 ([])),[zzS (.own 1 (.var 0) (some (.var 0))) (.own 3 (.op .add (.var 0) (.lit 24)) none) (.own 2 (.var 0) (some (.var 0))) (.own 4 (.op .add (.var 0) (.lit 24)) none),bE zzK (zz1 (.var 0)) (.var 0) 54,bE zzK (zz2 (.var 0)) (.var 0) 54,bE zzK (zz1 (.op .add (.var 0) (.lit 24))) (.op .add (.var 0) (.lit 24)) 54,bE zzK (zz2 (.op .add (.var 0) (.lit 24))) (.op .add (.var 0) (.lit 24)) 54]⟩
def aKt:St:=⟨((.own 0 (.lit 2) none)::.any::.any::(.int .i64 (.lit 0))::zzn 57 ([])),[zzS (.own 1 (.var 0) (some (.var 0))) (.own 3 (.op .add (.var 0) (.lit 24)) none) (.own 2 (.var 0) (some (.var 0))) (.own 4 (.op .add (.var 0) (.lit 24)) none),bE zzK (zz1 (.var 0)) (.var 0) 54,bE zzK (zz2 (.var 0)) (.var 0) 54,bE zzK (zz1 (.op .add (.var 0) (.lit 24))) (.op .add (.var 0) (.lit 24)) 54,bE zzK (zz2 (.op .add (.var 0) (.lit 24))) (.op .add (.var 0) (.lit 24)) 54]⟩
def aJE:LoopS:=⟨1,5,aRP,.lit true,.exit 2,aKt,.exit 2,aKt⟩
def aCF:LoopU:=⟨aJE,[(.var 0),(.lit 0)],sQ,.lit true⟩
def rZ (P:Program) (fs:List B):Res SV:=bM G GI sQ fs fun X=>eG P X GB dM eJ 4000 (bC (aY P 85) 1) aJE
def aSn:St:=⟨((.own 0 (.lit 2) none)::.any::.any::(.int .i64 (.lit 1))::(.int .i64 (.var 1))::zzn 56 ([])),[zzS (.own 1 (.var 0) (some (.var 0))) (.own 3 (.op .add (.var 0) (.lit 24)) none) (.own 2 (.var 0) (some (.var 0))) (.own 4 (.op .add (.var 0) (.lit 24)) none),bE zzK (zz1 (.var 0)) (.var 0) 54,bE zzK (zz2 (.var 0)) (.var 0) 54,bE zzK (zz1 (.op .add (.var 0) (.lit 24))) (.op .add (.var 0) (.lit 24)) 54,bE zzK (zz2 (.op .add (.var 0) (.lit 24))) (.op .add (.var 0) (.lit 24)) 54]⟩
def aJo:St:=⟨((.own 0 (.lit 2) none)::.any::.any::(.int .i64 (.lit 1))::zzn 57 ([])),[zzS (.own 1 (.var 0) (some (.var 0))) (.own 3 (.op .add (.var 0) (.lit 24)) none) (.own 2 (.var 0) (some (.var 0))) (.own 4 (.op .add (.var 0) (.lit 24)) none),bE zzK (zz1 (.var 0)) (.var 0) 54,bE zzK (zz2 (.var 0)) (.var 0) 54,bE zzK (zz1 (.op .add (.var 0) (.lit 24))) (.op .add (.var 0) (.lit 24)) 54,bE zzK (zz2 (.op .add (.var 0) (.lit 24))) (.op .add (.var 0) (.lit 24)) 54]⟩
def aJP:LoopS:=⟨1,5,aSn,.lit true,.exit 2,aJo,.exit 2,aJo⟩
def aDB:LoopU:=⟨aJP,[(.var 0),(.lit 0)],sQ,.lit true⟩
def rW (P:Program) (fs:List B):Res SV:=bM G GI sQ fs fun X=>eG P X GB dM eJ 4000 (bC (aY P 85) 1) aJP
def aK3:fJ:=gC 5 (fW (bX GB) [aCF,aDB]) eJ
def aIe:FunS:=⟨[(.own 0 (.lit 2) none)],[zzS (.own 1 (.var 0) (some (.var 0))) (.own 3 (.op .add (.var 0) (.lit 24)) none) (.own 2 (.var 0) (some (.var 0))) (.own 4 (.op .add (.var 0) (.lit 24)) none),bE zzK (zz1 (.var 0)) (.var 0) 54,bE zzK (zz2 (.var 0)) (.var 0) 54,bE zzK (zz1 (.op .add (.var 0) (.lit 24))) (.op .add (.var 0) (.lit 24)) 54,bE zzK (zz2 (.op .add (.var 0) (.lit 24))) (.op .add (.var 0) (.lit 24)) 54],.lit true,(.bool (.lit true)),[zzS (.own 1 (.var 0) (some (.var 0))) (.own 3 (.op .add (.var 0) (.lit 24)) none) (.own 2 (.var 0) (some (.var 0))) (.own 4 (.op .add (.var 0) (.lit 24)) none),bE zzK (zz1 (.var 0)) (.var 0) 54,bE zzK (zz2 (.var 0)) (.var 0) 54,bE zzK (zz1 (.op .add (.var 0) (.lit 24))) (.op .add (.var 0) (.lit 24)) 54,bE zzK (zz2 (.op .add (.var 0) (.lit 24))) (.op .add (.var 0) (.lit 24)) 54],(.bool (.lit true)),[zzS (.own 1 (.var 0) (some (.var 0))) (.own 3 (.op .add (.var 0) (.lit 24)) none) (.own 2 (.var 0) (some (.var 0))) (.own 4 (.op .add (.var 0) (.lit 24)) none),bE zzK (zz1 (.var 0)) (.var 0) 54,bE zzK (zz2 (.var 0)) (.var 0) 54,bE zzK (zz1 (.op .add (.var 0) (.lit 24))) (.op .add (.var 0) (.lit 24)) 54,bE zzK (zz2 (.op .add (.var 0) (.lit 24))) (.op .add (.var 0) (.lit 24)) 54]⟩
def aG2 (P:Program) (fs:List B):Res SV:=bM G GI aDS fs fun X=>iL P X GB dM aK3 4000 85 aIe
def sU:List (Int × Int):=[(0,24)]
def aSw:St:=⟨((.own 0 (.lit 2) none)::.any::.any::(.int .i64 (.lit 0))::(.int .i64 (.var 0))::zzn 56 ([])),[zzS (.con (.slice none 0 0)) (.own 1 (.lit 24) none) (.con (.slice none 0 0)) (.own 2 (.lit 24) none),bE zzK (zz1 (.lit 24)) (.lit 24) 54,bE zzK (zz2 (.lit 24)) (.lit 24) 54]⟩
def aKB:St:=⟨((.own 0 (.lit 2) none)::.any::.any::(.int .i64 (.lit 0))::zzn 57 ([])),[zzS (.con (.slice none 0 0)) (.own 1 (.lit 24) none) (.con (.slice none 0 0)) (.own 2 (.lit 24) none),bE zzK (zz1 (.lit 24)) (.lit 24) 54,bE zzK (zz2 (.lit 24)) (.lit 24) 54]⟩
def aKd:LoopS:=⟨0,3,aSw,.lit true,.exit 2,aKB,.exit 2,aKB⟩
def aCp:LoopU:=⟨aKd,[(.lit 0)],sU,.lit true⟩
def rL (P:Program) (fs:List B):Res SV:=bM G GI sU fs fun X=>eG P X GB dM eJ 4000 (bC (aY P 85) 1) aKd
def aRD:St:=⟨((.own 0 (.lit 2) none)::.any::.any::(.int .i64 (.lit 1))::(.int .i64 (.var 0))::zzn 56 ([])),[zzS (.con (.slice none 0 0)) (.own 1 (.lit 24) none) (.con (.slice none 0 0)) (.own 2 (.lit 24) none),bE zzK (zz1 (.lit 24)) (.lit 24) 54,bE zzK (zz2 (.lit 24)) (.lit 24) 54]⟩
def aKW:St:=⟨((.own 0 (.lit 2) none)::.any::.any::(.int .i64 (.lit 1))::zzn 57 ([])),[zzS (.con (.slice none 0 0)) (.own 1 (.lit 24) none) (.con (.slice none 0 0)) (.own 2 (.lit 24) none),bE zzK (zz1 (.lit 24)) (.lit 24) 54,bE zzK (zz2 (.lit 24)) (.lit 24) 54]⟩
def aKy:LoopS:=⟨0,3,aRD,.lit true,.exit 2,aKW,.exit 2,aKW⟩
def aDv:LoopU:=⟨aKy,[(.lit 0)],sU,.lit true⟩
def qU (P:Program) (fs:List B):Res SV:=bM G GI sU fs fun X=>eG P X GB dM eJ 4000 (bC (aY P 85) 1) aKy
def aKk:fJ:=gC 5 (fW (bX GB) [aCp,aDv]) eJ
def aHH:FunS:=⟨[(.own 0 (.lit 2) none)],[zzS (.con (.slice none 0 0)) (.own 1 (.lit 24) none) (.con (.slice none 0 0)) (.own 2 (.lit 24) none),bE zzK (zz1 (.lit 24)) (.lit 24) 54,bE zzK (zz2 (.lit 24)) (.lit 24) 54],.lit true,(.bool (.lit true)),[zzS (.con (.slice none 0 0)) (.own 1 (.lit 24) none) (.con (.slice none 0 0)) (.own 2 (.lit 24) none),bE zzK (zz1 (.lit 24)) (.lit 24) 54,bE zzK (zz2 (.lit 24)) (.lit 24) 54],(.bool (.lit true)),[zzS (.con (.slice none 0 0)) (.own 1 (.lit 24) none) (.con (.slice none 0 0)) (.own 2 (.lit 24) none),bE zzK (zz1 (.lit 24)) (.lit 24) 54,bE zzK (zz2 (.lit 24)) (.lit 24) 54]⟩
def aFa (P:Program) (fs:List B):Res SV:=bM G GI [] fs fun X=>iL P X GB dM aKk 4000 85 aHH
set_option maxRecDepth 100000
open Go Go.RowKit Sx Wi
def aMc (P:Program) (fs:List B):Res SV:=aG2 P fs
def aHu:List B:=[]
theorem aHD:aMc Try.prog aHu = .ok (.tuple [(.agg []),(.bool (.lit true))]):=by kernel_rfl
set_option maxRecDepth 100000
open Go Go.RowKit Sx Wi
def tO (P:Program) (fs:List B):Res SV:=rZ P fs
def zH:List B:=[]
def bJ:B:=(.cmp .lt (.var 1) (.op .add (.var 0) (.lit 24)))
def aFD:List B:=aK bJ++zH
def bQ:B:=(.cmp .eq (.app 83 (.cons (zz1 (.op .add (.var 0) (.lit 24))) (.cons (.var 1) (.cons (.lit 0) .nil)))) (.lit 0))
def aGr:List B:=aK bQ++aFD
def bT:B:=(.cmp .eq (.app 83 (.cons (zz1 (.op .add (.var 0) (.lit 24))) (.cons (.var 1) (.cons (.lit 1) .nil)))) (.lit 0))
def aFk:List B:=aK bT++aGr
def bV:B:=(.cmp .eq (.app 83 (.cons (zz1 (.op .add (.var 0) (.lit 24))) (.cons (.var 1) (.cons (.lit 2) .nil)))) (.lit 0))
def aFT:List B:=aK bV++aFk
def cB:B:=(.cmp .eq (.app 83 (.cons (zz1 (.op .add (.var 0) (.lit 24))) (.cons (.var 1) (.cons (.lit 3) .nil)))) (.lit 0))
def aGS:List B:=aK cB++aFT
def cF:B:=(.cmp .eq (.app 83 (.cons (zz1 (.op .add (.var 0) (.lit 24))) (.cons (.var 1) (.cons (.lit 4) .nil)))) (.lit 0))
def aE9:List B:=aK cF++aGS
def cK:B:=(.cmp .eq (.app 83 (.cons (zz1 (.op .add (.var 0) (.lit 24))) (.cons (.var 1) (.cons (.lit 5) .nil)))) (.lit 0))
def aF2:List B:=aK cK++aE9
def cN:B:=(.cmp .eq (.app 82 (.cons (zz1 (.op .add (.var 0) (.lit 24))) (.cons (.var 1) (.cons (.lit 6) .nil)))) (.lit 1))
def aGv:List B:=aK cN++aF2
def cV:B:=(.cmp .eq (.app 82 (.cons (zz1 (.op .add (.var 0) (.lit 24))) (.cons (.var 1) (.cons (.lit 7) .nil)))) (.lit 0))
def aHn:List B:=aK cV++aGv
def dB:B:=(.cmp .eq (.app 82 (.cons (zz1 (.op .add (.var 0) (.lit 24))) (.cons (.var 1) (.cons (.lit 8) .nil)))) (.lit 0))
def aC5:List B:=aK dB++aHn
def cS:B:=(.cmp .eq (.app 82 (.cons (zz1 (.op .add (.var 0) (.lit 24))) (.cons (.var 1) (.cons (.lit 9) .nil)))) (.lit 0))
def aEh:List B:=aK cS++aC5
def cZ:B:=(.cmp .eq (.app 82 (.cons (zz1 (.op .add (.var 0) (.lit 24))) (.cons (.var 1) (.cons (.lit 10) .nil)))) (.lit 0))
def aEv:List B:=aK cZ++aEh
def dI:B:=(.cmp .eq (.app 82 (.cons (zz1 (.op .add (.var 0) (.lit 24))) (.cons (.var 1) (.cons (.lit 11) .nil)))) (.lit 0))
def vT:List B:=aK dI++aEv
def dG:B:=(.cmp .lt (.var 1) (.var 0))
def aC1:List B:=aK dG++vT
def dW:B:=(.cmp .eq (.app 83 (.cons (zz1 (.var 0)) (.cons (.var 1) (.cons (.lit 0) .nil)))) (.lit 0))
def aDQ:List B:=aK dW++aC1
def eB:B:=(.cmp .eq (.app 83 (.cons (zz1 (.var 0)) (.cons (.var 1) (.cons (.lit 1) .nil)))) (.lit 0))
def aD1:List B:=aK eB++aDQ
def eO:B:=(.cmp .eq (.app 83 (.cons (zz1 (.var 0)) (.cons (.var 1) (.cons (.lit 2) .nil)))) (.lit 0))
def aDr:List B:=aK eO++aD1
def eW:B:=(.cmp .eq (.app 83 (.cons (zz1 (.var 0)) (.cons (.var 1) (.cons (.lit 3) .nil)))) (.lit 0))
def aC0:List B:=aK eW++aDr
def fH:B:=(.cmp .eq (.app 83 (.cons (zz1 (.var 0)) (.cons (.var 1) (.cons (.lit 4) .nil)))) (.lit 0))
def aCI:List B:=aK fH++aC0
def fV:B:=(.cmp .eq (.app 83 (.cons (zz1 (.var 0)) (.cons (.var 1) (.cons (.lit 5) .nil)))) (.lit 0))
def aDj:List B:=aK fV++aCI
def gJ:B:=(.cmp .eq (.app 82 (.cons (zz1 (.var 0)) (.cons (.var 1) (.cons (.lit 6) .nil)))) (.lit 1))
def aCJ:List B:=aK gJ++aDj
def iF:B:=(.cmp .eq (.app 82 (.cons (zz1 (.var 0)) (.cons (.var 1) (.cons (.lit 7) .nil)))) (.lit 0))
def aDV:List B:=aK iF++aCJ
def iX:B:=(.cmp .eq (.app 82 (.cons (zz1 (.var 0)) (.cons (.var 1) (.cons (.lit 8) .nil)))) (.lit 0))
def aCX:List B:=aK iX++aDV
def jW:B:=(.cmp .eq (.app 82 (.cons (zz1 (.var 0)) (.cons (.var 1) (.cons (.lit 9) .nil)))) (.lit 0))
def aDy:List B:=aK jW++aCX
def kZ:B:=(.cmp .eq (.app 82 (.cons (zz1 (.var 0)) (.cons (.var 1) (.cons (.lit 10) .nil)))) (.lit 0))
def aDX:List B:=aK kZ++aDy
def mR:B:=(.cmp .eq (.app 82 (.cons (zz1 (.var 0)) (.cons (.var 1) (.cons (.lit 11) .nil)))) (.lit 0))
def aC9:List B:=aK mR++aDX
def aEe:List B:=aK (B.neg dG)++vT
def aEA:List B:=aK (B.neg bJ)++zH
theorem aDR:tO Try.prog aC9 = .ok (.agg [(.int .i64 (.op .add (.var 1) (.lit 1))),(.int .i64 (.var 1))]):=by kernel_rfl
theorem aD5:tO Try.prog aEe = .ok (.agg [(.int .i64 (.op .add (.var 1) (.lit 1))),(.int .i64 (.var 1))]):=by kernel_rfl
theorem aEr:tO Try.prog aEA = .ok (.tuple [(.agg []),(.bool (.lit true))]):=by kernel_rfl
end Go.Proofs.Ytkpdiehbaiepaaa
