/- What is proved: the same list twice: the states. No condition but the numbers' own bounds. -/
import Derived.Test.YtkpdiehbaiepaaaQa1
import Derived.Test.YtkpdiehbaiepaaaQg4
import Derived.Test.YtkpdiehbaiepaaaQNn
set_option linter.unusedSimpArgs false
set_option linter.unusedVariables false
namespace Go.Proofs.Ytkpdiehbaiepaaa
open Go Go.RowKit Sx Wi
def aKQ:List (Int × Int):=[(1,10000),(0,10000)]
def aHx:List (Int × Int):=[(1,10000)]
def aXF:St:=⟨((.own 0 (.var 0) none)::(.own 1 (.var 0) none)::.any::.any::.any::(.int .i64 (.var 1))::zzn 20 ([])),[bE zzK (.var 2) (.var 0) 54,bE zzK (.var 2) (.var 0) 54]⟩
def aXt:St:=⟨(zzn 26 ([])),[bE zzK (.var 1) (.var 0) 54,bE zzK (.var 1) (.var 0) 54]⟩
def aWV:LoopS:=⟨1,2,aXF,.lit true,.exit 0,aXt,.exit 0,aXt⟩
def aXw:LoopU:=⟨aWV,[.var 0,.lit 0,.var 1],aKQ,.lit true⟩
def aAl (P:Program) (fs:List B):Res SV:=bM G GI aKQ fs fun X=>eG P X GB dM eJ 4000 (bC (aY P 41) 0) aWV
def aTO:fJ:=gC 4 (fW (bX GB) [aXw]) eJ
def aUj:FunS:=⟨[(.own 0 (.var 0) none),(.own 1 (.var 0) none)],[bE zzK (.var 1) (.var 0) 54,bE zzK (.var 1) (.var 0) 54],.lit true,(.bool (.lit true)),[bE zzK (.var 1) (.var 0) 54,bE zzK (.var 1) (.var 0) 54],(.bool (.lit true)),[bE zzK (.var 1) (.var 0) 54,bE zzK (.var 1) (.var 0) 54]⟩
def aNV (P:Program) (fs:List B):Res SV:=bM G GI aHx fs fun X=>iL P X GB dM aTO 4000 41 aUj
set_option maxRecDepth 100000
open Go Go.RowKit Sx Wi
def aS3 (P:Program) (fs:List B):Res SV:=aNV P fs
def aQX:List B:=[]
theorem aPV:aS3 Try.prog aQX = .ok (.tuple [(.agg []),(.bool (.lit true))]):=by kernel_rfl
set_option maxRecDepth 100000
open Go Go.RowKit Sx Wi
def aKj (P:Program) (fs:List B):Res SV:=aAl P fs
def aHa:List B:=[]
def rO:B:=(.cmp .lt (.var 1) (.var 0))
def aPe:List B:=aK rO++aHa
def aPj:List B:=aK (B.neg rO)++aHa
theorem aQR:aKj Try.prog aPe = .ok (.agg [(.int .i64 (.op .add (.var 1) (.lit 1))),(.int .i64 (.var 1)),(.int .i64 (.var 2)),(.int .i64 (.var 2)),(.int .i64 (.var 2)),(.int .i64 (.var 2))]):=by kernel_rfl
theorem aOJ:aKj Try.prog aPj = .ok (.tuple [(.agg [(.int .i64 (.var 2)),(.int .i64 (.var 1)),(.int .i64 (.var 2)),(.int .i64 (.var 1))]),(.bool (.lit true))]):=by kernel_rfl
open Go Go.RowKit Sx Wi
def oL (N C:Int) (a:Nat):Nat→Int:=dJ ([N]++[(a:Int),C])
theorem aSr (N C:Int) (b0:1≤N∧N≤10000) (a:Nat) (ha:(a:Int)≤N):∀ i q,aKQ[i]?=some q→q.1≤oL N C a i∧oL N C a i≤q.2:=by
 unfold oL aKQ
 exact eL (xs:=[N,(a:Int)]) (ls:=[C]) (by exact⟨b0,by omega,trivial⟩)
set_option maxHeartbeats 4000000 in
set_option maxRecDepth 100000 in
theorem aVS (N C:Int) (a:Nat) (ha:(a:Int)≤N):Sx.sC (aAl Try.prog) G (oL N C a) (aZ G (oL N C) (dJ ([N]++[C])) 1 (.lit true) (fun a=>(a:Int)≤N) (fun a=>N.toNat-a) a) []:=by
 refine aG rO (fun h0=>?_) (fun h0=>?_)
 ·skip
  refine aH aQR ?_
  unfold rO at h0;simp only[nn,oL,List.cons_append,List.nil_append,Bool.or_eq_true,aV,ne_eq]at h0;have hm:N.toNat-(a+1)<N.toNat-a:=(by omega);have hg:((a+1:Nat):Int)≤N:=(by omega);clear h0;simp only[aZ];refine⟨a+1,hg,hm,cP (by simp),?_⟩;simp only[aU];clear hm hg;simp only[nn,Int.natCast_add,Int.cast_ofNat_Int,Int.natCast_one,oL,List.cons_append,List.nil_append,Bool.or_eq_true,aV,ne_eq];all_goals ((repeat' refine And.intro ?_ ?_)<;>first|with_reducible rfl|with_reducible trivial)
 refine aH aOJ ?_
 unfold rO at h0;simp only[aZ];refine⟨rfl,cP (by simp),?_⟩;simp only[aU];simp only[nn,oL,List.cons_append,List.nil_append,Bool.or_eq_true,aV,ne_eq];all_goals ((repeat' refine And.intro ?_ ?_)<;>first|with_reducible rfl|with_reducible trivial)
theorem aPf:bD (aY Try.prog 41)=[bC (aY Try.prog 41) 0]:=by kernel_rfl
set_option maxHeartbeats 1000000 in
set_option maxRecDepth 100000 in
theorem aUJ (N C:Int) (b0:1≤N∧N≤10000):gZ Try.prog G GB 41 aUj (dJ ([N]++[C])):=by
 refine eA (lp:=aTO) (run:=aNV Try.prog) (fun _=>rfl) fits (eL (xs:=[N]) (ls:=[C]) (by exact⟨b0,trivial⟩)) eE (fun X hX hG=>bO hX hG) (fun X hX hG fn c hf hc=>?_) rfl ?_
 ·refine eN ((congrArg bD (eV hf hc)).symm.trans aPf) ?_
  intro b hb
  simp only[List.mem_cons,List.mem_nil_iff,or_false]at hb
  subst hb
  refine gD hX hG (by kernel_rfl) ?_
  intro p hp'
  simp only[List.mem_cons,List.mem_nil_iff,or_false]at hp'
  subst hp'
  intro _ _
  have e:fM G (dJ ([N]++[C])) aXw.es=oL N C 0:=by
   rw[cR]
   rfl
  rw[e]
  exact⟨N.toNat+1,bU (ι:=Nat) (ρ:=oL N C) (ρT:=dJ ([N]++[C])) (m:=fun a=>N.toNat-a) (Good:=fun a=>(a:Int)≤N) (run:=aAl Try.prog) (fun _=>rfl) fits rfl eE (fun a ha=>aSr N C b0 a ha) (fun _ _ X hX hG=>bO hX hG) (fun _ _ X hX hG=>cJ) (fun a ha=>aVS N C a ha) (by decide) (N.toNat+1) 0 (by show ((0:Nat):Int)≤N;omega) (by show N.toNat-0<N.toNat+1;omega)⟩
 ·skip
  refine aH aPV ?_
  exact⟨rfl,trivial⟩
def aEY:Ctx→List SV→aL→Res (SV × aL):=fL GB aHx 1 (.lit true) aUj
theorem aXm {X:Ctx} {ρ:Nat→Int} (hX:X.Ok ρ) (hG:X.G=G):gY Try.prog X ρ GB 41 aEY:=by
 obtain⟨XG,XI,XV,XF⟩:=X
 simp only at hG
 subst hG
 refine dS hX ?_
 intro xs ls hw hl hp
 unfold aHx at hw
 obtain⟨x0,y0,e0,b0,h0⟩:=pX hw
 have e1:=nD h0
 subst e1 e0
 obtain⟨l0,rfl⟩:=aPK hl
 exact aUJ x0 l0 b0
set_option maxRecDepth 100000
open Go Go.RowKit Sx Wi
def dO:E:=(.app 2 (.cons (.op .add (.op .add (.op .add (.op .add (.op .add (.op .add (.op .add (.op .add (.op .add (.op .add (.op .add (.op .add (.op .add (.op .add (.op .add (.op .add (.lit 0) (.op .mul (.var 0) (.op .mul (.op .mul (.op .mul (.op .sub (.op .shl (.lit 1) (.var 34)) (.var 32)) (.op .sub (.op .shl (.lit 1) (.var 34)) (.var 32))) (.op .sub (.op .shl (.lit 1) (.var 34)) (.var 32))) (.op .mul (.op .mul (.op .sub (.op .shl (.lit 1) (.var 34)) (.var 33)) (.op .sub (.op .shl (.lit 1) (.var 34)) (.var 33))) (.op .sub (.op .shl (.lit 1) (.var 34)) (.var 33)))))) (.op .mul (.var 2) (.op .mul (.op .mul (.op .mul (.op .sub (.op .shl (.lit 1) (.var 34)) (.var 32)) (.op .sub (.op .shl (.lit 1) (.var 34)) (.var 32))) (.op .sub (.op .shl (.lit 1) (.var 34)) (.var 32))) (.op .mul (.op .mul (.op .mul (.lit 3) (.op .sub (.op .shl (.lit 1) (.var 34)) (.var 33))) (.op .sub (.op .shl (.lit 1) (.var 34)) (.var 33))) (.var 33))))) (.op .mul (.var 4) (.op .mul (.op .mul (.op .mul (.op .sub (.op .shl (.lit 1) (.var 34)) (.var 32)) (.op .sub (.op .shl (.lit 1) (.var 34)) (.var 32))) (.op .sub (.op .shl (.lit 1) (.var 34)) (.var 32))) (.op .mul (.op .mul (.op .mul (.lit 3) (.op .sub (.op .shl (.lit 1) (.var 34)) (.var 33))) (.var 33)) (.var 33))))) (.op .mul (.var 6) (.op .mul (.op .mul (.op .mul (.op .sub (.op .shl (.lit 1) (.var 34)) (.var 32)) (.op .sub (.op .shl (.lit 1) (.var 34)) (.var 32))) (.op .sub (.op .shl (.lit 1) (.var 34)) (.var 32))) (.op .mul (.op .mul (.var 33) (.var 33)) (.var 33))))) (.op .mul (.var 8) (.op .mul (.op .mul (.op .mul (.op .mul (.lit 3) (.op .sub (.op .shl (.lit 1) (.var 34)) (.var 32))) (.op .sub (.op .shl (.lit 1) (.var 34)) (.var 32))) (.var 32)) (.op .mul (.op .mul (.op .sub (.op .shl (.lit 1) (.var 34)) (.var 33)) (.op .sub (.op .shl (.lit 1) (.var 34)) (.var 33))) (.op .sub (.op .shl (.lit 1) (.var 34)) (.var 33)))))) (.op .mul (.var 10) (.op .mul (.op .mul (.op .mul (.op .mul (.lit 3) (.op .sub (.op .shl (.lit 1) (.var 34)) (.var 32))) (.op .sub (.op .shl (.lit 1) (.var 34)) (.var 32))) (.var 32)) (.op .mul (.op .mul (.op .mul (.lit 3) (.op .sub (.op .shl (.lit 1) (.var 34)) (.var 33))) (.op .sub (.op .shl (.lit 1) (.var 34)) (.var 33))) (.var 33))))) (.op .mul (.var 12) (.op .mul (.op .mul (.op .mul (.op .mul (.lit 3) (.op .sub (.op .shl (.lit 1) (.var 34)) (.var 32))) (.op .sub (.op .shl (.lit 1) (.var 34)) (.var 32))) (.var 32)) (.op .mul (.op .mul (.op .mul (.lit 3) (.op .sub (.op .shl (.lit 1) (.var 34)) (.var 33))) (.var 33)) (.var 33))))) (.op .mul (.var 14) (.op .mul (.op .mul (.op .mul (.op .mul (.lit 3) (.op .sub (.op .shl (.lit 1) (.var 34)) (.var 32))) (.op .sub (.op .shl (.lit 1) (.var 34)) (.var 32))) (.var 32)) (.op .mul (.op .mul (.var 33) (.var 33)) (.var 33))))) (.op .mul (.var 16) (.op .mul (.op .mul (.op .mul (.op .mul (.lit 3) (.op .sub (.op .shl (.lit 1) (.var 34)) (.var 32))) (.var 32)) (.var 32)) (.op .mul (.op .mul (.op .sub (.op .shl (.lit 1) (.var 34)) (.var 33)) (.op .sub (.op .shl (.lit 1) (.var 34)) (.var 33))) (.op .sub (.op .shl (.lit 1) (.var 34)) (.var 33)))))) (.op .mul (.var 18) (.op .mul (.op .mul (.op .mul (.op .mul (.lit 3) (.op .sub (.op .shl (.lit 1) (.var 34)) (.var 32))) (.var 32)) (.var 32)) (.op .mul (.op .mul (.op .mul (.lit 3) (.op .sub (.op .shl (.lit 1) (.var 34)) (.var 33))) (.op .sub (.op .shl (.lit 1) (.var 34)) (.var 33))) (.var 33))))) (.op .mul (.var 20) (.op .mul (.op .mul (.op .mul (.op .mul (.lit 3) (.op .sub (.op .shl (.lit 1) (.var 34)) (.var 32))) (.var 32)) (.var 32)) (.op .mul (.op .mul (.op .mul (.lit 3) (.op .sub (.op .shl (.lit 1) (.var 34)) (.var 33))) (.var 33)) (.var 33))))) (.op .mul (.var 22) (.op .mul (.op .mul (.op .mul (.op .mul (.lit 3) (.op .sub (.op .shl (.lit 1) (.var 34)) (.var 32))) (.var 32)) (.var 32)) (.op .mul (.op .mul (.var 33) (.var 33)) (.var 33))))) (.op .mul (.var 24) (.op .mul (.op .mul (.op .mul (.var 32) (.var 32)) (.var 32)) (.op .mul (.op .mul (.op .sub (.op .shl (.lit 1) (.var 34)) (.var 33)) (.op .sub (.op .shl (.lit 1) (.var 34)) (.var 33))) (.op .sub (.op .shl (.lit 1) (.var 34)) (.var 33)))))) (.op .mul (.var 26) (.op .mul (.op .mul (.op .mul (.var 32) (.var 32)) (.var 32)) (.op .mul (.op .mul (.op .mul (.lit 3) (.op .sub (.op .shl (.lit 1) (.var 34)) (.var 33))) (.op .sub (.op .shl (.lit 1) (.var 34)) (.var 33))) (.var 33))))) (.op .mul (.var 28) (.op .mul (.op .mul (.op .mul (.var 32) (.var 32)) (.var 32)) (.op .mul (.op .mul (.op .mul (.lit 3) (.op .sub (.op .shl (.lit 1) (.var 34)) (.var 33))) (.var 33)) (.var 33))))) (.op .mul (.var 30) (.op .mul (.op .mul (.op .mul (.var 32) (.var 32)) (.var 32)) (.op .mul (.op .mul (.var 33) (.var 33)) (.var 33))))) (.cons (.op .shl (.lit 256) (.op .mul (.lit 6) (.var 34))) .nil)))
def dC:E:=(.app 2 (.cons (.op .add (.op .add (.op .add (.op .add (.op .add (.op .add (.op .add (.op .add (.op .add (.op .add (.op .add (.op .add (.op .add (.op .add (.op .add (.op .add (.lit 0) (.op .mul (.var 1) (.op .mul (.op .mul (.op .mul (.op .sub (.op .shl (.lit 1) (.var 34)) (.var 32)) (.op .sub (.op .shl (.lit 1) (.var 34)) (.var 32))) (.op .sub (.op .shl (.lit 1) (.var 34)) (.var 32))) (.op .mul (.op .mul (.op .sub (.op .shl (.lit 1) (.var 34)) (.var 33)) (.op .sub (.op .shl (.lit 1) (.var 34)) (.var 33))) (.op .sub (.op .shl (.lit 1) (.var 34)) (.var 33)))))) (.op .mul (.var 3) (.op .mul (.op .mul (.op .mul (.op .sub (.op .shl (.lit 1) (.var 34)) (.var 32)) (.op .sub (.op .shl (.lit 1) (.var 34)) (.var 32))) (.op .sub (.op .shl (.lit 1) (.var 34)) (.var 32))) (.op .mul (.op .mul (.op .mul (.lit 3) (.op .sub (.op .shl (.lit 1) (.var 34)) (.var 33))) (.op .sub (.op .shl (.lit 1) (.var 34)) (.var 33))) (.var 33))))) (.op .mul (.var 5) (.op .mul (.op .mul (.op .mul (.op .sub (.op .shl (.lit 1) (.var 34)) (.var 32)) (.op .sub (.op .shl (.lit 1) (.var 34)) (.var 32))) (.op .sub (.op .shl (.lit 1) (.var 34)) (.var 32))) (.op .mul (.op .mul (.op .mul (.lit 3) (.op .sub (.op .shl (.lit 1) (.var 34)) (.var 33))) (.var 33)) (.var 33))))) (.op .mul (.var 7) (.op .mul (.op .mul (.op .mul (.op .sub (.op .shl (.lit 1) (.var 34)) (.var 32)) (.op .sub (.op .shl (.lit 1) (.var 34)) (.var 32))) (.op .sub (.op .shl (.lit 1) (.var 34)) (.var 32))) (.op .mul (.op .mul (.var 33) (.var 33)) (.var 33))))) (.op .mul (.var 9) (.op .mul (.op .mul (.op .mul (.op .mul (.lit 3) (.op .sub (.op .shl (.lit 1) (.var 34)) (.var 32))) (.op .sub (.op .shl (.lit 1) (.var 34)) (.var 32))) (.var 32)) (.op .mul (.op .mul (.op .sub (.op .shl (.lit 1) (.var 34)) (.var 33)) (.op .sub (.op .shl (.lit 1) (.var 34)) (.var 33))) (.op .sub (.op .shl (.lit 1) (.var 34)) (.var 33)))))) (.op .mul (.var 11) (.op .mul (.op .mul (.op .mul (.op .mul (.lit 3) (.op .sub (.op .shl (.lit 1) (.var 34)) (.var 32))) (.op .sub (.op .shl (.lit 1) (.var 34)) (.var 32))) (.var 32)) (.op .mul (.op .mul (.op .mul (.lit 3) (.op .sub (.op .shl (.lit 1) (.var 34)) (.var 33))) (.op .sub (.op .shl (.lit 1) (.var 34)) (.var 33))) (.var 33))))) (.op .mul (.var 13) (.op .mul (.op .mul (.op .mul (.op .mul (.lit 3) (.op .sub (.op .shl (.lit 1) (.var 34)) (.var 32))) (.op .sub (.op .shl (.lit 1) (.var 34)) (.var 32))) (.var 32)) (.op .mul (.op .mul (.op .mul (.lit 3) (.op .sub (.op .shl (.lit 1) (.var 34)) (.var 33))) (.var 33)) (.var 33))))) (.op .mul (.var 15) (.op .mul (.op .mul (.op .mul (.op .mul (.lit 3) (.op .sub (.op .shl (.lit 1) (.var 34)) (.var 32))) (.op .sub (.op .shl (.lit 1) (.var 34)) (.var 32))) (.var 32)) (.op .mul (.op .mul (.var 33) (.var 33)) (.var 33))))) (.op .mul (.var 17) (.op .mul (.op .mul (.op .mul (.op .mul (.lit 3) (.op .sub (.op .shl (.lit 1) (.var 34)) (.var 32))) (.var 32)) (.var 32)) (.op .mul (.op .mul (.op .sub (.op .shl (.lit 1) (.var 34)) (.var 33)) (.op .sub (.op .shl (.lit 1) (.var 34)) (.var 33))) (.op .sub (.op .shl (.lit 1) (.var 34)) (.var 33)))))) (.op .mul (.var 19) (.op .mul (.op .mul (.op .mul (.op .mul (.lit 3) (.op .sub (.op .shl (.lit 1) (.var 34)) (.var 32))) (.var 32)) (.var 32)) (.op .mul (.op .mul (.op .mul (.lit 3) (.op .sub (.op .shl (.lit 1) (.var 34)) (.var 33))) (.op .sub (.op .shl (.lit 1) (.var 34)) (.var 33))) (.var 33))))) (.op .mul (.var 21) (.op .mul (.op .mul (.op .mul (.op .mul (.lit 3) (.op .sub (.op .shl (.lit 1) (.var 34)) (.var 32))) (.var 32)) (.var 32)) (.op .mul (.op .mul (.op .mul (.lit 3) (.op .sub (.op .shl (.lit 1) (.var 34)) (.var 33))) (.var 33)) (.var 33))))) (.op .mul (.var 23) (.op .mul (.op .mul (.op .mul (.op .mul (.lit 3) (.op .sub (.op .shl (.lit 1) (.var 34)) (.var 32))) (.var 32)) (.var 32)) (.op .mul (.op .mul (.var 33) (.var 33)) (.var 33))))) (.op .mul (.var 25) (.op .mul (.op .mul (.op .mul (.var 32) (.var 32)) (.var 32)) (.op .mul (.op .mul (.op .sub (.op .shl (.lit 1) (.var 34)) (.var 33)) (.op .sub (.op .shl (.lit 1) (.var 34)) (.var 33))) (.op .sub (.op .shl (.lit 1) (.var 34)) (.var 33)))))) (.op .mul (.var 27) (.op .mul (.op .mul (.op .mul (.var 32) (.var 32)) (.var 32)) (.op .mul (.op .mul (.op .mul (.lit 3) (.op .sub (.op .shl (.lit 1) (.var 34)) (.var 33))) (.op .sub (.op .shl (.lit 1) (.var 34)) (.var 33))) (.var 33))))) (.op .mul (.var 29) (.op .mul (.op .mul (.op .mul (.var 32) (.var 32)) (.var 32)) (.op .mul (.op .mul (.op .mul (.lit 3) (.op .sub (.op .shl (.lit 1) (.var 34)) (.var 33))) (.var 33)) (.var 33))))) (.op .mul (.var 31) (.op .mul (.op .mul (.op .mul (.var 32) (.var 32)) (.var 32)) (.op .mul (.op .mul (.var 33) (.var 33)) (.var 33))))) (.cons (.op .shl (.lit 256) (.op .mul (.lit 6) (.var 34))) .nil)))
def gQ (P:Program) (fs:List B):Res SV:=bM G GI [((-9223372036854775808),9223372036854775807),((-9223372036854775808),9223372036854775807),((-9223372036854775808),9223372036854775807),((-9223372036854775808),9223372036854775807),((-9223372036854775808),9223372036854775807),((-9223372036854775808),9223372036854775807),((-9223372036854775808),9223372036854775807),((-9223372036854775808),9223372036854775807),((-9223372036854775808),9223372036854775807),((-9223372036854775808),9223372036854775807),((-9223372036854775808),9223372036854775807),((-9223372036854775808),9223372036854775807),((-9223372036854775808),9223372036854775807),((-9223372036854775808),9223372036854775807),((-9223372036854775808),9223372036854775807),((-9223372036854775808),9223372036854775807),((-9223372036854775808),9223372036854775807),((-9223372036854775808),9223372036854775807),((-9223372036854775808),9223372036854775807),((-9223372036854775808),9223372036854775807),((-9223372036854775808),9223372036854775807),((-9223372036854775808),9223372036854775807),((-9223372036854775808),9223372036854775807),((-9223372036854775808),9223372036854775807),((-9223372036854775808),9223372036854775807),((-9223372036854775808),9223372036854775807),((-9223372036854775808),9223372036854775807),((-9223372036854775808),9223372036854775807),((-9223372036854775808),9223372036854775807),((-9223372036854775808),9223372036854775807),((-9223372036854775808),9223372036854775807),((-9223372036854775808),9223372036854775807),((-9223372036854775808),9223372036854775807),((-9223372036854775808),9223372036854775807),((-9223372036854775808),9223372036854775807)] fs (fun X=>aB4 P X GB aPY 8000 23 [(.agg [(.int .i64 (.var 0)),(.int .i64 (.var 1)),(.int .i64 (.var 2)),(.int .i64 (.var 3)),(.int .i64 (.var 4)),(.int .i64 (.var 5)),(.int .i64 (.var 6)),(.int .i64 (.var 7)),(.int .i64 (.var 8)),(.int .i64 (.var 9)),(.int .i64 (.var 10)),(.int .i64 (.var 11)),(.int .i64 (.var 12)),(.int .i64 (.var 13)),(.int .i64 (.var 14)),(.int .i64 (.var 15)),(.int .i64 (.var 16)),(.int .i64 (.var 17)),(.int .i64 (.var 18)),(.int .i64 (.var 19)),(.int .i64 (.var 20)),(.int .i64 (.var 21)),(.int .i64 (.var 22)),(.int .i64 (.var 23)),(.int .i64 (.var 24)),(.int .i64 (.var 25)),(.int .i64 (.var 26)),(.int .i64 (.var 27)),(.int .i64 (.var 28)),(.int .i64 (.var 29)),(.int .i64 (.var 30)),(.int .i64 (.var 31))]),(.int .i64 (.var 32)),(.int .i64 (.var 33)),(.int .i64 (.var 34))])
def aT3:List B:=[]
def aTR:B:=(.cmp .le (.lit 0) (.var 34))
def aTJ:List B:=aK aTR++aT3
def aTI:B:=(.cmp .le (.var 34) (.lit 6))
def aTF:List B:=aK aTI++aTJ
def aT1:B:=(.cmp .le (.lit 0) (.var 32))
def aTN:List B:=aK aT1++aTF
def aT5:B:=(.cmp .lt (.op .shl (.lit 1) (.var 34)) (.var 32))
def aWZ:List B:=aK aT5++aTN
def aTX:List B:=aK (B.neg aT5)++aTN
def aT7:B:=(.cmp .le (.lit 0) (.var 33))
def aTW:List B:=aK aT7++aTX
def aT8:B:=(.cmp .lt (.op .shl (.lit 1) (.var 34)) (.var 33))
def aXb:List B:=aK aT8++aTW
def aTV:List B:=aK (B.neg aT8)++aTW
def aTP:B:=(.cmp .lt (.lit 1099511627776) (.op .max (.op .max (.op .max (.var 0) (.wrap .i64 (.op .sub (.lit 0) (.var 0)))) (.var 1)) (.wrap .i64 (.op .sub (.lit 0) (.var 1)))))
def aXg:List B:=aK aTP++aTV
def aOc:List B:=aK (B.neg aTP)++aTV
def aQ4:B:=(.cmp .lt (.op .min (.var 0) (.var 1)) (.lit (-1099511627776)))
def aWu:List B:=aK aQ4++aOc
def aQd:List B:=aK (B.neg aQ4)++aOc
def aPT:B:=(.cmp .lt (.lit 1099511627776) (.op .max (.op .max (.op .max (.var 2) (.wrap .i64 (.op .sub (.lit 0) (.var 2)))) (.var 3)) (.wrap .i64 (.op .sub (.lit 0) (.var 3)))))
def aVj:List B:=aK aPT++aQd
def aM2:List B:=aK (B.neg aPT)++aQd
def aPd:B:=(.cmp .lt (.op .min (.var 2) (.var 3)) (.lit (-1099511627776)))
def aVz:List B:=aK aPd++aM2
def aMS:List B:=aK (B.neg aPd)++aM2
def aPs:B:=(.cmp .lt (.lit 1099511627776) (.op .max (.op .max (.op .max (.var 4) (.wrap .i64 (.op .sub (.lit 0) (.var 4)))) (.var 5)) (.wrap .i64 (.op .sub (.lit 0) (.var 5)))))
def aWc:List B:=aK aPs++aMS
def aOY:List B:=aK (B.neg aPs)++aMS
def aPM:B:=(.cmp .lt (.op .min (.var 4) (.var 5)) (.lit (-1099511627776)))
def aVw:List B:=aK aPM++aOY
def aOh:List B:=aK (B.neg aPM)++aOY
def aOi:B:=(.cmp .lt (.lit 1099511627776) (.op .max (.op .max (.op .max (.var 6) (.wrap .i64 (.op .sub (.lit 0) (.var 6)))) (.var 7)) (.wrap .i64 (.op .sub (.lit 0) (.var 7)))))
def aVd:List B:=aK aOi++aOh
def aQH:List B:=aK (B.neg aOi)++aOh
def aOH:B:=(.cmp .lt (.op .min (.var 6) (.var 7)) (.lit (-1099511627776)))
def aUY:List B:=aK aOH++aQH
def aPR:List B:=aK (B.neg aOH)++aQH
def aOU:B:=(.cmp .lt (.lit 1099511627776) (.op .max (.op .max (.op .max (.var 8) (.wrap .i64 (.op .sub (.lit 0) (.var 8)))) (.var 9)) (.wrap .i64 (.op .sub (.lit 0) (.var 9)))))
def aWa:List B:=aK aOU++aPR
def aQj:List B:=aK (B.neg aOU)++aPR
def aN1:B:=(.cmp .lt (.op .min (.var 8) (.var 9)) (.lit (-1099511627776)))
def aWI:List B:=aK aN1++aQj
def aOp:List B:=aK (B.neg aN1)++aQj
def aPa:B:=(.cmp .lt (.lit 1099511627776) (.op .max (.op .max (.op .max (.var 10) (.wrap .i64 (.op .sub (.lit 0) (.var 10)))) (.var 11)) (.wrap .i64 (.op .sub (.lit 0) (.var 11)))))
def aWe:List B:=aK aPa++aOp
def aQ5:List B:=aK (B.neg aPa)++aOp
def aQi:B:=(.cmp .lt (.op .min (.var 10) (.var 11)) (.lit (-1099511627776)))
def aV1:List B:=aK aQi++aQ5
def aN8:List B:=aK (B.neg aQi)++aQ5
def aPS:B:=(.cmp .lt (.lit 1099511627776) (.op .max (.op .max (.op .max (.var 12) (.wrap .i64 (.op .sub (.lit 0) (.var 12)))) (.var 13)) (.wrap .i64 (.op .sub (.lit 0) (.var 13)))))
def aVZ:List B:=aK aPS++aN8
def aOv:List B:=aK (B.neg aPS)++aN8
def aP0:B:=(.cmp .lt (.op .min (.var 12) (.var 13)) (.lit (-1099511627776)))
def aUK:List B:=aK aP0++aOv
def aQs:List B:=aK (B.neg aP0)++aOv
def aO7:B:=(.cmp .lt (.lit 1099511627776) (.op .max (.op .max (.op .max (.var 14) (.wrap .i64 (.op .sub (.lit 0) (.var 14)))) (.var 15)) (.wrap .i64 (.op .sub (.lit 0) (.var 15)))))
def aUf:List B:=aK aO7++aQs
def aQP:List B:=aK (B.neg aO7)++aQs
def aPG:B:=(.cmp .lt (.op .min (.var 14) (.var 15)) (.lit (-1099511627776)))
def aVp:List B:=aK aPG++aQP
def aNH:List B:=aK (B.neg aPG)++aQP
def aNA:B:=(.cmp .lt (.lit 1099511627776) (.op .max (.op .max (.op .max (.var 16) (.wrap .i64 (.op .sub (.lit 0) (.var 16)))) (.var 17)) (.wrap .i64 (.op .sub (.lit 0) (.var 17)))))
def aVf:List B:=aK aNA++aNH
def aQF:List B:=aK (B.neg aNA)++aNH
def aNM:B:=(.cmp .lt (.op .min (.var 16) (.var 17)) (.lit (-1099511627776)))
def aWJ:List B:=aK aNM++aQF
def aNt:List B:=aK (B.neg aNM)++aQF
def aNY:B:=(.cmp .lt (.lit 1099511627776) (.op .max (.op .max (.op .max (.var 18) (.wrap .i64 (.op .sub (.lit 0) (.var 18)))) (.var 19)) (.wrap .i64 (.op .sub (.lit 0) (.var 19)))))
def aUn:List B:=aK aNY++aNt
def aOz:List B:=aK (B.neg aNY)++aNt
def aNj:B:=(.cmp .lt (.op .min (.var 18) (.var 19)) (.lit (-1099511627776)))
def aWO:List B:=aK aNj++aOz
def aQI:List B:=aK (B.neg aNj)++aOz
def aOV:B:=(.cmp .lt (.lit 1099511627776) (.op .max (.op .max (.op .max (.var 20) (.wrap .i64 (.op .sub (.lit 0) (.var 20)))) (.var 21)) (.wrap .i64 (.op .sub (.lit 0) (.var 21)))))
def aU2:List B:=aK aOV++aQI
def aQ3:List B:=aK (B.neg aOV)++aQI
def aM0:B:=(.cmp .lt (.op .min (.var 20) (.var 21)) (.lit (-1099511627776)))
def aVn:List B:=aK aM0++aQ3
def aN0:List B:=aK (B.neg aM0)++aQ3
def aN9:B:=(.cmp .lt (.lit 1099511627776) (.op .max (.op .max (.op .max (.var 22) (.wrap .i64 (.op .sub (.lit 0) (.var 22)))) (.var 23)) (.wrap .i64 (.op .sub (.lit 0) (.var 23)))))
def aVq:List B:=aK aN9++aN0
def aOa:List B:=aK (B.neg aN9)++aN0
def aNa:B:=(.cmp .lt (.op .min (.var 22) (.var 23)) (.lit (-1099511627776)))
def aWw:List B:=aK aNa++aOa
def aMY:List B:=aK (B.neg aNa)++aOa
def aPu:B:=(.cmp .lt (.lit 1099511627776) (.op .max (.op .max (.op .max (.var 24) (.wrap .i64 (.op .sub (.lit 0) (.var 24)))) (.var 25)) (.wrap .i64 (.op .sub (.lit 0) (.var 25)))))
def aU7:List B:=aK aPu++aMY
def aNh:List B:=aK (B.neg aPu)++aMY
def aP3:B:=(.cmp .lt (.op .min (.var 24) (.var 25)) (.lit (-1099511627776)))
def aU8:List B:=aK aP3++aNh
def aP1:List B:=aK (B.neg aP3)++aNh
def aPi:B:=(.cmp .lt (.lit 1099511627776) (.op .max (.op .max (.op .max (.var 26) (.wrap .i64 (.op .sub (.lit 0) (.var 26)))) (.var 27)) (.wrap .i64 (.op .sub (.lit 0) (.var 27)))))
def aU4:List B:=aK aPi++aP1
def aQO:List B:=aK (B.neg aPi)++aP1
def aQM:B:=(.cmp .lt (.op .min (.var 26) (.var 27)) (.lit (-1099511627776)))
def aUV:List B:=aK aQM++aQO
def aOj:List B:=aK (B.neg aQM)++aQO
def aQe:B:=(.cmp .lt (.lit 1099511627776) (.op .max (.op .max (.op .max (.var 28) (.wrap .i64 (.op .sub (.lit 0) (.var 28)))) (.var 29)) (.wrap .i64 (.op .sub (.lit 0) (.var 29)))))
def aVP:List B:=aK aQe++aOj
def aNF:List B:=aK (B.neg aQe)++aOj
def aNx:B:=(.cmp .lt (.op .min (.var 28) (.var 29)) (.lit (-1099511627776)))
def aUI:List B:=aK aNx++aNF
def aNU:List B:=aK (B.neg aNx)++aNF
def aNz:B:=(.cmp .lt (.lit 1099511627776) (.op .max (.op .max (.op .max (.var 30) (.wrap .i64 (.op .sub (.lit 0) (.var 30)))) (.var 31)) (.wrap .i64 (.op .sub (.lit 0) (.var 31)))))
def aWC:List B:=aK aNz++aNU
def aQ2:List B:=aK (B.neg aNz)++aNU
def aP4:B:=(.cmp .lt (.op .min (.var 30) (.var 31)) (.lit (-1099511627776)))
def aWy:List B:=aK aP4++aQ2
def aM6:List B:=aK (B.neg aP4)++aQ2
def aPz:B:=(.cmp .le (.lit (-9223372036854775808)) dO)
def aPq:List B:=aK aPz++aM6
def aQu:B:=(.cmp .le dO (.lit 9223372036854775807))
def aPl:List B:=aK aQu++aPq
def aQr:B:=(.cmp .le (.lit (-9223372036854775808)) dC)
def aON:List B:=aK aQr++aPl
def aP5:B:=(.cmp .le dC (.lit 9223372036854775807))
def aVa:List B:=aK aP5++aON
def aV0:List B:=aK (B.neg aP5)++aON
def aUe:List B:=aK (B.neg aQr)++aPl
def aOb:List B:=aK (B.neg aQu)++aPq
def aNS:B:=(.cmp .le (.lit (-9223372036854775808)) dC)
def aN6:List B:=aK aNS++aOb
def aNZ:B:=(.cmp .le dC (.lit 9223372036854775807))
def aUC:List B:=aK aNZ++aN6
def aWN:List B:=aK (B.neg aNZ)++aN6
def aUB:List B:=aK (B.neg aNS)++aOb
def aNK:List B:=aK (B.neg aPz)++aM6
def aQf:B:=(.cmp .le (.lit (-9223372036854775808)) dC)
def aOR:List B:=aK aQf++aNK
def aNe:B:=(.cmp .le dC (.lit 9223372036854775807))
def aUH:List B:=aK aNe++aOR
def aU3:List B:=aK (B.neg aNe)++aOR
def aUc:List B:=aK (B.neg aQf)++aNK
def aV5:List B:=aK (B.neg aT7)++aTX
def aVI:List B:=aK (B.neg aT1)++aTF
def aV3:List B:=aK (B.neg aTI)++aTJ
def aWn:List B:=aK (B.neg aTR)++aT3
set_option maxRecDepth 100000
open Go Go.RowKit Sx Wi
theorem aXs:gQ Try.prog aWZ = .ok (.tuple [(.agg [(.int .i64 (.lit 0)),(.int .i64 (.lit 0))]),(.int .i64 (.lit 1))]):=by kernel_rfl
theorem aXv:gQ Try.prog aXb = .ok (.tuple [(.agg [(.int .i64 (.lit 0)),(.int .i64 (.lit 0))]),(.int .i64 (.lit 1))]):=by kernel_rfl
theorem aW2:gQ Try.prog aXg = .ok (.tuple [(.agg [(.int .i64 (.lit 0)),(.int .i64 (.lit 0))]),(.int .i64 (.lit 1))]):=by kernel_rfl
theorem aVg:gQ Try.prog aWu = .ok (.tuple [(.agg [(.int .i64 (.lit 0)),(.int .i64 (.lit 0))]),(.int .i64 (.lit 1))]):=by kernel_rfl
theorem aVH:gQ Try.prog aVj = .ok (.tuple [(.agg [(.int .i64 (.lit 0)),(.int .i64 (.lit 0))]),(.int .i64 (.lit 1))]):=by kernel_rfl
theorem aWA:gQ Try.prog aVz = .ok (.tuple [(.agg [(.int .i64 (.lit 0)),(.int .i64 (.lit 0))]),(.int .i64 (.lit 1))]):=by kernel_rfl
set_option maxRecDepth 100000
open Go Go.RowKit Sx Wi
theorem aWP:gQ Try.prog aWc = .ok (.tuple [(.agg [(.int .i64 (.lit 0)),(.int .i64 (.lit 0))]),(.int .i64 (.lit 1))]):=by kernel_rfl
theorem aUA:gQ Try.prog aVw = .ok (.tuple [(.agg [(.int .i64 (.lit 0)),(.int .i64 (.lit 0))]),(.int .i64 (.lit 1))]):=by kernel_rfl
theorem aUz:gQ Try.prog aVd = .ok (.tuple [(.agg [(.int .i64 (.lit 0)),(.int .i64 (.lit 0))]),(.int .i64 (.lit 1))]):=by kernel_rfl
theorem aUP:gQ Try.prog aUY = .ok (.tuple [(.agg [(.int .i64 (.lit 0)),(.int .i64 (.lit 0))]),(.int .i64 (.lit 1))]):=by kernel_rfl
theorem aUd:gQ Try.prog aWa = .ok (.tuple [(.agg [(.int .i64 (.lit 0)),(.int .i64 (.lit 0))]),(.int .i64 (.lit 1))]):=by kernel_rfl
theorem aWF:gQ Try.prog aWI = .ok (.tuple [(.agg [(.int .i64 (.lit 0)),(.int .i64 (.lit 0))]),(.int .i64 (.lit 1))]):=by kernel_rfl
set_option maxRecDepth 100000
open Go Go.RowKit Sx Wi
theorem aUo:gQ Try.prog aWe = .ok (.tuple [(.agg [(.int .i64 (.lit 0)),(.int .i64 (.lit 0))]),(.int .i64 (.lit 1))]):=by kernel_rfl
theorem aWD:gQ Try.prog aV1 = .ok (.tuple [(.agg [(.int .i64 (.lit 0)),(.int .i64 (.lit 0))]),(.int .i64 (.lit 1))]):=by kernel_rfl
theorem aVR:gQ Try.prog aVZ = .ok (.tuple [(.agg [(.int .i64 (.lit 0)),(.int .i64 (.lit 0))]),(.int .i64 (.lit 1))]):=by kernel_rfl
theorem aWt:gQ Try.prog aUK = .ok (.tuple [(.agg [(.int .i64 (.lit 0)),(.int .i64 (.lit 0))]),(.int .i64 (.lit 1))]):=by kernel_rfl
theorem aUZ:gQ Try.prog aUf = .ok (.tuple [(.agg [(.int .i64 (.lit 0)),(.int .i64 (.lit 0))]),(.int .i64 (.lit 1))]):=by kernel_rfl
theorem aVs:gQ Try.prog aVp = .ok (.tuple [(.agg [(.int .i64 (.lit 0)),(.int .i64 (.lit 0))]),(.int .i64 (.lit 1))]):=by kernel_rfl
set_option maxRecDepth 100000
open Go Go.RowKit Sx Wi
theorem aUv:gQ Try.prog aVf = .ok (.tuple [(.agg [(.int .i64 (.lit 0)),(.int .i64 (.lit 0))]),(.int .i64 (.lit 1))]):=by kernel_rfl
theorem aVc:gQ Try.prog aWJ = .ok (.tuple [(.agg [(.int .i64 (.lit 0)),(.int .i64 (.lit 0))]),(.int .i64 (.lit 1))]):=by kernel_rfl
theorem aWM:gQ Try.prog aUn = .ok (.tuple [(.agg [(.int .i64 (.lit 0)),(.int .i64 (.lit 0))]),(.int .i64 (.lit 1))]):=by kernel_rfl
theorem aVW:gQ Try.prog aWO = .ok (.tuple [(.agg [(.int .i64 (.lit 0)),(.int .i64 (.lit 0))]),(.int .i64 (.lit 1))]):=by kernel_rfl
theorem aUr:gQ Try.prog aU2 = .ok (.tuple [(.agg [(.int .i64 (.lit 0)),(.int .i64 (.lit 0))]),(.int .i64 (.lit 1))]):=by kernel_rfl
theorem aWv:gQ Try.prog aVn = .ok (.tuple [(.agg [(.int .i64 (.lit 0)),(.int .i64 (.lit 0))]),(.int .i64 (.lit 1))]):=by kernel_rfl
set_option maxRecDepth 100000
open Go Go.RowKit Sx Wi
theorem aVX:gQ Try.prog aVq = .ok (.tuple [(.agg [(.int .i64 (.lit 0)),(.int .i64 (.lit 0))]),(.int .i64 (.lit 1))]):=by kernel_rfl
theorem aWG:gQ Try.prog aWw = .ok (.tuple [(.agg [(.int .i64 (.lit 0)),(.int .i64 (.lit 0))]),(.int .i64 (.lit 1))]):=by kernel_rfl
theorem aWk:gQ Try.prog aU7 = .ok (.tuple [(.agg [(.int .i64 (.lit 0)),(.int .i64 (.lit 0))]),(.int .i64 (.lit 1))]):=by kernel_rfl
theorem aWL:gQ Try.prog aU8 = .ok (.tuple [(.agg [(.int .i64 (.lit 0)),(.int .i64 (.lit 0))]),(.int .i64 (.lit 1))]):=by kernel_rfl
theorem aWm:gQ Try.prog aU4 = .ok (.tuple [(.agg [(.int .i64 (.lit 0)),(.int .i64 (.lit 0))]),(.int .i64 (.lit 1))]):=by kernel_rfl
theorem aUL:gQ Try.prog aUV = .ok (.tuple [(.agg [(.int .i64 (.lit 0)),(.int .i64 (.lit 0))]),(.int .i64 (.lit 1))]):=by kernel_rfl
set_option maxRecDepth 100000
open Go Go.RowKit Sx Wi
theorem aUX:gQ Try.prog aVP = .ok (.tuple [(.agg [(.int .i64 (.lit 0)),(.int .i64 (.lit 0))]),(.int .i64 (.lit 1))]):=by kernel_rfl
theorem aV4:gQ Try.prog aUI = .ok (.tuple [(.agg [(.int .i64 (.lit 0)),(.int .i64 (.lit 0))]),(.int .i64 (.lit 1))]):=by kernel_rfl
theorem aUQ:gQ Try.prog aWC = .ok (.tuple [(.agg [(.int .i64 (.lit 0)),(.int .i64 (.lit 0))]),(.int .i64 (.lit 1))]):=by kernel_rfl
theorem aVT:gQ Try.prog aWy = .ok (.tuple [(.agg [(.int .i64 (.lit 0)),(.int .i64 (.lit 0))]),(.int .i64 (.lit 1))]):=by kernel_rfl
theorem aWd:gQ Try.prog aVa = .ok (.tuple [(.agg [(.int .i64 dO),(.int .i64 dC)]),(.int .i64 (.lit 0))]):=by kernel_rfl
theorem aU9:gQ Try.prog aV0 = .ok (.tuple [(.agg [(.int .i64 dO),(.int .i64 (.lit 0))]),(.int .i64 (.lit 0))]):=by kernel_rfl
set_option maxRecDepth 100000
open Go Go.RowKit Sx Wi
theorem aVV:gQ Try.prog aUe = .ok (.tuple [(.agg [(.int .i64 dO),(.int .i64 (.lit 0))]),(.int .i64 (.lit 0))]):=by kernel_rfl
theorem aWi:gQ Try.prog aUC = .ok (.tuple [(.agg [(.int .i64 (.lit 0)),(.int .i64 dC)]),(.int .i64 (.lit 0))]):=by kernel_rfl
theorem aVr:gQ Try.prog aWN = .ok (.tuple [(.agg [(.int .i64 (.lit 0)),(.int .i64 (.lit 0))]),(.int .i64 (.lit 0))]):=by kernel_rfl
theorem aVv:gQ Try.prog aUB = .ok (.tuple [(.agg [(.int .i64 (.lit 0)),(.int .i64 (.lit 0))]),(.int .i64 (.lit 0))]):=by kernel_rfl
theorem aWo:gQ Try.prog aUH = .ok (.tuple [(.agg [(.int .i64 (.lit 0)),(.int .i64 dC)]),(.int .i64 (.lit 0))]):=by kernel_rfl
theorem aWf:gQ Try.prog aU3 = .ok (.tuple [(.agg [(.int .i64 (.lit 0)),(.int .i64 (.lit 0))]),(.int .i64 (.lit 0))]):=by kernel_rfl
set_option maxRecDepth 100000
open Go Go.RowKit Sx Wi
theorem aUS:gQ Try.prog aUc = .ok (.tuple [(.agg [(.int .i64 (.lit 0)),(.int .i64 (.lit 0))]),(.int .i64 (.lit 0))]):=by kernel_rfl
theorem aWr:gQ Try.prog aV5 = .ok (.tuple [(.agg [(.int .i64 (.lit 0)),(.int .i64 (.lit 0))]),(.int .i64 (.lit 1))]):=by kernel_rfl
theorem aVC:gQ Try.prog aVI = .ok (.tuple [(.agg [(.int .i64 (.lit 0)),(.int .i64 (.lit 0))]),(.int .i64 (.lit 1))]):=by kernel_rfl
theorem aUx:gQ Try.prog aV3 = .ok (.tuple [(.agg [(.int .i64 (.lit 0)),(.int .i64 (.lit 0))]),(.int .i64 (.lit 1))]):=by kernel_rfl
theorem aVb:gQ Try.prog aWn = .ok (.tuple [(.agg [(.int .i64 (.lit 0)),(.int .i64 (.lit 0))]),(.int .i64 (.lit 1))]):=by kernel_rfl
end Go.Proofs.Ytkpdiehbaiepaaa
