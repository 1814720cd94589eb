/- What is proved: the lines of a path: the rounds of its iterator. No condition but the numbers' own bounds. -/
import Derived.Test.YthiehfhphgkaeaaQa1
import Derived.Test.YthiehfhphgkaeaaQa4
import Derived.Test.YthiehfhphgkaeaaQg4
import Derived.Test.YthiehfhphgkaeaaProg
import Derived.Test.YthiehfhphgkaeaaQa2
set_option linter.unusedSimpArgs false
set_option linter.unusedVariables false
namespace Go.Proofs.Ythiehfhphgkaeaa
open Go Go.RowKit Sx Wi
def cB (N L:Int) (p:Nat × Nat):Nat→Int:=eH ([N]++[(p.1:Int),(p.2:Int),L])
theorem aJz (N L:Int) (b0:0≤N∧N≤256) (hN:N=((Lc.dec L).length:Int)) (p:Nat × Nat) (hp:eI L N p):∀ k q,aDf[k]?=some q→q.1≤cB N L p k∧cB N L p k≤q.2:=by
 have h:=aGI b0 hN hp
 unfold cB aDf
 exact cZ (xs:=[N,(p.1:Int),(p.2:Int)]) (ls:=[L]) (by exact⟨b0,by have:=hp.1;omega,by omega,trivial⟩)
set_option maxHeartbeats 4000000 in
set_option maxRecDepth 100000 in
theorem aKX (N L:Int) (b0:0≤N∧N≤256) (hN:N=((Lc.dec L).length:Int)) (p:Nat × Nat) (hp:eI L N p):Sx.zL (sS Try.prog) G (cB N L p) (bF G (cB N L) (eH ([N]++[L])) 1 aK7.b (eI L N) (fun p=>N.toNat-p.1) p) []:=by
 refine aR cE (fun h0=>?_) (fun h0=>?_)
 rotate_left
 ·skip
  refine aM aED ?_
  unfold cE at h0;simp only[nn,cB,List.cons_append,List.nil_append,Bool.or_eq_true,aZ,ne_eq]at h0;have q:=aKv hN b0.2 (by omega) hp;clear h0;simp only[bF];refine⟨?_,bL (by simp),?_⟩;(· show decide (G 55 [L,N]=1)=true;exact decide_eq_true q.2);simp only[aP];simp only[nn,cB,List.cons_append,List.nil_append,Bool.or_eq_true,aZ,ne_eq];(repeat' refine And.intro ?_ ?_)<;>first|with_reducible exact q.1|with_reducible rfl|with_reducible trivial
 refine aR cN (fun h1=>?_) (fun h1=>?_)
 rotate_left
 ·skip
  refine bS ?_
  unfold cE at h0;unfold cN at h1;simp only[nn,cB,List.cons_append,List.nil_append,Bool.or_eq_true,aZ,ne_eq]at h0 h1;omega
 refine aR cR (fun h2=>?_) (fun h2=>?_)
 ·skip
  refine aR cO (fun h3=>?_) (fun h3=>?_)
  rotate_left
  ·skip
   refine bS ?_
   unfold cE at h0;unfold cN at h1;unfold cR at h2;unfold cO at h3;simp only[nn,cB,List.cons_append,List.nil_append,Bool.or_eq_true,aZ,ne_eq]at h0 h1 h2 h3;first|(have q:=tB hN b0.2 (by clear h1 h2 h3;omega) h2;generalize G 53 [L,(p.1:Int)+1,N-(p.1:Int)-1]=R at *;clear hp;omega)|(clear h2;omega)
  refine aR cQ (fun h4=>?_) (fun h4=>?_)
  rotate_left
  ·skip
   refine aM aEj ?_
   unfold cE at h0;unfold cN at h1;unfold cR at h2;unfold cO at h3;unfold cQ at h4;simp only[nn,cB,List.cons_append,List.nil_append,Bool.or_eq_true,aZ,ne_eq]at h0 h1 h2 h3 h4;have q:¬G 55 [L,N]=1:=aDo hN b0.2 (by clear h1 h2 h3 h4;omega) hp h2 (.inl h4);clear h0 h1 h2 h3 h4;simp only[bF];refine⟨?_,bL (by simp),?_⟩;(· show decide (G 55 [L,N]=1)=false;exact decide_eq_false q);simp only[aP];simp only[nn,cB,List.cons_append,List.nil_append,Bool.or_eq_true,aZ,ne_eq];all_goals ((repeat' refine And.intro ?_ ?_)<;>first|with_reducible rfl|with_reducible trivial)
  refine aR kH (fun h5=>?_) (fun h5=>?_)
  rotate_left
  ·skip
   refine bS ?_
   unfold cE at h0;unfold cN at h1;unfold cR at h2;unfold cO at h3;unfold cQ at h4;unfold kH at h5;simp only[nn,cB,List.cons_append,List.nil_append,Bool.or_eq_true,aZ,ne_eq]at h0 h1 h2 h3 h4 h5;first|(have q:=tB hN b0.2 (by clear h1 h2 h3 h4 h5;omega) h2;generalize G 53 [L,(p.1:Int)+1,N-(p.1:Int)-1]=R at *;clear hp h5;omega)|(clear h2 h3 h4;omega)
  refine aR jV (fun h6=>?_) (fun h6=>?_)
  rotate_left
  ·skip
   refine aM aFW ?_
   unfold cE at h0;unfold cN at h1;unfold cR at h2;unfold cO at h3;unfold cQ at h4;unfold kH at h5;unfold jV at h6;simp only[nn,cB,List.cons_append,List.nil_append,Bool.or_eq_true,aZ,ne_eq]at h0 h1 h2 h3 h4 h5 h6;have q:¬G 55 [L,N]=1:=aDo hN b0.2 (by clear h1 h2 h3 h4 h5 h6;omega) hp h2 (.inr h6);clear h0 h1 h2 h3 h4 h5 h6;simp only[bF];refine⟨?_,bL (by simp),?_⟩;(· show decide (G 55 [L,N]=1)=false;exact decide_eq_false q);simp only[aP];simp only[nn,cB,List.cons_append,List.nil_append,Bool.or_eq_true,aZ,ne_eq];all_goals ((repeat' refine And.intro ?_ ?_)<;>first|with_reducible rfl|with_reducible trivial)
  refine aR pN (fun h7=>?_) (fun h7=>?_)
  ·skip
   refine bS ?_
   unfold cE at h0;unfold cN at h1;unfold cR at h2;unfold cO at h3;unfold cQ at h4;unfold kH at h5;unfold jV at h6;unfold pN at h7;simp only[nn,cB,List.cons_append,List.nil_append,Bool.or_eq_true,aZ,ne_eq]at h0 h1 h2 h3 h4 h5 h6 h7;first|(have q:=tB hN b0.2 (by clear h1 h2 h3 h4 h5 h6 h7;omega) h2;generalize G 53 [L,(p.1:Int)+1,N-(p.1:Int)-1]=R at *;clear hp h5 h7;omega)|(clear h2 h3 h4 h5 h6;omega)
  refine aM aH9 ?_
  unfold cE at h0;unfold cN at h1;unfold cR at h2;unfold cO at h3;unfold cQ at h4;unfold kH at h5;unfold jV at h6;unfold pN at h7;unfold aAg;simp only[nn,cB,List.cons_append,List.nil_append,Bool.or_eq_true,aZ,ne_eq]at h0 h1 h2 h3 h4 h5 h6 h7;have q:=aGh hN b0.2 (by clear h1 h2 h3 h4 h5 h6 h7;omega) hp h4 h2 h6;clear h1 h2 h3 h4 h5 h6 h7;have hm:N.toNat-N.toNat<N.toNat-p.1:=(by omega);  simp only[bF];refine⟨(N.toNat,p.2+1),q,hm,bL (by simp),?_⟩;simp only[aP];clear q hm hp;simp only[nn,Int.natCast_add,Int.cast_ofNat_Int,Int.natCast_one,cB,List.cons_append,List.nil_append,Bool.or_eq_true,aZ,ne_eq];all_goals ((repeat' refine And.intro ?_ ?_)<;>first|with_reducible rfl|with_reducible trivial|omega)
 refine aR eJ (fun h3=>?_) (fun h3=>?_)
 rotate_left
 ·skip
  refine bS ?_
  unfold cE at h0;unfold cN at h1;unfold cR at h2;unfold eJ at h3;simp only[nn,cB,List.cons_append,List.nil_append,Bool.or_eq_true,aZ,ne_eq]at h0 h1 h2 h3;first|(have q:=tB hN b0.2 (by clear h1 h2 h3;omega) h2;generalize G 53 [L,(p.1:Int)+1,N-(p.1:Int)-1]=R at *;clear hp;omega)|(clear h2;omega)
 refine aR cO (fun h4=>?_) (fun h4=>?_)
 rotate_left
 ·skip
  refine bS ?_
  unfold cE at h0;unfold cN at h1;unfold cR at h2;unfold eJ at h3;unfold cO at h4;simp only[nn,cB,List.cons_append,List.nil_append,Bool.or_eq_true,aZ,ne_eq]at h0 h1 h2 h3 h4;first|(have q:=tB hN b0.2 (by clear h1 h2 h3 h4;omega) h2;generalize G 53 [L,(p.1:Int)+1,N-(p.1:Int)-1]=R at *;clear hp;omega)|(clear h2 h3;omega)
 refine aR cQ (fun h5=>?_) (fun h5=>?_)
 rotate_left
 ·skip
  refine aM aFj ?_
  unfold cE at h0;unfold cN at h1;unfold cR at h2;unfold eJ at h3;unfold cO at h4;unfold cQ at h5;simp only[nn,cB,List.cons_append,List.nil_append,Bool.or_eq_true,aZ,ne_eq]at h0 h1 h2 h3 h4 h5;have q:¬G 55 [L,N]=1:=aC2 hN b0.2 (by clear h1 h2 h3 h4 h5;omega) hp h2 (.inl h5);clear h0 h1 h2 h3 h4 h5;simp only[bF];refine⟨?_,bL (by simp),?_⟩;(· show decide (G 55 [L,N]=1)=false;exact decide_eq_false q);simp only[aP];simp only[nn,cB,List.cons_append,List.nil_append,Bool.or_eq_true,aZ,ne_eq];all_goals ((repeat' refine And.intro ?_ ?_)<;>first|with_reducible rfl|with_reducible trivial)
 refine aR gR (fun h6=>?_) (fun h6=>?_)
 rotate_left
 ·skip
  refine bS ?_
  unfold cE at h0;unfold cN at h1;unfold cR at h2;unfold eJ at h3;unfold cO at h4;unfold cQ at h5;unfold gR at h6;simp only[nn,cB,List.cons_append,List.nil_append,Bool.or_eq_true,aZ,ne_eq]at h0 h1 h2 h3 h4 h5 h6;first|(have q:=tB hN b0.2 (by clear h1 h2 h3 h4 h5 h6;omega) h2;generalize G 53 [L,(p.1:Int)+1,N-(p.1:Int)-1]=R at *;clear hp h5;omega)|(clear h2 h3 h4 h5;omega)
 refine aR fI (fun h7=>?_) (fun h7=>?_)
 rotate_left
 ·skip
  refine aM aEV ?_
  unfold cE at h0;unfold cN at h1;unfold cR at h2;unfold eJ at h3;unfold cO at h4;unfold cQ at h5;unfold gR at h6;unfold fI at h7;simp only[nn,cB,List.cons_append,List.nil_append,Bool.or_eq_true,aZ,ne_eq]at h0 h1 h2 h3 h4 h5 h6 h7;have q:¬G 55 [L,N]=1:=aC2 hN b0.2 (by clear h1 h2 h3 h4 h5 h6 h7;omega) hp h2 (.inr h7);clear h0 h1 h2 h3 h4 h5 h6 h7;simp only[bF];refine⟨?_,bL (by simp),?_⟩;(· show decide (G 55 [L,N]=1)=false;exact decide_eq_false q);simp only[aP];simp only[nn,cB,List.cons_append,List.nil_append,Bool.or_eq_true,aZ,ne_eq];all_goals ((repeat' refine And.intro ?_ ?_)<;>first|with_reducible rfl|with_reducible trivial)
 refine aR gG (fun h8=>?_) (fun h8=>?_)
 rotate_left
 ·skip
  refine aM aDG ?_
  unfold cE at h0;unfold cN at h1;unfold cR at h2;unfold eJ at h3;unfold cO at h4;unfold cQ at h5;unfold gR at h6;unfold fI at h7;unfold gG at h8;unfold pJ;simp only[nn,cB,List.cons_append,List.nil_append,Bool.or_eq_true,aZ,ne_eq]at h0 h1 h2 h3 h4 h5 h6 h7 h8;exfalso;obtain⟨q1,q2,_,_⟩:=uQ hN b0.2 (by clear h1 h2 h3 h4 h5 h6 h7 h8;omega) hp h5 h2 h7;generalize G 53 [L,(p.1:Int)+1,N-(p.1:Int)-1]+1=R at *;clear hp h1 h2 h3 h4 h5 h6 h7;omega
 refine aR jS (fun h9=>?_) (fun h9=>?_)
 rotate_left
 ·skip
  refine bS ?_
  unfold cE at h0;unfold cN at h1;unfold cR at h2;unfold eJ at h3;unfold cO at h4;unfold cQ at h5;unfold gR at h6;unfold fI at h7;unfold gG at h8;unfold jS at h9;simp only[nn,cB,List.cons_append,List.nil_append,Bool.or_eq_true,aZ,ne_eq]at h0 h1 h2 h3 h4 h5 h6 h7 h8 h9;first|(have q:=tB hN b0.2 (by clear h1 h2 h3 h4 h5 h6 h7 h8 h9;omega) h2;generalize G 53 [L,(p.1:Int)+1,N-(p.1:Int)-1]=R at *;clear hp h5 h7;omega)|(clear h2 h3 h4 h5 h6 h7 h8;omega)
 refine aR kD (fun h10=>?_) (fun h10=>?_)
 ·skip
  refine aM aEc ?_
  unfold cE at h0;unfold cN at h1;unfold cR at h2;unfold eJ at h3;unfold cO at h4;unfold cQ at h5;unfold gR at h6;unfold fI at h7;unfold gG at h8;unfold jS at h9;unfold kD at h10;unfold aAO;simp only[nn,cB,List.cons_append,List.nil_append,Bool.or_eq_true,aZ,ne_eq]at h0 h1 h2 h3 h4 h5 h6 h7 h8 h9 h10;obtain⟨q1,q2,q3,_⟩:=uQ hN b0.2 (by clear h1 h2 h3 h4 h5 h6 h7 h8 h9 h10;omega) hp h5 h2 h7;have q:=q3 h10;clear q3 h1 h2 h3 h4 h5 h6 h7 h8 h9 h10;generalize hR:G 53 [L,(p.1:Int)+1,N-(p.1:Int)-1]+1=R at *;have hm:N.toNat-((p.1:Int)+R+1).toNat<N.toNat-p.1:=(by omega);  simp only[bF];refine⟨(((p.1:Int)+R+1).toNat,p.2+1),q,hm,bL (by simp),?_⟩;simp only[aP];clear q hm hp;simp only[nn,Int.natCast_add,Int.cast_ofNat_Int,Int.natCast_one,cB,List.cons_append,List.nil_append,Bool.or_eq_true,aZ,ne_eq];all_goals ((repeat' refine And.intro ?_ ?_)<;>first|with_reducible rfl|with_reducible trivial|omega)
 refine aM aD4 ?_
 unfold cE at h0;unfold cN at h1;unfold cR at h2;unfold eJ at h3;unfold cO at h4;unfold cQ at h5;unfold gR at h6;unfold fI at h7;unfold gG at h8;unfold jS at h9;unfold kD at h10;unfold pJ;simp only[nn,cB,List.cons_append,List.nil_append,Bool.or_eq_true,aZ,ne_eq]at h0 h1 h2 h3 h4 h5 h6 h7 h8 h9 h10;obtain⟨q1,q2,_,q3⟩:=uQ hN b0.2 (by clear h1 h2 h3 h4 h5 h6 h7 h8 h9 h10;omega) hp h5 h2 h7;have q:=q3 h10;clear q3 h1 h2 h3 h4 h5 h6 h7 h8 h9 h10;generalize hR:G 53 [L,(p.1:Int)+1,N-(p.1:Int)-1]+1=R at *;have hm:N.toNat-((p.1:Int)+R).toNat<N.toNat-p.1:=(by omega);  simp only[bF];refine⟨(((p.1:Int)+R).toNat,p.2+1),q,hm,bL (by simp),?_⟩;simp only[aP];clear q hm hp;simp only[nn,Int.natCast_add,Int.cast_ofNat_Int,Int.natCast_one,cB,List.cons_append,List.nil_append,Bool.or_eq_true,aZ,ne_eq];all_goals ((repeat' refine And.intro ?_ ?_)<;>first|with_reducible rfl|with_reducible trivial|omega)
theorem aIf:bA (bZ Try.prog 20)=[cY (bZ Try.prog 20) 0]:=by kernel_rfl
set_option maxRecDepth 100000 in
theorem aKZ (N L:Int) (b0:0≤N∧N≤256) (hN:N=((Lc.dec L).length:Int)):fT Try.prog G (bI GB) (cY (bZ Try.prog 20) 0) aLh (eH ([N]++[L])):=by
 intro _ _
 have e:eU G (eH ([N]++[L])) aLh.es=cB N L (0,0):=by
  rw[eA]
  rfl
 rw[e]
 exact⟨N.toNat+1,dI (ι:=Nat × Nat) (ρ:=cB N L) (ρT:=eH ([N]++[L])) (m:=fun p=>N.toNat-p.1) (Good:=eI L N) (run:=sS Try.prog) (fun _=>rfl) fits rfl eL (fun p hp=>aJz N L b0 hN p hp) (fun _ _ X hX hG=>vC hX hG) (fun _ _ X hX hG=>cH) (fun p hp=>aKX N L b0 hN p hp) (by decide) (N.toNat+1) (0,0) (aIB b0.1) (by show N.toNat-0<N.toNat+1;omega)⟩
set_option maxHeartbeats 1000000 in
set_option maxRecDepth 100000 in
theorem aKU (N L:Int) (b0:0≤N∧N≤256):eC Try.prog G GB 20 aK6 (eH ([N]++[L])):=by
 refine kR 0 rfl (fun hN=>?_)
 replace hN:N=((Lc.dec L).length:Int):=hN
 refine cS (lp:=aJ9) (run:=aGs Try.prog) (fun _=>rfl) fits (cZ (xs:=[N]) (ls:=[L]) (by exact⟨b0,trivial⟩)) eL (fun X hX hG=>vC hX hG) (fun X hX hG fn c hf hc=>?_) rfl ?_
 ·refine gD ((congrArg bA (hZ hf hc)).symm.trans aIf) ?_
  intro b hb
  simp only[List.mem_cons,List.mem_nil_iff,or_false]at hb
  subst hb
  refine iI hX hG (by kernel_rfl) ?_
  intro p hp'
  simp only[List.mem_cons,List.mem_nil_iff,or_false]at hp'
  subst hp'
  exact aKZ N L b0 hN
 ·skip
  refine aR mE (fun h0=>?_) (fun h0=>?_)
  ·skip
   refine aM aIs ?_
   unfold mE at h0;exact⟨h0,trivial⟩
  refine aM aIK ?_
  unfold mE at h0;exact⟨h0,trivial⟩
def aBn:Ctx→List SV→aG→Res (SV × aG):=dH GB aB7 1 (.lit true) aK6
theorem aLA {X:Ctx} {ρ:Nat→Int} (hX:X.Ok ρ) (hG:X.G=G):eY Try.prog X ρ GB 20 aBn:=by
 obtain⟨XG,XI,XV,XF⟩:=X
 simp only at hG
 subst hG
 refine cL hX ?_
 intro xs ls hw hl hp
 unfold aB7 at hw
 obtain⟨x0,y0,e0,b0,h0⟩:=fU hw
 have e1:=sZ h0
 subst e1 e0
 obtain⟨l0,rfl⟩:=vA hl
 exact aKU x0 l0 b0
def aG3:aY:=iW 20 aBn aC8
theorem aAn {X:Ctx} {ρ:Nat→Int} (hX:X.Ok ρ) (hG:X.G=G):gP Try.prog X ρ GB aG3:=fZ (aLA hX hG) (vC hX hG)
def aHu:List (Int × Int):=[(0,9223372036854775807)]
def aLl:FunS:=⟨[(.own 0 (.var 0) none)],[some ([.vec [.int .u8,.int .i32,.int .i32,.int .i32,.int .i32,.int .i32,.int .i32] (.var 1) (.var 0) true],aV)],(.and (.cmp .le (.var 0) (.lit 256)) (.cmp .eq (.app 55 (.cons (.var 1) (.cons (.var 0) .nil))) (.lit 1))),(.tuple [(.vsl 1 1 (.lit 0) (.app 54 (.cons (.var 1) (.cons (.var 0) .nil))) (some (.app 54 (.cons (.var 1) (.cons (.var 0) .nil))))),(.int .i64 (.lit 0))]),[some ([.vec [.int .u8,.int .i32,.int .i32,.int .i32,.int .i32,.int .i32,.int .i32] (.var 1) (.var 0) true],aV),some ([.tuple [.any,.int .i64 (.lit 1),.bool (.lit false)]],aW+30)],(.tuple [(.con (.slice none 0 0)),(.int .i64 (.op .sub (.lit 4) (.op .min (.lit 1) (.op .max (.lit 0) (.op .sub (.var 0) (.lit 256))))))]),[some ([.vec [.int .u8,.int .i32,.int .i32,.int .i32,.int .i32,.int .i32,.int .i32] (.var 1) (.var 0) true],aV)]⟩
def aGE (P:Program) (fs:List B):Res SV:=bU G GI aHu fs fun X=>fH P X GB aG3 dE 4000 9 aLl
end Go.Proofs.Ythiehfhphgkaeaa
set_option maxRecDepth 100000
namespace Go.Proofs.Ythiehfhphgkaeaa
open Go Go.RowKit Sx Wi
def zD (P:Program) (fs:List B):Res SV:=aGE P fs
def aBe:List B:=[]
def jY:B:=(.cmp .lt (.lit 256) (.var 0))
def aGJ:List B:=aU jY++aBe
def aA2:List B:=aU (B.neg jY)++aBe
def mC:B:=(.cmp .eq (.app 55 (.cons (.var 1) (.cons (.var 0) .nil))) (.lit 1))
def aHh:List B:=aU mC++aA2
def aHc:List B:=aU (B.neg mC)++aA2
theorem aGU:zD Try.prog aGJ = .ok (.tuple [(.agg [(.int .i64 (.lit 3)),(.int .i64 (.op .sub (.lit 4) (.op .min (.lit 1) (.op .max (.lit 0) (.op .sub (.var 0) (.lit 256))))))]),(.bool (.lit false))]):=by kernel_rfl
theorem aIM:zD Try.prog aHh = .ok (.tuple [(.agg []),(.bool (.lit true))]):=by kernel_rfl
theorem aIF:zD Try.prog aHc = .ok (.tuple [(.agg [(.int .i64 (.lit 4)),(.int .i64 (.op .sub (.lit 4) (.op .min (.lit 1) (.op .max (.lit 0) (.op .sub (.var 0) (.lit 256))))))]),(.bool (.lit false))]):=by kernel_rfl
end Go.Proofs.Ythiehfhphgkaeaa
namespace Go.Proofs.Ythiehfhphgkaeaa
open Go Go.RowKit Sx Wi
set_option maxHeartbeats 1000000 in
set_option maxRecDepth 100000 in
theorem aK9 (N L:Int) (b0:0≤N∧N≤9223372036854775807):eC Try.prog G GB 9 aLl (eH ([N]++[L])):=by
 refine cS (lp:=dE) (run:=aGE Try.prog) (fun _=>rfl) fits (cZ (xs:=[N]) (ls:=[L]) (by exact⟨b0,trivial⟩)) eL (fun X hX hG=>aAn hX hG) (fun X hX hG fn c hf hc=>cH) rfl ?_
 refine aR jY (fun h0=>?_) (fun h0=>?_)
 ·skip
  refine aM aGU ?_
  unfold jY at h0;simp only[nn,List.cons_append,List.nil_append,Bool.or_eq_true,aZ,ne_eq]at h0;simp only[aA5];refine⟨?_,?_⟩;(· show (decide (N≤256) && decide (G 55 [L,N]=1))=false;rw[decide_eq_false (by omega:¬N≤256),Bool.false_and]);simp only[aP];simp only[nn,List.cons_append,List.nil_append,Bool.or_eq_true,aZ,ne_eq];refine⟨?_,trivial⟩;  omega
 refine aR mC (fun h1=>?_) (fun h1=>?_)
 ·skip
  refine aM aIM ?_
  unfold jY at h0;unfold mC at h1;simp only[nn,List.cons_append,List.nil_append,Bool.or_eq_true,aZ,ne_eq]at h0 h1;simp only[aA5];refine⟨?_,trivial⟩;show (decide (N≤256) && decide (G 55 [L,N]=1))=true;rw[decide_eq_true (by clear h1;omega:N≤256),decide_eq_true h1];rfl
 refine aM aIF ?_
 unfold jY at h0;unfold mC at h1;simp only[nn,List.cons_append,List.nil_append,Bool.or_eq_true,aZ,ne_eq]at h0 h1;simp only[aA5];refine⟨?_,?_⟩;(· show (decide (N≤256) && decide (G 55 [L,N]=1))=false;rw[decide_eq_false h1,Bool.and_false]);simp only[aP];simp only[nn,List.cons_append,List.nil_append,Bool.or_eq_true,aZ,ne_eq];refine⟨?_,trivial⟩;clear h1;omega
def aBv:Ctx→List SV→aG→Res (SV × aG):=dH GB aHu 1 (.lit true) aLl
theorem aLt {X:Ctx} {ρ:Nat→Int} (hX:X.Ok ρ) (hG:X.G=G):eY Try.prog X ρ GB 9 aBv:=by
 obtain⟨XG,XI,XV,XF⟩:=X
 simp only at hG
 subst hG
 refine cL hX ?_
 intro xs ls hw hl hp
 unfold aHu at hw
 obtain⟨x0,y0,e0,b0,h0⟩:=fU hw
 have e1:=sZ h0
 subst e1 e0
 obtain⟨l0,rfl⟩:=vA hl
 exact aK9 x0 l0 b0
def aKa:aY:=iW 9 aBv aG3
theorem aHS {X:Ctx} {ρ:Nat→Int} (hX:X.Ok ρ) (hG:X.G=G):gP Try.prog X ρ GB aKa:=fZ (aLt hX hG) (aAn hX hG)
def mT:List (Int × Int):=[(-2147483648,2147483647),(-2147483648,2147483647),(-2147483648,2147483647),(-2147483648,2147483647),(-2147483648,2147483647),(-2147483648,2147483647),(-2147483648,2147483647),(-2147483648,2147483647),(0,64),(1,65)]
def uX:List (Int × Int):=[(-2147483648,2147483647),(-2147483648,2147483647),(-2147483648,2147483647),(-2147483648,2147483647),(-2147483648,2147483647),(-2147483648,2147483647),(-2147483648,2147483647),(-2147483648,2147483647)]
def aKR:St:=⟨[.any,.any,(.own 15 (.var 9) none),(.ptr 1 0),.any,.any,(.ptr 14 0),(.int .i64 (.op .shl (.lit 1) (.app 43 (.cons (.var 0) (.cons (.var 1) (.cons (.var 2) (.cons (.var 3) (.cons (.var 4) (.cons (.var 5) (.cons (.var 6) (.cons (.var 7) .nil))))))))))),.any,(.slice 0 0 2 2),(.int .i64 (.lit 2)),(.int .i64 (.lit 1)),.any,.any,.any,.any,.any,.any,.any,.any,.any,.any,.any,.any,.any,.any,.any,.any,(.int .i64 (.op .shl (.lit 1) (.app 43 (.cons (.var 0) (.cons (.var 1) (.cons (.var 2) (.cons (.var 3) (.cons (.var 4) (.cons (.var 5) (.cons (.var 6) (.cons (.var 7) .nil))))))))))),(.int .i64 (.op .shl (.lit 1) (.app 43 (.cons (.var 0) (.cons (.var 1) (.cons (.var 2) (.cons (.var 3) (.cons (.var 4) (.cons (.var 5) (.cons (.var 6) (.cons (.var 7) .nil))))))))))),(.int .i64 (.var 8)),.any,.any,.any,.any,.any,.any,.any,.any,.any,.any,.any,.any,.any,.any,.any,.any,.any,.any,.any,.any,.any,.any,.any],[some ([(.int .u8 (.lit 0)),(.int .i32 (.var 0)),(.int .i32 (.var 1)),(.int .i32 (.lit 0)),(.int .i32 (.lit 0)),(.int .i32 (.lit 0)),(.int .i32 (.lit 0)),(.int .u8 (.lit 2)),(.int .i32 (.var 2)),(.int .i32 (.var 3)),(.int .i32 (.var 4)),(.int .i32 (.var 5)),(.int .i32 (.var 6)),(.int .i32 (.var 7))],38),some ([(.int .i64 (.var 0)),(.int .i64 (.var 1))],57),none,none,none,none,none,none,none,none,none,none,none,none,some ([(.int .i64 (.var 0)),(.int .i64 (.var 1)),(.int .i64 (.var 2)),(.int .i64 (.var 3)),(.int .i64 (.var 4)),(.int .i64 (.var 5)),(.int .i64 (.var 6)),(.int .i64 (.var 7))],60),jO [.int .i64,.int .i64] (.var 10) (.var 9) 32]⟩
def aIU:St:=⟨[.any,.any,(.own 15 (.op .add (.op .shl (.lit 1) (.app 43 (.cons (.var 0) (.cons (.var 1) (.cons (.var 2) (.cons (.var 3) (.cons (.var 4) (.cons (.var 5) (.cons (.var 6) (.cons (.var 7) .nil)))))))))) (.lit 1)) none),(.ptr 1 0),.any,.any,(.ptr 14 0),.any,.any,(.slice 0 0 2 2),(.int .i64 (.lit 2)),(.int .i64 (.lit 1)),.any,.any,.any,.any,.any,.any,.any,.any,.any,.any,.any,.any,.any,.any,.any,.any,.any,.any,.any,.any,.any,.any,.any,.any,.any,.any,.any,.any,.any,.any,.any,.any,.any,.any,.any,.any,.any,.any,.any,.any,.any,.any],[some ([(.int .u8 (.lit 0)),(.int .i32 (.var 0)),(.int .i32 (.var 1)),(.int .i32 (.lit 0)),(.int .i32 (.lit 0)),(.int .i32 (.lit 0)),(.int .i32 (.lit 0)),(.int .u8 (.lit 2)),(.int .i32 (.var 2)),(.int .i32 (.var 3)),(.int .i32 (.var 4)),(.int .i32 (.var 5)),(.int .i32 (.var 6)),(.int .i32 (.var 7))],38),some ([(.int .i64 (.var 0)),(.int .i64 (.var 1))],57),none,none,none,none,none,none,none,none,none,none,none,none,some ([(.int .i64 (.var 0)),(.int .i64 (.var 1)),(.int .i64 (.var 2)),(.int .i64 (.var 3)),(.int .i64 (.var 4)),(.int .i64 (.var 5)),(.int .i64 (.var 6)),(.int .i64 (.var 7))],60),jO [.int .i64,.int .i64] (.app 44 (.cons (.var 0) (.cons (.var 1) (.cons (.var 2) (.cons (.var 3) (.cons (.var 4) (.cons (.var 5) (.cons (.var 6) (.cons (.var 7) .nil))))))))) (.op .add (.op .shl (.lit 1) (.app 43 (.cons (.var 0) (.cons (.var 1) (.cons (.var 2) (.cons (.var 3) (.cons (.var 4) (.cons (.var 5) (.cons (.var 6) (.cons (.var 7) .nil)))))))))) (.lit 1)) 32]⟩
def aIp:LoopS:=⟨8,15,aKR,.lit true,.exit 2,aIU,.exit 2,aIU⟩
def aB0:LoopU:=⟨aIp,[(.var 0),(.var 1),(.var 2),(.var 3),(.var 4),(.var 5),(.var 6),(.var 7),(.lit 0),(.lit 1),(.app 91 (.cons (.lit 0) (.cons (.app 2 (.cons (.var 0) (.cons (.op .mul (.lit 1) (.lit 256)) .nil))) (.cons (.app 2 (.cons (.var 1) (.cons (.op .mul (.lit 1) (.lit 256)) .nil))) .nil))))],mT,.lit true⟩
def nS (P:Program) (fs:List B):Res SV:=bU G GI mT fs fun X=>gL P X GB cW dE 400 (cY (bZ P 16) 1) aIp
def aCX:eG:=iJ 9 (eZ (bI GB) [aB0]) dE
def aCe:FunS:=⟨[(.slice 0 0 2 2)],bX GB++[some ([(.int .u8 (.lit 0)),(.int .i32 (.var 0)),(.int .i32 (.var 1)),(.int .i32 (.lit 0)),(.int .i32 (.lit 0)),(.int .i32 (.lit 0)),(.int .i32 (.lit 0)),(.int .u8 (.lit 2)),(.int .i32 (.var 2)),(.int .i32 (.var 3)),(.int .i32 (.var 4)),(.int .i32 (.var 5)),(.int .i32 (.var 6)),(.int .i32 (.var 7))],38)],.lit true,(.vsl 1 2 (.lit 0) (.op .add (.op .shl (.lit 1) (.app 43 (.cons (.var 0) (.cons (.var 1) (.cons (.var 2) (.cons (.var 3) (.cons (.var 4) (.cons (.var 5) (.cons (.var 6) (.cons (.var 7) .nil)))))))))) (.lit 1)) (some (.op .add (.op .shl (.lit 1) (.app 43 (.cons (.var 0) (.cons (.var 1) (.cons (.var 2) (.cons (.var 3) (.cons (.var 4) (.cons (.var 5) (.cons (.var 6) (.cons (.var 7) .nil)))))))))) (.lit 1)))),bX GB++[some ([(.int .u8 (.lit 0)),(.int .i32 (.var 0)),(.int .i32 (.var 1)),(.int .i32 (.lit 0)),(.int .i32 (.lit 0)),(.int .i32 (.lit 0)),(.int .i32 (.lit 0)),(.int .u8 (.lit 2)),(.int .i32 (.var 2)),(.int .i32 (.var 3)),(.int .i32 (.var 4)),(.int .i32 (.var 5)),(.int .i32 (.var 6)),(.int .i32 (.var 7))],38),jO [.int .i64,.int .i64] (.app 44 (.cons (.var 0) (.cons (.var 1) (.cons (.var 2) (.cons (.var 3) (.cons (.var 4) (.cons (.var 5) (.cons (.var 6) (.cons (.var 7) .nil))))))))) (.op .add (.op .shl (.lit 1) (.app 43 (.cons (.var 0) (.cons (.var 1) (.cons (.var 2) (.cons (.var 3) (.cons (.var 4) (.cons (.var 5) (.cons (.var 6) (.cons (.var 7) .nil)))))))))) (.lit 1)) 32],(.vsl 1 2 (.lit 0) (.op .add (.op .shl (.lit 1) (.app 43 (.cons (.var 0) (.cons (.var 1) (.cons (.var 2) (.cons (.var 3) (.cons (.var 4) (.cons (.var 5) (.cons (.var 6) (.cons (.var 7) .nil)))))))))) (.lit 1)) (some (.op .add (.op .shl (.lit 1) (.app 43 (.cons (.var 0) (.cons (.var 1) (.cons (.var 2) (.cons (.var 3) (.cons (.var 4) (.cons (.var 5) (.cons (.var 6) (.cons (.var 7) .nil)))))))))) (.lit 1)))),bX GB++[some ([(.int .u8 (.lit 0)),(.int .i32 (.var 0)),(.int .i32 (.var 1)),(.int .i32 (.lit 0)),(.int .i32 (.lit 0)),(.int .i32 (.lit 0)),(.int .i32 (.lit 0)),(.int .u8 (.lit 2)),(.int .i32 (.var 2)),(.int .i32 (.var 3)),(.int .i32 (.var 4)),(.int .i32 (.var 5)),(.int .i32 (.var 6)),(.int .i32 (.var 7))],38),jO [.int .i64,.int .i64] (.app 44 (.cons (.var 0) (.cons (.var 1) (.cons (.var 2) (.cons (.var 3) (.cons (.var 4) (.cons (.var 5) (.cons (.var 6) (.cons (.var 7) .nil))))))))) (.op .add (.op .shl (.lit 1) (.app 43 (.cons (.var 0) (.cons (.var 1) (.cons (.var 2) (.cons (.var 3) (.cons (.var 4) (.cons (.var 5) (.cons (.var 6) (.cons (.var 7) .nil)))))))))) (.lit 1)) 32]⟩
def aBu (P:Program) (fs:List B):Res SV:=bU G GI uX fs fun X=>fH P X GB cW aCX 400 16 aCe
end Go.Proofs.Ythiehfhphgkaeaa
set_option maxRecDepth 100000
namespace Go.Proofs.Ythiehfhphgkaeaa
open Go Go.RowKit Sx Wi
def aDy (P:Program) (fs:List B):Res SV:=nS P fs
def aAu:List B:=[]
def lN:B:=(.cmp .lt (.var 8) (.op .shl (.lit 1) (.app 43 (.cons (.var 0) (.cons (.var 1) (.cons (.var 2) (.cons (.var 3) (.cons (.var 4) (.cons (.var 5) (.cons (.var 6) (.cons (.var 7) .nil)))))))))))
def aHV:List B:=aU lN++aAu
def aAs:SV:=(.agg [(.int .i64 (.op .add (.var 9) (.lit 1))),(.int .i64 (.var 9)),(.int .i64 (.op .add (.var 8) (.lit 1))),(.int .i64 (.var 8)),(.int .i64 (.app 91 (.cons (.var 10) (.cons (.app 2 (.cons (.op .add (.op .add (.op .add (.op .mul (.op .mul (.op .mul (.op .sub (.op .shl (.lit 1) (.app 43 (.cons (.var 0) (.cons (.var 1) (.cons (.var 2) (.cons (.var 3) (.cons (.var 4) (.cons (.var 5) (.cons (.var 6) (.cons (.var 7) .nil)))))))))) (.op .add (.var 8) (.lit 1))) (.op .sub (.op .shl (.lit 1) (.app 43 (.cons (.var 0) (.cons (.var 1) (.cons (.var 2) (.cons (.var 3) (.cons (.var 4) (.cons (.var 5) (.cons (.var 6) (.cons (.var 7) .nil)))))))))) (.op .add (.var 8) (.lit 1)))) (.op .sub (.op .shl (.lit 1) (.app 43 (.cons (.var 0) (.cons (.var 1) (.cons (.var 2) (.cons (.var 3) (.cons (.var 4) (.cons (.var 5) (.cons (.var 6) (.cons (.var 7) .nil)))))))))) (.op .add (.var 8) (.lit 1)))) (.var 0)) (.op .mul (.op .mul (.op .mul (.op .mul (.lit 3) (.op .sub (.op .shl (.lit 1) (.app 43 (.cons (.var 0) (.cons (.var 1) (.cons (.var 2) (.cons (.var 3) (.cons (.var 4) (.cons (.var 5) (.cons (.var 6) (.cons (.var 7) .nil)))))))))) (.op .add (.var 8) (.lit 1)))) (.op .sub (.op .shl (.lit 1) (.app 43 (.cons (.var 0) (.cons (.var 1) (.cons (.var 2) (.cons (.var 3) (.cons (.var 4) (.cons (.var 5) (.cons (.var 6) (.cons (.var 7) .nil)))))))))) (.op .add (.var 8) (.lit 1)))) (.op .add (.var 8) (.lit 1))) (.var 2))) (.op .mul (.op .mul (.op .mul (.op .mul (.lit 3) (.op .sub (.op .shl (.lit 1) (.app 43 (.cons (.var 0) (.cons (.var 1) (.cons (.var 2) (.cons (.var 3) (.cons (.var 4) (.cons (.var 5) (.cons (.var 6) (.cons (.var 7) .nil)))))))))) (.op .add (.var 8) (.lit 1)))) (.op .add (.var 8) (.lit 1))) (.op .add (.var 8) (.lit 1))) (.var 4))) (.op .mul (.op .mul (.op .mul (.op .add (.var 8) (.lit 1)) (.op .add (.var 8) (.lit 1))) (.op .add (.var 8) (.lit 1))) (.var 6))) (.cons (.op .mul (.op .mul (.op .shl (.lit 1) (.app 43 (.cons (.var 0) (.cons (.var 1) (.cons (.var 2) (.cons (.var 3) (.cons (.var 4) (.cons (.var 5) (.cons (.var 6) (.cons (.var 7) .nil)))))))))) (.op .mul (.op .shl (.lit 1) (.app 43 (.cons (.var 0) (.cons (.var 1) (.cons (.var 2) (.cons (.var 3) (.cons (.var 4) (.cons (.var 5) (.cons (.var 6) (.cons (.var 7) .nil)))))))))) (.op .shl (.lit 1) (.app 43 (.cons (.var 0) (.cons (.var 1) (.cons (.var 2) (.cons (.var 3) (.cons (.var 4) (.cons (.var 5) (.cons (.var 6) (.cons (.var 7) .nil)))))))))))) (.lit 256)) .nil))) (.cons (.app 2 (.cons (.op .add (.op .add (.op .add (.op .mul (.op .mul (.op .mul (.op .sub (.op .shl (.lit 1) (.app 43 (.cons (.var 0) (.cons (.var 1) (.cons (.var 2) (.cons (.var 3) (.cons (.var 4) (.cons (.var 5) (.cons (.var 6) (.cons (.var 7) .nil)))))))))) (.op .add (.var 8) (.lit 1))) (.op .sub (.op .shl (.lit 1) (.app 43 (.cons (.var 0) (.cons (.var 1) (.cons (.var 2) (.cons (.var 3) (.cons (.var 4) (.cons (.var 5) (.cons (.var 6) (.cons (.var 7) .nil)))))))))) (.op .add (.var 8) (.lit 1)))) (.op .sub (.op .shl (.lit 1) (.app 43 (.cons (.var 0) (.cons (.var 1) (.cons (.var 2) (.cons (.var 3) (.cons (.var 4) (.cons (.var 5) (.cons (.var 6) (.cons (.var 7) .nil)))))))))) (.op .add (.var 8) (.lit 1)))) (.var 1)) (.op .mul (.op .mul (.op .mul (.op .mul (.lit 3) (.op .sub (.op .shl (.lit 1) (.app 43 (.cons (.var 0) (.cons (.var 1) (.cons (.var 2) (.cons (.var 3) (.cons (.var 4) (.cons (.var 5) (.cons (.var 6) (.cons (.var 7) .nil)))))))))) (.op .add (.var 8) (.lit 1)))) (.op .sub (.op .shl (.lit 1) (.app 43 (.cons (.var 0) (.cons (.var 1) (.cons (.var 2) (.cons (.var 3) (.cons (.var 4) (.cons (.var 5) (.cons (.var 6) (.cons (.var 7) .nil)))))))))) (.op .add (.var 8) (.lit 1)))) (.op .add (.var 8) (.lit 1))) (.var 3))) (.op .mul (.op .mul (.op .mul (.op .mul (.lit 3) (.op .sub (.op .shl (.lit 1) (.app 43 (.cons (.var 0) (.cons (.var 1) (.cons (.var 2) (.cons (.var 3) (.cons (.var 4) (.cons (.var 5) (.cons (.var 6) (.cons (.var 7) .nil)))))))))) (.op .add (.var 8) (.lit 1)))) (.op .add (.var 8) (.lit 1))) (.op .add (.var 8) (.lit 1))) (.var 5))) (.op .mul (.op .mul (.op .mul (.op .add (.var 8) (.lit 1)) (.op .add (.var 8) (.lit 1))) (.op .add (.var 8) (.lit 1))) (.var 7))) (.cons (.op .mul (.op .mul (.op .shl (.lit 1) (.app 43 (.cons (.var 0) (.cons (.var 1) (.cons (.var 2) (.cons (.var 3) (.cons (.var 4) (.cons (.var 5) (.cons (.var 6) (.cons (.var 7) .nil)))))))))) (.op .mul (.op .shl (.lit 1) (.app 43 (.cons (.var 0) (.cons (.var 1) (.cons (.var 2) (.cons (.var 3) (.cons (.var 4) (.cons (.var 5) (.cons (.var 6) (.cons (.var 7) .nil)))))))))) (.op .shl (.lit 1) (.app 43 (.cons (.var 0) (.cons (.var 1) (.cons (.var 2) (.cons (.var 3) (.cons (.var 4) (.cons (.var 5) (.cons (.var 6) (.cons (.var 7) .nil)))))))))))) (.lit 256)) .nil))) .nil))))),(.int .i64 (.var 10)),(.int .i64 (.op .add (.var 9) (.lit 1))),(.int .i64 (.var 9))])
def aHL:List B:=aU (B.neg lN)++aAu
def aAz:SV:=(.tuple [(.agg [(.int .i64 (.var 9)),(.int .i64 (.op .add (.op .shl (.lit 1) (.app 43 (.cons (.var 0) (.cons (.var 1) (.cons (.var 2) (.cons (.var 3) (.cons (.var 4) (.cons (.var 5) (.cons (.var 6) (.cons (.var 7) .nil)))))))))) (.lit 1))),(.int .i64 (.var 10)),(.int .i64 (.app 44 (.cons (.var 0) (.cons (.var 1) (.cons (.var 2) (.cons (.var 3) (.cons (.var 4) (.cons (.var 5) (.cons (.var 6) (.cons (.var 7) .nil)))))))))),(.int .i64 (.var 9)),(.int .i64 (.op .add (.op .shl (.lit 1) (.app 43 (.cons (.var 0) (.cons (.var 1) (.cons (.var 2) (.cons (.var 3) (.cons (.var 4) (.cons (.var 5) (.cons (.var 6) (.cons (.var 7) .nil)))))))))) (.lit 1)))]),(.bool (.lit true))])
theorem aIy:aDy Try.prog aHV = .ok aAs:=by kernel_rfl
theorem aHI:aDy Try.prog aHL = .ok aAz:=by kernel_rfl
end Go.Proofs.Ythiehfhphgkaeaa
namespace Go.Proofs.Ythiehfhphgkaeaa
open Go Go.RowKit Sx Wi
def dU (x0 x1 x2 x3 x4 x5 x6 x7:Int) (a:Nat):Nat→Int:=eH (([x0,x1,x2,x3,x4,x5,x6,x7]:List Int)++[(a:Int),((fY [x0,x1,x2,x3,x4,x5,x6,x7] (cG [x0,x1,x2,x3,x4,x5,x6,x7]) a).length:Int),Lc.enc (fY [x0,x1,x2,x3,x4,x5,x6,x7] (cG [x0,x1,x2,x3,x4,x5,x6,x7]) a)])
theorem aFQ (x0 x1 x2 x3 x4 x5 x6 x7:Int) (b0 : -2147483648≤x0∧x0≤2147483647) (b1 : -2147483648≤x1∧x1≤2147483647) (b2 : -2147483648≤x2∧x2≤2147483647) (b3 : -2147483648≤x3∧x3≤2147483647) (b4 : -2147483648≤x4∧x4≤2147483647) (b5 : -2147483648≤x5∧x5≤2147483647) (b6 : -2147483648≤x6∧x6≤2147483647) (b7 : -2147483648≤x7∧x7≤2147483647) (a:Nat) (ha:(a:Int)≤cG [x0,x1,x2,x3,x4,x5,x6,x7]):∀ i q,mT[i]?=some q→q.1≤dU x0 x1 x2 x3 x4 x5 x6 x7 a i∧dU x0 x1 x2 x3 x4 x5 x6 x7 a i≤q.2:=by
 have hp:=fP [x0,x1,x2,x3,x4,x5,x6,x7]
 have hl:=eO [x0,x1,x2,x3,x4,x5,x6,x7] (cG [x0,x1,x2,x3,x4,x5,x6,x7]) a
 unfold dU mT
 have e:([x0,x1,x2,x3,x4,x5,x6,x7]:List Int)++[(a:Int),((fY [x0,x1,x2,x3,x4,x5,x6,x7] (cG [x0,x1,x2,x3,x4,x5,x6,x7]) a).length:Int),Lc.enc (fY [x0,x1,x2,x3,x4,x5,x6,x7] (cG [x0,x1,x2,x3,x4,x5,x6,x7]) a)]=(([x0,x1,x2,x3,x4,x5,x6,x7]:List Int)++[(a:Int),((fY [x0,x1,x2,x3,x4,x5,x6,x7] (cG [x0,x1,x2,x3,x4,x5,x6,x7]) a).length:Int)])++[Lc.enc (fY [x0,x1,x2,x3,x4,x5,x6,x7] (cG [x0,x1,x2,x3,x4,x5,x6,x7]) a)]:=by simp
 rw[e]
 exact cZ (by simp only[List.cons_append,List.nil_append];exact⟨b0,b1,b2,b3,b4,b5,b6,b7,by omega,by omega,trivial⟩)
theorem qZ (x0 x1 x2 x3 x4 x5 x6 x7:Int):1*2 ^ (G 43 [x0,x1,x2,x3,x4,x5,x6,x7]).toNat=cG [x0,x1,x2,x3,x4,x5,x6,x7]:=rfl
set_option maxRecDepth 100000 in
theorem aGy (x0 x1 x2 x3 x4 x5 x6 x7:Int) (a:Nat):G 91 [Lc.enc (fY [x0,x1,x2,x3,x4,x5,x6,x7] (cG [x0,x1,x2,x3,x4,x5,x6,x7]) a),G 2 [((((((((1*2 ^ (G 43 [x0,x1,x2,x3,x4,x5,x6,x7]).toNat)-((a:Int)+1))*((1*2 ^ (G 43 [x0,x1,x2,x3,x4,x5,x6,x7]).toNat)-((a:Int)+1)))*((1*2 ^ (G 43 [x0,x1,x2,x3,x4,x5,x6,x7]).toNat)-((a:Int)+1)))*x0)+((((3*((1*2 ^ (G 43 [x0,x1,x2,x3,x4,x5,x6,x7]).toNat)-((a:Int)+1)))*((1*2 ^ (G 43 [x0,x1,x2,x3,x4,x5,x6,x7]).toNat)-((a:Int)+1)))*((a:Int)+1))*x2))+((((3*((1*2 ^ (G 43 [x0,x1,x2,x3,x4,x5,x6,x7]).toNat)-((a:Int)+1)))*((a:Int)+1))*((a:Int)+1))*x4))+(((((a:Int)+1)*((a:Int)+1))*((a:Int)+1))*x6)),(((1*2 ^ (G 43 [x0,x1,x2,x3,x4,x5,x6,x7]).toNat)*((1*2 ^ (G 43 [x0,x1,x2,x3,x4,x5,x6,x7]).toNat)*(1*2 ^ (G 43 [x0,x1,x2,x3,x4,x5,x6,x7]).toNat)))*256)],G 2 [((((((((1*2 ^ (G 43 [x0,x1,x2,x3,x4,x5,x6,x7]).toNat)-((a:Int)+1))*((1*2 ^ (G 43 [x0,x1,x2,x3,x4,x5,x6,x7]).toNat)-((a:Int)+1)))*((1*2 ^ (G 43 [x0,x1,x2,x3,x4,x5,x6,x7]).toNat)-((a:Int)+1)))*x1)+((((3*((1*2 ^ (G 43 [x0,x1,x2,x3,x4,x5,x6,x7]).toNat)-((a:Int)+1)))*((1*2 ^ (G 43 [x0,x1,x2,x3,x4,x5,x6,x7]).toNat)-((a:Int)+1)))*((a:Int)+1))*x3))+((((3*((1*2 ^ (G 43 [x0,x1,x2,x3,x4,x5,x6,x7]).toNat)-((a:Int)+1)))*((a:Int)+1))*((a:Int)+1))*x5))+(((((a:Int)+1)*((a:Int)+1))*((a:Int)+1))*x7)),(((1*2 ^ (G 43 [x0,x1,x2,x3,x4,x5,x6,x7]).toNat)*((1*2 ^ (G 43 [x0,x1,x2,x3,x4,x5,x6,x7]).toNat)*(1*2 ^ (G 43 [x0,x1,x2,x3,x4,x5,x6,x7]).toNat)))*256)]]=Lc.enc (fY [x0,x1,x2,x3,x4,x5,x6,x7] (cG [x0,x1,x2,x3,x4,x5,x6,x7]) (a+1)):=by
 have er:pE [x0,x1,x2,x3,x4,x5,x6,x7] (cG [x0,x1,x2,x3,x4,x5,x6,x7]) ((a:Int)+1)=[G 2 [((((((((1*2 ^ (G 43 [x0,x1,x2,x3,x4,x5,x6,x7]).toNat)-((a:Int)+1))*((1*2 ^ (G 43 [x0,x1,x2,x3,x4,x5,x6,x7]).toNat)-((a:Int)+1)))*((1*2 ^ (G 43 [x0,x1,x2,x3,x4,x5,x6,x7]).toNat)-((a:Int)+1)))*x0)+((((3*((1*2 ^ (G 43 [x0,x1,x2,x3,x4,x5,x6,x7]).toNat)-((a:Int)+1)))*((1*2 ^ (G 43 [x0,x1,x2,x3,x4,x5,x6,x7]).toNat)-((a:Int)+1)))*((a:Int)+1))*x2))+((((3*((1*2 ^ (G 43 [x0,x1,x2,x3,x4,x5,x6,x7]).toNat)-((a:Int)+1)))*((a:Int)+1))*((a:Int)+1))*x4))+(((((a:Int)+1)*((a:Int)+1))*((a:Int)+1))*x6)),(((1*2 ^ (G 43 [x0,x1,x2,x3,x4,x5,x6,x7]).toNat)*((1*2 ^ (G 43 [x0,x1,x2,x3,x4,x5,x6,x7]).toNat)*(1*2 ^ (G 43 [x0,x1,x2,x3,x4,x5,x6,x7]).toNat)))*256)],G 2 [((((((((1*2 ^ (G 43 [x0,x1,x2,x3,x4,x5,x6,x7]).toNat)-((a:Int)+1))*((1*2 ^ (G 43 [x0,x1,x2,x3,x4,x5,x6,x7]).toNat)-((a:Int)+1)))*((1*2 ^ (G 43 [x0,x1,x2,x3,x4,x5,x6,x7]).toNat)-((a:Int)+1)))*x1)+((((3*((1*2 ^ (G 43 [x0,x1,x2,x3,x4,x5,x6,x7]).toNat)-((a:Int)+1)))*((1*2 ^ (G 43 [x0,x1,x2,x3,x4,x5,x6,x7]).toNat)-((a:Int)+1)))*((a:Int)+1))*x3))+((((3*((1*2 ^ (G 43 [x0,x1,x2,x3,x4,x5,x6,x7]).toNat)-((a:Int)+1)))*((a:Int)+1))*((a:Int)+1))*x5))+(((((a:Int)+1)*((a:Int)+1))*((a:Int)+1))*x7)),(((1*2 ^ (G 43 [x0,x1,x2,x3,x4,x5,x6,x7]).toNat)*((1*2 ^ (G 43 [x0,x1,x2,x3,x4,x5,x6,x7]).toNat)*(1*2 ^ (G 43 [x0,x1,x2,x3,x4,x5,x6,x7]).toNat)))*256)]]:=rfl
 rw[←er,jL lW]
 rfl
set_option maxHeartbeats 2000000 in
set_option maxRecDepth 100000 in
theorem aID (x0 x1 x2 x3 x4 x5 x6 x7:Int) (b0 : -2147483648≤x0∧x0≤2147483647) (b1 : -2147483648≤x1∧x1≤2147483647) (b2 : -2147483648≤x2∧x2≤2147483647) (b3 : -2147483648≤x3∧x3≤2147483647) (b4 : -2147483648≤x4∧x4≤2147483647) (b5 : -2147483648≤x5∧x5≤2147483647) (b6 : -2147483648≤x6∧x6≤2147483647) (b7 : -2147483648≤x7∧x7≤2147483647) (a:Nat) (ha:(a:Int)≤cG [x0,x1,x2,x3,x4,x5,x6,x7]):Sx.zL (nS Try.prog) G (dU x0 x1 x2 x3 x4 x5 x6 x7 a) (bF G (dU x0 x1 x2 x3 x4 x5 x6 x7) (eH ([x0,x1,x2,x3,x4,x5,x6,x7]:List Int)) 8 (.lit true) (fun a=>(a:Int)≤cG [x0,x1,x2,x3,x4,x5,x6,x7]) (fun a=>(cG [x0,x1,x2,x3,x4,x5,x6,x7]).toNat-a) a) []:=by
 refine aR lN (fun h0=>?_) (fun h0=>?_)
 ·skip
  refine aM aIy ?_
  unfold lN at h0;unfold aAs;have hp:=fP [x0,x1,x2,x3,x4,x5,x6,x7];have hl:=eO [x0,x1,x2,x3,x4,x5,x6,x7] (cG [x0,x1,x2,x3,x4,x5,x6,x7]) a;simp only[nn,dU,List.cons_append,List.nil_append,aZ]at h0;simp only[qZ]at h0;have hl2:=eO [x0,x1,x2,x3,x4,x5,x6,x7] (cG [x0,x1,x2,x3,x4,x5,x6,x7]) (a+1);have ec:=aGy x0 x1 x2 x3 x4 x5 x6 x7 a;simp only[bF];refine⟨a+1,by omega,by omega,bL (by simp),?_⟩;simp only[aP];clear h0;simp only[nn,dU,List.cons_append,List.nil_append,aZ]at ec ⊢;(repeat' refine And.intro ?_ ?_)<;>first|with_reducible exact ec|omega|with_reducible trivial
 refine aM aHI ?_
 unfold lN at h0;unfold aAz;have hp:=fP [x0,x1,x2,x3,x4,x5,x6,x7];have hl:=eO [x0,x1,x2,x3,x4,x5,x6,x7] (cG [x0,x1,x2,x3,x4,x5,x6,x7]) a;simp only[nn,dU,List.cons_append,List.nil_append,aZ]at h0;simp only[qZ]at h0;have hn:a=(cG [x0,x1,x2,x3,x4,x5,x6,x7]).toNat:=(by omega);have ec:Lc.enc (fY [x0,x1,x2,x3,x4,x5,x6,x7] (cG [x0,x1,x2,x3,x4,x5,x6,x7]) a)=G 44 [x0,x1,x2,x3,x4,x5,x6,x7]:=(by rw[hn];rfl);have el:((fY [x0,x1,x2,x3,x4,x5,x6,x7] (cG [x0,x1,x2,x3,x4,x5,x6,x7]) a).length:Int)=1*2 ^ (G 43 [x0,x1,x2,x3,x4,x5,x6,x7]).toNat+1:=(by rw[hl,qZ];omega);clear h0;simp only[bF];refine⟨rfl,aJl (by simp),?_⟩;simp only[aP];simp only[nn,dU,List.cons_append,List.nil_append,aZ]at ec el ⊢;(repeat' refine And.intro ?_ ?_)<;>first|with_reducible exact ec|with_reducible exact el|with_reducible trivial
end Go.Proofs.Ythiehfhphgkaeaa
set_option maxRecDepth 100000
namespace Go.Proofs.Ythiehfhphgkaeaa
open Go Go.RowKit Sx Wi
def aJS (P:Program) (fs:List B):Res SV:=aBu P fs
def aH5:List B:=[]
theorem aHP:aJS Try.prog aH5 = .ok (.tuple [(.agg []),(.bool (.lit true))]):=by kernel_rfl
end Go.Proofs.Ythiehfhphgkaeaa
namespace Go.Proofs.Ythiehfhphgkaeaa
open Go Go.RowKit Sx Wi
set_option maxRecDepth 100000 in
theorem aGV (x0 x1 x2 x3 x4 x5 x6 x7:Int):fT Try.prog G (bI GB) (cY (bZ Try.prog 16) 1) aB0 (eH ([x0,x1,x2,x3,x4,x5,x6,x7]:List Int)):=by
 intro hw _
 have hb:dJ mT (([x0,x1,x2,x3,x4,x5,x6,x7]:List Int)++[0,1]):=hw
 unfold mT at hb
 simp only[List.cons_append,List.nil_append]at hb
 obtain⟨b0,b1,b2,b3,b4,b5,b6,b7,_⟩:=hb
 have hC:G 91 [0,G 2 [x0,1*256],G 2 [x1,1*256]]=Lc.enc (fY [x0,x1,x2,x3,x4,x5,x6,x7] (cG [x0,x1,x2,x3,x4,x5,x6,x7]) 0):=jL lW [] [G 2 [x0,1*256],G 2 [x1,1*256]]
 have e:eU G (eH ([x0,x1,x2,x3,x4,x5,x6,x7]:List Int)) aB0.es=dU x0 x1 x2 x3 x4 x5 x6 x7 0:=by
  rw[eA];unfold dU;rw[←hC];rfl
 rw[e]
 have hp:=fP [x0,x1,x2,x3,x4,x5,x6,x7]
 exact⟨(cG [x0,x1,x2,x3,x4,x5,x6,x7]).toNat+1,dI (ι:=Nat) (ρ:=dU x0 x1 x2 x3 x4 x5 x6 x7) (ρT:=eH ([x0,x1,x2,x3,x4,x5,x6,x7]:List Int)) (m:=fun a=>(cG [x0,x1,x2,x3,x4,x5,x6,x7]).toNat-a) (Good:=fun a=>(a:Int)≤cG [x0,x1,x2,x3,x4,x5,x6,x7]) (run:=nS Try.prog) (fun _=>rfl) fits rfl eL (fun a ha=>aFQ x0 x1 x2 x3 x4 x5 x6 x7 b0 b1 b2 b3 b4 b5 b6 b7 a ha) (fun _ _ X hX hG=>bQ hX hG) (fun _ _ X hX hG=>cH) (fun a ha=>aID x0 x1 x2 x3 x4 x5 x6 x7 b0 b1 b2 b3 b4 b5 b6 b7 a ha) (by decide) _ 0 (by show ((0:Nat):Int)≤_;omega) (by show (cG [x0,x1,x2,x3,x4,x5,x6,x7]).toNat-0<_;omega)⟩
theorem aBO:bA (bZ Try.prog 16)=[cY (bZ Try.prog 16) 0,cY (bZ Try.prog 16) 1]:=by kernel_rfl
set_option maxRecDepth 100000 in
theorem aGZ (x0 x1 x2 x3 x4 x5 x6 x7:Int) (b0 : -2147483648≤x0∧x0≤2147483647) (b1 : -2147483648≤x1∧x1≤2147483647) (b2 : -2147483648≤x2∧x2≤2147483647) (b3 : -2147483648≤x3∧x3≤2147483647) (b4 : -2147483648≤x4∧x4≤2147483647) (b5 : -2147483648≤x5∧x5≤2147483647) (b6 : -2147483648≤x6∧x6≤2147483647) (b7 : -2147483648≤x7∧x7≤2147483647):eC Try.prog G GB 16 aCe (eH ([x0,x1,x2,x3,x4,x5,x6,x7]:List Int)):=by
 refine cS (lp:=aCX) (run:=aBu Try.prog) (fun _=>rfl) fits (dC ⟨b0,b1,b2,b3,b4,b5,b6,b7,trivial⟩) eL (fun X hX hG=>bQ hX hG) (fun X hX hG fn c hf hc=>?_) rfl ?_
 ·refine gD ((congrArg bA (hZ hf hc)).symm.trans aBO) ?_
  intro b hb
  simp only[List.mem_cons,List.mem_nil_iff,or_false]at hb
  rcases hb with rfl|rfl
  ·exact xF (j:=3) (by kernel_rfl) (by decide) aA8
  ·refine iI hX hG (by kernel_rfl) ?_
   intro p hp
   simp only[List.mem_cons,List.mem_nil_iff,or_false]at hp
   subst hp
   exact aGV x0 x1 x2 x3 x4 x5 x6 x7
 ·skip
  refine aM aHP ?_
  exact⟨rfl,trivial⟩
theorem aL {p:Int × Int} {l:List (Int × Int)} {xs:List Int} (h:dJ (p::l) xs):∃ x ys,xs=x::ys∧(p.1≤x∧x≤p.2)∧dJ l ys:=by
 cases xs with
 |nil=>exact h.elim
 |cons x ys=>exact⟨x,ys,rfl,h.1,h.2⟩
theorem oA {xs:List Int} (h:dJ [] xs):xs=[]:=by
 cases xs with
 |nil=>rfl
 |cons x ys=>exact h.elim
def vP:Ctx→List SV→aG→Res (SV × aG):=dH GB uX 0 (.lit true) aCe
theorem aJb {X:Ctx} {ρ:Nat→Int} (hX:X.Ok ρ) (hG:X.G=G):eY Try.prog X ρ GB 16 vP:=by
 obtain⟨XG,XI,XV,XF⟩:=X
 simp only at hG
 subst hG
 refine cL hX ?_
 intro xs ls hw hl _
 have hl':ls=[]:=List.length_eq_zero_iff.1 hl
 subst hl'
 rw[List.append_nil]
 unfold uX at hw
 obtain⟨x0,y0,e0,b0,h0⟩:=aL hw
 obtain⟨x1,y1,e1,b1,h1⟩:=aL h0
 obtain⟨x2,y2,e2,b2,h2⟩:=aL h1
 obtain⟨x3,y3,e3,b3,h3⟩:=aL h2
 obtain⟨x4,y4,e4,b4,h4⟩:=aL h3
 obtain⟨x5,y5,e5,b5,h5⟩:=aL h4
 obtain⟨x6,y6,e6,b6,h6⟩:=aL h5
 obtain⟨x7,y7,e7,b7,h7⟩:=aL h6
 have e8:=oA h7
 subst e8 e7 e6 e5 e4 e3 e2 e1 e0
 exact aGZ x0 x1 x2 x3 x4 x5 x6 x7 b0 b1 b2 b3 b4 b5 b6 b7
def pO:List (Int × Int):=[(-2147483648,2147483647),(-2147483648,2147483647),(-2147483648,2147483647),(-2147483648,2147483647),(-2147483648,2147483647),(-2147483648,2147483647)]
def vL:FunS:=⟨[(.slice 0 0 1 1)],bX GB++[some ([(.int .u8 (.lit 0)),(.int .i32 (.var 0)),(.int .i32 (.var 1)),(.int .i32 (.var 2)),(.int .i32 (.var 3)),(.int .i32 (.var 4)),(.int .i32 (.var 5))],38)],.lit true,(.vsl 1 2 (.lit 0) (.lit 1) (some (.lit 1))),bX GB++[some ([(.int .u8 (.lit 0)),(.int .i32 (.var 0)),(.int .i32 (.var 1)),(.int .i32 (.var 2)),(.int .i32 (.var 3)),(.int .i32 (.var 4)),(.int .i32 (.var 5))],38),jO [.int .i64,.int .i64] (.app 91 (.cons (.lit 0) (.cons (.app 2 (.cons (.var 0) (.cons (.op .mul (.lit 1) (.lit 256)) .nil))) (.cons (.app 2 (.cons (.var 1) (.cons (.op .mul (.lit 1) (.lit 256)) .nil))) .nil)))) (.lit 1) 32],(.vsl 1 2 (.lit 0) (.lit 1) (some (.lit 1))),bX GB++[some ([(.int .u8 (.lit 0)),(.int .i32 (.var 0)),(.int .i32 (.var 1)),(.int .i32 (.var 2)),(.int .i32 (.var 3)),(.int .i32 (.var 4)),(.int .i32 (.var 5))],38),jO [.int .i64,.int .i64] (.app 91 (.cons (.lit 0) (.cons (.app 2 (.cons (.var 0) (.cons (.op .mul (.lit 1) (.lit 256)) .nil))) (.cons (.app 2 (.cons (.var 1) (.cons (.op .mul (.lit 1) (.lit 256)) .nil))) .nil)))) (.lit 1) 32]⟩
def vN (P:Program) (fs:List B):Res SV:=bU G GI pO fs fun X=>fH P X GB cW dE 400 16 vL
def rI:List (Int × Int):=[(-2147483648,2147483647),(-2147483648,2147483647),(-2147483648,2147483647),(-2147483648,2147483647),(-2147483648,2147483647),(-2147483648,2147483647),(-2147483648,2147483647),(-2147483648,2147483647),(-2147483648,2147483647),(-2147483648,2147483647),(-2147483648,2147483647),(-2147483648,2147483647)]
def uS:FunS:=⟨[(.slice 0 0 2 2)],bX GB++[some ([(.int .u8 (.lit 0)),(.int .i32 (.var 0)),(.int .i32 (.var 1)),(.int .i32 (.var 2)),(.int .i32 (.var 3)),(.int .i32 (.var 4)),(.int .i32 (.var 5)),(.int .u8 (.lit 1)),(.int .i32 (.var 6)),(.int .i32 (.var 7)),(.int .i32 (.var 8)),(.int .i32 (.var 9)),(.int .i32 (.var 10)),(.int .i32 (.var 11))],38)],.lit true,(.vsl 1 2 (.lit 0) (.lit 2) (some (.lit 2))),bX GB++[some ([(.int .u8 (.lit 0)),(.int .i32 (.var 0)),(.int .i32 (.var 1)),(.int .i32 (.var 2)),(.int .i32 (.var 3)),(.int .i32 (.var 4)),(.int .i32 (.var 5)),(.int .u8 (.lit 1)),(.int .i32 (.var 6)),(.int .i32 (.var 7)),(.int .i32 (.var 8)),(.int .i32 (.var 9)),(.int .i32 (.var 10)),(.int .i32 (.var 11))],38),jO [.int .i64,.int .i64] (.app 91 (.cons (.app 91 (.cons (.lit 0) (.cons (.app 2 (.cons (.var 0) (.cons (.op .mul (.lit 1) (.lit 256)) .nil))) (.cons (.app 2 (.cons (.var 1) (.cons (.op .mul (.lit 1) (.lit 256)) .nil))) .nil)))) (.cons (.app 2 (.cons (.var 6) (.cons (.op .mul (.lit 1) (.lit 256)) .nil))) (.cons (.app 2 (.cons (.var 7) (.cons (.op .mul (.lit 1) (.lit 256)) .nil))) .nil)))) (.lit 2) 32],(.vsl 1 2 (.lit 0) (.lit 2) (some (.lit 2))),bX GB++[some ([(.int .u8 (.lit 0)),(.int .i32 (.var 0)),(.int .i32 (.var 1)),(.int .i32 (.var 2)),(.int .i32 (.var 3)),(.int .i32 (.var 4)),(.int .i32 (.var 5)),(.int .u8 (.lit 1)),(.int .i32 (.var 6)),(.int .i32 (.var 7)),(.int .i32 (.var 8)),(.int .i32 (.var 9)),(.int .i32 (.var 10)),(.int .i32 (.var 11))],38),jO [.int .i64,.int .i64] (.app 91 (.cons (.app 91 (.cons (.lit 0) (.cons (.app 2 (.cons (.var 0) (.cons (.op .mul (.lit 1) (.lit 256)) .nil))) (.cons (.app 2 (.cons (.var 1) (.cons (.op .mul (.lit 1) (.lit 256)) .nil))) .nil)))) (.cons (.app 2 (.cons (.var 6) (.cons (.op .mul (.lit 1) (.lit 256)) .nil))) (.cons (.app 2 (.cons (.var 7) (.cons (.op .mul (.lit 1) (.lit 256)) .nil))) .nil)))) (.lit 2) 32]⟩
def sU (P:Program) (fs:List B):Res SV:=bU G GI rI fs fun X=>fH P X GB cW dE 400 16 uS
def qO:List (Int × Int):=[(-2147483648,2147483647),(-2147483648,2147483647),(-2147483648,2147483647),(-2147483648,2147483647),(-2147483648,2147483647),(-2147483648,2147483647),(-2147483648,2147483647),(-2147483648,2147483647),(-2147483648,2147483647),(-2147483648,2147483647),(-2147483648,2147483647),(-2147483648,2147483647),(-2147483648,2147483647),(-2147483648,2147483647),(-2147483648,2147483647),(-2147483648,2147483647),(-2147483648,2147483647),(-2147483648,2147483647)]
def tI:FunS:=⟨[(.slice 0 0 3 3)],bX GB++[some ([(.int .u8 (.lit 0)),(.int .i32 (.var 0)),(.int .i32 (.var 1)),(.int .i32 (.var 2)),(.int .i32 (.var 3)),(.int .i32 (.var 4)),(.int .i32 (.var 5)),(.int .u8 (.lit 1)),(.int .i32 (.var 6)),(.int .i32 (.var 7)),(.int .i32 (.var 8)),(.int .i32 (.var 9)),(.int .i32 (.var 10)),(.int .i32 (.var 11)),(.int .u8 (.lit 1)),(.int .i32 (.var 12)),(.int .i32 (.var 13)),(.int .i32 (.var 14)),(.int .i32 (.var 15)),(.int .i32 (.var 16)),(.int .i32 (.var 17))],38)],.lit true,(.vsl 1 2 (.lit 0) (.lit 3) (some (.lit 3))),bX GB++[some ([(.int .u8 (.lit 0)),(.int .i32 (.var 0)),(.int .i32 (.var 1)),(.int .i32 (.var 2)),(.int .i32 (.var 3)),(.int .i32 (.var 4)),(.int .i32 (.var 5)),(.int .u8 (.lit 1)),(.int .i32 (.var 6)),(.int .i32 (.var 7)),(.int .i32 (.var 8)),(.int .i32 (.var 9)),(.int .i32 (.var 10)),(.int .i32 (.var 11)),(.int .u8 (.lit 1)),(.int .i32 (.var 12)),(.int .i32 (.var 13)),(.int .i32 (.var 14)),(.int .i32 (.var 15)),(.int .i32 (.var 16)),(.int .i32 (.var 17))],38),jO [.int .i64,.int .i64] (.app 91 (.cons (.app 91 (.cons (.app 91 (.cons (.lit 0) (.cons (.app 2 (.cons (.var 0) (.cons (.op .mul (.lit 1) (.lit 256)) .nil))) (.cons (.app 2 (.cons (.var 1) (.cons (.op .mul (.lit 1) (.lit 256)) .nil))) .nil)))) (.cons (.app 2 (.cons (.var 6) (.cons (.op .mul (.lit 1) (.lit 256)) .nil))) (.cons (.app 2 (.cons (.var 7) (.cons (.op .mul (.lit 1) (.lit 256)) .nil))) .nil)))) (.cons (.app 2 (.cons (.var 12) (.cons (.op .mul (.lit 1) (.lit 256)) .nil))) (.cons (.app 2 (.cons (.var 13) (.cons (.op .mul (.lit 1) (.lit 256)) .nil))) .nil)))) (.lit 3) 32],(.vsl 1 2 (.lit 0) (.lit 3) (some (.lit 3))),bX GB++[some ([(.int .u8 (.lit 0)),(.int .i32 (.var 0)),(.int .i32 (.var 1)),(.int .i32 (.var 2)),(.int .i32 (.var 3)),(.int .i32 (.var 4)),(.int .i32 (.var 5)),(.int .u8 (.lit 1)),(.int .i32 (.var 6)),(.int .i32 (.var 7)),(.int .i32 (.var 8)),(.int .i32 (.var 9)),(.int .i32 (.var 10)),(.int .i32 (.var 11)),(.int .u8 (.lit 1)),(.int .i32 (.var 12)),(.int .i32 (.var 13)),(.int .i32 (.var 14)),(.int .i32 (.var 15)),(.int .i32 (.var 16)),(.int .i32 (.var 17))],38),jO [.int .i64,.int .i64] (.app 91 (.cons (.app 91 (.cons (.app 91 (.cons (.lit 0) (.cons (.app 2 (.cons (.var 0) (.cons (.op .mul (.lit 1) (.lit 256)) .nil))) (.cons (.app 2 (.cons (.var 1) (.cons (.op .mul (.lit 1) (.lit 256)) .nil))) .nil)))) (.cons (.app 2 (.cons (.var 6) (.cons (.op .mul (.lit 1) (.lit 256)) .nil))) (.cons (.app 2 (.cons (.var 7) (.cons (.op .mul (.lit 1) (.lit 256)) .nil))) .nil)))) (.cons (.app 2 (.cons (.var 12) (.cons (.op .mul (.lit 1) (.lit 256)) .nil))) (.cons (.app 2 (.cons (.var 13) (.cons (.op .mul (.lit 1) (.lit 256)) .nil))) .nil)))) (.lit 3) 32]⟩
def vI (P:Program) (fs:List B):Res SV:=bU G GI qO fs fun X=>fH P X GB cW dE 400 16 tI
def qQ:List (Int × Int):=[(-2147483648,2147483647),(-2147483648,2147483647),(-2147483648,2147483647),(-2147483648,2147483647),(-2147483648,2147483647),(-2147483648,2147483647),(-2147483648,2147483647),(-2147483648,2147483647),(-2147483648,2147483647),(-2147483648,2147483647),(-2147483648,2147483647),(-2147483648,2147483647),(-2147483648,2147483647),(-2147483648,2147483647),(-2147483648,2147483647),(-2147483648,2147483647),(-2147483648,2147483647),(-2147483648,2147483647),(-2147483648,2147483647),(-2147483648,2147483647),(-2147483648,2147483647),(-2147483648,2147483647),(-2147483648,2147483647),(-2147483648,2147483647)]
def uA:FunS:=⟨[(.slice 0 0 3 4)],bX GB++[some ([(.int .u8 (.lit 0)),(.int .i32 (.var 0)),(.int .i32 (.var 1)),(.int .i32 (.var 2)),(.int .i32 (.var 3)),(.int .i32 (.var 4)),(.int .i32 (.var 5)),(.int .u8 (.lit 1)),(.int .i32 (.var 6)),(.int .i32 (.var 7)),(.int .i32 (.var 8)),(.int .i32 (.var 9)),(.int .i32 (.var 10)),(.int .i32 (.var 11)),(.int .u8 (.lit 1)),(.int .i32 (.var 12)),(.int .i32 (.var 13)),(.int .i32 (.var 14)),(.int .i32 (.var 15)),(.int .i32 (.var 16)),(.int .i32 (.var 17)),(.int .u8 (.lit 3)),(.int .i32 (.var 18)),(.int .i32 (.var 19)),(.int .i32 (.var 20)),(.int .i32 (.var 21)),(.int .i32 (.var 22)),(.int .i32 (.var 23))],38)],.lit true,(.vsl 1 2 (.lit 0) (.lit 3) (some (.lit 3))),bX GB++[some ([(.int .u8 (.lit 0)),(.int .i32 (.var 0)),(.int .i32 (.var 1)),(.int .i32 (.var 2)),(.int .i32 (.var 3)),(.int .i32 (.var 4)),(.int .i32 (.var 5)),(.int .u8 (.lit 1)),(.int .i32 (.var 6)),(.int .i32 (.var 7)),(.int .i32 (.var 8)),(.int .i32 (.var 9)),(.int .i32 (.var 10)),(.int .i32 (.var 11)),(.int .u8 (.lit 1)),(.int .i32 (.var 12)),(.int .i32 (.var 13)),(.int .i32 (.var 14)),(.int .i32 (.var 15)),(.int .i32 (.var 16)),(.int .i32 (.var 17)),(.int .u8 (.lit 3)),(.int .i32 (.var 18)),(.int .i32 (.var 19)),(.int .i32 (.var 20)),(.int .i32 (.var 21)),(.int .i32 (.var 22)),(.int .i32 (.var 23))],38),jO [.int .i64,.int .i64] (.app 91 (.cons (.app 91 (.cons (.app 91 (.cons (.lit 0) (.cons (.app 2 (.cons (.var 0) (.cons (.op .mul (.lit 1) (.lit 256)) .nil))) (.cons (.app 2 (.cons (.var 1) (.cons (.op .mul (.lit 1) (.lit 256)) .nil))) .nil)))) (.cons (.app 2 (.cons (.var 6) (.cons (.op .mul (.lit 1) (.lit 256)) .nil))) (.cons (.app 2 (.cons (.var 7) (.cons (.op .mul (.lit 1) (.lit 256)) .nil))) .nil)))) (.cons (.app 2 (.cons (.var 12) (.cons (.op .mul (.lit 1) (.lit 256)) .nil))) (.cons (.app 2 (.cons (.var 13) (.cons (.op .mul (.lit 1) (.lit 256)) .nil))) .nil)))) (.lit 3) 32],(.vsl 1 2 (.lit 0) (.lit 3) (some (.lit 3))),bX GB++[some ([(.int .u8 (.lit 0)),(.int .i32 (.var 0)),(.int .i32 (.var 1)),(.int .i32 (.var 2)),(.int .i32 (.var 3)),(.int .i32 (.var 4)),(.int .i32 (.var 5)),(.int .u8 (.lit 1)),(.int .i32 (.var 6)),(.int .i32 (.var 7)),(.int .i32 (.var 8)),(.int .i32 (.var 9)),(.int .i32 (.var 10)),(.int .i32 (.var 11)),(.int .u8 (.lit 1)),(.int .i32 (.var 12)),(.int .i32 (.var 13)),(.int .i32 (.var 14)),(.int .i32 (.var 15)),(.int .i32 (.var 16)),(.int .i32 (.var 17)),(.int .u8 (.lit 3)),(.int .i32 (.var 18)),(.int .i32 (.var 19)),(.int .i32 (.var 20)),(.int .i32 (.var 21)),(.int .i32 (.var 22)),(.int .i32 (.var 23))],38),jO [.int .i64,.int .i64] (.app 91 (.cons (.app 91 (.cons (.app 91 (.cons (.lit 0) (.cons (.app 2 (.cons (.var 0) (.cons (.op .mul (.lit 1) (.lit 256)) .nil))) (.cons (.app 2 (.cons (.var 1) (.cons (.op .mul (.lit 1) (.lit 256)) .nil))) .nil)))) (.cons (.app 2 (.cons (.var 6) (.cons (.op .mul (.lit 1) (.lit 256)) .nil))) (.cons (.app 2 (.cons (.var 7) (.cons (.op .mul (.lit 1) (.lit 256)) .nil))) .nil)))) (.cons (.app 2 (.cons (.var 12) (.cons (.op .mul (.lit 1) (.lit 256)) .nil))) (.cons (.app 2 (.cons (.var 13) (.cons (.op .mul (.lit 1) (.lit 256)) .nil))) .nil)))) (.lit 3) 32]⟩
def tO (P:Program) (fs:List B):Res SV:=bU G GI qQ fs fun X=>fH P X GB cW dE 400 16 uA
def pR:List (Int × Int):=[(-2147483648,2147483647),(-2147483648,2147483647),(-2147483648,2147483647),(-2147483648,2147483647),(-2147483648,2147483647),(-2147483648,2147483647),(-2147483648,2147483647),(-2147483648,2147483647),(-2147483648,2147483647),(-2147483648,2147483647),(-2147483648,2147483647),(-2147483648,2147483647),(-2147483648,2147483647),(-2147483648,2147483647),(-2147483648,2147483647),(-2147483648,2147483647),(-2147483648,2147483647),(-2147483648,2147483647)]
def uE:FunS:=⟨[(.slice 0 0 1 3)],bX GB++[some ([(.int .u8 (.lit 0)),(.int .i32 (.var 0)),(.int .i32 (.var 1)),(.int .i32 (.var 2)),(.int .i32 (.var 3)),(.int .i32 (.var 4)),(.int .i32 (.var 5)),(.int .u8 (.lit 3)),(.int .i32 (.var 6)),(.int .i32 (.var 7)),(.int .i32 (.var 8)),(.int .i32 (.var 9)),(.int .i32 (.var 10)),(.int .i32 (.var 11)),(.int .u8 (.lit 1)),(.int .i32 (.var 12)),(.int .i32 (.var 13)),(.int .i32 (.var 14)),(.int .i32 (.var 15)),(.int .i32 (.var 16)),(.int .i32 (.var 17))],38)],.lit true,(.vsl 1 2 (.lit 0) (.lit 1) (some (.lit 1))),bX GB++[some ([(.int .u8 (.lit 0)),(.int .i32 (.var 0)),(.int .i32 (.var 1)),(.int .i32 (.var 2)),(.int .i32 (.var 3)),(.int .i32 (.var 4)),(.int .i32 (.var 5)),(.int .u8 (.lit 3)),(.int .i32 (.var 6)),(.int .i32 (.var 7)),(.int .i32 (.var 8)),(.int .i32 (.var 9)),(.int .i32 (.var 10)),(.int .i32 (.var 11)),(.int .u8 (.lit 1)),(.int .i32 (.var 12)),(.int .i32 (.var 13)),(.int .i32 (.var 14)),(.int .i32 (.var 15)),(.int .i32 (.var 16)),(.int .i32 (.var 17))],38),jO [.int .i64,.int .i64] (.app 91 (.cons (.lit 0) (.cons (.app 2 (.cons (.var 0) (.cons (.op .mul (.lit 1) (.lit 256)) .nil))) (.cons (.app 2 (.cons (.var 1) (.cons (.op .mul (.lit 1) (.lit 256)) .nil))) .nil)))) (.lit 1) 32],(.vsl 1 2 (.lit 0) (.lit 1) (some (.lit 1))),bX GB++[some ([(.int .u8 (.lit 0)),(.int .i32 (.var 0)),(.int .i32 (.var 1)),(.int .i32 (.var 2)),(.int .i32 (.var 3)),(.int .i32 (.var 4)),(.int .i32 (.var 5)),(.int .u8 (.lit 3)),(.int .i32 (.var 6)),(.int .i32 (.var 7)),(.int .i32 (.var 8)),(.int .i32 (.var 9)),(.int .i32 (.var 10)),(.int .i32 (.var 11)),(.int .u8 (.lit 1)),(.int .i32 (.var 12)),(.int .i32 (.var 13)),(.int .i32 (.var 14)),(.int .i32 (.var 15)),(.int .i32 (.var 16)),(.int .i32 (.var 17))],38),jO [.int .i64,.int .i64] (.app 91 (.cons (.lit 0) (.cons (.app 2 (.cons (.var 0) (.cons (.op .mul (.lit 1) (.lit 256)) .nil))) (.cons (.app 2 (.cons (.var 1) (.cons (.op .mul (.lit 1) (.lit 256)) .nil))) .nil)))) (.lit 1) 32]⟩
def uP (P:Program) (fs:List B):Res SV:=bU G GI pR fs fun X=>fH P X GB cW dE 400 16 uE
end Go.Proofs.Ythiehfhphgkaeaa
set_option maxRecDepth 100000
namespace Go.Proofs.Ythiehfhphgkaeaa
open Go Go.RowKit Sx Wi
def aII (P:Program) (fs:List B):Res SV:=vN P fs
def aFd:List B:=[]
theorem aE3:aII Try.prog aFd = .ok (.tuple [(.agg []),(.bool (.lit true))]):=by kernel_rfl
end Go.Proofs.Ythiehfhphgkaeaa
set_option maxRecDepth 100000
namespace Go.Proofs.Ythiehfhphgkaeaa
open Go Go.RowKit Sx Wi
def aHQ (P:Program) (fs:List B):Res SV:=sU P fs
def aF1:List B:=[]
theorem aEn:aHQ Try.prog aF1 = .ok (.tuple [(.agg []),(.bool (.lit true))]):=by kernel_rfl
end Go.Proofs.Ythiehfhphgkaeaa
set_option maxRecDepth 100000
namespace Go.Proofs.Ythiehfhphgkaeaa
open Go Go.RowKit Sx Wi
def aGw (P:Program) (fs:List B):Res SV:=vI P fs
def aFS:List B:=[]
theorem aFZ:aGw Try.prog aFS = .ok (.tuple [(.agg []),(.bool (.lit true))]):=by kernel_rfl
end Go.Proofs.Ythiehfhphgkaeaa
set_option maxRecDepth 100000
namespace Go.Proofs.Ythiehfhphgkaeaa
open Go Go.RowKit Sx Wi
def aIg (P:Program) (fs:List B):Res SV:=tO P fs
def aEw:List B:=[]
theorem aE6:aIg Try.prog aEw = .ok (.tuple [(.agg []),(.bool (.lit true))]):=by kernel_rfl
end Go.Proofs.Ythiehfhphgkaeaa
set_option maxRecDepth 100000
namespace Go.Proofs.Ythiehfhphgkaeaa
open Go Go.RowKit Sx Wi
def aIG (P:Program) (fs:List B):Res SV:=uP P fs
def aFO:List B:=[]
theorem aEy:aIG Try.prog aFO = .ok (.tuple [(.agg []),(.bool (.lit true))]):=by kernel_rfl
end Go.Proofs.Ythiehfhphgkaeaa
