/- What is proved: the lines of a path: the rounds of its iterator. No condition but the numbers' own bounds. -/
import Derived.Test.YthiehfhphgkaeaaQa1
import Derived.Test.YthiehfhphgkaeaaQa4
import Derived.Test.YthiehfhphgkaeaaQg4
import Derived.Test.YthiehfhphgkaeaaProg
import Derived.Test.YthiehfhphgkaeaaQa2
set_option linter.unusedSimpArgs false
set_option linter.unusedVariables false
namespace Go.Proofs.Ythiehfhphgkaeaa
open Go Go.RowKit Sx Wi
def cI (N L:Int) (p:Nat × Nat):Nat→Int:=eK ([N]++[(p.1:Int),(p.2:Int),mP L N p.2,L])
theorem aLA (N L:Int) (b0:0≤N∧N≤256) (hN:N=((Lc.dec L).length:Int)) (p:Nat × Nat) (hp:tZ L N p):∀ k q,aEZ[k]?=some q→q.1≤cI N L p k∧cI N L p k≤q.2:=by
 have h:=aHO b0 hN hp.1
 unfold cI aEZ
 exact cS (xs:=[N,(p.1:Int),(p.2:Int)]) (ls:=[mP L N p.2,L]) (by exact⟨b0,by have:=hp.1.1;omega,by omega,trivial⟩)
set_option maxHeartbeats 4000000 in
set_option maxRecDepth 100000 in
theorem aNv (N L:Int) (b0:0≤N∧N≤256) (hN:N=((Lc.dec L).length:Int)) (p:Nat × Nat) (hp:tZ L N p):Sx.yE (wR Try.prog) G (cI N L p) (bD G (cI N L) (eK ([N]++[L])) 1 aM7.b (tZ L N) (fun p=>N.toNat-p.1) p) []:=by
 refine aQ cM (fun h0=>?_) (fun h0=>?_)
 rotate_left
 ·skip
  refine aP aFv ?_
  unfold cM at h0;unfold aCE;have hg:=hp.1;simp only[nn,cI,List.cons_append,List.nil_append,Bool.or_eq_true,aY,ne_eq]at h0;have q:=aMV hN b0.2 (by omega) hg;have qe:=aNo hN b0.2 (by omega) hp;clear h0;simp only[bD];refine⟨?_,bF (by simp),?_⟩;(· show decide (G 55 [L,N]=1)=true;exact decide_eq_true q.2);simp only[aL];simp only[nn,cI,List.cons_append,List.nil_append,Bool.or_eq_true,aY,ne_eq];(repeat' refine And.intro ?_ ?_)<;>first|with_reducible exact q.1|with_reducible exact qe|with_reducible rfl|with_reducible trivial
 refine aQ cZ (fun h1=>?_) (fun h1=>?_)
 rotate_left
 ·skip
  refine bE ?_
  unfold cM at h0;unfold cZ at h1;have hg:=hp.1;simp only[nn,cI,List.cons_append,List.nil_append,Bool.or_eq_true,aY,ne_eq]at h0 h1;omega
 refine aQ cY (fun h2=>?_) (fun h2=>?_)
 ·skip
  refine aQ dA (fun h3=>?_) (fun h3=>?_)
  rotate_left
  ·skip
   refine bE ?_
   unfold cM at h0;unfold cZ at h1;unfold cY at h2;unfold dA at h3;have hg:=hp.1;simp only[nn,cI,List.cons_append,List.nil_append,Bool.or_eq_true,aY,ne_eq]at h0 h1 h2 h3;first|(have q:=xJ hN b0.2 (by clear h1 h2 h3;omega) h2;generalize G 53 [L,(p.1:Int)+1,N-(p.1:Int)-1]=R at *;clear hp hg;omega)|(clear h2;omega)
  refine aQ cW (fun h4=>?_) (fun h4=>?_)
  rotate_left
  ·skip
   refine aP aFN ?_
   unfold cM at h0;unfold cZ at h1;unfold cY at h2;unfold dA at h3;unfold cW at h4;have hg:=hp.1;simp only[nn,cI,List.cons_append,List.nil_append,Bool.or_eq_true,aY,ne_eq]at h0 h1 h2 h3 h4;have q:¬G 55 [L,N]=1:=aD6 hN b0.2 (by clear h1 h2 h3 h4;omega) hg h2 (.inl h4);clear h0 h1 h2 h3 h4;simp only[bD];refine⟨?_,bF (by simp),?_⟩;(· show decide (G 55 [L,N]=1)=false;exact decide_eq_false q);simp only[aL];simp only[nn,cI,List.cons_append,List.nil_append,Bool.or_eq_true,aY,ne_eq];all_goals ((repeat' refine And.intro ?_ ?_)<;>first|with_reducible rfl|with_reducible trivial)
  refine aQ kT (fun h5=>?_) (fun h5=>?_)
  rotate_left
  ·skip
   refine bE ?_
   unfold cM at h0;unfold cZ at h1;unfold cY at h2;unfold dA at h3;unfold cW at h4;unfold kT at h5;have hg:=hp.1;simp only[nn,cI,List.cons_append,List.nil_append,Bool.or_eq_true,aY,ne_eq]at h0 h1 h2 h3 h4 h5;first|(have q:=xJ hN b0.2 (by clear h1 h2 h3 h4 h5;omega) h2;generalize G 53 [L,(p.1:Int)+1,N-(p.1:Int)-1]=R at *;clear hp hg h5;omega)|(clear h2 h3 h4;omega)
  refine aQ lF (fun h6=>?_) (fun h6=>?_)
  rotate_left
  ·skip
   refine aP aE4 ?_
   unfold cM at h0;unfold cZ at h1;unfold cY at h2;unfold dA at h3;unfold cW at h4;unfold kT at h5;unfold lF at h6;have hg:=hp.1;simp only[nn,cI,List.cons_append,List.nil_append,Bool.or_eq_true,aY,ne_eq]at h0 h1 h2 h3 h4 h5 h6;have q:¬G 55 [L,N]=1:=aD6 hN b0.2 (by clear h1 h2 h3 h4 h5 h6;omega) hg h2 (.inr h6);clear h0 h1 h2 h3 h4 h5 h6;simp only[bD];refine⟨?_,bF (by simp),?_⟩;(· show decide (G 55 [L,N]=1)=false;exact decide_eq_false q);simp only[aL];simp only[nn,cI,List.cons_append,List.nil_append,Bool.or_eq_true,aY,ne_eq];all_goals ((repeat' refine And.intro ?_ ?_)<;>first|with_reducible rfl|with_reducible trivial)
  refine aQ qC (fun h7=>?_) (fun h7=>?_)
  ·skip
   refine bE ?_
   unfold cM at h0;unfold cZ at h1;unfold cY at h2;unfold dA at h3;unfold cW at h4;unfold kT at h5;unfold lF at h6;unfold qC at h7;have hg:=hp.1;simp only[nn,cI,List.cons_append,List.nil_append,Bool.or_eq_true,aY,ne_eq]at h0 h1 h2 h3 h4 h5 h6 h7;first|(have q:=xJ hN b0.2 (by clear h1 h2 h3 h4 h5 h6 h7;omega) h2;generalize G 53 [L,(p.1:Int)+1,N-(p.1:Int)-1]=R at *;clear hp hg h5 h7;omega)|(clear h2 h3 h4 h5 h6;omega)
  refine aP aKL ?_
  unfold cM at h0;unfold cZ at h1;unfold cY at h2;unfold dA at h3;unfold cW at h4;unfold kT at h5;unfold lF at h6;unfold qC at h7;unfold aBE;have hg:=hp.1;simp only[nn,cI,List.cons_append,List.nil_append,Bool.or_eq_true,aY,ne_eq]at h0 h1 h2 h3 h4 h5 h6 h7;obtain⟨q,qc⟩:=aIE hN b0.2 (by clear h1 h2 h3 h4 h5 h6 h7;omega) hp h4 h2 h6;clear h1 h2 h3 h4 h5 h6 h7;have hm:N.toNat-N.toNat<N.toNat-p.1:=(by clear qc;omega);  simp only[bD];refine⟨(N.toNat,p.2+1),q,hm,bF (by simp),?_⟩;simp only[aL];clear q hm hp hg;simp only[nn,Int.natCast_add,Int.cast_ofNat_Int,Int.natCast_one,cI,List.cons_append,List.nil_append,Bool.or_eq_true,aY,ne_eq];all_goals ((repeat' refine And.intro ?_ ?_)<;>first|with_reducible exact qc|(rw[hR];with_reducible exact qc)|with_reducible rfl|with_reducible trivial|(clear qc;omega))
 refine aQ fE (fun h3=>?_) (fun h3=>?_)
 rotate_left
 ·skip
  refine bE ?_
  unfold cM at h0;unfold cZ at h1;unfold cY at h2;unfold fE at h3;have hg:=hp.1;simp only[nn,cI,List.cons_append,List.nil_append,Bool.or_eq_true,aY,ne_eq]at h0 h1 h2 h3;first|(have q:=xJ hN b0.2 (by clear h1 h2 h3;omega) h2;generalize G 53 [L,(p.1:Int)+1,N-(p.1:Int)-1]=R at *;clear hp hg;omega)|(clear h2;omega)
 refine aQ dA (fun h4=>?_) (fun h4=>?_)
 rotate_left
 ·skip
  refine bE ?_
  unfold cM at h0;unfold cZ at h1;unfold cY at h2;unfold fE at h3;unfold dA at h4;have hg:=hp.1;simp only[nn,cI,List.cons_append,List.nil_append,Bool.or_eq_true,aY,ne_eq]at h0 h1 h2 h3 h4;first|(have q:=xJ hN b0.2 (by clear h1 h2 h3 h4;omega) h2;generalize G 53 [L,(p.1:Int)+1,N-(p.1:Int)-1]=R at *;clear hp hg;omega)|(clear h2 h3;omega)
 refine aQ cW (fun h5=>?_) (fun h5=>?_)
 rotate_left
 ·skip
  refine aP aHf ?_
  unfold cM at h0;unfold cZ at h1;unfold cY at h2;unfold fE at h3;unfold dA at h4;unfold cW at h5;have hg:=hp.1;simp only[nn,cI,List.cons_append,List.nil_append,Bool.or_eq_true,aY,ne_eq]at h0 h1 h2 h3 h4 h5;have q:¬G 55 [L,N]=1:=aD7 hN b0.2 (by clear h1 h2 h3 h4 h5;omega) hg h2 (.inl h5);clear h0 h1 h2 h3 h4 h5;simp only[bD];refine⟨?_,bF (by simp),?_⟩;(· show decide (G 55 [L,N]=1)=false;exact decide_eq_false q);simp only[aL];simp only[nn,cI,List.cons_append,List.nil_append,Bool.or_eq_true,aY,ne_eq];all_goals ((repeat' refine And.intro ?_ ?_)<;>first|with_reducible rfl|with_reducible trivial)
 refine aQ iO (fun h6=>?_) (fun h6=>?_)
 rotate_left
 ·skip
  refine bE ?_
  unfold cM at h0;unfold cZ at h1;unfold cY at h2;unfold fE at h3;unfold dA at h4;unfold cW at h5;unfold iO at h6;have hg:=hp.1;simp only[nn,cI,List.cons_append,List.nil_append,Bool.or_eq_true,aY,ne_eq]at h0 h1 h2 h3 h4 h5 h6;first|(have q:=xJ hN b0.2 (by clear h1 h2 h3 h4 h5 h6;omega) h2;generalize G 53 [L,(p.1:Int)+1,N-(p.1:Int)-1]=R at *;clear hp hg h5;omega)|(clear h2 h3 h4 h5;omega)
 refine aQ gF (fun h7=>?_) (fun h7=>?_)
 rotate_left
 ·skip
  refine aP aHA ?_
  unfold cM at h0;unfold cZ at h1;unfold cY at h2;unfold fE at h3;unfold dA at h4;unfold cW at h5;unfold iO at h6;unfold gF at h7;have hg:=hp.1;simp only[nn,cI,List.cons_append,List.nil_append,Bool.or_eq_true,aY,ne_eq]at h0 h1 h2 h3 h4 h5 h6 h7;have q:¬G 55 [L,N]=1:=aD7 hN b0.2 (by clear h1 h2 h3 h4 h5 h6 h7;omega) hg h2 (.inr h7);clear h0 h1 h2 h3 h4 h5 h6 h7;simp only[bD];refine⟨?_,bF (by simp),?_⟩;(· show decide (G 55 [L,N]=1)=false;exact decide_eq_false q);simp only[aL];simp only[nn,cI,List.cons_append,List.nil_append,Bool.or_eq_true,aY,ne_eq];all_goals ((repeat' refine And.intro ?_ ?_)<;>first|with_reducible rfl|with_reducible trivial)
 refine aQ iG (fun h8=>?_) (fun h8=>?_)
 rotate_left
 ·skip
  refine aP aGG ?_
  unfold cM at h0;unfold cZ at h1;unfold cY at h2;unfold fE at h3;unfold dA at h4;unfold cW at h5;unfold iO at h6;unfold gF at h7;unfold iG at h8;unfold qZ;have hg:=hp.1;simp only[nn,cI,List.cons_append,List.nil_append,Bool.or_eq_true,aY,ne_eq]at h0 h1 h2 h3 h4 h5 h6 h7 h8;exfalso;obtain⟨q1,q2,_,_,_⟩:=vL hN b0.2 (by clear h1 h2 h3 h4 h5 h6 h7 h8;omega) hp h5 h2 h7;generalize G 53 [L,(p.1:Int)+1,N-(p.1:Int)-1]+1=R at *;clear hp hg h1 h2 h3 h4 h5 h6 h7;omega
 refine aQ lR (fun h9=>?_) (fun h9=>?_)
 rotate_left
 ·skip
  refine bE ?_
  unfold cM at h0;unfold cZ at h1;unfold cY at h2;unfold fE at h3;unfold dA at h4;unfold cW at h5;unfold iO at h6;unfold gF at h7;unfold iG at h8;unfold lR at h9;have hg:=hp.1;simp only[nn,cI,List.cons_append,List.nil_append,Bool.or_eq_true,aY,ne_eq]at h0 h1 h2 h3 h4 h5 h6 h7 h8 h9;first|(have q:=xJ hN b0.2 (by clear h1 h2 h3 h4 h5 h6 h7 h8 h9;omega) h2;generalize G 53 [L,(p.1:Int)+1,N-(p.1:Int)-1]=R at *;clear hp hg h5 h7;omega)|(clear h2 h3 h4 h5 h6 h7 h8;omega)
 refine aQ lI (fun h10=>?_) (fun h10=>?_)
 ·skip
  refine aP aGc ?_
  unfold cM at h0;unfold cZ at h1;unfold cY at h2;unfold fE at h3;unfold dA at h4;unfold cW at h5;unfold iO at h6;unfold gF at h7;unfold iG at h8;unfold lR at h9;unfold lI at h10;unfold aCd;have hg:=hp.1;simp only[nn,cI,List.cons_append,List.nil_append,Bool.or_eq_true,aY,ne_eq]at h0 h1 h2 h3 h4 h5 h6 h7 h8 h9 h10;obtain⟨q1,q2,qc,q3,_⟩:=vL hN b0.2 (by clear h1 h2 h3 h4 h5 h6 h7 h8 h9 h10;omega) hp h5 h2 h7;have q:=q3 h10;clear q3 h1 h2 h3 h4 h5 h6 h7 h8 h9 h10;generalize hR:G 53 [L,(p.1:Int)+1,N-(p.1:Int)-1]+1=R at *;have hm:N.toNat-((p.1:Int)+R+1).toNat<N.toNat-p.1:=(by clear qc;omega);  simp only[bD];refine⟨(((p.1:Int)+R+1).toNat,p.2+1),q,hm,bF (by simp),?_⟩;simp only[aL];clear q hm hp hg;simp only[nn,Int.natCast_add,Int.cast_ofNat_Int,Int.natCast_one,cI,List.cons_append,List.nil_append,Bool.or_eq_true,aY,ne_eq];all_goals ((repeat' refine And.intro ?_ ?_)<;>first|with_reducible exact qc|(rw[hR];with_reducible exact qc)|with_reducible rfl|with_reducible trivial|(clear qc;omega))
 refine aP aFQ ?_
 unfold cM at h0;unfold cZ at h1;unfold cY at h2;unfold fE at h3;unfold dA at h4;unfold cW at h5;unfold iO at h6;unfold gF at h7;unfold iG at h8;unfold lR at h9;unfold lI at h10;unfold qZ;have hg:=hp.1;simp only[nn,cI,List.cons_append,List.nil_append,Bool.or_eq_true,aY,ne_eq]at h0 h1 h2 h3 h4 h5 h6 h7 h8 h9 h10;obtain⟨q1,q2,qc,_,q3⟩:=vL hN b0.2 (by clear h1 h2 h3 h4 h5 h6 h7 h8 h9 h10;omega) hp h5 h2 h7;have q:=q3 h10;clear q3 h1 h2 h3 h4 h5 h6 h7 h8 h9 h10;generalize hR:G 53 [L,(p.1:Int)+1,N-(p.1:Int)-1]+1=R at *;have hm:N.toNat-((p.1:Int)+R).toNat<N.toNat-p.1:=(by clear qc;omega);  simp only[bD];refine⟨(((p.1:Int)+R).toNat,p.2+1),q,hm,bF (by simp),?_⟩;simp only[aL];clear q hm hp hg;simp only[nn,Int.natCast_add,Int.cast_ofNat_Int,Int.natCast_one,cI,List.cons_append,List.nil_append,Bool.or_eq_true,aY,ne_eq];all_goals ((repeat' refine And.intro ?_ ?_)<;>first|with_reducible exact qc|(rw[hR];with_reducible exact qc)|with_reducible rfl|with_reducible trivial|(clear qc;omega))
theorem aJU:bC (bQ Try.prog 20)=[cF (bQ Try.prog 20) 0]:=by kernel_rfl
set_option maxRecDepth 100000 in
theorem aNS (N L:Int) (b0:0≤N∧N≤256) (hN:N=((Lc.dec L).length:Int)):fJ Try.prog G (bK GB) (cF (bQ Try.prog 20) 0) aMM (eK ([N]++[L])):=by
 intro _ _
 have e:fL G (eK ([N]++[L])) aMM.es=cI N L (0,0):=by
  unfold cI
  rw[aJX,eE]
  rfl
 rw[e]
 exact⟨N.toNat+1,dJ (ι:=Nat × Nat) (ρ:=cI N L) (ρT:=eK ([N]++[L])) (m:=fun p=>N.toNat-p.1) (Good:=tZ L N) (run:=wR Try.prog) (fun _=>rfl) fits rfl eX (fun p hp=>aLA N L b0 hN p hp) (fun _ _ X hX hG=>wN hX hG) (fun _ _ X hX hG=>cQ) (fun p hp=>aNv N L b0 hN p hp) (by decide) (N.toNat+1) (0,0) (aI0 b0.1) (by show N.toNat-0<N.toNat+1;omega)⟩
set_option maxHeartbeats 1000000 in
set_option maxRecDepth 100000 in
theorem aMN (N L:Int) (b0:0≤N∧N≤256):eT Try.prog G GB 20 aMJ (eK ([N]++[L])):=by
 refine mI 0 rfl (fun hN=>?_)
 replace hN:N=((Lc.dec L).length:Int):=hN
 refine dC (lp:=aMm) (run:=aKA Try.prog) (fun _=>rfl) fits (cS (xs:=[N]) (ls:=[L]) (by exact⟨b0,trivial⟩)) eX (fun X hX hG=>wN hX hG) (fun X hX hG fn c hf hc=>?_) rfl ?_
 ·refine gE ((congrArg bC (jM hf hc)).symm.trans aJU) ?_
  intro b hb
  simp only[List.mem_cons,List.mem_nil_iff,or_false]at hb
  subst hb
  refine gN hX hG (by kernel_rfl) ?_
  intro p hp'
  simp only[List.mem_cons,List.mem_nil_iff,or_false]at hp'
  subst hp'
  exact aNS N L b0 hN
 ·skip
  refine aQ nR (fun h0=>?_) (fun h0=>?_)
  ·skip
   refine aP aKi ?_
   unfold nR at h0;exact⟨h0,trivial⟩
  refine aP aJT ?_
  unfold nR at h0;exact⟨h0,trivial⟩
def aBW:Ctx→List SV→aG→Res (SV × aG):=dT GB aDO 1 (.lit true) aMJ
theorem aN8 {X:Ctx} {ρ:Nat→Int} (hX:X.Ok ρ) (hG:X.G=G):fR Try.prog X ρ GB 20 aBW:=by
 obtain⟨XG,XI,XV,XF⟩:=X
 simp only at hG
 subst hG
 refine cU hX ?_
 intro xs ls hw hl hp
 unfold aDO at hw
 obtain⟨x0,y0,e0,b0,h0⟩:=gP hw
 have e1:=vI h0
 subst e1 e0
 obtain⟨l0,rfl⟩:=wC hl
 exact aMN x0 l0 b0
def aH9:bB:=kI 20 aBW aEs
theorem aBl {X:Ctx} {ρ:Nat→Int} (hX:X.Ok ρ) (hG:X.G=G):iV Try.prog X ρ GB aH9:=iE (aN8 hX hG) (wN hX hG)
def aI4:List (Int × Int):=[(0,9223372036854775807)]
def aND:FunS:=⟨[(.own 0 (.var 0) none)],[some ([.vec [.int .u8,.int .i32,.int .i32,.int .i32,.int .i32,.int .i32,.int .i32] (.var 1) (.var 0) true],bA)],(.and (.cmp .le (.var 0) (.lit 256)) (.cmp .eq (.app 55 (.cons (.var 1) (.cons (.var 0) .nil))) (.lit 1))),(.tuple [(.vsl 1 1 (.lit 0) (.app 54 (.cons (.var 1) (.cons (.var 0) .nil))) (some (.app 54 (.cons (.var 1) (.cons (.var 0) .nil))))),(.int .i64 (.lit 0))]),[some ([.vec [.int .u8,.int .i32,.int .i32,.int .i32,.int .i32,.int .i32,.int .i32] (.var 1) (.var 0) true],bA),some ([.lol 1 [.int .i64,.int .i64] (.app 61 (.cons (.var 1) (.cons (.var 0) .nil))) (.app 54 (.cons (.var 1) (.cons (.var 0) .nil)))],aS+30)],(.tuple [(.con (.slice none 0 0)),(.int .i64 (.op .sub (.lit 4) (.op .min (.lit 1) (.op .max (.lit 0) (.op .sub (.var 0) (.lit 256))))))]),[some ([.vec [.int .u8,.int .i32,.int .i32,.int .i32,.int .i32,.int .i32,.int .i32] (.var 1) (.var 0) true],bA)]⟩
def aKw (P:Program) (fs:List B):Res SV:=bY G GI aI4 fs fun X=>gA P X GB aH9 dP 4000 9 aND
end Go.Proofs.Ythiehfhphgkaeaa
set_option maxRecDepth 100000
namespace Go.Proofs.Ythiehfhphgkaeaa
open Go Go.RowKit Sx Wi
def aAN (P:Program) (fs:List B):Res SV:=aKw P fs
def aCF:List B:=[]
def lS:B:=(.cmp .lt (.lit 256) (.var 0))
def aIJ:List B:=aW lS++aCF
def aCh:List B:=aW (B.neg lS)++aCF
def nL:B:=(.cmp .eq (.app 55 (.cons (.var 1) (.cons (.var 0) .nil))) (.lit 1))
def aJ7:List B:=aW nL++aCh
def aIn:List B:=aW (B.neg nL)++aCh
theorem aHY:aAN Try.prog aIJ = .ok (.tuple [(.agg [(.int .i64 (.lit 3)),(.int .i64 (.op .sub (.lit 4) (.op .min (.lit 1) (.op .max (.lit 0) (.op .sub (.var 0) (.lit 256))))))]),(.bool (.lit false))]):=by kernel_rfl
theorem aKR:aAN Try.prog aJ7 = .ok (.tuple [(.agg []),(.bool (.lit true))]):=by kernel_rfl
theorem aKU:aAN Try.prog aIn = .ok (.tuple [(.agg [(.int .i64 (.lit 4)),(.int .i64 (.op .sub (.lit 4) (.op .min (.lit 1) (.op .max (.lit 0) (.op .sub (.var 0) (.lit 256))))))]),(.bool (.lit false))]):=by kernel_rfl
end Go.Proofs.Ythiehfhphgkaeaa
namespace Go.Proofs.Ythiehfhphgkaeaa
open Go Go.RowKit Sx Wi
set_option maxHeartbeats 1000000 in
set_option maxRecDepth 100000 in
theorem aNH (N L:Int) (b0:0≤N∧N≤9223372036854775807):eT Try.prog G GB 9 aND (eK ([N]++[L])):=by
 refine dC (lp:=dP) (run:=aKw Try.prog) (fun _=>rfl) fits (cS (xs:=[N]) (ls:=[L]) (by exact⟨b0,trivial⟩)) eX (fun X hX hG=>aBl hX hG) (fun X hX hG fn c hf hc=>cQ) rfl ?_
 refine aQ lS (fun h0=>?_) (fun h0=>?_)
 ·skip
  refine aP aHY ?_
  unfold lS at h0;simp only[nn,List.cons_append,List.nil_append,Bool.or_eq_true,aY,ne_eq]at h0;simp only[aCu];refine⟨?_,?_⟩;(· show (decide (N≤256) && decide (G 55 [L,N]=1))=false;rw[decide_eq_false (by omega:¬N≤256),Bool.false_and]);simp only[aL];simp only[nn,List.cons_append,List.nil_append,Bool.or_eq_true,aY,ne_eq];refine⟨?_,trivial⟩;  omega
 refine aQ nL (fun h1=>?_) (fun h1=>?_)
 ·skip
  refine aP aKR ?_
  unfold lS at h0;unfold nL at h1;simp only[nn,List.cons_append,List.nil_append,Bool.or_eq_true,aY,ne_eq]at h0 h1;simp only[aCu];refine⟨?_,trivial⟩;show (decide (N≤256) && decide (G 55 [L,N]=1))=true;rw[decide_eq_true (by clear h1;omega:N≤256),decide_eq_true h1];rfl
 refine aP aKU ?_
 unfold lS at h0;unfold nL at h1;simp only[nn,List.cons_append,List.nil_append,Bool.or_eq_true,aY,ne_eq]at h0 h1;simp only[aCu];refine⟨?_,?_⟩;(· show (decide (N≤256) && decide (G 55 [L,N]=1))=false;rw[decide_eq_false h1,Bool.and_false]);simp only[aL];simp only[nn,List.cons_append,List.nil_append,Bool.or_eq_true,aY,ne_eq];refine⟨?_,trivial⟩;clear h1;omega
def aBP:Ctx→List SV→aG→Res (SV × aG):=dT GB aI4 1 (.lit true) aND
theorem aN9 {X:Ctx} {ρ:Nat→Int} (hX:X.Ok ρ) (hG:X.G=G):fR Try.prog X ρ GB 9 aBP:=by
 obtain⟨XG,XI,XV,XF⟩:=X
 simp only at hG
 subst hG
 refine cU hX ?_
 intro xs ls hw hl hp
 unfold aI4 at hw
 obtain⟨x0,y0,e0,b0,h0⟩:=gP hw
 have e1:=vI h0
 subst e1 e0
 obtain⟨l0,rfl⟩:=wC hl
 exact aNH x0 l0 b0
def aME:bB:=kI 9 aBP aH9
theorem aIU {X:Ctx} {ρ:Nat→Int} (hX:X.Ok ρ) (hG:X.G=G):iV Try.prog X ρ GB aME:=iE (aN9 hX hG) (aBl hX hG)
def oA:List (Int × Int):=[(-2147483648,2147483647),(-2147483648,2147483647),(-2147483648,2147483647),(-2147483648,2147483647),(-2147483648,2147483647),(-2147483648,2147483647),(-2147483648,2147483647),(-2147483648,2147483647),(0,64),(1,65)]
def uU:List (Int × Int):=[(-2147483648,2147483647),(-2147483648,2147483647),(-2147483648,2147483647),(-2147483648,2147483647),(-2147483648,2147483647),(-2147483648,2147483647),(-2147483648,2147483647),(-2147483648,2147483647)]
def aM3:St:=⟨[.any,.any,(.own 15 (.var 9) none),(.ptr 1 0),.any,.any,(.ptr 14 0),(.int .i64 (.op .shl (.lit 1) (.app 43 (.cons (.var 0) (.cons (.var 1) (.cons (.var 2) (.cons (.var 3) (.cons (.var 4) (.cons (.var 5) (.cons (.var 6) (.cons (.var 7) .nil))))))))))),.any,(.slice 0 0 2 2),(.int .i64 (.lit 2)),(.int .i64 (.lit 1)),.any,.any,.any,.any,.any,.any,.any,.any,.any,.any,.any,.any,.any,.any,.any,.any,(.int .i64 (.op .shl (.lit 1) (.app 43 (.cons (.var 0) (.cons (.var 1) (.cons (.var 2) (.cons (.var 3) (.cons (.var 4) (.cons (.var 5) (.cons (.var 6) (.cons (.var 7) .nil))))))))))),(.int .i64 (.op .shl (.lit 1) (.app 43 (.cons (.var 0) (.cons (.var 1) (.cons (.var 2) (.cons (.var 3) (.cons (.var 4) (.cons (.var 5) (.cons (.var 6) (.cons (.var 7) .nil))))))))))),(.int .i64 (.var 8)),.any,.any,.any,.any,.any,.any,.any,.any,.any,.any,.any,.any,.any,.any,.any,.any,.any,.any,.any,.any,.any,.any,.any],[some ([(.int .u8 (.lit 0)),(.int .i32 (.var 0)),(.int .i32 (.var 1)),(.int .i32 (.lit 0)),(.int .i32 (.lit 0)),(.int .i32 (.lit 0)),(.int .i32 (.lit 0)),(.int .u8 (.lit 2)),(.int .i32 (.var 2)),(.int .i32 (.var 3)),(.int .i32 (.var 4)),(.int .i32 (.var 5)),(.int .i32 (.var 6)),(.int .i32 (.var 7))],38),some ([(.int .i64 (.var 0)),(.int .i64 (.var 1))],57),none,none,none,none,none,none,none,none,none,none,none,none,some ([(.int .i64 (.var 0)),(.int .i64 (.var 1)),(.int .i64 (.var 2)),(.int .i64 (.var 3)),(.int .i64 (.var 4)),(.int .i64 (.var 5)),(.int .i64 (.var 6)),(.int .i64 (.var 7))],60),kA [.int .i64,.int .i64] (.var 10) (.var 9) 32]⟩
def aJt:St:=⟨[.any,.any,(.own 15 (.op .add (.op .shl (.lit 1) (.app 43 (.cons (.var 0) (.cons (.var 1) (.cons (.var 2) (.cons (.var 3) (.cons (.var 4) (.cons (.var 5) (.cons (.var 6) (.cons (.var 7) .nil)))))))))) (.lit 1)) none),(.ptr 1 0),.any,.any,(.ptr 14 0),.any,.any,(.slice 0 0 2 2),(.int .i64 (.lit 2)),(.int .i64 (.lit 1)),.any,.any,.any,.any,.any,.any,.any,.any,.any,.any,.any,.any,.any,.any,.any,.any,.any,.any,.any,.any,.any,.any,.any,.any,.any,.any,.any,.any,.any,.any,.any,.any,.any,.any,.any,.any,.any,.any,.any,.any,.any,.any],[some ([(.int .u8 (.lit 0)),(.int .i32 (.var 0)),(.int .i32 (.var 1)),(.int .i32 (.lit 0)),(.int .i32 (.lit 0)),(.int .i32 (.lit 0)),(.int .i32 (.lit 0)),(.int .u8 (.lit 2)),(.int .i32 (.var 2)),(.int .i32 (.var 3)),(.int .i32 (.var 4)),(.int .i32 (.var 5)),(.int .i32 (.var 6)),(.int .i32 (.var 7))],38),some ([(.int .i64 (.var 0)),(.int .i64 (.var 1))],57),none,none,none,none,none,none,none,none,none,none,none,none,some ([(.int .i64 (.var 0)),(.int .i64 (.var 1)),(.int .i64 (.var 2)),(.int .i64 (.var 3)),(.int .i64 (.var 4)),(.int .i64 (.var 5)),(.int .i64 (.var 6)),(.int .i64 (.var 7))],60),kA [.int .i64,.int .i64] (.app 44 (.cons (.var 0) (.cons (.var 1) (.cons (.var 2) (.cons (.var 3) (.cons (.var 4) (.cons (.var 5) (.cons (.var 6) (.cons (.var 7) .nil))))))))) (.op .add (.op .shl (.lit 1) (.app 43 (.cons (.var 0) (.cons (.var 1) (.cons (.var 2) (.cons (.var 3) (.cons (.var 4) (.cons (.var 5) (.cons (.var 6) (.cons (.var 7) .nil)))))))))) (.lit 1)) 32]⟩
def aKK:LoopS:=⟨8,15,aM3,.lit true,.exit 2,aJt,.exit 2,aJt⟩
def aC0:LoopU:=⟨aKK,[(.var 0),(.var 1),(.var 2),(.var 3),(.var 4),(.var 5),(.var 6),(.var 7),(.lit 0),(.lit 1),(.app 91 (.cons (.lit 0) (.cons (.app 2 (.cons (.var 0) (.cons (.op .mul (.lit 1) (.lit 256)) .nil))) (.cons (.app 2 (.cons (.var 1) (.cons (.op .mul (.lit 1) (.lit 256)) .nil))) .nil))))],oA,.lit true⟩
def pF (P:Program) (fs:List B):Res SV:=bY G GI oA fs fun X=>gX P X GB dE dP 400 (cF (bQ P 16) 1) aKK
def aES:eG:=fP 9 (eJ (bK GB) [aC0]) dP
def aDr:FunS:=⟨[(.slice 0 0 2 2)],cD GB++[some ([(.int .u8 (.lit 0)),(.int .i32 (.var 0)),(.int .i32 (.var 1)),(.int .i32 (.lit 0)),(.int .i32 (.lit 0)),(.int .i32 (.lit 0)),(.int .i32 (.lit 0)),(.int .u8 (.lit 2)),(.int .i32 (.var 2)),(.int .i32 (.var 3)),(.int .i32 (.var 4)),(.int .i32 (.var 5)),(.int .i32 (.var 6)),(.int .i32 (.var 7))],38)],.lit true,(.vsl 1 2 (.lit 0) (.op .add (.op .shl (.lit 1) (.app 43 (.cons (.var 0) (.cons (.var 1) (.cons (.var 2) (.cons (.var 3) (.cons (.var 4) (.cons (.var 5) (.cons (.var 6) (.cons (.var 7) .nil)))))))))) (.lit 1)) (some (.op .add (.op .shl (.lit 1) (.app 43 (.cons (.var 0) (.cons (.var 1) (.cons (.var 2) (.cons (.var 3) (.cons (.var 4) (.cons (.var 5) (.cons (.var 6) (.cons (.var 7) .nil)))))))))) (.lit 1)))),cD GB++[some ([(.int .u8 (.lit 0)),(.int .i32 (.var 0)),(.int .i32 (.var 1)),(.int .i32 (.lit 0)),(.int .i32 (.lit 0)),(.int .i32 (.lit 0)),(.int .i32 (.lit 0)),(.int .u8 (.lit 2)),(.int .i32 (.var 2)),(.int .i32 (.var 3)),(.int .i32 (.var 4)),(.int .i32 (.var 5)),(.int .i32 (.var 6)),(.int .i32 (.var 7))],38),kA [.int .i64,.int .i64] (.app 44 (.cons (.var 0) (.cons (.var 1) (.cons (.var 2) (.cons (.var 3) (.cons (.var 4) (.cons (.var 5) (.cons (.var 6) (.cons (.var 7) .nil))))))))) (.op .add (.op .shl (.lit 1) (.app 43 (.cons (.var 0) (.cons (.var 1) (.cons (.var 2) (.cons (.var 3) (.cons (.var 4) (.cons (.var 5) (.cons (.var 6) (.cons (.var 7) .nil)))))))))) (.lit 1)) 32],(.vsl 1 2 (.lit 0) (.op .add (.op .shl (.lit 1) (.app 43 (.cons (.var 0) (.cons (.var 1) (.cons (.var 2) (.cons (.var 3) (.cons (.var 4) (.cons (.var 5) (.cons (.var 6) (.cons (.var 7) .nil)))))))))) (.lit 1)) (some (.op .add (.op .shl (.lit 1) (.app 43 (.cons (.var 0) (.cons (.var 1) (.cons (.var 2) (.cons (.var 3) (.cons (.var 4) (.cons (.var 5) (.cons (.var 6) (.cons (.var 7) .nil)))))))))) (.lit 1)))),cD GB++[some ([(.int .u8 (.lit 0)),(.int .i32 (.var 0)),(.int .i32 (.var 1)),(.int .i32 (.lit 0)),(.int .i32 (.lit 0)),(.int .i32 (.lit 0)),(.int .i32 (.lit 0)),(.int .u8 (.lit 2)),(.int .i32 (.var 2)),(.int .i32 (.var 3)),(.int .i32 (.var 4)),(.int .i32 (.var 5)),(.int .i32 (.var 6)),(.int .i32 (.var 7))],38),kA [.int .i64,.int .i64] (.app 44 (.cons (.var 0) (.cons (.var 1) (.cons (.var 2) (.cons (.var 3) (.cons (.var 4) (.cons (.var 5) (.cons (.var 6) (.cons (.var 7) .nil))))))))) (.op .add (.op .shl (.lit 1) (.app 43 (.cons (.var 0) (.cons (.var 1) (.cons (.var 2) (.cons (.var 3) (.cons (.var 4) (.cons (.var 5) (.cons (.var 6) (.cons (.var 7) .nil)))))))))) (.lit 1)) 32]⟩
def aCx (P:Program) (fs:List B):Res SV:=bY G GI uU fs fun X=>gA P X GB dE aES 400 16 aDr
end Go.Proofs.Ythiehfhphgkaeaa
set_option maxRecDepth 100000
namespace Go.Proofs.Ythiehfhphgkaeaa
open Go Go.RowKit Sx Wi
def aEW (P:Program) (fs:List B):Res SV:=pF P fs
def aB7:List B:=[]
def nI:B:=(.cmp .lt (.var 8) (.op .shl (.lit 1) (.app 43 (.cons (.var 0) (.cons (.var 1) (.cons (.var 2) (.cons (.var 3) (.cons (.var 4) (.cons (.var 5) (.cons (.var 6) (.cons (.var 7) .nil)))))))))))
def aI9:List B:=aW nI++aB7
def aCN:SV:=(.agg [(.int .i64 (.op .add (.var 9) (.lit 1))),(.int .i64 (.var 9)),(.int .i64 (.op .add (.var 8) (.lit 1))),(.int .i64 (.var 8)),(.int .i64 (.app 91 (.cons (.var 10) (.cons (.app 2 (.cons (.op .add (.op .add (.op .add (.op .mul (.op .mul (.op .mul (.op .sub (.op .shl (.lit 1) (.app 43 (.cons (.var 0) (.cons (.var 1) (.cons (.var 2) (.cons (.var 3) (.cons (.var 4) (.cons (.var 5) (.cons (.var 6) (.cons (.var 7) .nil)))))))))) (.op .add (.var 8) (.lit 1))) (.op .sub (.op .shl (.lit 1) (.app 43 (.cons (.var 0) (.cons (.var 1) (.cons (.var 2) (.cons (.var 3) (.cons (.var 4) (.cons (.var 5) (.cons (.var 6) (.cons (.var 7) .nil)))))))))) (.op .add (.var 8) (.lit 1)))) (.op .sub (.op .shl (.lit 1) (.app 43 (.cons (.var 0) (.cons (.var 1) (.cons (.var 2) (.cons (.var 3) (.cons (.var 4) (.cons (.var 5) (.cons (.var 6) (.cons (.var 7) .nil)))))))))) (.op .add (.var 8) (.lit 1)))) (.var 0)) (.op .mul (.op .mul (.op .mul (.op .mul (.lit 3) (.op .sub (.op .shl (.lit 1) (.app 43 (.cons (.var 0) (.cons (.var 1) (.cons (.var 2) (.cons (.var 3) (.cons (.var 4) (.cons (.var 5) (.cons (.var 6) (.cons (.var 7) .nil)))))))))) (.op .add (.var 8) (.lit 1)))) (.op .sub (.op .shl (.lit 1) (.app 43 (.cons (.var 0) (.cons (.var 1) (.cons (.var 2) (.cons (.var 3) (.cons (.var 4) (.cons (.var 5) (.cons (.var 6) (.cons (.var 7) .nil)))))))))) (.op .add (.var 8) (.lit 1)))) (.op .add (.var 8) (.lit 1))) (.var 2))) (.op .mul (.op .mul (.op .mul (.op .mul (.lit 3) (.op .sub (.op .shl (.lit 1) (.app 43 (.cons (.var 0) (.cons (.var 1) (.cons (.var 2) (.cons (.var 3) (.cons (.var 4) (.cons (.var 5) (.cons (.var 6) (.cons (.var 7) .nil)))))))))) (.op .add (.var 8) (.lit 1)))) (.op .add (.var 8) (.lit 1))) (.op .add (.var 8) (.lit 1))) (.var 4))) (.op .mul (.op .mul (.op .mul (.op .add (.var 8) (.lit 1)) (.op .add (.var 8) (.lit 1))) (.op .add (.var 8) (.lit 1))) (.var 6))) (.cons (.op .mul (.op .mul (.op .shl (.lit 1) (.app 43 (.cons (.var 0) (.cons (.var 1) (.cons (.var 2) (.cons (.var 3) (.cons (.var 4) (.cons (.var 5) (.cons (.var 6) (.cons (.var 7) .nil)))))))))) (.op .mul (.op .shl (.lit 1) (.app 43 (.cons (.var 0) (.cons (.var 1) (.cons (.var 2) (.cons (.var 3) (.cons (.var 4) (.cons (.var 5) (.cons (.var 6) (.cons (.var 7) .nil)))))))))) (.op .shl (.lit 1) (.app 43 (.cons (.var 0) (.cons (.var 1) (.cons (.var 2) (.cons (.var 3) (.cons (.var 4) (.cons (.var 5) (.cons (.var 6) (.cons (.var 7) .nil)))))))))))) (.lit 256)) .nil))) (.cons (.app 2 (.cons (.op .add (.op .add (.op .add (.op .mul (.op .mul (.op .mul (.op .sub (.op .shl (.lit 1) (.app 43 (.cons (.var 0) (.cons (.var 1) (.cons (.var 2) (.cons (.var 3) (.cons (.var 4) (.cons (.var 5) (.cons (.var 6) (.cons (.var 7) .nil)))))))))) (.op .add (.var 8) (.lit 1))) (.op .sub (.op .shl (.lit 1) (.app 43 (.cons (.var 0) (.cons (.var 1) (.cons (.var 2) (.cons (.var 3) (.cons (.var 4) (.cons (.var 5) (.cons (.var 6) (.cons (.var 7) .nil)))))))))) (.op .add (.var 8) (.lit 1)))) (.op .sub (.op .shl (.lit 1) (.app 43 (.cons (.var 0) (.cons (.var 1) (.cons (.var 2) (.cons (.var 3) (.cons (.var 4) (.cons (.var 5) (.cons (.var 6) (.cons (.var 7) .nil)))))))))) (.op .add (.var 8) (.lit 1)))) (.var 1)) (.op .mul (.op .mul (.op .mul (.op .mul (.lit 3) (.op .sub (.op .shl (.lit 1) (.app 43 (.cons (.var 0) (.cons (.var 1) (.cons (.var 2) (.cons (.var 3) (.cons (.var 4) (.cons (.var 5) (.cons (.var 6) (.cons (.var 7) .nil)))))))))) (.op .add (.var 8) (.lit 1)))) (.op .sub (.op .shl (.lit 1) (.app 43 (.cons (.var 0) (.cons (.var 1) (.cons (.var 2) (.cons (.var 3) (.cons (.var 4) (.cons (.var 5) (.cons (.var 6) (.cons (.var 7) .nil)))))))))) (.op .add (.var 8) (.lit 1)))) (.op .add (.var 8) (.lit 1))) (.var 3))) (.op .mul (.op .mul (.op .mul (.op .mul (.lit 3) (.op .sub (.op .shl (.lit 1) (.app 43 (.cons (.var 0) (.cons (.var 1) (.cons (.var 2) (.cons (.var 3) (.cons (.var 4) (.cons (.var 5) (.cons (.var 6) (.cons (.var 7) .nil)))))))))) (.op .add (.var 8) (.lit 1)))) (.op .add (.var 8) (.lit 1))) (.op .add (.var 8) (.lit 1))) (.var 5))) (.op .mul (.op .mul (.op .mul (.op .add (.var 8) (.lit 1)) (.op .add (.var 8) (.lit 1))) (.op .add (.var 8) (.lit 1))) (.var 7))) (.cons (.op .mul (.op .mul (.op .shl (.lit 1) (.app 43 (.cons (.var 0) (.cons (.var 1) (.cons (.var 2) (.cons (.var 3) (.cons (.var 4) (.cons (.var 5) (.cons (.var 6) (.cons (.var 7) .nil)))))))))) (.op .mul (.op .shl (.lit 1) (.app 43 (.cons (.var 0) (.cons (.var 1) (.cons (.var 2) (.cons (.var 3) (.cons (.var 4) (.cons (.var 5) (.cons (.var 6) (.cons (.var 7) .nil)))))))))) (.op .shl (.lit 1) (.app 43 (.cons (.var 0) (.cons (.var 1) (.cons (.var 2) (.cons (.var 3) (.cons (.var 4) (.cons (.var 5) (.cons (.var 6) (.cons (.var 7) .nil)))))))))))) (.lit 256)) .nil))) .nil))))),(.int .i64 (.var 10)),(.int .i64 (.op .add (.var 9) (.lit 1))),(.int .i64 (.var 9))])
def aKM:List B:=aW (B.neg nI)++aB7
def aCs:SV:=(.tuple [(.agg [(.int .i64 (.var 9)),(.int .i64 (.op .add (.op .shl (.lit 1) (.app 43 (.cons (.var 0) (.cons (.var 1) (.cons (.var 2) (.cons (.var 3) (.cons (.var 4) (.cons (.var 5) (.cons (.var 6) (.cons (.var 7) .nil)))))))))) (.lit 1))),(.int .i64 (.var 10)),(.int .i64 (.app 44 (.cons (.var 0) (.cons (.var 1) (.cons (.var 2) (.cons (.var 3) (.cons (.var 4) (.cons (.var 5) (.cons (.var 6) (.cons (.var 7) .nil)))))))))),(.int .i64 (.var 9)),(.int .i64 (.op .add (.op .shl (.lit 1) (.app 43 (.cons (.var 0) (.cons (.var 1) (.cons (.var 2) (.cons (.var 3) (.cons (.var 4) (.cons (.var 5) (.cons (.var 6) (.cons (.var 7) .nil)))))))))) (.lit 1)))]),(.bool (.lit true))])
theorem aJc:aEW Try.prog aI9 = .ok aCN:=by kernel_rfl
theorem aJI:aEW Try.prog aKM = .ok aCs:=by kernel_rfl
end Go.Proofs.Ythiehfhphgkaeaa
namespace Go.Proofs.Ythiehfhphgkaeaa
open Go Go.RowKit Sx Wi
def eN (x0 x1 x2 x3 x4 x5 x6 x7:Int) (a:Nat):Nat→Int:=eK (([x0,x1,x2,x3,x4,x5,x6,x7]:List Int)++[(a:Int),((hJ [x0,x1,x2,x3,x4,x5,x6,x7] (cK [x0,x1,x2,x3,x4,x5,x6,x7]) a).length:Int),Lc.enc (hJ [x0,x1,x2,x3,x4,x5,x6,x7] (cK [x0,x1,x2,x3,x4,x5,x6,x7]) a)])
theorem aG8 (x0 x1 x2 x3 x4 x5 x6 x7:Int) (b0 : -2147483648≤x0∧x0≤2147483647) (b1 : -2147483648≤x1∧x1≤2147483647) (b2 : -2147483648≤x2∧x2≤2147483647) (b3 : -2147483648≤x3∧x3≤2147483647) (b4 : -2147483648≤x4∧x4≤2147483647) (b5 : -2147483648≤x5∧x5≤2147483647) (b6 : -2147483648≤x6∧x6≤2147483647) (b7 : -2147483648≤x7∧x7≤2147483647) (a:Nat) (ha:(a:Int)≤cK [x0,x1,x2,x3,x4,x5,x6,x7]):∀ i q,oA[i]?=some q→q.1≤eN x0 x1 x2 x3 x4 x5 x6 x7 a i∧eN x0 x1 x2 x3 x4 x5 x6 x7 a i≤q.2:=by
 have hp:=fH [x0,x1,x2,x3,x4,x5,x6,x7]
 have hl:=fI [x0,x1,x2,x3,x4,x5,x6,x7] (cK [x0,x1,x2,x3,x4,x5,x6,x7]) a
 unfold eN oA
 have e:([x0,x1,x2,x3,x4,x5,x6,x7]:List Int)++[(a:Int),((hJ [x0,x1,x2,x3,x4,x5,x6,x7] (cK [x0,x1,x2,x3,x4,x5,x6,x7]) a).length:Int),Lc.enc (hJ [x0,x1,x2,x3,x4,x5,x6,x7] (cK [x0,x1,x2,x3,x4,x5,x6,x7]) a)]=(([x0,x1,x2,x3,x4,x5,x6,x7]:List Int)++[(a:Int),((hJ [x0,x1,x2,x3,x4,x5,x6,x7] (cK [x0,x1,x2,x3,x4,x5,x6,x7]) a).length:Int)])++[Lc.enc (hJ [x0,x1,x2,x3,x4,x5,x6,x7] (cK [x0,x1,x2,x3,x4,x5,x6,x7]) a)]:=by simp
 rw[e]
 exact cS (by simp only[List.cons_append,List.nil_append];exact⟨b0,b1,b2,b3,b4,b5,b6,b7,by omega,by omega,trivial⟩)
theorem rL (x0 x1 x2 x3 x4 x5 x6 x7:Int):1*2 ^ (G 43 [x0,x1,x2,x3,x4,x5,x6,x7]).toNat=cK [x0,x1,x2,x3,x4,x5,x6,x7]:=rfl
set_option maxRecDepth 100000 in
theorem aIH (x0 x1 x2 x3 x4 x5 x6 x7:Int) (a:Nat):G 91 [Lc.enc (hJ [x0,x1,x2,x3,x4,x5,x6,x7] (cK [x0,x1,x2,x3,x4,x5,x6,x7]) a),G 2 [((((((((1*2 ^ (G 43 [x0,x1,x2,x3,x4,x5,x6,x7]).toNat)-((a:Int)+1))*((1*2 ^ (G 43 [x0,x1,x2,x3,x4,x5,x6,x7]).toNat)-((a:Int)+1)))*((1*2 ^ (G 43 [x0,x1,x2,x3,x4,x5,x6,x7]).toNat)-((a:Int)+1)))*x0)+((((3*((1*2 ^ (G 43 [x0,x1,x2,x3,x4,x5,x6,x7]).toNat)-((a:Int)+1)))*((1*2 ^ (G 43 [x0,x1,x2,x3,x4,x5,x6,x7]).toNat)-((a:Int)+1)))*((a:Int)+1))*x2))+((((3*((1*2 ^ (G 43 [x0,x1,x2,x3,x4,x5,x6,x7]).toNat)-((a:Int)+1)))*((a:Int)+1))*((a:Int)+1))*x4))+(((((a:Int)+1)*((a:Int)+1))*((a:Int)+1))*x6)),(((1*2 ^ (G 43 [x0,x1,x2,x3,x4,x5,x6,x7]).toNat)*((1*2 ^ (G 43 [x0,x1,x2,x3,x4,x5,x6,x7]).toNat)*(1*2 ^ (G 43 [x0,x1,x2,x3,x4,x5,x6,x7]).toNat)))*256)],G 2 [((((((((1*2 ^ (G 43 [x0,x1,x2,x3,x4,x5,x6,x7]).toNat)-((a:Int)+1))*((1*2 ^ (G 43 [x0,x1,x2,x3,x4,x5,x6,x7]).toNat)-((a:Int)+1)))*((1*2 ^ (G 43 [x0,x1,x2,x3,x4,x5,x6,x7]).toNat)-((a:Int)+1)))*x1)+((((3*((1*2 ^ (G 43 [x0,x1,x2,x3,x4,x5,x6,x7]).toNat)-((a:Int)+1)))*((1*2 ^ (G 43 [x0,x1,x2,x3,x4,x5,x6,x7]).toNat)-((a:Int)+1)))*((a:Int)+1))*x3))+((((3*((1*2 ^ (G 43 [x0,x1,x2,x3,x4,x5,x6,x7]).toNat)-((a:Int)+1)))*((a:Int)+1))*((a:Int)+1))*x5))+(((((a:Int)+1)*((a:Int)+1))*((a:Int)+1))*x7)),(((1*2 ^ (G 43 [x0,x1,x2,x3,x4,x5,x6,x7]).toNat)*((1*2 ^ (G 43 [x0,x1,x2,x3,x4,x5,x6,x7]).toNat)*(1*2 ^ (G 43 [x0,x1,x2,x3,x4,x5,x6,x7]).toNat)))*256)]]=Lc.enc (hJ [x0,x1,x2,x3,x4,x5,x6,x7] (cK [x0,x1,x2,x3,x4,x5,x6,x7]) (a+1)):=by
 have er:mX [x0,x1,x2,x3,x4,x5,x6,x7] (cK [x0,x1,x2,x3,x4,x5,x6,x7]) ((a:Int)+1)=[G 2 [((((((((1*2 ^ (G 43 [x0,x1,x2,x3,x4,x5,x6,x7]).toNat)-((a:Int)+1))*((1*2 ^ (G 43 [x0,x1,x2,x3,x4,x5,x6,x7]).toNat)-((a:Int)+1)))*((1*2 ^ (G 43 [x0,x1,x2,x3,x4,x5,x6,x7]).toNat)-((a:Int)+1)))*x0)+((((3*((1*2 ^ (G 43 [x0,x1,x2,x3,x4,x5,x6,x7]).toNat)-((a:Int)+1)))*((1*2 ^ (G 43 [x0,x1,x2,x3,x4,x5,x6,x7]).toNat)-((a:Int)+1)))*((a:Int)+1))*x2))+((((3*((1*2 ^ (G 43 [x0,x1,x2,x3,x4,x5,x6,x7]).toNat)-((a:Int)+1)))*((a:Int)+1))*((a:Int)+1))*x4))+(((((a:Int)+1)*((a:Int)+1))*((a:Int)+1))*x6)),(((1*2 ^ (G 43 [x0,x1,x2,x3,x4,x5,x6,x7]).toNat)*((1*2 ^ (G 43 [x0,x1,x2,x3,x4,x5,x6,x7]).toNat)*(1*2 ^ (G 43 [x0,x1,x2,x3,x4,x5,x6,x7]).toNat)))*256)],G 2 [((((((((1*2 ^ (G 43 [x0,x1,x2,x3,x4,x5,x6,x7]).toNat)-((a:Int)+1))*((1*2 ^ (G 43 [x0,x1,x2,x3,x4,x5,x6,x7]).toNat)-((a:Int)+1)))*((1*2 ^ (G 43 [x0,x1,x2,x3,x4,x5,x6,x7]).toNat)-((a:Int)+1)))*x1)+((((3*((1*2 ^ (G 43 [x0,x1,x2,x3,x4,x5,x6,x7]).toNat)-((a:Int)+1)))*((1*2 ^ (G 43 [x0,x1,x2,x3,x4,x5,x6,x7]).toNat)-((a:Int)+1)))*((a:Int)+1))*x3))+((((3*((1*2 ^ (G 43 [x0,x1,x2,x3,x4,x5,x6,x7]).toNat)-((a:Int)+1)))*((a:Int)+1))*((a:Int)+1))*x5))+(((((a:Int)+1)*((a:Int)+1))*((a:Int)+1))*x7)),(((1*2 ^ (G 43 [x0,x1,x2,x3,x4,x5,x6,x7]).toNat)*((1*2 ^ (G 43 [x0,x1,x2,x3,x4,x5,x6,x7]).toNat)*(1*2 ^ (G 43 [x0,x1,x2,x3,x4,x5,x6,x7]).toNat)))*256)]]:=rfl
 rw[←er,iP hZ]
 rfl
set_option maxHeartbeats 2000000 in
set_option maxRecDepth 100000 in
theorem aIj (x0 x1 x2 x3 x4 x5 x6 x7:Int) (b0 : -2147483648≤x0∧x0≤2147483647) (b1 : -2147483648≤x1∧x1≤2147483647) (b2 : -2147483648≤x2∧x2≤2147483647) (b3 : -2147483648≤x3∧x3≤2147483647) (b4 : -2147483648≤x4∧x4≤2147483647) (b5 : -2147483648≤x5∧x5≤2147483647) (b6 : -2147483648≤x6∧x6≤2147483647) (b7 : -2147483648≤x7∧x7≤2147483647) (a:Nat) (ha:(a:Int)≤cK [x0,x1,x2,x3,x4,x5,x6,x7]):Sx.yE (pF Try.prog) G (eN x0 x1 x2 x3 x4 x5 x6 x7 a) (bD G (eN x0 x1 x2 x3 x4 x5 x6 x7) (eK ([x0,x1,x2,x3,x4,x5,x6,x7]:List Int)) 8 (.lit true) (fun a=>(a:Int)≤cK [x0,x1,x2,x3,x4,x5,x6,x7]) (fun a=>(cK [x0,x1,x2,x3,x4,x5,x6,x7]).toNat-a) a) []:=by
 refine aQ nI (fun h0=>?_) (fun h0=>?_)
 ·skip
  refine aP aJc ?_
  unfold nI at h0;unfold aCN;have hp:=fH [x0,x1,x2,x3,x4,x5,x6,x7];have hl:=fI [x0,x1,x2,x3,x4,x5,x6,x7] (cK [x0,x1,x2,x3,x4,x5,x6,x7]) a;simp only[nn,eN,List.cons_append,List.nil_append,aY]at h0;simp only[rL]at h0;have hl2:=fI [x0,x1,x2,x3,x4,x5,x6,x7] (cK [x0,x1,x2,x3,x4,x5,x6,x7]) (a+1);have ec:=aIH x0 x1 x2 x3 x4 x5 x6 x7 a;simp only[bD];refine⟨a+1,by omega,by omega,bF (by simp),?_⟩;simp only[aL];clear h0;simp only[nn,eN,List.cons_append,List.nil_append,aY]at ec ⊢;(repeat' refine And.intro ?_ ?_)<;>first|with_reducible exact ec|omega|with_reducible trivial
 refine aP aJI ?_
 unfold nI at h0;unfold aCs;have hp:=fH [x0,x1,x2,x3,x4,x5,x6,x7];have hl:=fI [x0,x1,x2,x3,x4,x5,x6,x7] (cK [x0,x1,x2,x3,x4,x5,x6,x7]) a;simp only[nn,eN,List.cons_append,List.nil_append,aY]at h0;simp only[rL]at h0;have hn:a=(cK [x0,x1,x2,x3,x4,x5,x6,x7]).toNat:=(by omega);have ec:Lc.enc (hJ [x0,x1,x2,x3,x4,x5,x6,x7] (cK [x0,x1,x2,x3,x4,x5,x6,x7]) a)=G 44 [x0,x1,x2,x3,x4,x5,x6,x7]:=(by rw[hn];rfl);have el:((hJ [x0,x1,x2,x3,x4,x5,x6,x7] (cK [x0,x1,x2,x3,x4,x5,x6,x7]) a).length:Int)=1*2 ^ (G 43 [x0,x1,x2,x3,x4,x5,x6,x7]).toNat+1:=(by rw[hl,rL];omega);clear h0;simp only[bD];refine⟨rfl,aLB (by simp),?_⟩;simp only[aL];simp only[nn,eN,List.cons_append,List.nil_append,aY]at ec el ⊢;(repeat' refine And.intro ?_ ?_)<;>first|with_reducible exact ec|with_reducible exact el|with_reducible trivial
end Go.Proofs.Ythiehfhphgkaeaa
set_option maxRecDepth 100000
namespace Go.Proofs.Ythiehfhphgkaeaa
open Go Go.RowKit Sx Wi
def aL7 (P:Program) (fs:List B):Res SV:=aCx P fs
def aJe:List B:=[]
theorem aIB:aL7 Try.prog aJe = .ok (.tuple [(.agg []),(.bool (.lit true))]):=by kernel_rfl
end Go.Proofs.Ythiehfhphgkaeaa
namespace Go.Proofs.Ythiehfhphgkaeaa
open Go Go.RowKit Sx Wi
set_option maxRecDepth 100000 in
theorem aJW (x0 x1 x2 x3 x4 x5 x6 x7:Int):fJ Try.prog G (bK GB) (cF (bQ Try.prog 16) 1) aC0 (eK ([x0,x1,x2,x3,x4,x5,x6,x7]:List Int)):=by
 intro hw _
 have hb:dQ oA (([x0,x1,x2,x3,x4,x5,x6,x7]:List Int)++[0,1]):=hw
 unfold oA at hb
 simp only[List.cons_append,List.nil_append]at hb
 obtain⟨b0,b1,b2,b3,b4,b5,b6,b7,_⟩:=hb
 have hC:G 91 [0,G 2 [x0,1*256],G 2 [x1,1*256]]=Lc.enc (hJ [x0,x1,x2,x3,x4,x5,x6,x7] (cK [x0,x1,x2,x3,x4,x5,x6,x7]) 0):=iP hZ [] [G 2 [x0,1*256],G 2 [x1,1*256]]
 have e:fL G (eK ([x0,x1,x2,x3,x4,x5,x6,x7]:List Int)) aC0.es=eN x0 x1 x2 x3 x4 x5 x6 x7 0:=by
  rw[eE];unfold eN;rw[←hC];rfl
 rw[e]
 have hp:=fH [x0,x1,x2,x3,x4,x5,x6,x7]
 exact⟨(cK [x0,x1,x2,x3,x4,x5,x6,x7]).toNat+1,dJ (ι:=Nat) (ρ:=eN x0 x1 x2 x3 x4 x5 x6 x7) (ρT:=eK ([x0,x1,x2,x3,x4,x5,x6,x7]:List Int)) (m:=fun a=>(cK [x0,x1,x2,x3,x4,x5,x6,x7]).toNat-a) (Good:=fun a=>(a:Int)≤cK [x0,x1,x2,x3,x4,x5,x6,x7]) (run:=pF Try.prog) (fun _=>rfl) fits rfl eX (fun a ha=>aG8 x0 x1 x2 x3 x4 x5 x6 x7 b0 b1 b2 b3 b4 b5 b6 b7 a ha) (fun _ _ X hX hG=>bX hX hG) (fun _ _ X hX hG=>cQ) (fun a ha=>aIj x0 x1 x2 x3 x4 x5 x6 x7 b0 b1 b2 b3 b4 b5 b6 b7 a ha) (by decide) _ 0 (by show ((0:Nat):Int)≤_;omega) (by show (cK [x0,x1,x2,x3,x4,x5,x6,x7]).toNat-0<_;omega)⟩
theorem aCT:bC (bQ Try.prog 16)=[cF (bQ Try.prog 16) 0,cF (bQ Try.prog 16) 1]:=by kernel_rfl
set_option maxRecDepth 100000 in
theorem aIQ (x0 x1 x2 x3 x4 x5 x6 x7:Int) (b0 : -2147483648≤x0∧x0≤2147483647) (b1 : -2147483648≤x1∧x1≤2147483647) (b2 : -2147483648≤x2∧x2≤2147483647) (b3 : -2147483648≤x3∧x3≤2147483647) (b4 : -2147483648≤x4∧x4≤2147483647) (b5 : -2147483648≤x5∧x5≤2147483647) (b6 : -2147483648≤x6∧x6≤2147483647) (b7 : -2147483648≤x7∧x7≤2147483647):eT Try.prog G GB 16 aDr (eK ([x0,x1,x2,x3,x4,x5,x6,x7]:List Int)):=by
 refine dC (lp:=aES) (run:=aCx Try.prog) (fun _=>rfl) fits (dO ⟨b0,b1,b2,b3,b4,b5,b6,b7,trivial⟩) eX (fun X hX hG=>bX hX hG) (fun X hX hG fn c hf hc=>?_) rfl ?_
 ·refine gE ((congrArg bC (jM hf hc)).symm.trans aCT) ?_
  intro b hb
  simp only[List.mem_cons,List.mem_nil_iff,or_false]at hb
  rcases hb with rfl|rfl
  ·exact iA (j:=3) (by kernel_rfl) (by decide) qO
  ·refine gN hX hG (by kernel_rfl) ?_
   intro p hp
   simp only[List.mem_cons,List.mem_nil_iff,or_false]at hp
   subst hp
   exact aJW x0 x1 x2 x3 x4 x5 x6 x7
 ·skip
  refine aP aIB ?_
  exact⟨rfl,trivial⟩
theorem aM {p:Int × Int} {l:List (Int × Int)} {xs:List Int} (h:dQ (p::l) xs):∃ x ys,xs=x::ys∧(p.1≤x∧x≤p.2)∧dQ l ys:=by
 cases xs with
 |nil=>exact h.elim
 |cons x ys=>exact⟨x,ys,rfl,h.1,h.2⟩
theorem pR {xs:List Int} (h:dQ [] xs):xs=[]:=by
 cases xs with
 |nil=>rfl
 |cons x ys=>exact h.elim
def uV:Ctx→List SV→aG→Res (SV × aG):=dT GB uU 0 (.lit true) aDr
theorem aLU {X:Ctx} {ρ:Nat→Int} (hX:X.Ok ρ) (hG:X.G=G):fR Try.prog X ρ GB 16 uV:=by
 obtain⟨XG,XI,XV,XF⟩:=X
 simp only at hG
 subst hG
 refine cU hX ?_
 intro xs ls hw hl _
 have hl':ls=[]:=List.length_eq_zero_iff.1 hl
 subst hl'
 rw[List.append_nil]
 unfold uU at hw
 obtain⟨x0,y0,e0,b0,h0⟩:=aM hw
 obtain⟨x1,y1,e1,b1,h1⟩:=aM h0
 obtain⟨x2,y2,e2,b2,h2⟩:=aM h1
 obtain⟨x3,y3,e3,b3,h3⟩:=aM h2
 obtain⟨x4,y4,e4,b4,h4⟩:=aM h3
 obtain⟨x5,y5,e5,b5,h5⟩:=aM h4
 obtain⟨x6,y6,e6,b6,h6⟩:=aM h5
 obtain⟨x7,y7,e7,b7,h7⟩:=aM h6
 have e8:=pR h7
 subst e8 e7 e6 e5 e4 e3 e2 e1 e0
 exact aIQ x0 x1 x2 x3 x4 x5 x6 x7 b0 b1 b2 b3 b4 b5 b6 b7
def sI:List (Int × Int):=[(-2147483648,2147483647),(-2147483648,2147483647),(-2147483648,2147483647),(-2147483648,2147483647),(-2147483648,2147483647),(-2147483648,2147483647)]
def wH:FunS:=⟨[(.slice 0 0 1 1)],cD GB++[some ([(.int .u8 (.lit 0)),(.int .i32 (.var 0)),(.int .i32 (.var 1)),(.int .i32 (.var 2)),(.int .i32 (.var 3)),(.int .i32 (.var 4)),(.int .i32 (.var 5))],38)],.lit true,(.vsl 1 2 (.lit 0) (.lit 1) (some (.lit 1))),cD GB++[some ([(.int .u8 (.lit 0)),(.int .i32 (.var 0)),(.int .i32 (.var 1)),(.int .i32 (.var 2)),(.int .i32 (.var 3)),(.int .i32 (.var 4)),(.int .i32 (.var 5))],38),kA [.int .i64,.int .i64] (.app 91 (.cons (.lit 0) (.cons (.app 2 (.cons (.var 0) (.cons (.op .mul (.lit 1) (.lit 256)) .nil))) (.cons (.app 2 (.cons (.var 1) (.cons (.op .mul (.lit 1) (.lit 256)) .nil))) .nil)))) (.lit 1) 32],(.vsl 1 2 (.lit 0) (.lit 1) (some (.lit 1))),cD GB++[some ([(.int .u8 (.lit 0)),(.int .i32 (.var 0)),(.int .i32 (.var 1)),(.int .i32 (.var 2)),(.int .i32 (.var 3)),(.int .i32 (.var 4)),(.int .i32 (.var 5))],38),kA [.int .i64,.int .i64] (.app 91 (.cons (.lit 0) (.cons (.app 2 (.cons (.var 0) (.cons (.op .mul (.lit 1) (.lit 256)) .nil))) (.cons (.app 2 (.cons (.var 1) (.cons (.op .mul (.lit 1) (.lit 256)) .nil))) .nil)))) (.lit 1) 32]⟩
def wE (P:Program) (fs:List B):Res SV:=bY G GI sI fs fun X=>gA P X GB dE dP 400 16 wH
def rI:List (Int × Int):=[(-2147483648,2147483647),(-2147483648,2147483647),(-2147483648,2147483647),(-2147483648,2147483647),(-2147483648,2147483647),(-2147483648,2147483647),(-2147483648,2147483647),(-2147483648,2147483647),(-2147483648,2147483647),(-2147483648,2147483647),(-2147483648,2147483647),(-2147483648,2147483647)]
def xQ:FunS:=⟨[(.slice 0 0 2 2)],cD GB++[some ([(.int .u8 (.lit 0)),(.int .i32 (.var 0)),(.int .i32 (.var 1)),(.int .i32 (.var 2)),(.int .i32 (.var 3)),(.int .i32 (.var 4)),(.int .i32 (.var 5)),(.int .u8 (.lit 1)),(.int .i32 (.var 6)),(.int .i32 (.var 7)),(.int .i32 (.var 8)),(.int .i32 (.var 9)),(.int .i32 (.var 10)),(.int .i32 (.var 11))],38)],.lit true,(.vsl 1 2 (.lit 0) (.lit 2) (some (.lit 2))),cD GB++[some ([(.int .u8 (.lit 0)),(.int .i32 (.var 0)),(.int .i32 (.var 1)),(.int .i32 (.var 2)),(.int .i32 (.var 3)),(.int .i32 (.var 4)),(.int .i32 (.var 5)),(.int .u8 (.lit 1)),(.int .i32 (.var 6)),(.int .i32 (.var 7)),(.int .i32 (.var 8)),(.int .i32 (.var 9)),(.int .i32 (.var 10)),(.int .i32 (.var 11))],38),kA [.int .i64,.int .i64] (.app 91 (.cons (.app 91 (.cons (.lit 0) (.cons (.app 2 (.cons (.var 0) (.cons (.op .mul (.lit 1) (.lit 256)) .nil))) (.cons (.app 2 (.cons (.var 1) (.cons (.op .mul (.lit 1) (.lit 256)) .nil))) .nil)))) (.cons (.app 2 (.cons (.var 6) (.cons (.op .mul (.lit 1) (.lit 256)) .nil))) (.cons (.app 2 (.cons (.var 7) (.cons (.op .mul (.lit 1) (.lit 256)) .nil))) .nil)))) (.lit 2) 32],(.vsl 1 2 (.lit 0) (.lit 2) (some (.lit 2))),cD GB++[some ([(.int .u8 (.lit 0)),(.int .i32 (.var 0)),(.int .i32 (.var 1)),(.int .i32 (.var 2)),(.int .i32 (.var 3)),(.int .i32 (.var 4)),(.int .i32 (.var 5)),(.int .u8 (.lit 1)),(.int .i32 (.var 6)),(.int .i32 (.var 7)),(.int .i32 (.var 8)),(.int .i32 (.var 9)),(.int .i32 (.var 10)),(.int .i32 (.var 11))],38),kA [.int .i64,.int .i64] (.app 91 (.cons (.app 91 (.cons (.lit 0) (.cons (.app 2 (.cons (.var 0) (.cons (.op .mul (.lit 1) (.lit 256)) .nil))) (.cons (.app 2 (.cons (.var 1) (.cons (.op .mul (.lit 1) (.lit 256)) .nil))) .nil)))) (.cons (.app 2 (.cons (.var 6) (.cons (.op .mul (.lit 1) (.lit 256)) .nil))) (.cons (.app 2 (.cons (.var 7) (.cons (.op .mul (.lit 1) (.lit 256)) .nil))) .nil)))) (.lit 2) 32]⟩
def vN (P:Program) (fs:List B):Res SV:=bY G GI rI fs fun X=>gA P X GB dE dP 400 16 xQ
def sO:List (Int × Int):=[(-2147483648,2147483647),(-2147483648,2147483647),(-2147483648,2147483647),(-2147483648,2147483647),(-2147483648,2147483647),(-2147483648,2147483647),(-2147483648,2147483647),(-2147483648,2147483647),(-2147483648,2147483647),(-2147483648,2147483647),(-2147483648,2147483647),(-2147483648,2147483647),(-2147483648,2147483647),(-2147483648,2147483647),(-2147483648,2147483647),(-2147483648,2147483647),(-2147483648,2147483647),(-2147483648,2147483647)]
def vA:FunS:=⟨[(.slice 0 0 3 3)],cD GB++[some ([(.int .u8 (.lit 0)),(.int .i32 (.var 0)),(.int .i32 (.var 1)),(.int .i32 (.var 2)),(.int .i32 (.var 3)),(.int .i32 (.var 4)),(.int .i32 (.var 5)),(.int .u8 (.lit 1)),(.int .i32 (.var 6)),(.int .i32 (.var 7)),(.int .i32 (.var 8)),(.int .i32 (.var 9)),(.int .i32 (.var 10)),(.int .i32 (.var 11)),(.int .u8 (.lit 1)),(.int .i32 (.var 12)),(.int .i32 (.var 13)),(.int .i32 (.var 14)),(.int .i32 (.var 15)),(.int .i32 (.var 16)),(.int .i32 (.var 17))],38)],.lit true,(.vsl 1 2 (.lit 0) (.lit 3) (some (.lit 3))),cD GB++[some ([(.int .u8 (.lit 0)),(.int .i32 (.var 0)),(.int .i32 (.var 1)),(.int .i32 (.var 2)),(.int .i32 (.var 3)),(.int .i32 (.var 4)),(.int .i32 (.var 5)),(.int .u8 (.lit 1)),(.int .i32 (.var 6)),(.int .i32 (.var 7)),(.int .i32 (.var 8)),(.int .i32 (.var 9)),(.int .i32 (.var 10)),(.int .i32 (.var 11)),(.int .u8 (.lit 1)),(.int .i32 (.var 12)),(.int .i32 (.var 13)),(.int .i32 (.var 14)),(.int .i32 (.var 15)),(.int .i32 (.var 16)),(.int .i32 (.var 17))],38),kA [.int .i64,.int .i64] (.app 91 (.cons (.app 91 (.cons (.app 91 (.cons (.lit 0) (.cons (.app 2 (.cons (.var 0) (.cons (.op .mul (.lit 1) (.lit 256)) .nil))) (.cons (.app 2 (.cons (.var 1) (.cons (.op .mul (.lit 1) (.lit 256)) .nil))) .nil)))) (.cons (.app 2 (.cons (.var 6) (.cons (.op .mul (.lit 1) (.lit 256)) .nil))) (.cons (.app 2 (.cons (.var 7) (.cons (.op .mul (.lit 1) (.lit 256)) .nil))) .nil)))) (.cons (.app 2 (.cons (.var 12) (.cons (.op .mul (.lit 1) (.lit 256)) .nil))) (.cons (.app 2 (.cons (.var 13) (.cons (.op .mul (.lit 1) (.lit 256)) .nil))) .nil)))) (.lit 3) 32],(.vsl 1 2 (.lit 0) (.lit 3) (some (.lit 3))),cD GB++[some ([(.int .u8 (.lit 0)),(.int .i32 (.var 0)),(.int .i32 (.var 1)),(.int .i32 (.var 2)),(.int .i32 (.var 3)),(.int .i32 (.var 4)),(.int .i32 (.var 5)),(.int .u8 (.lit 1)),(.int .i32 (.var 6)),(.int .i32 (.var 7)),(.int .i32 (.var 8)),(.int .i32 (.var 9)),(.int .i32 (.var 10)),(.int .i32 (.var 11)),(.int .u8 (.lit 1)),(.int .i32 (.var 12)),(.int .i32 (.var 13)),(.int .i32 (.var 14)),(.int .i32 (.var 15)),(.int .i32 (.var 16)),(.int .i32 (.var 17))],38),kA [.int .i64,.int .i64] (.app 91 (.cons (.app 91 (.cons (.app 91 (.cons (.lit 0) (.cons (.app 2 (.cons (.var 0) (.cons (.op .mul (.lit 1) (.lit 256)) .nil))) (.cons (.app 2 (.cons (.var 1) (.cons (.op .mul (.lit 1) (.lit 256)) .nil))) .nil)))) (.cons (.app 2 (.cons (.var 6) (.cons (.op .mul (.lit 1) (.lit 256)) .nil))) (.cons (.app 2 (.cons (.var 7) (.cons (.op .mul (.lit 1) (.lit 256)) .nil))) .nil)))) (.cons (.app 2 (.cons (.var 12) (.cons (.op .mul (.lit 1) (.lit 256)) .nil))) (.cons (.app 2 (.cons (.var 13) (.cons (.op .mul (.lit 1) (.lit 256)) .nil))) .nil)))) (.lit 3) 32]⟩
def vU (P:Program) (fs:List B):Res SV:=bY G GI sO fs fun X=>gA P X GB dE dP 400 16 vA
def sP:List (Int × Int):=[(-2147483648,2147483647),(-2147483648,2147483647),(-2147483648,2147483647),(-2147483648,2147483647),(-2147483648,2147483647),(-2147483648,2147483647),(-2147483648,2147483647),(-2147483648,2147483647),(-2147483648,2147483647),(-2147483648,2147483647),(-2147483648,2147483647),(-2147483648,2147483647),(-2147483648,2147483647),(-2147483648,2147483647),(-2147483648,2147483647),(-2147483648,2147483647),(-2147483648,2147483647),(-2147483648,2147483647),(-2147483648,2147483647),(-2147483648,2147483647),(-2147483648,2147483647),(-2147483648,2147483647),(-2147483648,2147483647),(-2147483648,2147483647)]
def wS:FunS:=⟨[(.slice 0 0 3 4)],cD GB++[some ([(.int .u8 (.lit 0)),(.int .i32 (.var 0)),(.int .i32 (.var 1)),(.int .i32 (.var 2)),(.int .i32 (.var 3)),(.int .i32 (.var 4)),(.int .i32 (.var 5)),(.int .u8 (.lit 1)),(.int .i32 (.var 6)),(.int .i32 (.var 7)),(.int .i32 (.var 8)),(.int .i32 (.var 9)),(.int .i32 (.var 10)),(.int .i32 (.var 11)),(.int .u8 (.lit 1)),(.int .i32 (.var 12)),(.int .i32 (.var 13)),(.int .i32 (.var 14)),(.int .i32 (.var 15)),(.int .i32 (.var 16)),(.int .i32 (.var 17)),(.int .u8 (.lit 3)),(.int .i32 (.var 18)),(.int .i32 (.var 19)),(.int .i32 (.var 20)),(.int .i32 (.var 21)),(.int .i32 (.var 22)),(.int .i32 (.var 23))],38)],.lit true,(.vsl 1 2 (.lit 0) (.lit 3) (some (.lit 3))),cD GB++[some ([(.int .u8 (.lit 0)),(.int .i32 (.var 0)),(.int .i32 (.var 1)),(.int .i32 (.var 2)),(.int .i32 (.var 3)),(.int .i32 (.var 4)),(.int .i32 (.var 5)),(.int .u8 (.lit 1)),(.int .i32 (.var 6)),(.int .i32 (.var 7)),(.int .i32 (.var 8)),(.int .i32 (.var 9)),(.int .i32 (.var 10)),(.int .i32 (.var 11)),(.int .u8 (.lit 1)),(.int .i32 (.var 12)),(.int .i32 (.var 13)),(.int .i32 (.var 14)),(.int .i32 (.var 15)),(.int .i32 (.var 16)),(.int .i32 (.var 17)),(.int .u8 (.lit 3)),(.int .i32 (.var 18)),(.int .i32 (.var 19)),(.int .i32 (.var 20)),(.int .i32 (.var 21)),(.int .i32 (.var 22)),(.int .i32 (.var 23))],38),kA [.int .i64,.int .i64] (.app 91 (.cons (.app 91 (.cons (.app 91 (.cons (.lit 0) (.cons (.app 2 (.cons (.var 0) (.cons (.op .mul (.lit 1) (.lit 256)) .nil))) (.cons (.app 2 (.cons (.var 1) (.cons (.op .mul (.lit 1) (.lit 256)) .nil))) .nil)))) (.cons (.app 2 (.cons (.var 6) (.cons (.op .mul (.lit 1) (.lit 256)) .nil))) (.cons (.app 2 (.cons (.var 7) (.cons (.op .mul (.lit 1) (.lit 256)) .nil))) .nil)))) (.cons (.app 2 (.cons (.var 12) (.cons (.op .mul (.lit 1) (.lit 256)) .nil))) (.cons (.app 2 (.cons (.var 13) (.cons (.op .mul (.lit 1) (.lit 256)) .nil))) .nil)))) (.lit 3) 32],(.vsl 1 2 (.lit 0) (.lit 3) (some (.lit 3))),cD GB++[some ([(.int .u8 (.lit 0)),(.int .i32 (.var 0)),(.int .i32 (.var 1)),(.int .i32 (.var 2)),(.int .i32 (.var 3)),(.int .i32 (.var 4)),(.int .i32 (.var 5)),(.int .u8 (.lit 1)),(.int .i32 (.var 6)),(.int .i32 (.var 7)),(.int .i32 (.var 8)),(.int .i32 (.var 9)),(.int .i32 (.var 10)),(.int .i32 (.var 11)),(.int .u8 (.lit 1)),(.int .i32 (.var 12)),(.int .i32 (.var 13)),(.int .i32 (.var 14)),(.int .i32 (.var 15)),(.int .i32 (.var 16)),(.int .i32 (.var 17)),(.int .u8 (.lit 3)),(.int .i32 (.var 18)),(.int .i32 (.var 19)),(.int .i32 (.var 20)),(.int .i32 (.var 21)),(.int .i32 (.var 22)),(.int .i32 (.var 23))],38),kA [.int .i64,.int .i64] (.app 91 (.cons (.app 91 (.cons (.app 91 (.cons (.lit 0) (.cons (.app 2 (.cons (.var 0) (.cons (.op .mul (.lit 1) (.lit 256)) .nil))) (.cons (.app 2 (.cons (.var 1) (.cons (.op .mul (.lit 1) (.lit 256)) .nil))) .nil)))) (.cons (.app 2 (.cons (.var 6) (.cons (.op .mul (.lit 1) (.lit 256)) .nil))) (.cons (.app 2 (.cons (.var 7) (.cons (.op .mul (.lit 1) (.lit 256)) .nil))) .nil)))) (.cons (.app 2 (.cons (.var 12) (.cons (.op .mul (.lit 1) (.lit 256)) .nil))) (.cons (.app 2 (.cons (.var 13) (.cons (.op .mul (.lit 1) (.lit 256)) .nil))) .nil)))) (.lit 3) 32]⟩
def uS (P:Program) (fs:List B):Res SV:=bY G GI sP fs fun X=>gA P X GB dE dP 400 16 wS
def sL:List (Int × Int):=[(-2147483648,2147483647),(-2147483648,2147483647),(-2147483648,2147483647),(-2147483648,2147483647),(-2147483648,2147483647),(-2147483648,2147483647),(-2147483648,2147483647),(-2147483648,2147483647),(-2147483648,2147483647),(-2147483648,2147483647),(-2147483648,2147483647),(-2147483648,2147483647),(-2147483648,2147483647),(-2147483648,2147483647),(-2147483648,2147483647),(-2147483648,2147483647),(-2147483648,2147483647),(-2147483648,2147483647)]
def wK:FunS:=⟨[(.slice 0 0 1 3)],cD GB++[some ([(.int .u8 (.lit 0)),(.int .i32 (.var 0)),(.int .i32 (.var 1)),(.int .i32 (.var 2)),(.int .i32 (.var 3)),(.int .i32 (.var 4)),(.int .i32 (.var 5)),(.int .u8 (.lit 3)),(.int .i32 (.var 6)),(.int .i32 (.var 7)),(.int .i32 (.var 8)),(.int .i32 (.var 9)),(.int .i32 (.var 10)),(.int .i32 (.var 11)),(.int .u8 (.lit 1)),(.int .i32 (.var 12)),(.int .i32 (.var 13)),(.int .i32 (.var 14)),(.int .i32 (.var 15)),(.int .i32 (.var 16)),(.int .i32 (.var 17))],38)],.lit true,(.vsl 1 2 (.lit 0) (.lit 1) (some (.lit 1))),cD GB++[some ([(.int .u8 (.lit 0)),(.int .i32 (.var 0)),(.int .i32 (.var 1)),(.int .i32 (.var 2)),(.int .i32 (.var 3)),(.int .i32 (.var 4)),(.int .i32 (.var 5)),(.int .u8 (.lit 3)),(.int .i32 (.var 6)),(.int .i32 (.var 7)),(.int .i32 (.var 8)),(.int .i32 (.var 9)),(.int .i32 (.var 10)),(.int .i32 (.var 11)),(.int .u8 (.lit 1)),(.int .i32 (.var 12)),(.int .i32 (.var 13)),(.int .i32 (.var 14)),(.int .i32 (.var 15)),(.int .i32 (.var 16)),(.int .i32 (.var 17))],38),kA [.int .i64,.int .i64] (.app 91 (.cons (.lit 0) (.cons (.app 2 (.cons (.var 0) (.cons (.op .mul (.lit 1) (.lit 256)) .nil))) (.cons (.app 2 (.cons (.var 1) (.cons (.op .mul (.lit 1) (.lit 256)) .nil))) .nil)))) (.lit 1) 32],(.vsl 1 2 (.lit 0) (.lit 1) (some (.lit 1))),cD GB++[some ([(.int .u8 (.lit 0)),(.int .i32 (.var 0)),(.int .i32 (.var 1)),(.int .i32 (.var 2)),(.int .i32 (.var 3)),(.int .i32 (.var 4)),(.int .i32 (.var 5)),(.int .u8 (.lit 3)),(.int .i32 (.var 6)),(.int .i32 (.var 7)),(.int .i32 (.var 8)),(.int .i32 (.var 9)),(.int .i32 (.var 10)),(.int .i32 (.var 11)),(.int .u8 (.lit 1)),(.int .i32 (.var 12)),(.int .i32 (.var 13)),(.int .i32 (.var 14)),(.int .i32 (.var 15)),(.int .i32 (.var 16)),(.int .i32 (.var 17))],38),kA [.int .i64,.int .i64] (.app 91 (.cons (.lit 0) (.cons (.app 2 (.cons (.var 0) (.cons (.op .mul (.lit 1) (.lit 256)) .nil))) (.cons (.app 2 (.cons (.var 1) (.cons (.op .mul (.lit 1) (.lit 256)) .nil))) .nil)))) (.lit 1) 32]⟩
def xR (P:Program) (fs:List B):Res SV:=bY G GI sL fs fun X=>gA P X GB dE dP 400 16 wK
end Go.Proofs.Ythiehfhphgkaeaa
set_option maxRecDepth 100000
namespace Go.Proofs.Ythiehfhphgkaeaa
open Go Go.RowKit Sx Wi
def aIw (P:Program) (fs:List B):Res SV:=wE P fs
def aGN:List B:=[]
theorem aGi:aIw Try.prog aGN = .ok (.tuple [(.agg []),(.bool (.lit true))]):=by kernel_rfl
end Go.Proofs.Ythiehfhphgkaeaa
set_option maxRecDepth 100000
namespace Go.Proofs.Ythiehfhphgkaeaa
open Go Go.RowKit Sx Wi
def aJG (P:Program) (fs:List B):Res SV:=vN P fs
def aGe:List B:=[]
theorem aGa:aJG Try.prog aGe = .ok (.tuple [(.agg []),(.bool (.lit true))]):=by kernel_rfl
end Go.Proofs.Ythiehfhphgkaeaa
set_option maxRecDepth 100000
namespace Go.Proofs.Ythiehfhphgkaeaa
open Go Go.RowKit Sx Wi
def aJK (P:Program) (fs:List B):Res SV:=vU P fs
def aGU:List B:=[]
theorem aFG:aJK Try.prog aGU = .ok (.tuple [(.agg []),(.bool (.lit true))]):=by kernel_rfl
end Go.Proofs.Ythiehfhphgkaeaa
set_option maxRecDepth 100000
namespace Go.Proofs.Ythiehfhphgkaeaa
open Go Go.RowKit Sx Wi
def aJR (P:Program) (fs:List B):Res SV:=uS P fs
def aGZ:List B:=[]
theorem aF8:aJR Try.prog aGZ = .ok (.tuple [(.agg []),(.bool (.lit true))]):=by kernel_rfl
end Go.Proofs.Ythiehfhphgkaeaa
set_option maxRecDepth 100000
namespace Go.Proofs.Ythiehfhphgkaeaa
open Go Go.RowKit Sx Wi
def aJJ (P:Program) (fs:List B):Res SV:=xR P fs
def aFn:List B:=[]
theorem aFw:aJJ Try.prog aFn = .ok (.tuple [(.agg []),(.bool (.lit true))]):=by kernel_rfl
end Go.Proofs.Ythiehfhphgkaeaa
