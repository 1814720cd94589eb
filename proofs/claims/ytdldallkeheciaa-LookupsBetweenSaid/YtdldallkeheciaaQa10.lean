/- What is proved: what the run of a function comes to,on some of its ways. No condition. -/
import Derived.Test.YtdldallkeheciaaQBn0
import Derived.Test.YtdldallkeheciaaQa8
import Derived.Test.YtdldallkeheciaaQa6
import Derived.Test.YtdldallkeheciaaQa7
import Derived.Test.YtdldallkeheciaaQNn
import Derived.Test.YtdldallkeheciaaQa1
set_option linter.unusedSimpArgs false
set_option linter.unusedVariables false
set_option maxRecDepth 100000
namespace Go.Proofs.Ytdldallkeheciaa
open Go Go.RowKit Sx Wi Lk
theorem aR3:dH Try.prog aRX = .ok (.tuple [(.agg []),(.bool (.lit true))]):=by kernel_rfl
theorem aSa:dH Try.prog aRa = .ok (.tuple [(.agg []),(.bool (.lit true))]):=by kernel_rfl
theorem aRS:dH Try.prog aSz = .ok (.tuple [(.agg []),(.bool (.lit true))]):=by kernel_rfl
theorem aRW:dH Try.prog aSq = .ok (.tuple [(.agg []),(.bool (.lit true))]):=by kernel_rfl
end Go.Proofs.Ytdldallkeheciaa
set_option maxRecDepth 100000
namespace Go.Proofs.Ytdldallkeheciaa
open Go Go.RowKit Sx Wi Lk
theorem aRi:dH Try.prog aTc = .ok (.tuple [(.agg []),(.bool (.lit true))]):=by kernel_rfl
theorem aPh:dH Try.prog aOx = .ok (.tuple [(.agg []),(.bool (.lit true))]):=by kernel_rfl
theorem aLz:dH Try.prog aNm = .ok (.tuple [(.agg []),(.bool (.lit true))]):=by kernel_rfl
theorem aMn:dH Try.prog aL1 = .ok (.tuple [(.agg []),(.bool (.lit true))]):=by kernel_rfl
end Go.Proofs.Ytdldallkeheciaa
set_option maxRecDepth 100000
namespace Go.Proofs.Ytdldallkeheciaa
open Go Go.RowKit Sx Wi Lk
theorem aNl:dH Try.prog aNe = .ok (.tuple [(.agg []),(.bool (.lit true))]):=by kernel_rfl
theorem aPr:dH Try.prog aMR = .ok (.tuple [(.agg []),(.bool (.lit true))]):=by kernel_rfl
theorem aOT:dH Try.prog aN9 = .ok (.tuple [(.agg [(.bool (.lit false)),(.bool (.lit true))]),(.bool (.lit true))]):=by kernel_rfl
theorem aL3:dH Try.prog aPa = .ok (.tuple [(.agg [(.bool (.lit false)),(.bool (.lit true))]),(.bool (.lit true))]):=by kernel_rfl
end Go.Proofs.Ytdldallkeheciaa
set_option maxRecDepth 100000
namespace Go.Proofs.Ytdldallkeheciaa
open Go Go.RowKit Sx Wi Lk
theorem aOa:dH Try.prog aO1 = .ok (.tuple [(.agg [(.bool (.lit false)),(.bool (.lit true))]),(.bool (.lit true))]):=by kernel_rfl
theorem aON:dH Try.prog aNt = .ok (.tuple [(.agg [(.bool (.lit false)),(.bool (.lit true))]),(.bool (.lit true))]):=by kernel_rfl
theorem aN5:dH Try.prog aPq = .ok (.tuple [(.agg [(.bool (.lit false)),(.bool (.lit true))]),(.bool (.lit true))]):=by kernel_rfl
theorem aPl:dH Try.prog aNW = .ok (.tuple [(.agg [(.bool (.lit false)),(.bool (.lit true))]),(.bool (.lit true))]):=by kernel_rfl
end Go.Proofs.Ytdldallkeheciaa
set_option maxRecDepth 100000
namespace Go.Proofs.Ytdldallkeheciaa
open Go Go.RowKit Sx Wi Lk
theorem aMo:dH Try.prog aMY = .ok (.tuple [(.agg [(.bool (.lit false)),(.bool (.lit true))]),(.bool (.lit true))]):=by kernel_rfl
theorem aLU:dH Try.prog aPI = .ok (.tuple [(.agg [(.bool (.lit false)),(.bool (.lit true))]),(.bool (.lit true))]):=by kernel_rfl
theorem aML:dH Try.prog aM7 = .ok (.tuple [(.agg []),(.bool (.lit true))]):=by kernel_rfl
theorem aLG:dH Try.prog aPT = .ok (.tuple [(.agg []),(.bool (.lit true))]):=by kernel_rfl
end Go.Proofs.Ytdldallkeheciaa
set_option maxRecDepth 100000
namespace Go.Proofs.Ytdldallkeheciaa
open Go Go.RowKit Sx Wi Lk
theorem aLL:dH Try.prog aOo = .ok (.tuple [(.agg []),(.bool (.lit true))]):=by kernel_rfl
theorem aM6:dH Try.prog aOZ = .ok (.tuple [(.agg []),(.bool (.lit true))]):=by kernel_rfl
theorem aMM:dH Try.prog aO5 = .ok (.tuple [(.agg [(.bool (.lit false)),(.bool (.lit true))]),(.bool (.lit true))]):=by kernel_rfl
theorem aQz:dH Try.prog aMy = .ok (.tuple [(.agg [(.bool (.lit false)),(.bool (.lit true))]),(.bool (.lit true))]):=by kernel_rfl
end Go.Proofs.Ytdldallkeheciaa
set_option maxRecDepth 100000
namespace Go.Proofs.Ytdldallkeheciaa
open Go Go.RowKit Sx Wi Lk
theorem aOS:dH Try.prog aNO = .ok (.tuple [(.agg [(.bool (.lit false)),(.bool (.lit true))]),(.bool (.lit true))]):=by kernel_rfl
theorem aPu:dH Try.prog aNU = .ok (.tuple [(.agg [(.bool (.lit false)),(.bool (.lit true))]),(.bool (.lit true))]):=by kernel_rfl
theorem aOq:dH Try.prog aMd = .ok (.tuple [(.agg [(.bool (.lit false)),(.bool (.lit true))]),(.bool (.lit true))]):=by kernel_rfl
theorem aLS:dH Try.prog aMq = .ok (.tuple [(.agg [(.bool (.lit false)),(.bool (.lit true))]),(.bool (.lit true))]):=by kernel_rfl
end Go.Proofs.Ytdldallkeheciaa
set_option maxRecDepth 100000
namespace Go.Proofs.Ytdldallkeheciaa
open Go Go.RowKit Sx Wi Lk
theorem aPB:dH Try.prog aNz = .ok (.tuple [(.agg [(.bool (.lit false)),(.bool (.lit true))]),(.bool (.lit true))]):=by kernel_rfl
theorem aNE:dH Try.prog aPd = .ok (.tuple [(.agg [(.bool (.lit false)),(.bool (.lit true))]),(.bool (.lit true))]):=by kernel_rfl
theorem aQK:dH Try.prog aQL = .ok (.tuple [(.agg []),(.bool (.lit true))]):=by kernel_rfl
theorem aPM:dH Try.prog aPU = .ok (.tuple [(.agg []),(.bool (.lit true))]):=by kernel_rfl
end Go.Proofs.Ytdldallkeheciaa
set_option maxRecDepth 100000
namespace Go.Proofs.Ytdldallkeheciaa
open Go Go.RowKit Sx Wi Lk
theorem aOs:dH Try.prog aQq = .ok (.tuple [(.agg []),(.bool (.lit true))]):=by kernel_rfl
theorem aMH:dH Try.prog aMf = .ok (.tuple [(.agg []),(.bool (.lit true))]):=by kernel_rfl
theorem aPb:dH Try.prog aLy = .ok (.tuple [(.agg []),(.bool (.lit true))]):=by kernel_rfl
end Go.Proofs.Ytdldallkeheciaa
namespace Go.Proofs.Ytdldallkeheciaa
open Go Go.RowKit Sx Wi Lk
theorem aBQ {a b d:Int} (hd:1≤d) (h:a≤b):fq a d≤fq b d:=by
 unfold fq;rw[if_pos hd,if_pos hd,Int.fdiv_eq_ediv_of_nonneg _ (by omega),Int.fdiv_eq_ediv_of_nonneg _ (by omega)]
 exact Int.ediv_le_ediv (by omega) h
theorem yB:∀ (m:Nat) {a b:Int},a≤b→fqN m a≤fqN m b
 |0,_,_,h=>h
 |m+1,_,_,h=>yB m (aBQ (by decide) h)
theorem aAo {m bits lo hi s t:Int} (hb:1≤bits∧bits≤16) (hl:lo≤hi) (h:s≤t):kM m bits lo hi s≤kM m bits lo hi t:=by
 have p:=fD hb
 unfold kM
 have q:=Int.mul_le_mul_of_nonneg_right h (show 0≤2*(hi-lo)by omega)
 have r:=yB m.toNat (show s*(2*(hi-lo))+(2 ^ bits.toNat-1)*65536 ^ m.toNat≤t*(2*(hi-lo))+(2 ^ bits.toNat-1)*65536 ^ m.toNat by omega)
 have u:=aBQ (show 1≤2*((2:Int) ^ bits.toNat-1)by omega) r
 exact Fx.sat_mono (by omega)
theorem aAJ {m bits lo hi s t:Int} (hb:1≤bits∧bits≤16) (hl:hi≤lo) (h:s≤t):kM m bits lo hi t≤kM m bits lo hi s:=by
 have p:=fD hb
 unfold kM
 have q:=Int.mul_le_mul_of_nonneg_right h (show 0≤2*(lo-hi)by omega)
 have e1:t*(2*(hi-lo)) = - (t*(2*(lo-hi))):=by rw[←Int.mul_neg];congr 1;omega
 have e2:s*(2*(hi-lo)) = - (s*(2*(lo-hi))):=by rw[←Int.mul_neg];congr 1;omega
 have r:=yB m.toNat (show t*(2*(hi-lo))+(2 ^ bits.toNat-1)*65536 ^ m.toNat≤s*(2*(hi-lo))+(2 ^ bits.toNat-1)*65536 ^ m.toNat by omega)
 have u:=aBQ (show 1≤2*((2:Int) ^ bits.toNat-1)by omega) r
 exact Fx.sat_mono (by omega)
theorem aHc {m bits lo hi s u v:Int} (hb:1≤bits∧bits≤16) (h:min u v≤s∧s≤max u v):min (kM m bits lo hi u) (kM m bits lo hi v)≤kM m bits lo hi s∧kM m bits lo hi s≤max (kM m bits lo hi u) (kM m bits lo hi v):=by
 have key:∀ a b:Int,a≤s→s≤b→min (kM m bits lo hi a) (kM m bits lo hi b)≤kM m bits lo hi s∧kM m bits lo hi s≤max (kM m bits lo hi a) (kM m bits lo hi b):=by
  intro a b h1 h2
  by_cases q:lo≤hi
  ·have x:=aAo (m:=m) hb q h1
   have y:=aAo (m:=m) hb q h2
   omega
  ·have x:=aAJ (m:=m) hb (show hi≤lo by omega) h1
   have y:=aAJ (m:=m) hb (show hi≤lo by omega) h2
   omega
 rcases Int.le_total u v with q|q
 ·exact key u v (by omega) (by omega)
 ·have:=key v u (by omega) (by omega)
  omega
theorem aK6 {w r0 r1:Int} (h:0≤w∧w≤65536):min (65536*r0) (65536*r1)≤(0+1*(65536-w)*r0)+1*w*r1∧(0+1*(65536-w)*r0)+1*w*r1≤max (65536*r0) (65536*r1):=by
 have e:(0+1*(65536-w)*r0)+1*w*r1=65536*r0+w*(r1-r0):=by grind
 rw[e]
 rcases Int.le_total r0 r1 with q|q
 ·have a:=Int.mul_nonneg h.1 (show 0≤r1-r0 by omega)
  have b:=Int.mul_le_mul_of_nonneg_right h.2 (show 0≤r1-r0 by omega)
  omega
 ·have a:=Int.mul_nonneg h.1 (show 0≤r0-r1 by omega)
  have b:=Int.mul_le_mul_of_nonneg_right h.2 (show 0≤r0-r1 by omega)
  have c:w*(r1-r0) = - (w*(r0-r1)):=by rw[←Int.mul_neg];congr 1;omega
  omega
section
variable {n nE t0 t1:Int}
theorem aFp {hi x:Int} (hn:1≤n∧n≤256) (he:nE=0) (hh:hi=65536*max 1 (min 255 (n-1))) (hx:0≤x∧x≤hi):stY 0 hi n nE t0 t1 x=if n=1 then 0 else x:=by
 subst he
 unfold stY
 rw[if_neg (by omega),if_neg (by omega),show min (max x 0) hi=x by omega]
 by_cases q:n=1
 ·subst q
  rw[if_pos rfl]
  have:Fx.line x 0 hi 0 ((1-1)*65536)=0:=by
   rw[show hi=65536 by omega]
   unfold Fx.line
   rw[if_neg (by omega),show (x-0)*((1-1)*65536-0)+0*(65536-0)=0 by omega]
   rfl
  rw[this];rfl
 ·rw[if_neg q,show (n-1)*65536=hi by omega,Fx.line_self x 0 hi (by omega) (by unfold Fx.fix;omega)]
  omega
def stP (lo hi n nE t0 t1 x:Int):List Int:=[G 60 [lo,hi,n,nE,t0,t1,x],G 61 [lo,hi,n,nE,t0,t1,x],G 62 [lo,hi,n,nE,t0,t1,x]]
theorem aBW {hi x:Int} (hn:n=1) (he:nE=0) (hh:hi=65536*max 1 (min 255 (n-1))) (hx:0≤x∧x≤hi):stP 0 hi n nE t0 t1 x=[0,0,0]:=by
 have e:=aFp (t0:=t0) (t1:=t1) (by omega) he hh hx
 rw[if_pos hn]at e
 show [jZ 0 255 (stS 0 hi n nE t0 t1 x),jZ 0 255 (min (stS 0 hi n nE t0 t1 x+1) (n-1)),jZ 0 65536 (stY 0 hi n nE t0 t1 x-stS 0 hi n nE t0 t1 x*65536)]=_
 unfold stS
 rw[e,hn]
 rfl
theorem wS {hi x:Int} (hn:2≤n∧n≤256) (he:nE=0) (hh:hi=65536*max 1 (min 255 (n-1))) (hx:0≤x∧x≤hi) {k:Int} (hk:k=min (x / 65536) (n-2)):stP 0 hi n nE t0 t1 x=[k,k+1,x-k*65536]:=by
 have e:=aFp (t0:=t0) (t1:=t1) (by omega) he hh hx
 rw[if_neg (by omega)]at e
 show [jZ 0 255 (stS 0 hi n nE t0 t1 x),jZ 0 255 (min (stS 0 hi n nE t0 t1 x+1) (n-1)),jZ 0 65536 (stY 0 hi n nE t0 t1 x-stS 0 hi n nE t0 t1 x*65536)]=_
 unfold stS
 rw[e]
 have s:max 0 (min (x / 65536) (n-2))=k:=by omega
 rw[s]
 unfold jZ
 rw[show max 0 (min 255 k)=k by omega,show max 0 (min 255 (min (k+1) (n-1)))=k+1 by omega,show max 0 (min 65536 (x-k*65536))=x-k*65536 by omega]
end
theorem aT6 {S B nB bits C R nR lo hi n nE t0 t1 x xc low high:Int} (hb:1≤bits∧bits≤16) (hn:1≤n∧n≤256) (he:nE=0) (hlo:lo=0) (hhi:hi=65536*max 1 (min 255 (n-1)))
  (h1:xc=max lo (min x hi)) (h2:low=Int.tdiv xc 65536*65536) (h3:high=max lo (min (low+65536) hi)) (j:Int):
  min (jV S B nB bits C R nR (stP lo hi n nE t0 t1 low) j) (jV S B nB bits C R nR (stP lo hi n nE t0 t1 high) j)≤jV S B nB bits C R nR (stP lo hi n nE t0 t1 xc) j∧
  jV S B nB bits C R nR (stP lo hi n nE t0 t1 xc) j≤max (jV S B nB bits C R nR (stP lo hi n nE t0 t1 low) j) (jV S B nB bits C R nR (stP lo hi n nE t0 t1 high) j):=by
 subst hlo
 have hx:0≤xc∧xc≤hi:=by omega
 rw[Int.tdiv_eq_ediv_of_nonneg hx.1]at h2
 have hl:0≤low∧low≤hi:=by omega
 have hh:0≤high∧high≤hi:=by omega
 by_cases q:n=1
 ·rw[aBW q he hhi hx,aBW q he hhi hl,aBW q he hhi hh]
  omega
 have hn2:2≤n∧n≤256:=by omega
 by_cases top:xc=hi
 ·rw[show low=xc by omega,show high=xc by omega]
  omega
 have hk:xc / 65536≤n-2:=by omega
 have hV:∀ p0 p1 p2:Int,jV S B nB bits C R nR [p0,p1,p2] j=min (max (G 68 [1,bits,G 82 [C,j,0],G 82 [C,j,1],(0+1*(65536-p2)*G 67 [B,nB,(p0*nR+j)*bits,bits])+1*p2*G 67 [B,nB,(p1*nR+j)*bits,bits]]) (G 82 [R,j,0])) (G 82 [R,j,1]):=by
  intro p0 p1 p2
  rw[aBu (m:=1) (M:=1) rfl rfl,aCA]
 have hs:=aK6 (r0:=G 67 [B,nB,(xc / 65536*nR+j)*bits,bits]) (r1:=G 67 [B,nB,((xc / 65536+1)*nR+j)*bits,bits]) (w:=xc-xc / 65536*65536) (by omega)
 have z0:∀ a b:Int,(0+1*(65536-0)*a)+1*0*b=65536*a:=by intro a b;omega
 have z1:∀ a b:Int,(0+1*(65536-65536)*a)+1*65536*b=65536*b:=by intro a b;omega
 have hv:jV S B nB bits C R nR (stP 0 hi n nE t0 t1 high) j=min (max (G 68 [1,bits,G 82 [C,j,0],G 82 [C,j,1],65536*G 67 [B,nB,((xc / 65536+1)*nR+j)*bits,bits]]) (G 82 [R,j,0])) (G 82 [R,j,1]):=by
  by_cases z:xc / 65536=n-2
  ·rw[wS hn2 he hhi hh (k:=xc / 65536) (by omega),hV,show high-xc / 65536*65536=65536 by omega,z1]
  ·rw[wS hn2 he hhi hh (k:=xc / 65536+1) (by omega),hV,show high-(xc / 65536+1)*65536=0 by omega,z0]
 rw[hv,wS hn2 he hhi hx (k:=xc / 65536) (by omega),wS hn2 he hhi hl (k:=xc / 65536) (by omega),hV,hV,show low-xc / 65536*65536=0 by omega,z0]
 have hd:∀ a b c:Int,min a b≤c∧c≤max a b→min (G 68 [1,bits,G 82 [C,j,0],G 82 [C,j,1],a]) (G 68 [1,bits,G 82 [C,j,0],G 82 [C,j,1],b])≤G 68 [1,bits,G 82 [C,j,0],G 82 [C,j,1],c]∧G 68 [1,bits,G 82 [C,j,0],G 82 [C,j,1],c]≤max (G 68 [1,bits,G 82 [C,j,0],G 82 [C,j,1],a]) (G 68 [1,bits,G 82 [C,j,0],G 82 [C,j,1],b]):=fun a b c h=>aHc hb h
 have:=hd _ _ _ hs
 revert this
 generalize G 68 _=p0
 generalize G 68 _=p1
 generalize G 68 _=p2
 generalize G 82 [R,j,0]=ra
 generalize G 82 [R,j,1]=rb
 intro this
 omega
theorem aJI {S B nB bits C R nR:Int} {ps:List Int} {j:Nat} (hj:(j:Int)<nR):G 82 [G 70 (S::B::nB::bits::C::R::nR::nR::ps),j,0]=jV S B nB bits C R nR ps j:=by
 rw[aNj]
 have e:G 82 [Lc.enc ((List.range nR.toNat).map fun (i:Nat)=>[jV S B nB bits C R nR ps i]),j,0]=IntKind.i32.wrap (Lc.rd (Lc.enc ((List.range nR.toNat).map fun (i:Nat)=>[jV S B nB bits C R nR ps i])) j 0):=rfl
 rw[e]
 unfold Lc.rd Lc.row
 rw[Lc.dec_enc]
 have:(((List.range nR.toNat).map fun (i:Nat)=>[jV S B nB bits C R nR ps i]).getD (j:Int).toNat [])=[jV S B nB bits C R nR ps j]:=by
  rw[Int.toNat_natCast,List.getD_eq_getElem?_getD,List.getElem?_map,List.getElem?_range (by omega)];rfl
 rw[this]
 show IntKind.i32.wrap (jV S B nB bits C R nR ps j)=_
 have b0:=aKq R j 0
 have b1:=aKq R j 1
 refine iQ .i32 _ (show (-2147483648:Int)≤_ from ?_) (show _≤(2147483647:Int)from ?_)<;>(unfold jV;omega)
theorem vP {S B nB bits C R nR:Int} {ps:List Int} {j:Int} (h0:0≤j) (hj:j<nR):G 82 [G 70 (S::B::nB::bits::C::R::nR::nR::ps),j,0]=jV S B nB bits C R nR ps j:=by
 obtain⟨k,rfl⟩:=Int.eq_ofNat_of_zero_le h0
 exact aJI hj
theorem bY {S B nB bits C R nR lo hi n t0 t1 x:Int} (hb:1≤bits∧bits≤16) (hn:1≤n∧n≤256) (hlo:lo=0) (hhi:hi=65536*max 1 (min 255 (n-1))) (j:Int) (h0:0≤j) (hj:j<nR):
  min (G 82 [G 70 [S,B,nB,bits,C,R,nR,nR,G 60 [lo,hi,n,0,t0,t1,Int.tdiv (max lo (min x hi)) 65536*65536],G 61 [lo,hi,n,0,t0,t1,Int.tdiv (max lo (min x hi)) 65536*65536],G 62 [lo,hi,n,0,t0,t1,Int.tdiv (max lo (min x hi)) 65536*65536]],j,0])
    (G 82 [G 70 [S,B,nB,bits,C,R,nR,nR,G 60 [lo,hi,n,0,t0,t1,max lo (min (Int.tdiv (max lo (min x hi)) 65536*65536+65536) hi)],G 61 [lo,hi,n,0,t0,t1,max lo (min (Int.tdiv (max lo (min x hi)) 65536*65536+65536) hi)],G 62 [lo,hi,n,0,t0,t1,max lo (min (Int.tdiv (max lo (min x hi)) 65536*65536+65536) hi)]],j,0])≤
   G 82 [G 70 [S,B,nB,bits,C,R,nR,nR,G 60 [lo,hi,n,0,t0,t1,max lo (min x hi)],G 61 [lo,hi,n,0,t0,t1,max lo (min x hi)],G 62 [lo,hi,n,0,t0,t1,max lo (min x hi)]],j,0]∧
  G 82 [G 70 [S,B,nB,bits,C,R,nR,nR,G 60 [lo,hi,n,0,t0,t1,max lo (min x hi)],G 61 [lo,hi,n,0,t0,t1,max lo (min x hi)],G 62 [lo,hi,n,0,t0,t1,max lo (min x hi)]],j,0]≤
   max (G 82 [G 70 [S,B,nB,bits,C,R,nR,nR,G 60 [lo,hi,n,0,t0,t1,Int.tdiv (max lo (min x hi)) 65536*65536],G 61 [lo,hi,n,0,t0,t1,Int.tdiv (max lo (min x hi)) 65536*65536],G 62 [lo,hi,n,0,t0,t1,Int.tdiv (max lo (min x hi)) 65536*65536]],j,0])
    (G 82 [G 70 [S,B,nB,bits,C,R,nR,nR,G 60 [lo,hi,n,0,t0,t1,max lo (min (Int.tdiv (max lo (min x hi)) 65536*65536+65536) hi)],G 61 [lo,hi,n,0,t0,t1,max lo (min (Int.tdiv (max lo (min x hi)) 65536*65536+65536) hi)],G 62 [lo,hi,n,0,t0,t1,max lo (min (Int.tdiv (max lo (min x hi)) 65536*65536+65536) hi)]],j,0]):=by
 rw[vP h0 hj,vP h0 hj,vP h0 hj]
 exact aT6 hb hn rfl hlo hhi rfl rfl rfl j
end Go.Proofs.Ytdldallkeheciaa
namespace Go.Proofs.Ytdldallkeheciaa
open Go Go.RowKit Sx Wi Lk
theorem bS (x0 x1 x2 x3 x4 x5 x6 x7 x8 x9 x10 x11 x12 x13 x14 l0 l1 l2 l3 l4 l5:Int) (h:B.den G (dM ([x0,x1,x2,x3,x4,x5,x6,x7,x8,x9,x10,x11,x12,x13,x14]++[l0,l1,l2,l3,l4,l5])) (.and (.and (.cmp .eq (.var 0) (.lit 1)) (.and (.cmp .lt (.lit 0) (.var 3)) (.and (.cmp .le (.var 3) (.lit 4)) (.and (B.neg (.or (.and (.cmp .lt (.lit 0) (.var 3)) (.cmp .le (.app 82 (.cons (.app 74 (.cons (.var 17) (.cons (.var 3) .nil))) (.cons (.lit 0) (.cons (.lit 1) .nil)))) (.app 82 (.cons (.app 74 (.cons (.var 17) (.cons (.var 3) .nil))) (.cons (.lit 0) (.cons (.lit 0) .nil)))))) (.or (.and (.cmp .lt (.lit 1) (.var 3)) (.cmp .le (.app 82 (.cons (.app 74 (.cons (.var 17) (.cons (.var 3) .nil))) (.cons (.lit 1) (.cons (.lit 1) .nil)))) (.app 82 (.cons (.app 74 (.cons (.var 17) (.cons (.var 3) .nil))) (.cons (.lit 1) (.cons (.lit 0) .nil)))))) (.or (.and (.cmp .lt (.lit 2) (.var 3)) (.cmp .le (.app 82 (.cons (.app 74 (.cons (.var 17) (.cons (.var 3) .nil))) (.cons (.lit 2) (.cons (.lit 1) .nil)))) (.app 82 (.cons (.app 74 (.cons (.var 17) (.cons (.var 3) .nil))) (.cons (.lit 2) (.cons (.lit 0) .nil)))))) (.and (.cmp .lt (.lit 3) (.var 3)) (.cmp .le (.app 82 (.cons (.app 74 (.cons (.var 17) (.cons (.var 3) .nil))) (.cons (.lit 3) (.cons (.lit 1) .nil)))) (.app 82 (.cons (.app 74 (.cons (.var 17) (.cons (.var 3) .nil))) (.cons (.lit 3) (.cons (.lit 0) .nil)))))))))) (.and (.cmp .lt (.lit 0) (.var 2)) (.and (.cmp .le (.var 2) (.lit 4)) (.and (B.neg (.or (.and (.cmp .lt (.lit 0) (.var 2)) (.cmp .lt (.app 82 (.cons (.var 16) (.cons (.lit 0) (.cons (.lit 1) .nil)))) (.app 82 (.cons (.var 16) (.cons (.lit 0) (.cons (.lit 0) .nil)))))) (.or (.and (.cmp .lt (.lit 1) (.var 2)) (.cmp .lt (.app 82 (.cons (.var 16) (.cons (.lit 1) (.cons (.lit 1) .nil)))) (.app 82 (.cons (.var 16) (.cons (.lit 1) (.cons (.lit 0) .nil)))))) (.or (.and (.cmp .lt (.lit 2) (.var 2)) (.cmp .lt (.app 82 (.cons (.var 16) (.cons (.lit 2) (.cons (.lit 1) .nil)))) (.app 82 (.cons (.var 16) (.cons (.lit 2) (.cons (.lit 0) .nil)))))) (.and (.cmp .lt (.lit 3) (.var 2)) (.cmp .lt (.app 82 (.cons (.var 16) (.cons (.lit 3) (.cons (.lit 1) .nil)))) (.app 82 (.cons (.var 16) (.cons (.lit 3) (.cons (.lit 0) .nil)))))))))) (.and (.cmp .eq (.var 3) (.var 3)) (.and (B.neg (.or (.and (.cmp .lt (.lit 0) (.var 3)) (.or (.cmp .lt (.app 83 (.cons (.var 17) (.cons (.lit 0) (.cons (.lit 0) .nil)))) (.lit 1)) (.cmp .lt (.lit 256) (.app 83 (.cons (.var 17) (.cons (.lit 0) (.cons (.lit 0) .nil))))))) (.or (.and (.cmp .lt (.lit 1) (.var 3)) (.or (.cmp .lt (.app 83 (.cons (.var 17) (.cons (.lit 1) (.cons (.lit 0) .nil)))) (.lit 1)) (.cmp .lt (.lit 256) (.app 83 (.cons (.var 17) (.cons (.lit 1) (.cons (.lit 0) .nil))))))) (.or (.and (.cmp .lt (.lit 2) (.var 3)) (.or (.cmp .lt (.app 83 (.cons (.var 17) (.cons (.lit 2) (.cons (.lit 0) .nil)))) (.lit 1)) (.cmp .lt (.lit 256) (.app 83 (.cons (.var 17) (.cons (.lit 2) (.cons (.lit 0) .nil))))))) (.or (.and (.cmp .lt (.lit 3) (.var 3)) (.or (.cmp .lt (.app 83 (.cons (.var 17) (.cons (.lit 3) (.cons (.lit 0) .nil)))) (.lit 1)) (.cmp .lt (.lit 256) (.app 83 (.cons (.var 17) (.cons (.lit 3) (.cons (.lit 0) .nil))))))) (.or (.and (.cmp .lt (.lit 4) (.var 3)) (.or (.cmp .lt (.app 83 (.cons (.var 17) (.cons (.lit 4) (.cons (.lit 0) .nil)))) (.lit 1)) (.cmp .lt (.lit 256) (.app 83 (.cons (.var 17) (.cons (.lit 4) (.cons (.lit 0) .nil))))))) (.or (.and (.cmp .lt (.lit 5) (.var 3)) (.or (.cmp .lt (.app 83 (.cons (.var 17) (.cons (.lit 5) (.cons (.lit 0) .nil)))) (.lit 1)) (.cmp .lt (.lit 256) (.app 83 (.cons (.var 17) (.cons (.lit 5) (.cons (.lit 0) .nil))))))) (.or (.and (.cmp .lt (.lit 6) (.var 3)) (.or (.cmp .lt (.app 83 (.cons (.var 17) (.cons (.lit 6) (.cons (.lit 0) .nil)))) (.lit 1)) (.cmp .lt (.lit 256) (.app 83 (.cons (.var 17) (.cons (.lit 6) (.cons (.lit 0) .nil))))))) (.and (.cmp .lt (.lit 7) (.var 3)) (.or (.cmp .lt (.app 83 (.cons (.var 17) (.cons (.lit 7) (.cons (.lit 0) .nil)))) (.lit 1)) (.cmp .lt (.lit 256) (.app 83 (.cons (.var 17) (.cons (.lit 7) (.cons (.lit 0) .nil))))))))))))))) (.and (.or (.cmp .eq (.var 4) (.lit 1)) (.or (.cmp .eq (.var 4) (.lit 2)) (.or (.cmp .eq (.var 4) (.lit 4)) (.or (.cmp .eq (.var 4) (.lit 8)) (.or (.cmp .eq (.var 4) (.lit 12)) (.cmp .eq (.var 4) (.lit 16))))))) (.and (.or (.cmp .eq (.lit 0) (.lit 0)) (.cmp .eq (.lit 0) (.var 3))) (.or (.cmp .eq (.var 6) (.lit 0)) (.cmp .eq (.var 6) (.var 2)))))))))))))) (.and (.cmp .le (.app 63 (.cons (.var 2) (.cons (.var 4) (.cons (.var 17) (.cons (.var 3) .nil))))) (.lit 524288)) (.cmp .le (.app 63 (.cons (.var 2) (.cons (.var 4) (.cons (.var 17) (.cons (.var 3) .nil))))) (.op .mul (.lit 8) (.var 7)))))=true):(1≤x3∧x3≤4)∧(1≤x2∧x2≤4)∧(x4=1∨x4=2∨x4=4∨x4=8∨x4=12∨x4=16)∧(x6=0∨x6=x2)∧(1≤G 83 [l2,0,0]∧G 83 [l2,0,0]≤256)∧G 82 [G 74 [l2,x3],0,0]=0∧G 82 [G 74 [l2,x3],0,1]=65536*max 1 (min 255 (G 83 [l2,0,0]-1)):=by
 rw[aT,Bool.and_eq_true]at h
 obtain⟨_,t1,_,t2,_,t3,tS,t4,_,t6⟩:=dT (x0:=x0) (x1:=x3) (x2:=x2) (x3:=x3) (x4:=x4) (x5:=0) (x6:=x6) (x7:=x7) (D:=G 74 [l2,x3]) (R:=l1) (S:=l2) (ls:=[]) h.1
 have s0:1≤G 83 [l2,0,0]∧G 83 [l2,0,0]≤256:=tS 0 (by omega)
 refine⟨t1,t2,t4,t6,s0,aRm (S:=l2) (n:=x3) (k:=0) (by omega),(aS0 (S:=l2) (n:=x3) (k:=0) (by omega)).trans (aDk l2 0 (by have w:=s0.1;show (-9223372036854775808:Int)≤G 83 [l2,0,0]-1;omega)).symm⟩
set_option maxHeartbeats 16000000 in
set_option maxRecDepth 100000 in
theorem aR9 (x0 x1 x2 x3 x4 x5 x6 x7 x8 x9 x10 x11 x12 x13 x14 l0 l1 l2 l3 l4 l5:Int) (b0:0≤x0∧x0≤255) (b1:0≤x1∧x1≤9223372036854775807) (b2:0≤x2∧x2≤9223372036854775807) (b3:0≤x3∧x3≤17592186043904) (b4:(-9223372036854775808)≤x4∧x4≤9223372036854775807) (b5:0≤x5∧x5≤9223372036854775807) (b6:0≤x6∧x6≤9223372036854775807) (b7:0≤x7∧x7≤9223372036854775807) (b8:0≤x8∧x8≤9223372036854775807) (b9:0≤x9∧x9≤9223372036854775807) (b10:(-2147483648)≤x10∧x10≤2147483647) (b11:0≤x11∧x11≤9223372036854775807) (b12:0≤x12∧x12≤9223372036854775807) (b13:0≤x13∧x13≤9223372036854775807) (b14:(-2147483648)≤x14∧x14≤2147483647):fX Try.prog G GB 6 aTV (dM ([x0,x1,x2,x3,x4,x5,x6,x7,x8,x9,x10,x11,x12,x13,x14]++[l0,l1,l2,l3,l4,l5])):=by
 refine dB (lp:=eG) (run:=aI4 Try.prog) (fun _=>rfl) fits (cM (xs:=[x0,x1,x2,x3,x4,x5,x6,x7,x8,x9,x10,x11,x12,x13,x14]) (ls:=[l0,l1,l2,l3,l4,l5]) (by exact⟨b0,b1,b2,b3,b4,b5,b6,b7,b8,b9,b10,b11,b12,b13,b14,trivial⟩)) iJ (fun X hX hG=>aHI hX hG) (fun X hX hG fn c hf hc=>dD) rfl ?_
 refine aF aEw (fun h0=>?_) (fun h0=>?_)
 ·skip
  refine aH aR3 ?_
  exact⟨rfl,trivial⟩
 refine aF aD3 (fun h1=>?_) (fun h1=>?_)
 ·skip
  refine aH aSa ?_
  exact⟨rfl,trivial⟩
 refine aF aDN (fun h2=>?_) (fun h2=>?_)
 ·skip
  refine aH aRS ?_
  exact⟨rfl,trivial⟩
 refine aF aDR (fun h3=>?_) (fun h3=>?_)
 ·skip
  refine aH aRW ?_
  exact⟨rfl,trivial⟩
 refine aF aEF (fun h4=>?_) (fun h4=>?_)
 ·skip
  refine aH aRi ?_
  exact⟨rfl,trivial⟩
 refine aF aEo (fun h5=>?_) (fun h5=>?_)
 ·skip
  refine aH aPh ?_
  exact⟨rfl,trivial⟩
 refine aF aD6 (fun h6=>?_) (fun h6=>?_)
 ·skip
  refine aH aLz ?_
  exact⟨rfl,trivial⟩
 refine aF aEy (fun h7=>?_) (fun h7=>?_)
 ·skip
  refine aH aMn ?_
  exact⟨rfl,trivial⟩
 refine aF aD8 (fun h8=>?_) (fun h8=>?_)
 ·skip
  refine aH aNl ?_
  exact⟨rfl,trivial⟩
 refine aF aDK (fun h9=>?_) (fun h9=>?_)
 ·skip
  refine aH aPr ?_
  exact⟨rfl,trivial⟩
 refine aF cC (fun h10=>?_) (fun h10=>?_)
 rotate_left
 ·skip
  refine aH aPb ?_
  exact⟨rfl,trivial⟩
 refine aF aBG (fun h11=>?_) (fun h11=>?_)
 rotate_left
 ·skip
  refine aU ?_
  unfold cC at h10;unfold aBG at h11;exfalso;have tb:=bS x0 x1 x2 x3 x4 x5 x6 x7 x8 x9 x10 x11 x12 x13 x14 l0 l1 l2 l3 l4 l5 h10;clear h10;obtain⟨t1,t2,t4,t6,s0,q0,q1⟩:=tb;clear h0 h1 h2 h3 h4 h5 h6 h7 h8 h9;simp only[nn,List.cons_append,List.nil_append,Bool.or_eq_true,aR,ne_eq]at h11;generalize G 82 [G 74 [l2,x3],0,0]=c0 at *;generalize G 82 [G 74 [l2,x3],0,1]=c1 at *;generalize G 83 [l2,0,0]=c2 at *;omega
 refine aF aBq (fun h12=>?_) (fun h12=>?_)
 rotate_left
 ·skip
  refine aU ?_
  unfold cC at h10;unfold aBq at h12;exfalso;have tb:=bS x0 x1 x2 x3 x4 x5 x6 x7 x8 x9 x10 x11 x12 x13 x14 l0 l1 l2 l3 l4 l5 h10;clear h10;obtain⟨t1,t2,t4,t6,s0,q0,q1⟩:=tb;clear h0 h1 h2 h3 h4 h5 h6 h7 h8 h9 h11;simp only[nn,List.cons_append,List.nil_append,Bool.or_eq_true,aR,ne_eq]at h12;generalize G 82 [G 74 [l2,x3],0,0]=c0 at *;generalize G 82 [G 74 [l2,x3],0,1]=c1 at *;generalize G 83 [l2,0,0]=c2 at *;omega
 refine aF aB7 (fun h13=>?_) (fun h13=>?_)
 rotate_left
 ·skip
  refine aU ?_
  unfold cC at h10;unfold aB7 at h13;exfalso;have tb:=bS x0 x1 x2 x3 x4 x5 x6 x7 x8 x9 x10 x11 x12 x13 x14 l0 l1 l2 l3 l4 l5 h10;clear h10;obtain⟨t1,t2,t4,t6,s0,q0,q1⟩:=tb;clear h0 h1 h2 h3 h4 h5 h6 h7 h8 h9 h11 h12;simp only[nn,List.cons_append,List.nil_append,Bool.or_eq_true,aR,ne_eq]at h13;generalize G 82 [G 74 [l2,x3],0,0]=c0 at *;generalize G 82 [G 74 [l2,x3],0,1]=c1 at *;generalize G 83 [l2,0,0]=c2 at *;omega
 refine aF aBC (fun h14=>?_) (fun h14=>?_)
 rotate_left
 ·skip
  refine aU ?_
  unfold cC at h10;unfold aBC at h14;exfalso;have tb:=bS x0 x1 x2 x3 x4 x5 x6 x7 x8 x9 x10 x11 x12 x13 x14 l0 l1 l2 l3 l4 l5 h10;clear h10;obtain⟨t1,t2,t4,t6,s0,q0,q1⟩:=tb;clear h0 h1 h2 h3 h4 h5 h6 h7 h8 h9 h11 h12 h13;simp only[nn,List.cons_append,List.nil_append,Bool.or_eq_true,aR,ne_eq]at h14;generalize G 82 [G 74 [l2,x3],0,0]=c0 at *;generalize G 82 [G 74 [l2,x3],0,1]=c1 at *;generalize G 83 [l2,0,0]=c2 at *;omega
 refine aF aAZ (fun h15=>?_) (fun h15=>?_)
 rotate_left
 ·skip
  refine aU ?_
  unfold cC at h10;unfold aAZ at h15;exfalso;have tb:=bS x0 x1 x2 x3 x4 x5 x6 x7 x8 x9 x10 x11 x12 x13 x14 l0 l1 l2 l3 l4 l5 h10;clear h10;obtain⟨t1,t2,t4,t6,s0,q0,q1⟩:=tb;clear h0 h1 h2 h3 h4 h5 h6 h7 h8 h9 h11 h12 h13 h14;simp only[nn,List.cons_append,List.nil_append,Bool.or_eq_true,aR,ne_eq]at h15;generalize G 82 [G 74 [l2,x3],0,0]=c0 at *;generalize G 82 [G 74 [l2,x3],0,1]=c1 at *;generalize G 83 [l2,0,0]=c2 at *;omega
 refine aF aBz (fun h16=>?_) (fun h16=>?_)
 rotate_left
 ·skip
  refine aU ?_
  unfold cC at h10;unfold aBz at h16;exfalso;have tb:=bS x0 x1 x2 x3 x4 x5 x6 x7 x8 x9 x10 x11 x12 x13 x14 l0 l1 l2 l3 l4 l5 h10;clear h10;obtain⟨t1,t2,t4,t6,s0,q0,q1⟩:=tb;clear h0 h1 h2 h3 h4 h5 h6 h7 h8 h9 h11 h12 h13 h14 h15;simp only[nn,List.cons_append,List.nil_append,Bool.or_eq_true,aR,ne_eq]at h16;generalize G 82 [G 74 [l2,x3],0,0]=c0 at *;generalize G 82 [G 74 [l2,x3],0,1]=c1 at *;generalize G 83 [l2,0,0]=c2 at *;omega
 refine aF aBp (fun h17=>?_) (fun h17=>?_)
 rotate_left
 ·skip
  refine aU ?_
  unfold cC at h10;unfold aBp at h17;exfalso;have tb:=bS x0 x1 x2 x3 x4 x5 x6 x7 x8 x9 x10 x11 x12 x13 x14 l0 l1 l2 l3 l4 l5 h10;clear h10;obtain⟨t1,t2,t4,t6,s0,q0,q1⟩:=tb;clear h0 h1 h2 h3 h4 h5 h6 h7 h8 h9 h11 h12 h13 h14 h15 h16;simp only[nn,List.cons_append,List.nil_append,Bool.or_eq_true,aR,ne_eq]at h17;generalize G 82 [G 74 [l2,x3],0,0]=c0 at *;generalize G 82 [G 74 [l2,x3],0,1]=c1 at *;generalize G 83 [l2,0,0]=c2 at *;omega
 refine aF aCf (fun h18=>?_) (fun h18=>?_)
 rotate_left
 ·skip
  refine aU ?_
  unfold cC at h10;unfold aCf at h18;exfalso;have tb:=bS x0 x1 x2 x3 x4 x5 x6 x7 x8 x9 x10 x11 x12 x13 x14 l0 l1 l2 l3 l4 l5 h10;clear h10;obtain⟨t1,t2,t4,t6,s0,q0,q1⟩:=tb;clear h0 h1 h2 h3 h4 h5 h6 h7 h8 h9 h11 h12 h13 h14 h15 h16 h17;simp only[nn,List.cons_append,List.nil_append,Bool.or_eq_true,aR,ne_eq]at h18;generalize G 82 [G 74 [l2,x3],0,0]=c0 at *;generalize G 82 [G 74 [l2,x3],0,1]=c1 at *;generalize G 83 [l2,0,0]=c2 at *;omega
 refine aF aBZ (fun h19=>?_) (fun h19=>?_)
 rotate_left
 ·skip
  refine aU ?_
  unfold cC at h10;unfold aBZ at h19;exfalso;have tb:=bS x0 x1 x2 x3 x4 x5 x6 x7 x8 x9 x10 x11 x12 x13 x14 l0 l1 l2 l3 l4 l5 h10;clear h10;obtain⟨t1,t2,t4,t6,s0,q0,q1⟩:=tb;clear h0 h1 h2 h3 h4 h5 h6 h7 h8 h9 h11 h12 h13 h14 h15 h16 h17 h18;simp only[nn,List.cons_append,List.nil_append,Bool.or_eq_true,aR,ne_eq]at h19;generalize G 82 [G 74 [l2,x3],0,0]=c0 at *;generalize G 82 [G 74 [l2,x3],0,1]=c1 at *;generalize G 83 [l2,0,0]=c2 at *;omega
 refine aF tA (fun h20=>?_) (fun h20=>?_)
 ·skip
  refine aF wX (fun h21=>?_) (fun h21=>?_)
  ·skip
   refine aH aOT ?_
   unfold cC at h10;unfold wX at h21;exfalso;have tb:=bS x0 x1 x2 x3 x4 x5 x6 x7 x8 x9 x10 x11 x12 x13 x14 l0 l1 l2 l3 l4 l5 h10;clear h10;obtain⟨t1,t2,t4,t6,s0,q0,q1⟩:=tb;have hj:(0:Int)<x2:=(by clear h0 h1 h2 h3 h4 h5 h6 h7 h8 h9 h11 h12 h13 h14 h15 h16 h17 h18 h19 h20 h21;omega);have q:=bY (S:=l2) (B:=l5) (nB:=x7) (bits:=x4) (C:=l1) (R:=l1) (nR:=x2) (lo:=G 82 [G 74 [l2,x3],0,0]) (hi:=G 82 [G 74 [l2,x3],0,1]) (n:=G 83 [l2,0,0]) (t0:=G 82 [0,0,0]) (t1:=G 82 [0,0,1]) (x:=x14) (by clear h0 h1 h2 h3 h4 h5 h6 h7 h8 h9 h11 h12 h13 h14 h15 h16 h17 h18 h19 h20 h21;omega) s0 q0 q1 0 (by decide) hj;clear h0 h1 h2 h3 h4 h5 h6 h7 h8 h9 h11 h12 h13 h14 h15 h16 h17 h18 h19 h20;clear q0 q1 s0 hj;simp only[nn,List.cons_append,List.nil_append,Bool.or_eq_true,aR,ne_eq]at h21;with_reducible exact absurd h21 (Int.not_lt.2 q.1)
  refine aF wT (fun h22=>?_) (fun h22=>?_)
  ·skip
   refine aH aL3 ?_
   unfold cC at h10;unfold wT at h22;exfalso;have tb:=bS x0 x1 x2 x3 x4 x5 x6 x7 x8 x9 x10 x11 x12 x13 x14 l0 l1 l2 l3 l4 l5 h10;clear h10;obtain⟨t1,t2,t4,t6,s0,q0,q1⟩:=tb;have hj:(0:Int)<x2:=(by clear h0 h1 h2 h3 h4 h5 h6 h7 h8 h9 h11 h12 h13 h14 h15 h16 h17 h18 h19 h20 h21 h22;omega);have q:=bY (S:=l2) (B:=l5) (nB:=x7) (bits:=x4) (C:=l1) (R:=l1) (nR:=x2) (lo:=G 82 [G 74 [l2,x3],0,0]) (hi:=G 82 [G 74 [l2,x3],0,1]) (n:=G 83 [l2,0,0]) (t0:=G 82 [0,0,0]) (t1:=G 82 [0,0,1]) (x:=x14) (by clear h0 h1 h2 h3 h4 h5 h6 h7 h8 h9 h11 h12 h13 h14 h15 h16 h17 h18 h19 h20 h21 h22;omega) s0 q0 q1 0 (by decide) hj;clear h0 h1 h2 h3 h4 h5 h6 h7 h8 h9 h11 h12 h13 h14 h15 h16 h17 h18 h19 h20 h21;clear q0 q1 s0 hj;simp only[nn,List.cons_append,List.nil_append,Bool.or_eq_true,aR,ne_eq]at h22;with_reducible exact absurd h22 (Int.not_lt.2 q.2)
  refine aF jG (fun h23=>?_) (fun h23=>?_)
  rotate_left
  ·skip
   refine aH aM6 ?_
   exact⟨rfl,trivial⟩
  refine aF xI (fun h24=>?_) (fun h24=>?_)
  ·skip
   refine aH aOa ?_
   unfold cC at h10;unfold jG at h23;unfold xI at h24;exfalso;have tb:=bS x0 x1 x2 x3 x4 x5 x6 x7 x8 x9 x10 x11 x12 x13 x14 l0 l1 l2 l3 l4 l5 h10;clear h10;obtain⟨t1,t2,t4,t6,s0,q0,q1⟩:=tb;first|(have hj:(1:Int)<x2:=(by have z:=h23;clear h0 h1 h2 h3 h4 h5 h6 h7 h8 h9 h11 h12 h13 h14 h15 h16 h17 h18 h19 h20 h21 h22 h23 h24;simp only[nn,List.cons_append,List.nil_append,Bool.or_eq_true,aR,ne_eq]at z;omega);have q:=bY (S:=l2) (B:=l5) (nB:=x7) (bits:=x4) (C:=l1) (R:=l1) (nR:=x2) (lo:=G 82 [G 74 [l2,x3],0,0]) (hi:=G 82 [G 74 [l2,x3],0,1]) (n:=G 83 [l2,0,0]) (t0:=G 82 [0,0,0]) (t1:=G 82 [0,0,1]) (x:=x14) (by clear h0 h1 h2 h3 h4 h5 h6 h7 h8 h9 h11 h12 h13 h14 h15 h16 h17 h18 h19 h20 h21 h22 h23 h24;omega) s0 q0 q1 1 (by decide) hj;clear h0 h1 h2 h3 h4 h5 h6 h7 h8 h9 h11 h12 h13 h14 h15 h16 h17 h18 h19 h20 h21 h22 h23;clear q0 q1 s0 hj;simp only[nn,List.cons_append,List.nil_append,Bool.or_eq_true,aR,ne_eq]at h24;with_reducible exact absurd h24 (Int.not_lt.2 q.1))|(have hj:(0:Int)<x2:=(by clear h0 h1 h2 h3 h4 h5 h6 h7 h8 h9 h11 h12 h13 h14 h15 h16 h17 h18 h19 h20 h21 h22 h23 h24;omega);have q:=bY (S:=l2) (B:=l5) (nB:=x7) (bits:=x4) (C:=l4) (R:=l1) (nR:=x2) (lo:=G 82 [G 74 [l2,x3],0,0]) (hi:=G 82 [G 74 [l2,x3],0,1]) (n:=G 83 [l2,0,0]) (t0:=G 82 [0,0,0]) (t1:=G 82 [0,0,1]) (x:=x14) (by clear h0 h1 h2 h3 h4 h5 h6 h7 h8 h9 h11 h12 h13 h14 h15 h16 h17 h18 h19 h20 h21 h22 h23 h24;omega) s0 q0 q1 0 (by decide) hj;clear h0 h1 h2 h3 h4 h5 h6 h7 h8 h9 h11 h12 h13 h14 h15 h16 h17 h18 h19 h20 h21 h22 h23;clear q0 q1 s0 hj;simp only[nn,List.cons_append,List.nil_append,Bool.or_eq_true,aR,ne_eq]at h24;with_reducible exact absurd h24 (Int.not_lt.2 q.2))
  refine aF uC (fun h25=>?_) (fun h25=>?_)
  ·skip
   refine aH aON ?_
   unfold cC at h10;unfold jG at h23;unfold uC at h25;exfalso;have tb:=bS x0 x1 x2 x3 x4 x5 x6 x7 x8 x9 x10 x11 x12 x13 x14 l0 l1 l2 l3 l4 l5 h10;clear h10;obtain⟨t1,t2,t4,t6,s0,q0,q1⟩:=tb;have hj:(1:Int)<x2:=(by have z:=h23;clear h0 h1 h2 h3 h4 h5 h6 h7 h8 h9 h11 h12 h13 h14 h15 h16 h17 h18 h19 h20 h21 h22 h23 h24 h25;simp only[nn,List.cons_append,List.nil_append,Bool.or_eq_true,aR,ne_eq]at z;omega);have q:=bY (S:=l2) (B:=l5) (nB:=x7) (bits:=x4) (C:=l1) (R:=l1) (nR:=x2) (lo:=G 82 [G 74 [l2,x3],0,0]) (hi:=G 82 [G 74 [l2,x3],0,1]) (n:=G 83 [l2,0,0]) (t0:=G 82 [0,0,0]) (t1:=G 82 [0,0,1]) (x:=x14) (by clear h0 h1 h2 h3 h4 h5 h6 h7 h8 h9 h11 h12 h13 h14 h15 h16 h17 h18 h19 h20 h21 h22 h23 h24 h25;omega) s0 q0 q1 1 (by decide) hj;clear h0 h1 h2 h3 h4 h5 h6 h7 h8 h9 h11 h12 h13 h14 h15 h16 h17 h18 h19 h20 h21 h22 h23 h24;clear q0 q1 s0 hj;simp only[nn,List.cons_append,List.nil_append,Bool.or_eq_true,aR,ne_eq]at h25;with_reducible exact absurd h25 (Int.not_lt.2 q.2)
  refine aF jF (fun h26=>?_) (fun h26=>?_)
  rotate_left
  ·skip
   refine aH aLL ?_
   exact⟨rfl,trivial⟩
  refine aF wW (fun h27=>?_) (fun h27=>?_)
  ·skip
   refine aH aN5 ?_
   unfold cC at h10;unfold uC at h25;unfold jF at h26;unfold wW at h27;exfalso;have tb:=bS x0 x1 x2 x3 x4 x5 x6 x7 x8 x9 x10 x11 x12 x13 x14 l0 l1 l2 l3 l4 l5 h10;clear h10;obtain⟨t1,t2,t4,t6,s0,q0,q1⟩:=tb;first|(have hj:(2:Int)<x2:=(by have z:=h26;clear h0 h1 h2 h3 h4 h5 h6 h7 h8 h9 h11 h12 h13 h14 h15 h16 h17 h18 h19 h20 h21 h22 h23 h24 h25 h26 h27;simp only[nn,List.cons_append,List.nil_append,Bool.or_eq_true,aR,ne_eq]at z;omega);have q:=bY (S:=l2) (B:=l5) (nB:=x7) (bits:=x4) (C:=l1) (R:=l1) (nR:=x2) (lo:=G 82 [G 74 [l2,x3],0,0]) (hi:=G 82 [G 74 [l2,x3],0,1]) (n:=G 83 [l2,0,0]) (t0:=G 82 [0,0,0]) (t1:=G 82 [0,0,1]) (x:=x14) (by clear h0 h1 h2 h3 h4 h5 h6 h7 h8 h9 h11 h12 h13 h14 h15 h16 h17 h18 h19 h20 h21 h22 h23 h24 h25 h26 h27;omega) s0 q0 q1 2 (by decide) hj;clear h0 h1 h2 h3 h4 h5 h6 h7 h8 h9 h11 h12 h13 h14 h15 h16 h17 h18 h19 h20 h21 h22 h23 h24 h25 h26;clear q0 q1 s0 hj;simp only[nn,List.cons_append,List.nil_append,Bool.or_eq_true,aR,ne_eq]at h27;with_reducible exact absurd h27 (Int.not_lt.2 q.1))|(have hj:(1:Int)<x2:=(by have z:=h25;clear h0 h1 h2 h3 h4 h5 h6 h7 h8 h9 h11 h12 h13 h14 h15 h16 h17 h18 h19 h20 h21 h22 h23 h24 h25 h26 h27;simp only[nn,List.cons_append,List.nil_append,Bool.or_eq_true,aR,ne_eq]at z;omega);have q:=bY (S:=l2) (B:=l5) (nB:=x7) (bits:=x4) (C:=l4) (R:=l1) (nR:=x2) (lo:=G 82 [G 74 [l2,x3],0,0]) (hi:=G 82 [G 74 [l2,x3],0,1]) (n:=G 83 [l2,0,0]) (t0:=G 82 [0,0,0]) (t1:=G 82 [0,0,1]) (x:=x14) (by clear h0 h1 h2 h3 h4 h5 h6 h7 h8 h9 h11 h12 h13 h14 h15 h16 h17 h18 h19 h20 h21 h22 h23 h24 h25 h26 h27;omega) s0 q0 q1 1 (by decide) hj;clear h0 h1 h2 h3 h4 h5 h6 h7 h8 h9 h11 h12 h13 h14 h15 h16 h17 h18 h19 h20 h21 h22 h23 h24 h25 h26;clear q0 q1 s0 hj;simp only[nn,List.cons_append,List.nil_append,Bool.or_eq_true,aR,ne_eq]at h27;with_reducible exact absurd h27 (Int.not_lt.2 q.2))
  refine aF uA (fun h28=>?_) (fun h28=>?_)
  ·skip
   refine aH aPl ?_
   unfold cC at h10;unfold jF at h26;unfold uA at h28;exfalso;have tb:=bS x0 x1 x2 x3 x4 x5 x6 x7 x8 x9 x10 x11 x12 x13 x14 l0 l1 l2 l3 l4 l5 h10;clear h10;obtain⟨t1,t2,t4,t6,s0,q0,q1⟩:=tb;have hj:(2:Int)<x2:=(by have z:=h26;clear h0 h1 h2 h3 h4 h5 h6 h7 h8 h9 h11 h12 h13 h14 h15 h16 h17 h18 h19 h20 h21 h22 h23 h24 h25 h26 h27 h28;simp only[nn,List.cons_append,List.nil_append,Bool.or_eq_true,aR,ne_eq]at z;omega);have q:=bY (S:=l2) (B:=l5) (nB:=x7) (bits:=x4) (C:=l1) (R:=l1) (nR:=x2) (lo:=G 82 [G 74 [l2,x3],0,0]) (hi:=G 82 [G 74 [l2,x3],0,1]) (n:=G 83 [l2,0,0]) (t0:=G 82 [0,0,0]) (t1:=G 82 [0,0,1]) (x:=x14) (by clear h0 h1 h2 h3 h4 h5 h6 h7 h8 h9 h11 h12 h13 h14 h15 h16 h17 h18 h19 h20 h21 h22 h23 h24 h25 h26 h27 h28;omega) s0 q0 q1 2 (by decide) hj;clear h0 h1 h2 h3 h4 h5 h6 h7 h8 h9 h11 h12 h13 h14 h15 h16 h17 h18 h19 h20 h21 h22 h23 h24 h25 h26 h27;clear q0 q1 s0 hj;simp only[nn,List.cons_append,List.nil_append,Bool.or_eq_true,aR,ne_eq]at h28;with_reducible exact absurd h28 (Int.not_lt.2 q.2)
  refine aF jM (fun h29=>?_) (fun h29=>?_)
  rotate_left
  ·skip
   refine aH aLG ?_
   exact⟨rfl,trivial⟩
  refine aF xA (fun h30=>?_) (fun h30=>?_)
  ·skip
   refine aH aMo ?_
   unfold cC at h10;unfold uA at h28;unfold jM at h29;unfold xA at h30;exfalso;have tb:=bS x0 x1 x2 x3 x4 x5 x6 x7 x8 x9 x10 x11 x12 x13 x14 l0 l1 l2 l3 l4 l5 h10;clear h10;obtain⟨t1,t2,t4,t6,s0,q0,q1⟩:=tb;first|(have hj:(3:Int)<x2:=(by have z:=h29;clear h0 h1 h2 h3 h4 h5 h6 h7 h8 h9 h11 h12 h13 h14 h15 h16 h17 h18 h19 h20 h21 h22 h23 h24 h25 h26 h27 h28 h29 h30;simp only[nn,List.cons_append,List.nil_append,Bool.or_eq_true,aR,ne_eq]at z;omega);have q:=bY (S:=l2) (B:=l5) (nB:=x7) (bits:=x4) (C:=l1) (R:=l1) (nR:=x2) (lo:=G 82 [G 74 [l2,x3],0,0]) (hi:=G 82 [G 74 [l2,x3],0,1]) (n:=G 83 [l2,0,0]) (t0:=G 82 [0,0,0]) (t1:=G 82 [0,0,1]) (x:=x14) (by clear h0 h1 h2 h3 h4 h5 h6 h7 h8 h9 h11 h12 h13 h14 h15 h16 h17 h18 h19 h20 h21 h22 h23 h24 h25 h26 h27 h28 h29 h30;omega) s0 q0 q1 3 (by decide) hj;clear h0 h1 h2 h3 h4 h5 h6 h7 h8 h9 h11 h12 h13 h14 h15 h16 h17 h18 h19 h20 h21 h22 h23 h24 h25 h26 h27 h28 h29;clear q0 q1 s0 hj;simp only[nn,List.cons_append,List.nil_append,Bool.or_eq_true,aR,ne_eq]at h30;with_reducible exact absurd h30 (Int.not_lt.2 q.1))|(have hj:(2:Int)<x2:=(by have z:=h28;clear h0 h1 h2 h3 h4 h5 h6 h7 h8 h9 h11 h12 h13 h14 h15 h16 h17 h18 h19 h20 h21 h22 h23 h24 h25 h26 h27 h28 h29 h30;simp only[nn,List.cons_append,List.nil_append,Bool.or_eq_true,aR,ne_eq]at z;omega);have q:=bY (S:=l2) (B:=l5) (nB:=x7) (bits:=x4) (C:=l4) (R:=l1) (nR:=x2) (lo:=G 82 [G 74 [l2,x3],0,0]) (hi:=G 82 [G 74 [l2,x3],0,1]) (n:=G 83 [l2,0,0]) (t0:=G 82 [0,0,0]) (t1:=G 82 [0,0,1]) (x:=x14) (by clear h0 h1 h2 h3 h4 h5 h6 h7 h8 h9 h11 h12 h13 h14 h15 h16 h17 h18 h19 h20 h21 h22 h23 h24 h25 h26 h27 h28 h29 h30;omega) s0 q0 q1 2 (by decide) hj;clear h0 h1 h2 h3 h4 h5 h6 h7 h8 h9 h11 h12 h13 h14 h15 h16 h17 h18 h19 h20 h21 h22 h23 h24 h25 h26 h27 h28 h29;clear q0 q1 s0 hj;simp only[nn,List.cons_append,List.nil_append,Bool.or_eq_true,aR,ne_eq]at h30;with_reducible exact absurd h30 (Int.not_lt.2 q.2))
  refine aF wY (fun h31=>?_) (fun h31=>?_)
  ·skip
   refine aH aLU ?_
   unfold cC at h10;unfold jM at h29;unfold wY at h31;exfalso;have tb:=bS x0 x1 x2 x3 x4 x5 x6 x7 x8 x9 x10 x11 x12 x13 x14 l0 l1 l2 l3 l4 l5 h10;clear h10;obtain⟨t1,t2,t4,t6,s0,q0,q1⟩:=tb;have hj:(3:Int)<x2:=(by have z:=h29;clear h0 h1 h2 h3 h4 h5 h6 h7 h8 h9 h11 h12 h13 h14 h15 h16 h17 h18 h19 h20 h21 h22 h23 h24 h25 h26 h27 h28 h29 h30 h31;simp only[nn,List.cons_append,List.nil_append,Bool.or_eq_true,aR,ne_eq]at z;omega);have q:=bY (S:=l2) (B:=l5) (nB:=x7) (bits:=x4) (C:=l1) (R:=l1) (nR:=x2) (lo:=G 82 [G 74 [l2,x3],0,0]) (hi:=G 82 [G 74 [l2,x3],0,1]) (n:=G 83 [l2,0,0]) (t0:=G 82 [0,0,0]) (t1:=G 82 [0,0,1]) (x:=x14) (by clear h0 h1 h2 h3 h4 h5 h6 h7 h8 h9 h11 h12 h13 h14 h15 h16 h17 h18 h19 h20 h21 h22 h23 h24 h25 h26 h27 h28 h29 h30 h31;omega) s0 q0 q1 3 (by decide) hj;clear h0 h1 h2 h3 h4 h5 h6 h7 h8 h9 h11 h12 h13 h14 h15 h16 h17 h18 h19 h20 h21 h22 h23 h24 h25 h26 h27 h28 h29 h30;clear q0 q1 s0 hj;simp only[nn,List.cons_append,List.nil_append,Bool.or_eq_true,aR,ne_eq]at h31;with_reducible exact absurd h31 (Int.not_lt.2 q.2)
  refine aH aML ?_
  exact⟨rfl,trivial⟩
 refine aF aAX (fun h21=>?_) (fun h21=>?_)
 rotate_left
 ·skip
  refine aU ?_
  unfold cC at h10;unfold tA at h20;unfold aAX at h21;exfalso;have tb:=bS x0 x1 x2 x3 x4 x5 x6 x7 x8 x9 x10 x11 x12 x13 x14 l0 l1 l2 l3 l4 l5 h10;clear h10;obtain⟨t1,t2,t4,t6,s0,q0,q1⟩:=tb;clear h0 h1 h2 h3 h4 h5 h6 h7 h8 h9 h11 h12 h13 h14 h15 h16 h17 h18 h19;simp only[nn,List.cons_append,List.nil_append,Bool.or_eq_true,aR,ne_eq]at h20 h21;generalize G 82 [G 74 [l2,x3],0,0]=c0 at *;generalize G 82 [G 74 [l2,x3],0,1]=c1 at *;generalize G 83 [l2,0,0]=c2 at *;omega
 refine aF aBm (fun h22=>?_) (fun h22=>?_)
 rotate_left
 ·skip
  refine aU ?_
  unfold cC at h10;unfold tA at h20;unfold aBm at h22;exfalso;have tb:=bS x0 x1 x2 x3 x4 x5 x6 x7 x8 x9 x10 x11 x12 x13 x14 l0 l1 l2 l3 l4 l5 h10;clear h10;obtain⟨t1,t2,t4,t6,s0,q0,q1⟩:=tb;clear h0 h1 h2 h3 h4 h5 h6 h7 h8 h9 h11 h12 h13 h14 h15 h16 h17 h18 h19 h21;simp only[nn,List.cons_append,List.nil_append,Bool.or_eq_true,aR,ne_eq]at h20 h22;generalize G 82 [G 74 [l2,x3],0,0]=c0 at *;generalize G 82 [G 74 [l2,x3],0,1]=c1 at *;generalize G 83 [l2,0,0]=c2 at *;omega
 refine aF tB (fun h23=>?_) (fun h23=>?_)
 ·skip
  refine aH aMM ?_
  unfold cC at h10;unfold tB at h23;exfalso;have tb:=bS x0 x1 x2 x3 x4 x5 x6 x7 x8 x9 x10 x11 x12 x13 x14 l0 l1 l2 l3 l4 l5 h10;clear h10;obtain⟨t1,t2,t4,t6,s0,q0,q1⟩:=tb;have hj:(0:Int)<x2:=(by clear h0 h1 h2 h3 h4 h5 h6 h7 h8 h9 h11 h12 h13 h14 h15 h16 h17 h18 h19 h20 h21 h22 h23;omega);have q:=bY (S:=l2) (B:=l5) (nB:=x7) (bits:=x4) (C:=l4) (R:=l1) (nR:=x2) (lo:=G 82 [G 74 [l2,x3],0,0]) (hi:=G 82 [G 74 [l2,x3],0,1]) (n:=G 83 [l2,0,0]) (t0:=G 82 [0,0,0]) (t1:=G 82 [0,0,1]) (x:=x14) (by clear h0 h1 h2 h3 h4 h5 h6 h7 h8 h9 h11 h12 h13 h14 h15 h16 h17 h18 h19 h20 h21 h22 h23;omega) s0 q0 q1 0 (by decide) hj;clear h0 h1 h2 h3 h4 h5 h6 h7 h8 h9 h11 h12 h13 h14 h15 h16 h17 h18 h19 h20 h21 h22;clear q0 q1 s0 hj;simp only[nn,List.cons_append,List.nil_append,Bool.or_eq_true,aR,ne_eq]at h23;with_reducible exact absurd h23 (Int.not_lt.2 q.1)
 refine aF xO (fun h24=>?_) (fun h24=>?_)
 ·skip
  refine aH aQz ?_
  unfold cC at h10;unfold tB at h23;unfold xO at h24;exfalso;have tb:=bS x0 x1 x2 x3 x4 x5 x6 x7 x8 x9 x10 x11 x12 x13 x14 l0 l1 l2 l3 l4 l5 h10;clear h10;obtain⟨t1,t2,t4,t6,s0,q0,q1⟩:=tb;first|(have hj:(1:Int)<x2:=(by have z:=h23;clear h0 h1 h2 h3 h4 h5 h6 h7 h8 h9 h11 h12 h13 h14 h15 h16 h17 h18 h19 h20 h21 h22 h23 h24;simp only[nn,List.cons_append,List.nil_append,Bool.or_eq_true,aR,ne_eq]at z;omega);have q:=bY (S:=l2) (B:=l5) (nB:=x7) (bits:=x4) (C:=l1) (R:=l1) (nR:=x2) (lo:=G 82 [G 74 [l2,x3],0,0]) (hi:=G 82 [G 74 [l2,x3],0,1]) (n:=G 83 [l2,0,0]) (t0:=G 82 [0,0,0]) (t1:=G 82 [0,0,1]) (x:=x14) (by clear h0 h1 h2 h3 h4 h5 h6 h7 h8 h9 h11 h12 h13 h14 h15 h16 h17 h18 h19 h20 h21 h22 h23 h24;omega) s0 q0 q1 1 (by decide) hj;clear h0 h1 h2 h3 h4 h5 h6 h7 h8 h9 h11 h12 h13 h14 h15 h16 h17 h18 h19 h20 h21 h22 h23;clear q0 q1 s0 hj;simp only[nn,List.cons_append,List.nil_append,Bool.or_eq_true,aR,ne_eq]at h24;with_reducible exact absurd h24 (Int.not_lt.2 q.1))|(have hj:(0:Int)<x2:=(by clear h0 h1 h2 h3 h4 h5 h6 h7 h8 h9 h11 h12 h13 h14 h15 h16 h17 h18 h19 h20 h21 h22 h23 h24;omega);have q:=bY (S:=l2) (B:=l5) (nB:=x7) (bits:=x4) (C:=l4) (R:=l1) (nR:=x2) (lo:=G 82 [G 74 [l2,x3],0,0]) (hi:=G 82 [G 74 [l2,x3],0,1]) (n:=G 83 [l2,0,0]) (t0:=G 82 [0,0,0]) (t1:=G 82 [0,0,1]) (x:=x14) (by clear h0 h1 h2 h3 h4 h5 h6 h7 h8 h9 h11 h12 h13 h14 h15 h16 h17 h18 h19 h20 h21 h22 h23 h24;omega) s0 q0 q1 0 (by decide) hj;clear h0 h1 h2 h3 h4 h5 h6 h7 h8 h9 h11 h12 h13 h14 h15 h16 h17 h18 h19 h20 h21 h22 h23;clear q0 q1 s0 hj;simp only[nn,List.cons_append,List.nil_append,Bool.or_eq_true,aR,ne_eq]at h24;with_reducible exact absurd h24 (Int.not_lt.2 q.2))
 refine aF jG (fun h25=>?_) (fun h25=>?_)
 rotate_left
 ·skip
  refine aH aMH ?_
  exact⟨rfl,trivial⟩
 refine aF sW (fun h26=>?_) (fun h26=>?_)
 ·skip
  refine aH aOS ?_
  unfold cC at h10;unfold jG at h25;unfold sW at h26;exfalso;have tb:=bS x0 x1 x2 x3 x4 x5 x6 x7 x8 x9 x10 x11 x12 x13 x14 l0 l1 l2 l3 l4 l5 h10;clear h10;obtain⟨t1,t2,t4,t6,s0,q0,q1⟩:=tb;have hj:(1:Int)<x2:=(by have z:=h25;clear h0 h1 h2 h3 h4 h5 h6 h7 h8 h9 h11 h12 h13 h14 h15 h16 h17 h18 h19 h20 h21 h22 h23 h24 h25 h26;simp only[nn,List.cons_append,List.nil_append,Bool.or_eq_true,aR,ne_eq]at z;omega);have q:=bY (S:=l2) (B:=l5) (nB:=x7) (bits:=x4) (C:=l4) (R:=l1) (nR:=x2) (lo:=G 82 [G 74 [l2,x3],0,0]) (hi:=G 82 [G 74 [l2,x3],0,1]) (n:=G 83 [l2,0,0]) (t0:=G 82 [0,0,0]) (t1:=G 82 [0,0,1]) (x:=x14) (by clear h0 h1 h2 h3 h4 h5 h6 h7 h8 h9 h11 h12 h13 h14 h15 h16 h17 h18 h19 h20 h21 h22 h23 h24 h25 h26;omega) s0 q0 q1 1 (by decide) hj;clear h0 h1 h2 h3 h4 h5 h6 h7 h8 h9 h11 h12 h13 h14 h15 h16 h17 h18 h19 h20 h21 h22 h23 h24 h25;clear q0 q1 s0 hj;simp only[nn,List.cons_append,List.nil_append,Bool.or_eq_true,aR,ne_eq]at h26;with_reducible exact absurd h26 (Int.not_lt.2 q.1)
 refine aF xF (fun h27=>?_) (fun h27=>?_)
 ·skip
  refine aH aPu ?_
  unfold cC at h10;unfold jG at h25;unfold sW at h26;unfold xF at h27;exfalso;have tb:=bS x0 x1 x2 x3 x4 x5 x6 x7 x8 x9 x10 x11 x12 x13 x14 l0 l1 l2 l3 l4 l5 h10;clear h10;obtain⟨t1,t2,t4,t6,s0,q0,q1⟩:=tb;first|(have hj:(2:Int)<x2:=(by have z:=h26;clear h0 h1 h2 h3 h4 h5 h6 h7 h8 h9 h11 h12 h13 h14 h15 h16 h17 h18 h19 h20 h21 h22 h23 h24 h25 h26 h27;simp only[nn,List.cons_append,List.nil_append,Bool.or_eq_true,aR,ne_eq]at z;omega);have q:=bY (S:=l2) (B:=l5) (nB:=x7) (bits:=x4) (C:=l1) (R:=l1) (nR:=x2) (lo:=G 82 [G 74 [l2,x3],0,0]) (hi:=G 82 [G 74 [l2,x3],0,1]) (n:=G 83 [l2,0,0]) (t0:=G 82 [0,0,0]) (t1:=G 82 [0,0,1]) (x:=x14) (by clear h0 h1 h2 h3 h4 h5 h6 h7 h8 h9 h11 h12 h13 h14 h15 h16 h17 h18 h19 h20 h21 h22 h23 h24 h25 h26 h27;omega) s0 q0 q1 2 (by decide) hj;clear h0 h1 h2 h3 h4 h5 h6 h7 h8 h9 h11 h12 h13 h14 h15 h16 h17 h18 h19 h20 h21 h22 h23 h24 h25 h26;clear q0 q1 s0 hj;simp only[nn,List.cons_append,List.nil_append,Bool.or_eq_true,aR,ne_eq]at h27;with_reducible exact absurd h27 (Int.not_lt.2 q.1))|(have hj:(1:Int)<x2:=(by have z:=h25;clear h0 h1 h2 h3 h4 h5 h6 h7 h8 h9 h11 h12 h13 h14 h15 h16 h17 h18 h19 h20 h21 h22 h23 h24 h25 h26 h27;simp only[nn,List.cons_append,List.nil_append,Bool.or_eq_true,aR,ne_eq]at z;omega);have q:=bY (S:=l2) (B:=l5) (nB:=x7) (bits:=x4) (C:=l4) (R:=l1) (nR:=x2) (lo:=G 82 [G 74 [l2,x3],0,0]) (hi:=G 82 [G 74 [l2,x3],0,1]) (n:=G 83 [l2,0,0]) (t0:=G 82 [0,0,0]) (t1:=G 82 [0,0,1]) (x:=x14) (by clear h0 h1 h2 h3 h4 h5 h6 h7 h8 h9 h11 h12 h13 h14 h15 h16 h17 h18 h19 h20 h21 h22 h23 h24 h25 h26 h27;omega) s0 q0 q1 1 (by decide) hj;clear h0 h1 h2 h3 h4 h5 h6 h7 h8 h9 h11 h12 h13 h14 h15 h16 h17 h18 h19 h20 h21 h22 h23 h24 h25 h26;clear q0 q1 s0 hj;simp only[nn,List.cons_append,List.nil_append,Bool.or_eq_true,aR,ne_eq]at h27;with_reducible exact absurd h27 (Int.not_lt.2 q.2))
 refine aF jF (fun h28=>?_) (fun h28=>?_)
 rotate_left
 ·skip
  refine aH aOs ?_
  exact⟨rfl,trivial⟩
 refine aF tI (fun h29=>?_) (fun h29=>?_)
 ·skip
  refine aH aOq ?_
  unfold cC at h10;unfold jF at h28;unfold tI at h29;exfalso;have tb:=bS x0 x1 x2 x3 x4 x5 x6 x7 x8 x9 x10 x11 x12 x13 x14 l0 l1 l2 l3 l4 l5 h10;clear h10;obtain⟨t1,t2,t4,t6,s0,q0,q1⟩:=tb;have hj:(2:Int)<x2:=(by have z:=h28;clear h0 h1 h2 h3 h4 h5 h6 h7 h8 h9 h11 h12 h13 h14 h15 h16 h17 h18 h19 h20 h21 h22 h23 h24 h25 h26 h27 h28 h29;simp only[nn,List.cons_append,List.nil_append,Bool.or_eq_true,aR,ne_eq]at z;omega);have q:=bY (S:=l2) (B:=l5) (nB:=x7) (bits:=x4) (C:=l4) (R:=l1) (nR:=x2) (lo:=G 82 [G 74 [l2,x3],0,0]) (hi:=G 82 [G 74 [l2,x3],0,1]) (n:=G 83 [l2,0,0]) (t0:=G 82 [0,0,0]) (t1:=G 82 [0,0,1]) (x:=x14) (by clear h0 h1 h2 h3 h4 h5 h6 h7 h8 h9 h11 h12 h13 h14 h15 h16 h17 h18 h19 h20 h21 h22 h23 h24 h25 h26 h27 h28 h29;omega) s0 q0 q1 2 (by decide) hj;clear h0 h1 h2 h3 h4 h5 h6 h7 h8 h9 h11 h12 h13 h14 h15 h16 h17 h18 h19 h20 h21 h22 h23 h24 h25 h26 h27 h28;clear q0 q1 s0 hj;simp only[nn,List.cons_append,List.nil_append,Bool.or_eq_true,aR,ne_eq]at h29;with_reducible exact absurd h29 (Int.not_lt.2 q.1)
 refine aF wU (fun h30=>?_) (fun h30=>?_)
 ·skip
  refine aH aLS ?_
  unfold cC at h10;unfold jF at h28;unfold tI at h29;unfold wU at h30;exfalso;have tb:=bS x0 x1 x2 x3 x4 x5 x6 x7 x8 x9 x10 x11 x12 x13 x14 l0 l1 l2 l3 l4 l5 h10;clear h10;obtain⟨t1,t2,t4,t6,s0,q0,q1⟩:=tb;first|(have hj:(3:Int)<x2:=(by have z:=h29;clear h0 h1 h2 h3 h4 h5 h6 h7 h8 h9 h11 h12 h13 h14 h15 h16 h17 h18 h19 h20 h21 h22 h23 h24 h25 h26 h27 h28 h29 h30;simp only[nn,List.cons_append,List.nil_append,Bool.or_eq_true,aR,ne_eq]at z;omega);have q:=bY (S:=l2) (B:=l5) (nB:=x7) (bits:=x4) (C:=l1) (R:=l1) (nR:=x2) (lo:=G 82 [G 74 [l2,x3],0,0]) (hi:=G 82 [G 74 [l2,x3],0,1]) (n:=G 83 [l2,0,0]) (t0:=G 82 [0,0,0]) (t1:=G 82 [0,0,1]) (x:=x14) (by clear h0 h1 h2 h3 h4 h5 h6 h7 h8 h9 h11 h12 h13 h14 h15 h16 h17 h18 h19 h20 h21 h22 h23 h24 h25 h26 h27 h28 h29 h30;omega) s0 q0 q1 3 (by decide) hj;clear h0 h1 h2 h3 h4 h5 h6 h7 h8 h9 h11 h12 h13 h14 h15 h16 h17 h18 h19 h20 h21 h22 h23 h24 h25 h26 h27 h28 h29;clear q0 q1 s0 hj;simp only[nn,List.cons_append,List.nil_append,Bool.or_eq_true,aR,ne_eq]at h30;with_reducible exact absurd h30 (Int.not_lt.2 q.1))|(have hj:(2:Int)<x2:=(by have z:=h28;clear h0 h1 h2 h3 h4 h5 h6 h7 h8 h9 h11 h12 h13 h14 h15 h16 h17 h18 h19 h20 h21 h22 h23 h24 h25 h26 h27 h28 h29 h30;simp only[nn,List.cons_append,List.nil_append,Bool.or_eq_true,aR,ne_eq]at z;omega);have q:=bY (S:=l2) (B:=l5) (nB:=x7) (bits:=x4) (C:=l4) (R:=l1) (nR:=x2) (lo:=G 82 [G 74 [l2,x3],0,0]) (hi:=G 82 [G 74 [l2,x3],0,1]) (n:=G 83 [l2,0,0]) (t0:=G 82 [0,0,0]) (t1:=G 82 [0,0,1]) (x:=x14) (by clear h0 h1 h2 h3 h4 h5 h6 h7 h8 h9 h11 h12 h13 h14 h15 h16 h17 h18 h19 h20 h21 h22 h23 h24 h25 h26 h27 h28 h29 h30;omega) s0 q0 q1 2 (by decide) hj;clear h0 h1 h2 h3 h4 h5 h6 h7 h8 h9 h11 h12 h13 h14 h15 h16 h17 h18 h19 h20 h21 h22 h23 h24 h25 h26 h27 h28 h29;clear q0 q1 s0 hj;simp only[nn,List.cons_append,List.nil_append,Bool.or_eq_true,aR,ne_eq]at h30;with_reducible exact absurd h30 (Int.not_lt.2 q.2))
 refine aF jM (fun h31=>?_) (fun h31=>?_)
 rotate_left
 ·skip
  refine aH aPM ?_
  exact⟨rfl,trivial⟩
 refine aF wZ (fun h32=>?_) (fun h32=>?_)
 ·skip
  refine aH aPB ?_
  unfold cC at h10;unfold jM at h31;unfold wZ at h32;exfalso;have tb:=bS x0 x1 x2 x3 x4 x5 x6 x7 x8 x9 x10 x11 x12 x13 x14 l0 l1 l2 l3 l4 l5 h10;clear h10;obtain⟨t1,t2,t4,t6,s0,q0,q1⟩:=tb;have hj:(3:Int)<x2:=(by have z:=h31;clear h0 h1 h2 h3 h4 h5 h6 h7 h8 h9 h11 h12 h13 h14 h15 h16 h17 h18 h19 h20 h21 h22 h23 h24 h25 h26 h27 h28 h29 h30 h31 h32;simp only[nn,List.cons_append,List.nil_append,Bool.or_eq_true,aR,ne_eq]at z;omega);have q:=bY (S:=l2) (B:=l5) (nB:=x7) (bits:=x4) (C:=l4) (R:=l1) (nR:=x2) (lo:=G 82 [G 74 [l2,x3],0,0]) (hi:=G 82 [G 74 [l2,x3],0,1]) (n:=G 83 [l2,0,0]) (t0:=G 82 [0,0,0]) (t1:=G 82 [0,0,1]) (x:=x14) (by clear h0 h1 h2 h3 h4 h5 h6 h7 h8 h9 h11 h12 h13 h14 h15 h16 h17 h18 h19 h20 h21 h22 h23 h24 h25 h26 h27 h28 h29 h30 h31 h32;omega) s0 q0 q1 3 (by decide) hj;clear h0 h1 h2 h3 h4 h5 h6 h7 h8 h9 h11 h12 h13 h14 h15 h16 h17 h18 h19 h20 h21 h22 h23 h24 h25 h26 h27 h28 h29 h30 h31;clear q0 q1 s0 hj;simp only[nn,List.cons_append,List.nil_append,Bool.or_eq_true,aR,ne_eq]at h32;with_reducible exact absurd h32 (Int.not_lt.2 q.1)
 refine aF xE (fun h33=>?_) (fun h33=>?_)
 ·skip
  refine aH aNE ?_
  unfold cC at h10;unfold jM at h31;unfold xE at h33;exfalso;have tb:=bS x0 x1 x2 x3 x4 x5 x6 x7 x8 x9 x10 x11 x12 x13 x14 l0 l1 l2 l3 l4 l5 h10;clear h10;obtain⟨t1,t2,t4,t6,s0,q0,q1⟩:=tb;have hj:(3:Int)<x2:=(by have z:=h31;clear h0 h1 h2 h3 h4 h5 h6 h7 h8 h9 h11 h12 h13 h14 h15 h16 h17 h18 h19 h20 h21 h22 h23 h24 h25 h26 h27 h28 h29 h30 h31 h32 h33;simp only[nn,List.cons_append,List.nil_append,Bool.or_eq_true,aR,ne_eq]at z;omega);have q:=bY (S:=l2) (B:=l5) (nB:=x7) (bits:=x4) (C:=l4) (R:=l1) (nR:=x2) (lo:=G 82 [G 74 [l2,x3],0,0]) (hi:=G 82 [G 74 [l2,x3],0,1]) (n:=G 83 [l2,0,0]) (t0:=G 82 [0,0,0]) (t1:=G 82 [0,0,1]) (x:=x14) (by clear h0 h1 h2 h3 h4 h5 h6 h7 h8 h9 h11 h12 h13 h14 h15 h16 h17 h18 h19 h20 h21 h22 h23 h24 h25 h26 h27 h28 h29 h30 h31 h32 h33;omega) s0 q0 q1 3 (by decide) hj;clear h0 h1 h2 h3 h4 h5 h6 h7 h8 h9 h11 h12 h13 h14 h15 h16 h17 h18 h19 h20 h21 h22 h23 h24 h25 h26 h27 h28 h29 h30 h31 h32;clear q0 q1 s0 hj;simp only[nn,List.cons_append,List.nil_append,Bool.or_eq_true,aR,ne_eq]at h33;with_reducible exact absurd h33 (Int.not_lt.2 q.2)
 refine aH aQK ?_
 exact⟨rfl,trivial⟩
end Go.Proofs.Ytdldallkeheciaa
