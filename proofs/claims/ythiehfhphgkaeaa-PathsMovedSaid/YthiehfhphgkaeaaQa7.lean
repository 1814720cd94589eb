/- What is proved: a path that is moved has its lines moved,in plain Lean. No condition but those that are stated. -/
import Derived.Test.YthiehfhphgkaeaaQa4
import Derived.Test.YthiehfhphgkaeaaQg6
import Derived.Test.YthiehfhphgkaeaaQa5
import Derived.Test.YthiehfhphgkaeaaQa6
import Derived.Test.YthiehfhphgkaeaaProg
import Derived.Test.YthiehfhphgkaeaaQa1
set_option linter.unusedSimpArgs false
set_option linter.unusedVariables false
namespace Go.Proofs.Ythiehfhphgkaeaa
open Go Go.RowKit Sx Wi
theorem aMI (n d:Int):Fx.near n d=Bz.near n d:=rfl
theorem pD (n d k:Int) (hd:0<d):Fx.near (n+k*d) d=Fx.near n d+k:=Bz.near_add n d k hd
theorem aJ2 (a b c d i m k:Int) (hm:0<m):pQ (a+256*k) (b+256*k) (c+256*k) (d+256*k) i m=pQ a b c d i m+k:=by
 have hp:0<m*(m*m)*256:=Int.mul_pos (Int.mul_pos hm (Int.mul_pos hm hm)) (by decide)
 unfold pQ
 rw[←pD _ _ k hp]
 congr 1
 grind
theorem aNl (a b c d e f g h A B:Int):nF (a+A) (b+B) (c+A) (d+B) (e+A) (f+B) (g+A) (h+B)=nF a b c d e f g h:=by
 unfold nF
 rw[show a+A-2*(c+A)+(e+A)=a-2*c+e by omega,show b+B-2*(d+B)+(f+B)=b-2*d+f by omega,show c+A-2*(e+A)+(g+A)=c-2*e+g by omega,show d+B-2*(f+B)+(h+B)=d-2*f+h by omega]
theorem aNr (a b c d e f g h A B:Int):cK [a+A,b+B,c+A,d+B,e+A,f+B,g+A,h+B]=cK [a,b,c,d,e,f,g,h]:=by
 unfold cK
 rw[show iX [a+A,b+B,c+A,d+B,e+A,f+B,g+A,h+B]=iX [a,b,c,d,e,f,g,h]from congrArg (fun x=>jA (3*x)) (aNl a b c d e f g h A B)]
def shift (dx dy:Int) (d:List Int):List Int:=[d.getD 0 0+dx,d.getD 1 0+dy]
theorem aNj (a b c d e f g h i m dx dy:Int) (hm:0<m):mX [a+256*dx,b+256*dy,c+256*dx,d+256*dy,e+256*dx,f+256*dy,g+256*dx,h+256*dy] m i=shift dx dy (mX [a,b,c,d,e,f,g,h] m i):=by
 show [pQ (a+256*dx) (c+256*dx) (e+256*dx) (g+256*dx) i m,pQ (b+256*dy) (d+256*dy) (f+256*dy) (h+256*dy) i m]=[pQ a c e g i m+dx,pQ b d f h i m+dy]
 rw[aJ2 _ _ _ _ _ _ _ hm,aJ2 _ _ _ _ _ _ _ hm]
theorem aLz (a b c d e f g h dx dy:Int):jE [a+256*dx,b+256*dy,c+256*dx,d+256*dy,e+256*dx,f+256*dy,g+256*dx,h+256*dy] (cK [a+256*dx,b+256*dy,c+256*dx,d+256*dy,e+256*dx,f+256*dy,g+256*dx,h+256*dy]).toNat=(jE [a,b,c,d,e,f,g,h] (cK [a,b,c,d,e,f,g,h]).toNat).map (shift dx dy):=by
 have hp:=fH [a,b,c,d,e,f,g,h]
 unfold jE
 rw[aNr,List.map_map]
 congr 1
 funext i
 exact aNj a b c d e f g h _ _ dx dy (by omega)
def oY (dx dy:Int) (r:List Int):Prop:=∀ j,j<6 → -2147483648≤sp r j+256*(if j % 2=0 then dx else dy)∧sp r j+256*(if j % 2=0 then dx else dy)≤2147483647
theorem sQ {n:Int} (h : -2147483648≤n∧n≤2147483647):IntKind.i32.wrap n=n:=by
 unfold IntKind.wrap
 simp [IntKind.bits,IntKind.signed]
 omega
theorem rD {n:Int} (h : -9223372036854775808≤n∧n≤9223372036854775807):IntKind.i64.wrap n=n:=by
 unfold IntKind.wrap
 simp [IntKind.bits,IntKind.signed]
 omega
theorem aOr (r:List Int):0≤sk r∧sk r≤255:=by
 have h:=fK .u8 (r.getD 0 0)
 exact h
theorem aN3 {n:Int} (h:0≤n∧n≤255):IntKind.u8.wrap n=n:=by
 unfold IntKind.wrap
 simp [IntKind.bits,IntKind.signed]
 omega
theorem aHd (dx dy:Int) (r:List Int):sk (cO dx dy r)=sk r:=aN3 (aOr r)
section
variable {dx dy:Int} {r:List Int} (hr:oY dx dy r)
include hr
theorem aEr:sp (cO dx dy r) 0=sp r 0+256*dx:=(by have h:=hr 0 (by decide);rw[if_pos (by decide)]at h;exact sQ h)
theorem aEU:sp (cO dx dy r) 1=sp r 1+256*dy:=(by have h:=hr 1 (by decide);rw[if_neg (by decide)]at h;exact sQ h)
theorem aNW:sp (cO dx dy r) 2=sp r 2+256*dx:=(by have h:=hr 2 (by decide);rw[if_pos (by decide)]at h;exact sQ h)
theorem aOe:sp (cO dx dy r) 3=sp r 3+256*dy:=(by have h:=hr 3 (by decide);rw[if_neg (by decide)]at h;exact sQ h)
theorem aOw:sp (cO dx dy r) 4=sp r 4+256*dx:=(by have h:=hr 4 (by decide);rw[if_pos (by decide)]at h;exact sQ h)
theorem aOm:sp (cO dx dy r) 5=sp r 5+256*dy:=(by have h:=hr 5 (by decide);rw[if_neg (by decide)]at h;exact sQ h)
theorem aMo:[Fx.near (sp (cO dx dy r) 0) (1*256),Fx.near (sp (cO dx dy r) 1) (1*256)]=shift dx dy [Fx.near (sp r 0) (1*256),Fx.near (sp r 1) (1*256)]:=by
 rw[aEr hr,aEU hr,show (1*256:Int)=256 from rfl,show 256*dx=dx*256 by omega,show 256*dy=dy*256 by omega,pD _ _ _ (by decide),pD _ _ _ (by decide)]
 rfl
end
def Mvd (dx dy:Int) (t t':List (List Int) × Int × Int):Prop:=t'.1=t.1.map (shift dx dy)∧t'.2.1=t.2.1+256*dx∧t'.2.2=t.2.2+256*dy
theorem aNM {dx dy:Int} {r:List Int} (hr:oY dx dy r) {t t':List (List Int) × Int × Int} (h:Mvd dx dy t t'):Mvd dx dy (dL t r) (dL t' (cO dx dy r)):=by
 obtain⟨h1,h2,h3⟩:=h
 unfold dL
 rw[aHd]
 split
 ·rw[aEr hr,aEU hr,aNW hr,aOe hr,aOw hr,aOm hr,h1,h2,h3,aLz]
  exact⟨by rw[List.map_append],rfl,rfl⟩
 ·rw[aMo hr,aEr hr,aEU hr,h1]
  exact⟨by rw[List.map_append];rfl,rfl,rfl⟩
theorem aKS {dx dy:Int}:∀ (l:List (List Int)) (t t':List (List Int) × Int × Int),(∀ r,r ∈ l→oY dx dy r)→Mvd dx dy t t'→Mvd dx dy (l.foldl dL t) ((l.map (cO dx dy)).foldl dL t')
 |[],t,t',_,h=>h
 |r::rs,t,t',hl,h=>aKS rs _ _ (fun q hq=>hl q (by simp [hq])) (aNM (hl r (by simp)) h)
theorem aM0 {dx dy:Int} {l:List (List Int)} (hl:∀ r,r ∈ l→oY dx dy r) (hk:iS l=true):(bR (l.map (cO dx dy))).1=(bR l).1.map (shift dx dy):=by
 cases l with
 |nil=>cases hk
 |cons r rs=>
  unfold iS at hk
  simp only[Bool.and_eq_true,decide_eq_true_eq]at hk
  have h0:¬sk r=2:=by omega
  have hr:=hl r (by simp)
  have h1:Mvd dx dy (dL ([],0,0) r) (dL ([],0,0) (cO dx dy r)):=by
   unfold dL
   rw[aHd,if_neg h0,if_neg h0,aMo hr,aEr hr,aEU hr]
   exact⟨rfl,rfl,rfl⟩
  exact(aKS rs _ _ (fun q hq=>hl q (by simp [hq])) h1).1
theorem aMt (dx dy:Int):∀ l:List (List Int),cC (l.map (cO dx dy))=cC l
 |[]=>rfl
 |r::rs=>by
  show (if sk (cO dx dy r)=0∨sk (cO dx dy r)=3 then 0 else cC (rs.map (cO dx dy))+1)=(if sk r=0∨sk r=3 then 0 else cC rs+1)
  rw[aHd,aMt dx dy rs]
theorem aMW (dx dy:Int) (l:List (List Int)):gZ (l.map (cO dx dy))=(gZ l).map (cO dx dy):=by
 cases l with
 |nil=>rfl
 |cons r rs=>
  show (if sk (cO dx dy r)=3 then _ else _)=(if sk r=3 then rs else r::rs).map (cO dx dy)
  rw[aHd]
  split<;>rfl
theorem aAt (dx dy:Int):∀ (f:Nat) (l:List (List Int)),bS f (l.map (cO dx dy))=(bS f l).map fun s=>s.map (cO dx dy)
 |0,_=>rfl
 |_+1,[]=>rfl
 |f+1,r::rs=>by
  show (cO dx dy r::(rs.map (cO dx dy)).take (cC (rs.map (cO dx dy))))::bS f (gZ ((rs.map (cO dx dy)).drop (cC (rs.map (cO dx dy)))))=((r::rs.take (cC rs)).map (cO dx dy))::(bS f (gZ (rs.drop (cC rs)))).map fun s=>s.map (cO dx dy)
  rw[aMt,←List.map_take,←List.map_drop,aMW,aAt dx dy f]
  rfl
theorem aOP (dx dy:Int) (l:List (List Int)):iS (l.map (cO dx dy))=iS l:=by
 cases l with
 |nil=>rfl
 |cons r rs=>
  show (decide (sk (cO dx dy r)=0) && ((r::rs).map (cO dx dy)).all fun r=>decide (sk r≤3))=_
  rw[aHd,List.all_map]
  congr 2
  funext q
  exact congrArg (fun x=>decide (x≤3)) (aHd dx dy q)
theorem aCp:∀ (f:Nat) (l s:List (List Int)) (r:List Int),s ∈ bS f l→r ∈ s→r ∈ l
 |0,_,_,_,h,_=>by cases h
 |_+1,[],_,_,h,_=>by cases h
 |f+1,q::qs,s,r,h,hr=>by
  rcases List.mem_cons.1 h with rfl|h
  ·rcases List.mem_cons.1 hr with rfl|hr
   ·simp
   ·exact List.mem_cons_of_mem _ (List.mem_of_mem_take hr)
  ·have h1:=aCp f _ s r h hr
   refine List.mem_cons_of_mem _ (List.mem_of_mem_drop (i:=cC qs) ?_)
   unfold gZ at h1
   split at h1
   ·rename_i x xs e
    rw[e]
    split at h1
    ·exact List.mem_cons_of_mem _ h1
    ·exact h1
   ·cases h1
def dIn (d:List Int):Prop:=(-8388609≤d.getD 0 0∧d.getD 0 0≤8388609)∧(-8388609≤d.getD 1 0∧d.getD 1 0≤8388609)
theorem aD9 {n:Int} (h : -2147483648≤n∧n≤2147483647) : -8388609≤Fx.near n 256∧Fx.near n 256≤8388609:=by
 rw[aMI,Bz.near_256];omega
theorem aBh (a b c d i m:Int):pQ a b c d i m=Bz.edge a b c d i m:=by
 have:pQ a b c d i m=Fx.near (Bz.sum a b c d i m) (256*(m*m*m)):=by
  unfold pQ Bz.sum Bz.w0 Bz.w1 Bz.w2 Bz.w3
  congr 1<;>grind
 rw[this];rfl
theorem aEm {a b c d i m:Int} (ha : -2147483648≤a∧a≤2147483647) (hb : -2147483648≤b∧b≤2147483647) (hc : -2147483648≤c∧c≤2147483647) (hd : -2147483648≤d∧d≤2147483647) (h0:0≤i) (h:i≤m) (hm:0<m) : -8388609≤pQ a b c d i m∧pQ a b c d i m≤8388609:=by
 rw[aBh]
 have h1:=Bz.edge_le a b c d i m 2147483647 h0 h hm (by omega) (by omega) (by omega) (by omega)
 have h2:=Bz.edge_ge a b c d i m (-2147483648) h0 h hm (by omega) (by omega) (by omega) (by omega)
 omega
theorem aLV {a b c d e f g h i m:Int} (ha : -2147483648≤a∧a≤2147483647) (hb : -2147483648≤b∧b≤2147483647) (r:List Int) (hc:c=sp r 0) (hd:d=sp r 1) (he:e=sp r 2) (hf:f=sp r 3) (hg:g=sp r 4) (hh:h=sp r 5) (h0:0≤i) (hi:i≤m) (hm:0<m):dIn (mX [a,b,c,d,e,f,g,h] m i):=by
 subst hc hd he hf hg hh
 exact⟨aEm ha (jF r 0) (jF r 2) (jF r 4) h0 hi hm,aEm hb (jF r 1) (jF r 3) (jF r 5) h0 hi hm⟩
def lIn (t:List (List Int) × Int × Int):Prop:=(∀ d,d ∈ t.1→dIn d)∧(-2147483648≤t.2.1∧t.2.1≤2147483647)∧(-2147483648≤t.2.2∧t.2.2≤2147483647)
theorem aOX {t:List (List Int) × Int × Int} (r:List Int) (h:lIn t):lIn (dL t r):=by
 obtain⟨h1,h2,h3⟩:=h
 unfold dL
 split
 ·refine⟨fun d hd=>?_,jF r 4,jF r 5⟩
  rcases List.mem_append.1 hd with hd|hd
  ·exact h1 d hd
  ·unfold jE at hd
   obtain⟨i,hi,rfl⟩:=List.mem_map.1 hd
   have hp:=fH [t.2.1,t.2.2,sp r 0,sp r 1,sp r 2,sp r 3,sp r 4,sp r 5]
   have hi':=List.mem_range.1 hi
   exact aLV h2 h3 r rfl rfl rfl rfl rfl rfl (by omega) (by omega) (by omega)
 ·refine⟨fun d hd=>?_,jF r 0,jF r 1⟩
  rcases List.mem_append.1 hd with hd|hd
  ·exact h1 d hd
  ·rw[List.mem_singleton.1 hd]
   exact⟨aD9 (jF r 0),aD9 (jF r 1)⟩
theorem aMe (l:List (List Int)):∀ d,d ∈ (bR l).1→dIn d:=by
 have:∀ (l:List (List Int)) (t:List (List Int) × Int × Int),lIn t→lIn (l.foldl dL t):=by
  intro l
  induction l with
  |nil=>intro t h;exact h
  |cons r rs ih=>intro t h;exact ih _ (aOX r h)
 exact(this l ([],0,0) ⟨fun d h=>by simp at h,⟨by decide,by decide⟩,⟨by decide,by decide⟩⟩).1
theorem vZ {L n dx dy:Int} (hn:n=((Lc.dec L).length:Int)) (hb:n≤300):Lc.dec (G 59 [L,n,dx,dy])=(Lc.dec L).map (cO dx dy):=by
 show Lc.dec (Lc.enc ((aF L 0 n).map (cO dx dy)))=_
 rw[Lc.dec_enc,jS hn hb]
section
variable {L n dx dy:Int}
theorem lK (hn:n=((Lc.dec L).length:Int)) (hb:n≤300):(G 55 [G 59 [L,n,dx,dy],n]=1↔G 55 [L,n]=1)∧G 54 [G 59 [L,n,dx,dy],n]=G 54 [L,n]:=by
 have e:n=((Lc.dec (G 59 [L,n,dx,dy])).length:Int):=by rw[vZ hn hb,List.length_map];exact hn
 refine⟨?_,?_⟩
 ·show (if (bS 300 (aF _ 0 n)).all iS then (1:Int) else 0)=1↔(if (bS 300 (aF L 0 n)).all iS then (1:Int) else 0)=1
  rw[jS e hb,jS hn hb,vZ hn hb,aAt,List.all_map]
  rw[show (iS ∘ fun s=>s.map (cO dx dy))=iS from funext (aOP dx dy)]
 ·rw[g54 e hb,g54 hn hb,vZ hn hb,aAt,List.length_map]
theorem aAC {i:Int} (hn:n=((Lc.dec L).length:Int)) (hb:n≤300) (h0:0≤i) (hi:i<G 54 [L,n]):G 88 [G 61 [L,n],i,0]=Lc.enc (bR ((bS 300 (Lc.dec L)).getD i.toNat [])).1:=by
 rw[g54 hn hb]at hi
 rw[hZ 88 _ (by decide) (by decide),aOZ hn hb]
 show Lc.rd (Lc.enc _) i 0=_
 unfold Lc.rd Lc.row aBI
 rw[Lc.dec_enc]
 have hlt:i.toNat<(bS 300 (Lc.dec L)).length:=by omega
 have e1:(List.map (fun l=>[Lc.enc (bR l).1]) (bS 300 (Lc.dec L))).getD i.toNat []=[Lc.enc (bR ((bS 300 (Lc.dec L))[i.toNat])).1]:=by
  rw[List.getD_eq_getElem?_getD,List.getElem?_map,List.getElem?_eq_getElem hlt];rfl
 have e2:(bS 300 (Lc.dec L)).getD i.toNat []=(bS 300 (Lc.dec L))[i.toNat]:=by
  rw[List.getD_eq_getElem?_getD,List.getElem?_eq_getElem hlt];rfl
 rw[e1,e2]
 rfl
theorem xM {i:Int} (hn:n=((Lc.dec L).length:Int)) (hb:n≤300) (hr:∀ r,r ∈ Lc.dec L→oY dx dy r) (hk:G 55 [L,n]=1) (h0:0≤i) (hi:i<G 54 [L,n]):
  Lc.dec (G 88 [G 61 [G 59 [L,n,dx,dy],n],i,0])=(Lc.dec (G 88 [G 61 [L,n],i,0])).map (shift dx dy):=by
 have e:n=((Lc.dec (G 59 [L,n,dx,dy])).length:Int):=by rw[vZ hn hb,List.length_map];exact hn
 have hs:=lK (dx:=dx) (dy:=dy) hn hb
 rw[aAC hn hb h0 hi,aAC e hb h0 (by rw[hs.2];exact hi),Lc.dec_enc,Lc.dec_enc,vZ hn hb,aAt]
 rw[g54 hn hb]at hi
 rw[List.getD_eq_getElem?_getD,List.getElem?_map,List.getD_eq_getElem?_getD,List.getElem?_eq_getElem (show i.toNat<(bS 300 (Lc.dec L)).length by omega)]
 have hm:=List.getElem_mem (show i.toNat<(bS 300 (Lc.dec L)).length by omega)
 refine aM0 (fun r hq=>hr r (aCp _ _ _ r hm hq)) ?_
 have hk':(if (bS 300 (aF L 0 n)).all iS then (1:Int) else 0)=1:=hk
 rw[jS hn hb]at hk'
 split at hk'
 ·rename_i h;exact List.all_eq_true.1 h _ hm
 ·omega
theorem yO {i:Int} (hn:n=((Lc.dec L).length:Int)) (hb:n≤300) (hr:∀ r,r ∈ Lc.dec L→oY dx dy r) (hk:G 55 [L,n]=1) (h0:0≤i) (hi:i<G 54 [L,n]):
  G 90 [G 88 [G 61 [G 59 [L,n,dx,dy],n],i,0]]=G 90 [G 88 [G 61 [L,n],i,0]]:=by
 rw[hZ 90 _ (by decide) (by decide),hZ 90 _ (by decide) (by decide)]
 show Lc.clip (Lc.dec (G 88 [G 61 [G 59 [L,n,dx,dy],n],i,0])).length=Lc.clip (Lc.dec (G 88 [G 61 [L,n],i,0])).length
 rw[xM hn hb hr hk h0 hi,List.length_map]
theorem iB {i k:Int} (hn:n=((Lc.dec L).length:Int)) (hb:n≤300) (hr:∀ r,r ∈ Lc.dec L→oY dx dy r) (hk:G 55 [L,n]=1) (h0:0≤i) (hi:i<G 54 [L,n]) (hdx : -32768≤dx∧dx≤32767) (hdy : -32768≤dy∧dy≤32767) (k0:0≤k) (k1:k<G 90 [G 88 [G 61 [L,n],i,0]]):
  (G 83 [G 88 [G 61 [G 59 [L,n,dx,dy],n],i,0],k,0]=G 83 [G 88 [G 61 [L,n],i,0],k,0]+dx∧G 83 [G 88 [G 61 [G 59 [L,n,dx,dy],n],i,0],k,1]=G 83 [G 88 [G 61 [L,n],i,0],k,1]+dy)∧
  (-8388609≤G 83 [G 88 [G 61 [L,n],i,0],k,0]∧G 83 [G 88 [G 61 [L,n],i,0],k,0]≤8388609)∧(-8388609≤G 83 [G 88 [G 61 [L,n],i,0],k,1]∧G 83 [G 88 [G 61 [L,n],i,0],k,1]≤8388609):=by
 have hl:=xM hn hb hr hk h0 hi
 have hin:=aMe ((bS 300 (Lc.dec L)).getD i.toNat [])
 have hd:Lc.dec (G 88 [G 61 [L,n],i,0])=(bR ((bS 300 (Lc.dec L)).getD i.toNat [])).1:=by rw[aAC hn hb h0 hi,Lc.dec_enc]
 have hlt:k.toNat<(Lc.dec (G 88 [G 61 [L,n],i,0])).length:=by
  rw[hZ 90 _ (by decide) (by decide)]at k1
  have:k<Lc.clip (Lc.dec (G 88 [G 61 [L,n],i,0])).length:=k1
  unfold Lc.clip at this
  split at this<;>omega
 have hq:dIn ((Lc.dec (G 88 [G 61 [L,n],i,0])).getD k.toNat []):=by
  rw[List.getD_eq_getElem?_getD,List.getElem?_eq_getElem hlt]
  exact hin _ (by rw[←hd];exact List.getElem_mem hlt)
 have hs:(Lc.dec (G 88 [G 61 [G 59 [L,n,dx,dy],n],i,0])).getD k.toNat []=shift dx dy ((Lc.dec (G 88 [G 61 [L,n],i,0])).getD k.toNat []):=by
  rw[hl,List.getD_eq_getElem?_getD,List.getElem?_map,List.getD_eq_getElem?_getD,List.getElem?_eq_getElem hlt]
  rfl
 have a0:=mQ .i64 (G 88 [G 61 [L,n],i,0]) k 0
 have a1:=mQ .i64 (G 88 [G 61 [L,n],i,0]) k 1
 have c0:=mQ .i64 (G 88 [G 61 [G 59 [L,n,dx,dy],n],i,0]) k 0
 have c1:=mQ .i64 (G 88 [G 61 [G 59 [L,n,dx,dy],n],i,0]) k 1
 rw[hs]at c0 c1
 obtain⟨⟨q1,q2⟩,q3,q4⟩:=hq
 have z0:G 83 [G 88 [G 61 [L,n],i,0],k,0]=((Lc.dec (G 88 [G 61 [L,n],i,0])).getD k.toNat []).getD 0 0:=a0.trans (rD (n:=((Lc.dec (G 88 [G 61 [L,n],i,0])).getD k.toNat []).getD 0 0) (by omega))
 have z1:G 83 [G 88 [G 61 [L,n],i,0],k,1]=((Lc.dec (G 88 [G 61 [L,n],i,0])).getD k.toNat []).getD 1 0:=a1.trans (rD (n:=((Lc.dec (G 88 [G 61 [L,n],i,0])).getD k.toNat []).getD 1 0) (by omega))
 have y0:G 83 [G 88 [G 61 [G 59 [L,n,dx,dy],n],i,0],k,0]=((Lc.dec (G 88 [G 61 [L,n],i,0])).getD k.toNat []).getD 0 0+dx:=c0.trans (rD (n:=((Lc.dec (G 88 [G 61 [L,n],i,0])).getD k.toNat []).getD 0 0+dx) (by omega))
 have y1:G 83 [G 88 [G 61 [G 59 [L,n,dx,dy],n],i,0],k,1]=((Lc.dec (G 88 [G 61 [L,n],i,0])).getD k.toNat []).getD 1 0+dy:=c1.trans (rD (n:=((Lc.dec (G 88 [G 61 [L,n],i,0])).getD k.toNat []).getD 1 0+dy) (by omega))
 rw[z0,z1,y0,y1]
 exact⟨⟨rfl,rfl⟩,⟨q1,q2⟩,q3,q4⟩
end
theorem uZ {dx dy:Int} {r:List Int}:tA dx dy r=true↔oY dx dy r:=by
 unfold tA oY
 simp only[List.all_eq_true,List.mem_range,Bool.and_eq_true,decide_eq_true_eq]
theorem tY {L n dx dy:Int} (hn:n=((Lc.dec L).length:Int)) (hb:n≤300):G 60 [L,n,dx,dy]=1↔∀ r,r ∈ Lc.dec L→oY dx dy r:=by
 show (if (aF L 0 n).all (tA dx dy) then (1:Int) else 0)=1↔_
 rw[jS hn hb]
 constructor
 ·intro h r hr
  split at h
  ·rename_i q;exact uZ.1 (List.all_eq_true.1 q r hr)
  ·omega
 ·intro h
  rw[if_pos (List.all_eq_true.2 fun r hr=>uZ.2 (h r hr))]
theorem aLY {L dx dy:Int} {i:Nat} (hi:(i:Int)<300) (hl:(i:Int)<((Lc.dec L).length:Int)):
  (G 60 [L,(i:Int)+1,dx,dy]=1↔(G 60 [L,(i:Int),dx,dy]=1∧oY dx dy ((Lc.dec L).getD i [])))∧
  G 59 [L,(i:Int)+1,dx,dy]=G 91 (G 59 [L,(i:Int),dx,dy]::cO dx dy ((Lc.dec L).getD i [])):=by
 have es:=iU (L:=L) (off:=0) (i:=(i:Int)) (by omega) ⟨by omega,hi⟩ (by omega)
 rw[Int.zero_add,Int.toNat_natCast]at es
 constructor
 ·show (if (aF L 0 ((i:Int)+1)).all (tA dx dy) then (1:Int) else 0)=1↔(if (aF L 0 (i:Int)).all (tA dx dy) then (1:Int) else 0)=1∧_
  rw[es,List.all_append,←uZ]
  simp only[List.all_cons,List.all_nil,Bool.and_true]
  cases (aF L 0 (i:Int)).all (tA dx dy)<;>cases tA dx dy ((Lc.dec L).getD i [])<;>simp
 ·show Lc.enc ((aF L 0 ((i:Int)+1)).map (cO dx dy))=G 91 (Lc.enc ((aF L 0 (i:Int)).map (cO dx dy))::_)
  rw[iP hZ,es,List.map_append]
  rfl
theorem aMA {a b d:Int} (e:b=a+d) (hd : -32768≤d∧d≤32767) : -9223372036854775808≤b-a:=by omega
theorem aMn {a b d:Int} (e:b=a+d) (hd : -32768≤d∧d≤32767):b-a≤9223372036854775807:=by omega
theorem aMz {a b d:Int} (e:b=a+d):b-a=d:=by omega
theorem aIy (x:Int):0≤G 90 [x]∧G 90 [x]≤4611686018427387904:=by
 rw[hZ 90 _ (by decide) (by decide)]
 exact Lc.len1_bd [x]
theorem aDU (x y:Int):0≤G 54 [x,y]∧G 54 [x,y]≤300:=aEF [x,y]
theorem aLZ (L dx dy:Int):G 60 [L,0,dx,dy]=1:=rfl
theorem aLy (L dx dy:Int):G 59 [L,0,dx,dy]=0:=rfl
theorem iF {dx dy:Int} {r:List Int}:oY dx dy r↔((-2147483648≤sp r 0+256*dx∧sp r 0+256*dx≤2147483647)∧(-2147483648≤sp r 1+256*dy∧sp r 1+256*dy≤2147483647)∧(-2147483648≤sp r 2+256*dx∧sp r 2+256*dx≤2147483647)∧(-2147483648≤sp r 3+256*dy∧sp r 3+256*dy≤2147483647)∧(-2147483648≤sp r 4+256*dx∧sp r 4+256*dx≤2147483647)∧(-2147483648≤sp r 5+256*dy∧sp r 5+256*dy≤2147483647)):=by
 unfold oY
 constructor
 ·intro h
  exact⟨h 0 (by decide),h 1 (by decide),h 2 (by decide),h 3 (by decide),h 4 (by decide),h 5 (by decide)⟩
 ·rintro⟨h0,h1,h2,h3,h4,h5⟩ j hj
  match j,hj with
  |0,_=>exact h0
  |1,_=>exact h1
  |2,_=>exact h2
  |3,_=>exact h3
  |4,_=>exact h4
  |5,_=>exact h5
theorem eY (L:Int) (i j:Nat):G 82 [L,(i:Int),((1+j:Nat):Int)]=sp ((Lc.dec L).getD i []) j:=by
 have:=mQ .i32 L (i:Int) ((1+j:Nat):Int)
 rw[Int.toNat_natCast,Int.toNat_natCast]at this
 exact this
theorem iZ {L n dx dy:Int} {i:Nat} (hn:n=((Lc.dec L).length:Int)) (hb:n≤300) (hi:(i:Int)<n) (h:¬oY dx dy ((Lc.dec L).getD i [])):¬G 60 [L,n,dx,dy]=1:=by
 intro q
 refine h ((tY hn hb).1 q _ ?_)
 rw[List.getD_eq_getElem?_getD,List.getElem?_eq_getElem (show i<(Lc.dec L).length by omega)]
 exact List.getElem_mem _
theorem aDu {k:Nat} {x:Int} (h:(k:Int)<x):x.toNat-(k+1)<x.toNat-k:=by omega
theorem aI3 {k:Nat} {x:Int} (h:(k:Int)<x):((k+1:Nat):Int)≤x:=by omega
end Go.Proofs.Ythiehfhphgkaeaa
namespace Go.Proofs.Ythiehfhphgkaeaa
open Go Go.RowKit Sx Wi
def aCb:bB:=kI 11 tI aME
theorem qV {X:Ctx} {ρ:Nat→Int} (hX:X.Ok ρ) (hG:X.G=G):iV Try.prog X ρ GB aCb:=iE (aIX hX hG) (aIU hX hG)
def aAj:List (Int × Int):=[(0,40),((-32768),32767),((-32768),32767),(0,40)]
def aNb:List (Int × Int):=[(0,9223372036854775807),((-32768),32767),((-32768),32767)]
def aOK:St:=⟨[(.own 0 (.var 0) none),(.int .i16 (.var 1)),(.int .i16 (.var 2)),.any,.any,.any,(.bool (.lit false)),(.own 1 (.var 3) none),(.int .i64 (.var 3)),.any,.any,.any,.any,.any,.any,.any,.any,.any,.any,.any,.any,.any,.any,.any,.any,.any,.any,.any,.any,.any,.any,.any,.any,.any,.any,.any,.any,.any,.any,.any,.any,.any,.any,.any,.any,.any,.any,.any,.any,.any,.any,.any,.any,.any,.any,.any,.any,.any,.any,.any,.any,.any,.any,.any,.any,.any,.any,.any,.any,.any,.any,.any,.any,.any,.any,.any,.any,.any,.any,.any,.any,.any,.any,.any,.any,.any,.any,.any,.any,.any,.any,.any,.any,.any,.any,.any,.any,.any,.any,.any,.any,.any,.any,.any,.any,.any,.any,.any,.any,.any,.any,.any,.any,.any,.any,.any,.any,.any,.any,.any,.any,.any,.any,.any,.any,.any,.any,.any,.any,.any,.any,.any,.any,.any,.any,.any,.any,.any,.any,.any,.any,.any,.any,.any,.any,.any,.any,.any,.any,.any,.any,.any,.any,.any,.any,.any,.any,.any],[some ([.vec [.int .u8,.int .i32,.int .i32,.int .i32,.int .i32,.int .i32,.int .i32] (.var 5) (.var 0) true],bA),kA [.int .u8,.int .i32,.int .i32,.int .i32,.int .i32,.int .i32,.int .i32] (.var 4) (.var 3) 38]⟩
def aOq:St:=⟨[(.own 0 (.var 0) none),(.int .i16 (.var 1)),(.int .i16 (.var 2)),.any,.any,.any,(.bool (.lit false)),(.own 1 (.var 0) none),.any,.any,.any,.any,.any,.any,.any,.any,.any,.any,.any,.any,.any,.any,.any,.any,.any,.any,.any,.any,.any,.any,.any,.any,.any,.any,.any,.any,.any,.any,.any,.any,.any,.any,.any,.any,.any,.any,.any,.any,.any,.any,.any,.any,.any,.any,.any,.any,.any,.any,.any,.any,.any,.any,.any,.any,.any,.any,.any,.any,.any,.any,.any,.any,.any,.any,.any,.any,.any,.any,.any,.any,.any,.any,.any,.any,.any,.any,.any,.any,.any,.any,.any,.any,.any,.any,.any,.any,.any,.any,.any,.any,.any,.any,.any,.any,.any,.any,.any,.any,.any,.any,.any,.any,.any,.any,.any,.any,.any,.any,.any,.any,.any,.any,.any,.any,.any,.any,.any,.any,.any,.any,.any,.any,.any,.any,.any,.any,.any,.any,.any,.any,.any,.any,.any,.any,.any,.any,.any,.any,.any,.any,.any,.any,.any,.any,.any,.any,.any,.any],[some ([.vec [.int .u8,.int .i32,.int .i32,.int .i32,.int .i32,.int .i32,.int .i32] (.var 3) (.var 0) true],bA),kA [.int .u8,.int .i32,.int .i32,.int .i32,.int .i32,.int .i32,.int .i32] (.app 59 (.cons (.var 3) (.cons (.var 0) (.cons (.var 1) (.cons (.var 2) .nil))))) (.var 0) 38]⟩
def aNZ:St:=⟨[.any,.any,.any,.any,.any,.any,(.bool (.lit true)),.any,.any,.any,.any,.any,.any,.any,.any,.any,.any,.any,.any,.any,.any,.any,.any,.any,.any,.any,.any,.any,.any,.any,.any,.any,.any,.any,.any,.any,.any,.any,.any,.any,.any,.any,.any,.any,.any,.any,.any,.any,.any,.any,.any,.any,.any,.any,.any,.any,.any,.any,.any,.any,.any,.any,.any,.any,.any,.any,.any,.any,.any,.any,.any,.any,.any,.any,.any,.any,.any,.any,.any,.any,.any,.any,.any,.any,.any,.any,.any,.any,.any,.any,.any,.any,.any,.any,.any,.any,.any,.any,.any,.any,.any,.any,.any,.any,.any,.any,.any,.any,.any,.any,.any,.any,.any,.any,.any,.any,.any,.any,.any,.any,.any,.any,.any,.any,.any,.any,.any,.any,.any,.any,.any,.any,.any,.any,.any,.any,.any,.any,.any,.any,.any,.any,.any,.any,.any,.any,.any,.any,.any,.any,.any,.any,.any,.any,.any,.any,.any,.any],[some ([.vec [.int .u8,.int .i32,.int .i32,.int .i32,.int .i32,.int .i32,.int .i32] (.var 3) (.var 0) true],bA)]⟩
def aM2:LoopS:=⟨3,1,aOK,(.cmp .eq (.app 60 (.cons (.var 3) (.cons (.var 0) (.cons (.var 1) (.cons (.var 2) .nil))))) (.lit 1)),.exit 0,aOq,.ret,aNZ⟩
def aMP:LoopU:=⟨aM2,[.var 0,.var 1,.var 2,.lit 0,.lit 0,.var 3],aAj,.lit true⟩
def wP (P:Program) (fs:List B):Res SV:=bY G GI aAj fs fun X=>gX P X GB aCb dP 4000 (cF (bQ P 5) 0) aM2
end Go.Proofs.Ythiehfhphgkaeaa
set_option maxRecDepth 100000
namespace Go.Proofs.Ythiehfhphgkaeaa
open Go Go.RowKit Sx Wi
def eZ (P:Program) (fs:List B):Res SV:=wP P fs
def aBo:List B:=[]
def dF:B:=(.cmp .lt (.var 3) (.var 0))
def aBC:List B:=aW dF++aBo
def dI:B:=(.cmp .lt (.op .add (.app 82 (.cons (.var 5) (.cons (.var 3) (.cons (.lit 1) .nil)))) (.op .mul (.lit 256) (.var 1))) (.lit (-2147483648)))
def aJn:List B:=aW dI++aBC
def aBb:List B:=aW (B.neg dI)++aBC
def dN:B:=(.cmp .lt (.lit 2147483647) (.op .add (.app 82 (.cons (.var 5) (.cons (.var 3) (.cons (.lit 1) .nil)))) (.op .mul (.lit 256) (.var 1))))
def aIf:List B:=aW dN++aBb
def aBq:List B:=aW (B.neg dN)++aBb
def dU:B:=(.cmp .lt (.op .add (.app 82 (.cons (.var 5) (.cons (.var 3) (.cons (.lit 2) .nil)))) (.op .mul (.lit 256) (.var 2))) (.lit (-2147483648)))
def aIY:List B:=aW dU++aBq
def aBf:List B:=aW (B.neg dU)++aBq
def eC:B:=(.cmp .lt (.lit 2147483647) (.op .add (.app 82 (.cons (.var 5) (.cons (.var 3) (.cons (.lit 2) .nil)))) (.op .mul (.lit 256) (.var 2))))
def aIc:List B:=aW eC++aBf
def aBK:List B:=aW (B.neg eC)++aBf
def eP:B:=(.cmp .lt (.op .add (.app 82 (.cons (.var 5) (.cons (.var 3) (.cons (.lit 3) .nil)))) (.op .mul (.lit 256) (.var 1))) (.lit (-2147483648)))
def aHe:List B:=aW eP++aBK
def yP:List B:=aW (B.neg eP)++aBK
def fF:B:=(.cmp .lt (.lit 2147483647) (.op .add (.app 82 (.cons (.var 5) (.cons (.var 3) (.cons (.lit 3) .nil)))) (.op .mul (.lit 256) (.var 1))))
def aGp:List B:=aW fF++yP
def zJ:List B:=aW (B.neg fF)++yP
def fU:B:=(.cmp .lt (.op .add (.app 82 (.cons (.var 5) (.cons (.var 3) (.cons (.lit 4) .nil)))) (.op .mul (.lit 256) (.var 2))) (.lit (-2147483648)))
def aGr:List B:=aW fU++zJ
def yS:List B:=aW (B.neg fU)++zJ
def gR:B:=(.cmp .lt (.lit 2147483647) (.op .add (.app 82 (.cons (.var 5) (.cons (.var 3) (.cons (.lit 4) .nil)))) (.op .mul (.lit 256) (.var 2))))
def aGb:List B:=aW gR++yS
def yG:List B:=aW (B.neg gR)++yS
def iW:B:=(.cmp .lt (.op .add (.app 82 (.cons (.var 5) (.cons (.var 3) (.cons (.lit 5) .nil)))) (.op .mul (.lit 256) (.var 1))) (.lit (-2147483648)))
def aHv:List B:=aW iW++yG
def zY:List B:=aW (B.neg iW)++yG
def iK:B:=(.cmp .lt (.lit 2147483647) (.op .add (.app 82 (.cons (.var 5) (.cons (.var 3) (.cons (.lit 5) .nil)))) (.op .mul (.lit 256) (.var 1))))
def aF2:List B:=aW iK++zY
def yX:List B:=aW (B.neg iK)++zY
def jL:B:=(.cmp .lt (.op .add (.app 82 (.cons (.var 5) (.cons (.var 3) (.cons (.lit 6) .nil)))) (.op .mul (.lit 256) (.var 2))) (.lit (-2147483648)))
def aFA:List B:=aW jL++yX
def yN:List B:=aW (B.neg jL)++yX
def kX:B:=(.cmp .lt (.lit 2147483647) (.op .add (.app 82 (.cons (.var 5) (.cons (.var 3) (.cons (.lit 6) .nil)))) (.op .mul (.lit 256) (.var 2))))
def aGt:List B:=aW kX++yN
def aE7:List B:=aW (B.neg kX)++yN
def aBz:SV:=(.agg [(.int .i64 (.op .add (.var 3) (.lit 1))),(.int .i64 (.var 3)),(.int .i64 (.op .add (.var 3) (.lit 1))),(.int .i64 (.var 3)),(.int .i64 (.var 5)),(.int .i64 (.var 5)),(.int .i64 (.app 91 (.cons (.var 4) (.cons (.app 84 (.cons (.var 5) (.cons (.var 3) (.cons (.lit 0) .nil)))) (.cons (.op .add (.app 82 (.cons (.var 5) (.cons (.var 3) (.cons (.lit 1) .nil)))) (.op .mul (.lit 256) (.var 1))) (.cons (.op .add (.app 82 (.cons (.var 5) (.cons (.var 3) (.cons (.lit 2) .nil)))) (.op .mul (.lit 256) (.var 2))) (.cons (.op .add (.app 82 (.cons (.var 5) (.cons (.var 3) (.cons (.lit 3) .nil)))) (.op .mul (.lit 256) (.var 1))) (.cons (.op .add (.app 82 (.cons (.var 5) (.cons (.var 3) (.cons (.lit 4) .nil)))) (.op .mul (.lit 256) (.var 2))) (.cons (.op .add (.app 82 (.cons (.var 5) (.cons (.var 3) (.cons (.lit 5) .nil)))) (.op .mul (.lit 256) (.var 1))) (.cons (.op .add (.app 82 (.cons (.var 5) (.cons (.var 3) (.cons (.lit 6) .nil)))) (.op .mul (.lit 256) (.var 2))) .nil)))))))))),(.int .i64 (.var 4)),(.int .i64 (.op .add (.var 3) (.lit 1))),(.int .i64 (.var 3))])
def aE1:List B:=aW (B.neg dF)++aBo
end Go.Proofs.Ythiehfhphgkaeaa
set_option maxRecDepth 100000
namespace Go.Proofs.Ythiehfhphgkaeaa
open Go Go.RowKit Sx Wi
theorem aKJ:eZ Try.prog aJn = .ok (.tuple [(.agg [(.int .i64 (.var 5)),(.int .i64 (.var 3))]),(.bool (.lit false))]):=by kernel_rfl
theorem aH4:eZ Try.prog aIf = .ok (.tuple [(.agg [(.int .i64 (.var 5)),(.int .i64 (.var 3))]),(.bool (.lit false))]):=by kernel_rfl
theorem aJk:eZ Try.prog aIY = .ok (.tuple [(.agg [(.int .i64 (.var 5)),(.int .i64 (.var 3))]),(.bool (.lit false))]):=by kernel_rfl
theorem aIe:eZ Try.prog aIc = .ok (.tuple [(.agg [(.int .i64 (.var 5)),(.int .i64 (.var 3))]),(.bool (.lit false))]):=by kernel_rfl
theorem aFF:eZ Try.prog aHe = .ok (.tuple [(.agg [(.int .i64 (.var 5)),(.int .i64 (.var 3))]),(.bool (.lit false))]):=by kernel_rfl
theorem aGQ:eZ Try.prog aGp = .ok (.tuple [(.agg [(.int .i64 (.var 5)),(.int .i64 (.var 3))]),(.bool (.lit false))]):=by kernel_rfl
end Go.Proofs.Ythiehfhphgkaeaa
set_option maxRecDepth 100000
namespace Go.Proofs.Ythiehfhphgkaeaa
open Go Go.RowKit Sx Wi
theorem aGB:eZ Try.prog aGr = .ok (.tuple [(.agg [(.int .i64 (.var 5)),(.int .i64 (.var 3))]),(.bool (.lit false))]):=by kernel_rfl
theorem aHs:eZ Try.prog aGb = .ok (.tuple [(.agg [(.int .i64 (.var 5)),(.int .i64 (.var 3))]),(.bool (.lit false))]):=by kernel_rfl
theorem aHc:eZ Try.prog aHv = .ok (.tuple [(.agg [(.int .i64 (.var 5)),(.int .i64 (.var 3))]),(.bool (.lit false))]):=by kernel_rfl
theorem aGW:eZ Try.prog aF2 = .ok (.tuple [(.agg [(.int .i64 (.var 5)),(.int .i64 (.var 3))]),(.bool (.lit false))]):=by kernel_rfl
theorem aHk:eZ Try.prog aFA = .ok (.tuple [(.agg [(.int .i64 (.var 5)),(.int .i64 (.var 3))]),(.bool (.lit false))]):=by kernel_rfl
theorem aFx:eZ Try.prog aGt = .ok (.tuple [(.agg [(.int .i64 (.var 5)),(.int .i64 (.var 3))]),(.bool (.lit false))]):=by kernel_rfl
end Go.Proofs.Ythiehfhphgkaeaa
set_option maxRecDepth 100000
namespace Go.Proofs.Ythiehfhphgkaeaa
open Go Go.RowKit Sx Wi
theorem aHl:eZ Try.prog aE7 = .ok aBz:=by kernel_rfl
theorem aHa:eZ Try.prog aE1 = .ok (.tuple [(.agg [(.int .i64 (.var 3)),(.int .i64 (.var 0)),(.int .i64 (.var 5)),(.int .i64 (.var 3)),(.int .i64 (.var 4)),(.int .i64 (.app 59 (.cons (.var 3) (.cons (.var 0) (.cons (.var 1) (.cons (.var 2) .nil)))))),(.int .i64 (.var 3)),(.int .i64 (.var 0))]),(.bool (.lit true))]):=by kernel_rfl
end Go.Proofs.Ythiehfhphgkaeaa
namespace Go.Proofs.Ythiehfhphgkaeaa
open Go Go.RowKit Sx Wi
def cA (n dx dy L:Int) (i:Nat):Nat→Int:=eK ([n,dx,dy]++[(i:Int),G 59 [L,(i:Int),dx,dy],L])
theorem aLM (n dx dy L:Int) (hN:n=((Lc.dec L).length:Int)) (b0:0≤n∧n≤40) (b1 : -32768≤dx∧dx≤32767) (b2 : -32768≤dy∧dy≤32767) (i:Nat) (hi:(i:Int)≤n):∀ q r,aAj[q]?=some r→r.1≤cA n dx dy L i q∧cA n dx dy L i q≤r.2:=by
 unfold cA aAj
 exact cS (xs:=[n,dx,dy,(i:Int)]) (ls:=[G 59 [L,(i:Int),dx,dy],L]) (by exact⟨b0,b1,b2,by omega,trivial⟩)
theorem aKp {n:Int} {i:Nat} (b0:0≤n∧n≤40) (h:(i:Int)<n):(i:Int)<300:=by omega
set_option maxHeartbeats 4000000 in
set_option maxRecDepth 100000 in
theorem aMF (n dx dy L:Int) (hN:n=((Lc.dec L).length:Int)) (b0:0≤n∧n≤40) (b1 : -32768≤dx∧dx≤32767) (b2 : -32768≤dy∧dy≤32767) (i:Nat) (hi:(i:Int)≤n∧G 60 [L,(i:Int),dx,dy]=1):Sx.yE (wP Try.prog) G (cA n dx dy L i) (bD G (cA n dx dy L) (eK ([n,dx,dy]++[L])) 3 aM2.b (fun i=>(i:Int)≤n∧G 60 [L,(i:Int),dx,dy]=1) (fun i=>n.toNat-i) i) []:=by
 refine aQ dF (fun h0=>?_) (fun h0=>?_)
 rotate_left
 ·skip
  refine aP aHa ?_
  unfold dF at h0;simp only[nn,cA,List.cons_append,List.nil_append,Bool.or_eq_true,aY,ne_eq]at h0;have e:(i:Int)=n:=(by have:=hi.1;omega);have hg:=hi.2;clear h0;simp only[bD];refine⟨?_,bF (by simp),?_⟩;(· show decide (G 60 [L,n,dx,dy]=1)=true;rw[←e];exact decide_eq_true hg);simp only[aL];simp only[nn,cA,List.cons_append,List.nil_append,Bool.or_eq_true,aY,ne_eq];rw[e];(repeat' refine And.intro ?_ ?_)<;>first|with_reducible rfl|with_reducible trivial
 refine aQ dI (fun h1=>?_) (fun h1=>?_)
 ·skip
  refine aP aKJ ?_
  unfold dF at h0;unfold dI at h1;simp only[nn,cA,List.cons_append,List.nil_append,Bool.or_eq_true,aY,ne_eq]at h0 h1;rw[(show G 82 [L,(i:Int),1]=sp ((Lc.dec L).getD i []) 0 from eY L i 0)]at h1;have q:¬G 60 [L,n,dx,dy]=1:=iZ hN (by omega) h0 (fun z=>absurd h1 (Int.not_lt.2 (iF.1 z).1.1));clear h0 h1;simp only[bD];refine⟨?_,bF (by simp),?_⟩;(· show decide (G 60 [L,n,dx,dy]=1)=false;exact decide_eq_false q);simp only[aL];simp only[nn,cA,List.cons_append,List.nil_append,Bool.or_eq_true,aY,ne_eq];all_goals ((repeat' refine And.intro ?_ ?_)<;>first|with_reducible rfl|with_reducible trivial)
 refine aQ dN (fun h2=>?_) (fun h2=>?_)
 ·skip
  refine aP aH4 ?_
  unfold dF at h0;unfold dI at h1;unfold dN at h2;simp only[nn,cA,List.cons_append,List.nil_append,Bool.or_eq_true,aY,ne_eq]at h0 h2;rw[(show G 82 [L,(i:Int),1]=sp ((Lc.dec L).getD i []) 0 from eY L i 0)]at h2;have q:¬G 60 [L,n,dx,dy]=1:=iZ hN (by omega) h0 (fun z=>absurd h2 (Int.not_lt.2 (iF.1 z).1.2));clear h0 h1 h2;simp only[bD];refine⟨?_,bF (by simp),?_⟩;(· show decide (G 60 [L,n,dx,dy]=1)=false;exact decide_eq_false q);simp only[aL];simp only[nn,cA,List.cons_append,List.nil_append,Bool.or_eq_true,aY,ne_eq];all_goals ((repeat' refine And.intro ?_ ?_)<;>first|with_reducible rfl|with_reducible trivial)
 refine aQ dU (fun h3=>?_) (fun h3=>?_)
 ·skip
  refine aP aJk ?_
  unfold dF at h0;unfold dI at h1;unfold dN at h2;unfold dU at h3;simp only[nn,cA,List.cons_append,List.nil_append,Bool.or_eq_true,aY,ne_eq]at h0 h3;rw[(show G 82 [L,(i:Int),2]=sp ((Lc.dec L).getD i []) 1 from eY L i 1)]at h3;have q:¬G 60 [L,n,dx,dy]=1:=iZ hN (by omega) h0 (fun z=>absurd h3 (Int.not_lt.2 (iF.1 z).2.1.1));clear h0 h1 h2 h3;simp only[bD];refine⟨?_,bF (by simp),?_⟩;(· show decide (G 60 [L,n,dx,dy]=1)=false;exact decide_eq_false q);simp only[aL];simp only[nn,cA,List.cons_append,List.nil_append,Bool.or_eq_true,aY,ne_eq];all_goals ((repeat' refine And.intro ?_ ?_)<;>first|with_reducible rfl|with_reducible trivial)
 refine aQ eC (fun h4=>?_) (fun h4=>?_)
 ·skip
  refine aP aIe ?_
  unfold dF at h0;unfold dI at h1;unfold dN at h2;unfold dU at h3;unfold eC at h4;simp only[nn,cA,List.cons_append,List.nil_append,Bool.or_eq_true,aY,ne_eq]at h0 h4;rw[(show G 82 [L,(i:Int),2]=sp ((Lc.dec L).getD i []) 1 from eY L i 1)]at h4;have q:¬G 60 [L,n,dx,dy]=1:=iZ hN (by omega) h0 (fun z=>absurd h4 (Int.not_lt.2 (iF.1 z).2.1.2));clear h0 h1 h2 h3 h4;simp only[bD];refine⟨?_,bF (by simp),?_⟩;(· show decide (G 60 [L,n,dx,dy]=1)=false;exact decide_eq_false q);simp only[aL];simp only[nn,cA,List.cons_append,List.nil_append,Bool.or_eq_true,aY,ne_eq];all_goals ((repeat' refine And.intro ?_ ?_)<;>first|with_reducible rfl|with_reducible trivial)
 refine aQ eP (fun h5=>?_) (fun h5=>?_)
 ·skip
  refine aP aFF ?_
  unfold dF at h0;unfold dI at h1;unfold dN at h2;unfold dU at h3;unfold eC at h4;unfold eP at h5;simp only[nn,cA,List.cons_append,List.nil_append,Bool.or_eq_true,aY,ne_eq]at h0 h5;rw[(show G 82 [L,(i:Int),3]=sp ((Lc.dec L).getD i []) 2 from eY L i 2)]at h5;have q:¬G 60 [L,n,dx,dy]=1:=iZ hN (by omega) h0 (fun z=>absurd h5 (Int.not_lt.2 (iF.1 z).2.2.1.1));clear h0 h1 h2 h3 h4 h5;simp only[bD];refine⟨?_,bF (by simp),?_⟩;(· show decide (G 60 [L,n,dx,dy]=1)=false;exact decide_eq_false q);simp only[aL];simp only[nn,cA,List.cons_append,List.nil_append,Bool.or_eq_true,aY,ne_eq];all_goals ((repeat' refine And.intro ?_ ?_)<;>first|with_reducible rfl|with_reducible trivial)
 refine aQ fF (fun h6=>?_) (fun h6=>?_)
 ·skip
  refine aP aGQ ?_
  unfold dF at h0;unfold dI at h1;unfold dN at h2;unfold dU at h3;unfold eC at h4;unfold eP at h5;unfold fF at h6;simp only[nn,cA,List.cons_append,List.nil_append,Bool.or_eq_true,aY,ne_eq]at h0 h6;rw[(show G 82 [L,(i:Int),3]=sp ((Lc.dec L).getD i []) 2 from eY L i 2)]at h6;have q:¬G 60 [L,n,dx,dy]=1:=iZ hN (by omega) h0 (fun z=>absurd h6 (Int.not_lt.2 (iF.1 z).2.2.1.2));clear h0 h1 h2 h3 h4 h5 h6;simp only[bD];refine⟨?_,bF (by simp),?_⟩;(· show decide (G 60 [L,n,dx,dy]=1)=false;exact decide_eq_false q);simp only[aL];simp only[nn,cA,List.cons_append,List.nil_append,Bool.or_eq_true,aY,ne_eq];all_goals ((repeat' refine And.intro ?_ ?_)<;>first|with_reducible rfl|with_reducible trivial)
 refine aQ fU (fun h7=>?_) (fun h7=>?_)
 ·skip
  refine aP aGB ?_
  unfold dF at h0;unfold dI at h1;unfold dN at h2;unfold dU at h3;unfold eC at h4;unfold eP at h5;unfold fF at h6;unfold fU at h7;simp only[nn,cA,List.cons_append,List.nil_append,Bool.or_eq_true,aY,ne_eq]at h0 h7;rw[(show G 82 [L,(i:Int),4]=sp ((Lc.dec L).getD i []) 3 from eY L i 3)]at h7;have q:¬G 60 [L,n,dx,dy]=1:=iZ hN (by omega) h0 (fun z=>absurd h7 (Int.not_lt.2 (iF.1 z).2.2.2.1.1));clear h0 h1 h2 h3 h4 h5 h6 h7;simp only[bD];refine⟨?_,bF (by simp),?_⟩;(· show decide (G 60 [L,n,dx,dy]=1)=false;exact decide_eq_false q);simp only[aL];simp only[nn,cA,List.cons_append,List.nil_append,Bool.or_eq_true,aY,ne_eq];all_goals ((repeat' refine And.intro ?_ ?_)<;>first|with_reducible rfl|with_reducible trivial)
 refine aQ gR (fun h8=>?_) (fun h8=>?_)
 ·skip
  refine aP aHs ?_
  unfold dF at h0;unfold dI at h1;unfold dN at h2;unfold dU at h3;unfold eC at h4;unfold eP at h5;unfold fF at h6;unfold fU at h7;unfold gR at h8;simp only[nn,cA,List.cons_append,List.nil_append,Bool.or_eq_true,aY,ne_eq]at h0 h8;rw[(show G 82 [L,(i:Int),4]=sp ((Lc.dec L).getD i []) 3 from eY L i 3)]at h8;have q:¬G 60 [L,n,dx,dy]=1:=iZ hN (by omega) h0 (fun z=>absurd h8 (Int.not_lt.2 (iF.1 z).2.2.2.1.2));clear h0 h1 h2 h3 h4 h5 h6 h7 h8;simp only[bD];refine⟨?_,bF (by simp),?_⟩;(· show decide (G 60 [L,n,dx,dy]=1)=false;exact decide_eq_false q);simp only[aL];simp only[nn,cA,List.cons_append,List.nil_append,Bool.or_eq_true,aY,ne_eq];all_goals ((repeat' refine And.intro ?_ ?_)<;>first|with_reducible rfl|with_reducible trivial)
 refine aQ iW (fun h9=>?_) (fun h9=>?_)
 ·skip
  refine aP aHc ?_
  unfold dF at h0;unfold dI at h1;unfold dN at h2;unfold dU at h3;unfold eC at h4;unfold eP at h5;unfold fF at h6;unfold fU at h7;unfold gR at h8;unfold iW at h9;simp only[nn,cA,List.cons_append,List.nil_append,Bool.or_eq_true,aY,ne_eq]at h0 h9;rw[(show G 82 [L,(i:Int),5]=sp ((Lc.dec L).getD i []) 4 from eY L i 4)]at h9;have q:¬G 60 [L,n,dx,dy]=1:=iZ hN (by omega) h0 (fun z=>absurd h9 (Int.not_lt.2 (iF.1 z).2.2.2.2.1.1));clear h0 h1 h2 h3 h4 h5 h6 h7 h8 h9;simp only[bD];refine⟨?_,bF (by simp),?_⟩;(· show decide (G 60 [L,n,dx,dy]=1)=false;exact decide_eq_false q);simp only[aL];simp only[nn,cA,List.cons_append,List.nil_append,Bool.or_eq_true,aY,ne_eq];all_goals ((repeat' refine And.intro ?_ ?_)<;>first|with_reducible rfl|with_reducible trivial)
 refine aQ iK (fun h10=>?_) (fun h10=>?_)
 ·skip
  refine aP aGW ?_
  unfold dF at h0;unfold dI at h1;unfold dN at h2;unfold dU at h3;unfold eC at h4;unfold eP at h5;unfold fF at h6;unfold fU at h7;unfold gR at h8;unfold iW at h9;unfold iK at h10;simp only[nn,cA,List.cons_append,List.nil_append,Bool.or_eq_true,aY,ne_eq]at h0 h10;rw[(show G 82 [L,(i:Int),5]=sp ((Lc.dec L).getD i []) 4 from eY L i 4)]at h10;have q:¬G 60 [L,n,dx,dy]=1:=iZ hN (by omega) h0 (fun z=>absurd h10 (Int.not_lt.2 (iF.1 z).2.2.2.2.1.2));clear h0 h1 h2 h3 h4 h5 h6 h7 h8 h9 h10;simp only[bD];refine⟨?_,bF (by simp),?_⟩;(· show decide (G 60 [L,n,dx,dy]=1)=false;exact decide_eq_false q);simp only[aL];simp only[nn,cA,List.cons_append,List.nil_append,Bool.or_eq_true,aY,ne_eq];all_goals ((repeat' refine And.intro ?_ ?_)<;>first|with_reducible rfl|with_reducible trivial)
 refine aQ jL (fun h11=>?_) (fun h11=>?_)
 ·skip
  refine aP aHk ?_
  unfold dF at h0;unfold dI at h1;unfold dN at h2;unfold dU at h3;unfold eC at h4;unfold eP at h5;unfold fF at h6;unfold fU at h7;unfold gR at h8;unfold iW at h9;unfold iK at h10;unfold jL at h11;simp only[nn,cA,List.cons_append,List.nil_append,Bool.or_eq_true,aY,ne_eq]at h0 h11;rw[(show G 82 [L,(i:Int),6]=sp ((Lc.dec L).getD i []) 5 from eY L i 5)]at h11;have q:¬G 60 [L,n,dx,dy]=1:=iZ hN (by omega) h0 (fun z=>absurd h11 (Int.not_lt.2 (iF.1 z).2.2.2.2.2.1));clear h0 h1 h2 h3 h4 h5 h6 h7 h8 h9 h10 h11;simp only[bD];refine⟨?_,bF (by simp),?_⟩;(· show decide (G 60 [L,n,dx,dy]=1)=false;exact decide_eq_false q);simp only[aL];simp only[nn,cA,List.cons_append,List.nil_append,Bool.or_eq_true,aY,ne_eq];all_goals ((repeat' refine And.intro ?_ ?_)<;>first|with_reducible rfl|with_reducible trivial)
 refine aQ kX (fun h12=>?_) (fun h12=>?_)
 ·skip
  refine aP aFx ?_
  unfold dF at h0;unfold dI at h1;unfold dN at h2;unfold dU at h3;unfold eC at h4;unfold eP at h5;unfold fF at h6;unfold fU at h7;unfold gR at h8;unfold iW at h9;unfold iK at h10;unfold jL at h11;unfold kX at h12;simp only[nn,cA,List.cons_append,List.nil_append,Bool.or_eq_true,aY,ne_eq]at h0 h12;rw[(show G 82 [L,(i:Int),6]=sp ((Lc.dec L).getD i []) 5 from eY L i 5)]at h12;have q:¬G 60 [L,n,dx,dy]=1:=iZ hN (by omega) h0 (fun z=>absurd h12 (Int.not_lt.2 (iF.1 z).2.2.2.2.2.2));clear h0 h1 h2 h3 h4 h5 h6 h7 h8 h9 h10 h11 h12;simp only[bD];refine⟨?_,bF (by simp),?_⟩;(· show decide (G 60 [L,n,dx,dy]=1)=false;exact decide_eq_false q);simp only[aL];simp only[nn,cA,List.cons_append,List.nil_append,Bool.or_eq_true,aY,ne_eq];all_goals ((repeat' refine And.intro ?_ ?_)<;>first|with_reducible rfl|with_reducible trivial)
 refine aP aHl ?_
 unfold dF at h0;unfold dI at h1;unfold dN at h2;unfold dU at h3;unfold eC at h4;unfold eP at h5;unfold fF at h6;unfold fU at h7;unfold gR at h8;unfold iW at h9;unfold iK at h10;unfold jL at h11;unfold kX at h12;unfold aBz;simp only[nn,cA,List.cons_append,List.nil_append,Bool.or_eq_true,aY,ne_eq]at h0 h1 h2 h3 h4 h5 h6 h7 h8 h9 h10 h11 h12;have hlt:(i:Int)<((Lc.dec L).length:Int):=(by rw[←hN];exact h0);have q:=aLY (dx:=dx) (dy:=dy) (aKp b0 h0) hlt;rw[(show G 82 [L,(i:Int),1]=sp ((Lc.dec L).getD i []) 0 from eY L i 0)]at h1 h2;rw[(show G 82 [L,(i:Int),2]=sp ((Lc.dec L).getD i []) 1 from eY L i 1)]at h3 h4;rw[(show G 82 [L,(i:Int),3]=sp ((Lc.dec L).getD i []) 2 from eY L i 2)]at h5 h6;rw[(show G 82 [L,(i:Int),4]=sp ((Lc.dec L).getD i []) 3 from eY L i 3)]at h7 h8;rw[(show G 82 [L,(i:Int),5]=sp ((Lc.dec L).getD i []) 4 from eY L i 4)]at h9 h10;rw[(show G 82 [L,(i:Int),6]=sp ((Lc.dec L).getD i []) 5 from eY L i 5)]at h11 h12;have hin:oY dx dy ((Lc.dec L).getD i []):=iF.2 ⟨⟨Int.not_lt.1 h1,Int.not_lt.1 h2⟩,⟨Int.not_lt.1 h3,Int.not_lt.1 h4⟩,⟨Int.not_lt.1 h5,Int.not_lt.1 h6⟩,⟨Int.not_lt.1 h7,Int.not_lt.1 h8⟩,⟨Int.not_lt.1 h9,Int.not_lt.1 h10⟩,⟨Int.not_lt.1 h11,Int.not_lt.1 h12⟩⟩;have hg2:=q.1.2 ⟨hi.2,hin⟩;have ec:G 91 [G 59 [L,(i:Int),dx,dy],G 84 [L,(i:Int),0],G 82 [L,(i:Int),1]+256*dx,G 82 [L,(i:Int),2]+256*dy,G 82 [L,(i:Int),3]+256*dx,G 82 [L,(i:Int),4]+256*dy,G 82 [L,(i:Int),5]+256*dx,G 82 [L,(i:Int),6]+256*dy]=G 59 [L,(i:Int)+1,dx,dy]:=(by rw[q.2,(show G 82 [L,(i:Int),1]=sp ((Lc.dec L).getD i []) 0 from eY L i 0),(show G 82 [L,(i:Int),2]=sp ((Lc.dec L).getD i []) 1 from eY L i 1),(show G 82 [L,(i:Int),3]=sp ((Lc.dec L).getD i []) 2 from eY L i 2),(show G 82 [L,(i:Int),4]=sp ((Lc.dec L).getD i []) 3 from eY L i 3),(show G 82 [L,(i:Int),5]=sp ((Lc.dec L).getD i []) 4 from eY L i 4),(show G 82 [L,(i:Int),6]=sp ((Lc.dec L).getD i []) 5 from eY L i 5),lC];rfl);have hm:n.toNat-(i+1)<n.toNat-i:=aDu h0;have hg1:((i+1:Nat):Int)≤n:=aI3 h0;clear h0 h1 h2 h3 h4 h5 h6 h7 h8 h9 h10 h11 h12 q hin;simp only[bD];refine⟨i+1,⟨hg1,hg2⟩,hm,bF (by simp),?_⟩;simp only[aL];clear hm hg1 hg2;simp only[nn,Int.natCast_add,Int.cast_ofNat_Int,Int.natCast_one,cA,List.cons_append,List.nil_append,Bool.or_eq_true,aY,ne_eq];all_goals ((repeat' refine And.intro ?_ ?_)<;>first|with_reducible exact ec|with_reducible rfl|with_reducible trivial)
theorem aNx (n dx dy L:Int) (hN:n=((Lc.dec L).length:Int)):fJ Try.prog G (bK GB) (cF (bQ Try.prog 5) 0) aMP (eK ([n,dx,dy]++[L])):=by
 intro hw _
 have hb:dQ aAj [n,dx,dy,0]:=hw
 unfold aAj at hb
 obtain⟨b0,b1,b2,_⟩:=hb
 have e:fL G (eK ([n,dx,dy]++[L])) aMP.es=cA n dx dy L 0:=by
  unfold cA
  rw[show G 59 [L,((0:Nat):Int),dx,dy]=0 from aLy L dx dy,eE]
  rfl
 rw[e]
 exact⟨n.toNat+1,dJ (ι:=Nat) (ρ:=cA n dx dy L) (ρT:=eK ([n,dx,dy]++[L])) (m:=fun i=>n.toNat-i) (Good:=fun i=>(i:Int)≤n∧G 60 [L,(i:Int),dx,dy]=1) (run:=wP Try.prog) (fun _=>rfl) fits rfl eX (fun i h=>aLM n dx dy L hN b0 b1 b2 i h.1) (fun _ _ X hX hG=>qV hX hG) (fun _ _ X hX hG=>cQ) (fun i h=>aMF n dx dy L hN b0 b1 b2 i h) (by decide) _ 0 ⟨b0.1,aLZ L dx dy⟩ (Nat.lt_succ_of_le (Nat.sub_le _ _))⟩
def zT:List (Int × Int):=[(0,40),((-32768),32767),((-32768),32767),(0,300)]
def yD:List (Int × Int):=[(0,40),((-32768),32767),((-32768),32767),(0,300),(0,4611686018427387904)]
def aOQ:St:=⟨[.any,(.int .i16 (.var 1)),(.int .i16 (.var 2)),.any,.any,.any,(.bool (.lit false)),.any,.any,.any,.any,.any,.any,(.vsl 2 1 (.lit 0) (.app 54 (.cons (.var 4) (.cons (.var 0) .nil))) (some (.app 54 (.cons (.var 4) (.cons (.var 0) .nil))))),.any,(.vsl 3 1 (.lit 0) (.app 54 (.cons (.app 59 (.cons (.var 4) (.cons (.var 0) (.cons (.var 1) (.cons (.var 2) .nil))))) (.cons (.var 0) .nil))) (some (.app 54 (.cons (.app 59 (.cons (.var 4) (.cons (.var 0) (.cons (.var 1) (.cons (.var 2) .nil))))) (.cons (.var 0) .nil))))),.any,(.int .i64 (.var 3)),.any,.any,.any,.any,.any,.any,.any,.any,.any,.any,.any,.any,.any,.any,.any,.any,.any,.any,.any,.any,.any,.any,.any,.any,.any,.any,.any,.any,.any,.any,.any,.any,.any,.any,.any,.any,.any,.any,.any,.any,.any,.any,.any,.any,.any,.any,.any,.any,.any,.any,.any,.any,.any,.any,.any,.any,.any,.any,.any,.any,.any,.any,.any,.any,.any,.any,.any,.any,.any,.any,.any,.any,.any,.any,.any,.any,.any,.any,.any,.any,.any,.any,.any,.any,.any,.any,.any,.any,.any,.any,.any,.any,.any,.any,.any,.any,.any,.any,.any,.any,.any,.any,.any,.any,.any,.any,.any,.any,.any,.any,.any,.any,.any,.any,.any,.any,.any,.any,.any,.any,.any,.any,.any,.any,.any,.any,.any,.any,.any,.any,.any,.any,.any,.any,.any,.any,.any,.any,.any,.any],[none,none,some ([.lol 2 [.int .i64,.int .i64] (.app 61 (.cons (.var 4) (.cons (.var 0) .nil))) (.app 54 (.cons (.var 4) (.cons (.var 0) .nil)))],aS+30),some ([.lol 3 [.int .i64,.int .i64] (.app 61 (.cons (.app 59 (.cons (.var 4) (.cons (.var 0) (.cons (.var 1) (.cons (.var 2) .nil))))) (.cons (.var 0) .nil))) (.app 54 (.cons (.app 59 (.cons (.var 4) (.cons (.var 0) (.cons (.var 1) (.cons (.var 2) .nil))))) (.cons (.var 0) .nil)))],aS+30)]⟩
def aOt:St:=⟨[.any,.any,.any,.any,.any,.any,(.bool (.lit false)),.any,.any,.any,.any,.any,.any,.any,.any,.any,.any,.any,.any,.any,.any,.any,.any,.any,.any,.any,.any,.any,.any,.any,.any,.any,.any,.any,.any,.any,.any,.any,.any,.any,.any,.any,.any,.any,.any,.any,.any,.any,.any,.any,.any,.any,.any,.any,.any,.any,.any,.any,.any,.any,.any,.any,.any,.any,.any,.any,.any,.any,.any,.any,.any,.any,.any,.any,.any,.any,.any,.any,.any,.any,.any,.any,.any,.any,.any,.any,.any,.any,.any,.any,.any,.any,.any,.any,.any,.any,.any,.any,.any,.any,.any,.any,.any,.any,.any,.any,.any,.any,.any,.any,.any,.any,.any,.any,.any,.any,.any,.any,.any,.any,.any,.any,.any,.any,.any,.any,.any,.any,.any,.any,.any,.any,.any,.any,.any,.any,.any,.any,.any,.any,.any,.any,.any,.any,.any,.any,.any,.any,.any,.any,.any,.any,.any,.any,.any,.any,.any,.any],[none,none,none,none]⟩
def aOS:St:=⟨[.any,(.int .i16 (.var 1)),(.int .i16 (.var 2)),.any,.any,.any,(.bool (.lit false)),.any,.any,.any,.any,.any,.any,(.vsl 2 1 (.lit 0) (.app 54 (.cons (.var 5) (.cons (.var 0) .nil))) (some (.app 54 (.cons (.var 5) (.cons (.var 0) .nil))))),.any,(.vsl 3 1 (.lit 0) (.app 54 (.cons (.app 59 (.cons (.var 5) (.cons (.var 0) (.cons (.var 1) (.cons (.var 2) .nil))))) (.cons (.var 0) .nil))) (some (.app 54 (.cons (.app 59 (.cons (.var 5) (.cons (.var 0) (.cons (.var 1) (.cons (.var 2) .nil))))) (.cons (.var 0) .nil))))),.any,(.int .i64 (.var 3)),(.int .i64 (.var 4)),.any,.any,.any,.any,.any,.any,.any,.any,.any,.any,.any,.any,.any,.any,.any,.any,.any,.any,.any,.any,.any,.any,.any,.any,.any,.any,.any,.any,.any,.any,.any,.any,.any,.any,.any,.any,.any,.any,.any,.any,.any,.any,.any,.any,.any,.any,.any,.any,.any,.any,.any,.any,.any,.any,.any,.any,.any,.any,.any,.any,.any,.any,.any,.any,.any,.any,.any,.any,.any,.any,.any,.any,.any,.any,.any,.any,.any,.any,.any,.any,.any,.any,.any,.any,.any,.any,.any,.any,.any,.any,.any,.any,.any,.any,.any,.any,.any,.any,.any,.any,.any,.any,.any,.any,.any,.any,.any,.any,.any,.any,.any,.any,.any,.any,.any,.any,.any,.any,.any,.any,.any,.any,.any,.any,.any,.any,.any,.any,.any,.any,.any,.any,.any,.any,.any,.any,.any,.any,.any],[none,none,some ([.lol 2 [.int .i64,.int .i64] (.app 61 (.cons (.var 5) (.cons (.var 0) .nil))) (.app 54 (.cons (.var 5) (.cons (.var 0) .nil)))],aS+30),some ([.lol 3 [.int .i64,.int .i64] (.app 61 (.cons (.app 59 (.cons (.var 5) (.cons (.var 0) (.cons (.var 1) (.cons (.var 2) .nil))))) (.cons (.var 0) .nil))) (.app 54 (.cons (.app 59 (.cons (.var 5) (.cons (.var 0) (.cons (.var 1) (.cons (.var 2) .nil))))) (.cons (.var 0) .nil)))],aS+30),none,none,none,none,none,none,none,none,none,none,none]⟩
def aN1:St:=⟨[.any,(.int .i16 (.var 1)),(.int .i16 (.var 2)),.any,.any,.any,(.bool (.lit false)),.any,.any,.any,.any,.any,.any,(.vsl 2 1 (.lit 0) (.app 54 (.cons (.var 4) (.cons (.var 0) .nil))) (some (.app 54 (.cons (.var 4) (.cons (.var 0) .nil))))),.any,(.vsl 3 1 (.lit 0) (.app 54 (.cons (.app 59 (.cons (.var 4) (.cons (.var 0) (.cons (.var 1) (.cons (.var 2) .nil))))) (.cons (.var 0) .nil))) (some (.app 54 (.cons (.app 59 (.cons (.var 4) (.cons (.var 0) (.cons (.var 1) (.cons (.var 2) .nil))))) (.cons (.var 0) .nil))))),.any,(.int .i64 (.var 3)),.any,.any,.any,.any,.any,.any,.any,.any,.any,.any,.any,.any,.any,.any,.any,.any,.any,.any,.any,.any,.any,.any,.any,.any,.any,.any,.any,.any,.any,.any,.any,.any,.any,.any,.any,.any,.any,.any,.any,.any,.any,.any,.any,.any,.any,.any,.any,.any,.any,.any,.any,.any,.any,.any,.any,.any,.any,.any,.any,.any,.any,.any,.any,.any,.any,.any,.any,.any,.any,.any,.any,.any,.any,.any,.any,.any,.any,.any,.any,.any,.any,.any,.any,.any,.any,.any,.any,.any,.any,.any,.any,.any,.any,.any,.any,.any,.any,.any,.any,.any,.any,.any,.any,.any,.any,.any,.any,.any,.any,.any,.any,.any,.any,.any,.any,.any,.any,.any,.any,.any,.any,.any,.any,.any,.any,.any,.any,.any,.any,.any,.any,.any,.any,.any,.any,.any,.any,.any,.any,.any],[none,none,some ([.lol 2 [.int .i64,.int .i64] (.app 61 (.cons (.var 4) (.cons (.var 0) .nil))) (.app 54 (.cons (.var 4) (.cons (.var 0) .nil)))],aS+30),some ([.lol 3 [.int .i64,.int .i64] (.app 61 (.cons (.app 59 (.cons (.var 4) (.cons (.var 0) (.cons (.var 1) (.cons (.var 2) .nil))))) (.cons (.var 0) .nil))) (.app 54 (.cons (.app 59 (.cons (.var 4) (.cons (.var 0) (.cons (.var 1) (.cons (.var 2) .nil))))) (.cons (.var 0) .nil)))],aS+30),none,none,none,none,none,none,none,none,none,none,none]⟩
def aOy:LoopS:=⟨4,15,aOS,.lit true,.exit 6,aN1,.exit 6,aN1⟩
def aNy:LoopU:=⟨aOy,[.var 0,.var 1,.var 2,.var 3,.lit 0,.var 4],yD,(.cmp .lt (.var 3) (.app 54 (.cons (.var 5) (.cons (.var 0) .nil))))⟩
def vO (P:Program) (fs:List B):Res SV:=bY G GI yD fs fun X=>gX P X GB aCb dP 4000 (cF (bQ P 5) 3) aOy
def aOj:eG:=fP 29 (eJ (bK GB) [aNy]) dP
def aNY:LoopS:=⟨3,4,aOQ,.lit true,.exit 4,aOt,.exit 4,aOt⟩
def aNR:LoopU:=⟨aNY,[.var 0,.var 1,.var 2,.lit 0,.var 3],zT,(.and (.cmp .eq (.app 55 (.cons (.var 4) (.cons (.var 0) .nil))) (.lit 1)) (.cmp .eq (.app 60 (.cons (.var 4) (.cons (.var 0) (.cons (.var 1) (.cons (.var 2) .nil))))) (.lit 1)))⟩
def xC (P:Program) (fs:List B):Res SV:=bY G GI zT fs fun X=>gX P X GB aCb aOj 4000 (cF (bQ P 5) 2) aNY
end Go.Proofs.Ythiehfhphgkaeaa
set_option maxRecDepth 100000
namespace Go.Proofs.Ythiehfhphgkaeaa
open Go Go.RowKit Sx Wi
def aEk (P:Program) (fs:List B):Res SV:=xC P fs
def aBe:List B:=[]
def jR:B:=(.cmp .lt (.var 3) (.app 54 (.cons (.var 4) (.cons (.var 0) .nil))))
def aI5:List B:=aW jR++aBe
def nO:B:=(.cmp .lt (.var 3) (.app 54 (.cons (.app 59 (.cons (.var 4) (.cons (.var 0) (.cons (.var 1) (.cons (.var 2) .nil))))) (.cons (.var 0) .nil))))
def aKk:List B:=aW nO++aI5
def qP:B:=(.cmp .eq (.app 90 (.cons (.app 88 (.cons (.app 61 (.cons (.var 4) (.cons (.var 0) .nil))) (.cons (.var 3) (.cons (.lit 0) .nil)))) .nil)) (.app 90 (.cons (.app 88 (.cons (.app 61 (.cons (.app 59 (.cons (.var 4) (.cons (.var 0) (.cons (.var 1) (.cons (.var 2) .nil))))) (.cons (.var 0) .nil))) (.cons (.var 3) (.cons (.lit 0) .nil)))) .nil)))
def aJL:List B:=aW qP++aKk
def aCl:SV:=(.agg [(.int .i64 (.app 54 (.cons (.var 4) (.cons (.var 0) .nil)))),(.int .i64 (.app 54 (.cons (.var 4) (.cons (.var 0) .nil)))),(.int .i64 (.app 54 (.cons (.var 4) (.cons (.var 0) .nil)))),(.int .i64 (.app 54 (.cons (.var 4) (.cons (.var 0) .nil)))),(.int .i64 (.app 54 (.cons (.app 59 (.cons (.var 4) (.cons (.var 0) (.cons (.var 1) (.cons (.var 2) .nil))))) (.cons (.var 0) .nil)))),(.int .i64 (.app 54 (.cons (.app 59 (.cons (.var 4) (.cons (.var 0) (.cons (.var 1) (.cons (.var 2) .nil))))) (.cons (.var 0) .nil)))),(.int .i64 (.app 54 (.cons (.app 59 (.cons (.var 4) (.cons (.var 0) (.cons (.var 1) (.cons (.var 2) .nil))))) (.cons (.var 0) .nil)))),(.int .i64 (.app 54 (.cons (.app 59 (.cons (.var 4) (.cons (.var 0) (.cons (.var 1) (.cons (.var 2) .nil))))) (.cons (.var 0) .nil)))),(.int .i64 (.op .add (.var 3) (.lit 1))),(.int .i64 (.var 3)),(.int .i64 (.app 61 (.cons (.var 4) (.cons (.var 0) .nil)))),(.int .i64 (.app 61 (.cons (.var 4) (.cons (.var 0) .nil)))),(.int .i64 (.app 54 (.cons (.var 4) (.cons (.var 0) .nil)))),(.int .i64 (.app 54 (.cons (.var 4) (.cons (.var 0) .nil)))),(.int .i64 (.app 61 (.cons (.app 59 (.cons (.var 4) (.cons (.var 0) (.cons (.var 1) (.cons (.var 2) .nil))))) (.cons (.var 0) .nil)))),(.int .i64 (.app 61 (.cons (.app 59 (.cons (.var 4) (.cons (.var 0) (.cons (.var 1) (.cons (.var 2) .nil))))) (.cons (.var 0) .nil)))),(.int .i64 (.app 54 (.cons (.app 59 (.cons (.var 4) (.cons (.var 0) (.cons (.var 1) (.cons (.var 2) .nil))))) (.cons (.var 0) .nil)))),(.int .i64 (.app 54 (.cons (.app 59 (.cons (.var 4) (.cons (.var 0) (.cons (.var 1) (.cons (.var 2) .nil))))) (.cons (.var 0) .nil))))])
def aKq:List B:=aW (B.neg jR)++aBe
theorem aIq:aEk Try.prog aJL = .ok aCl:=by kernel_rfl
theorem aJE:aEk Try.prog aKq = .ok (.tuple [(.agg []),(.bool (.lit true))]):=by kernel_rfl
end Go.Proofs.Ythiehfhphgkaeaa
