/- What is proved: a path's lines,one behind the other,and those of a path behind another one,in plain Lean. No condition but those that are stated. -/
import Derived.Test.YthiehfhphgkaeaaQa4
import Derived.Test.YthiehfhphgkaeaaQa1
import Derived.Test.YthiehfhphgkaeaaQg4
import Derived.Test.YthiehfhphgkaeaaProg
import Derived.Test.YthiehfhphgkaeaaQa2
set_option linter.unusedSimpArgs false
set_option linter.unusedVariables false
namespace Go.Proofs.Ythiehfhphgkaeaa
open Go Go.RowKit Sx Wi
def xK (l:List (List (List Int))):List (List Int):=l.map fun l=>[Lc.enc (cA l).1]
theorem g61 (L N:Int):G 61 [L,N]=Lc.enc (xK (bH 300 (aF L 0 N))):=rfl
def lY (L N:Int) (c:Nat):Int:=Lc.enc (xK ((bH 300 (aF L 0 N)).take c))
def tG (L N:Int) (p:Nat × Nat):Prop:=gJ L N p∧(bH 300 (aF L 0 N)).drop p.2=bH 300 ((aF L 0 N).drop p.1)
theorem aIZ {L N:Int} (h0:0≤N):tG L N (0,0):=⟨aJU h0,rfl⟩
theorem aIY (L N:Int):lY L N 0=0:=rfl
section
variable {L N:Int} {off c:Nat}
theorem aL4 (hN:N=((Lc.dec L).length:Int)) (hb:N≤256) (ho:¬(off:Int)<N) (hg:tG L N (off,c)):lY L N c=G 61 [L,N]:=by
 obtain⟨hg,h2⟩:=hg
 have hd:(aF L 0 N).drop off=[]:=by
  apply List.drop_eq_nil_of_le
  rw[bX (by omega) (by omega) (by omega)]
  have:=hg.1
  simp only at this
  omega
 simp only[hd]at h2
 have h3:(bH 300 (aF L 0 N)).drop c=[]:=h2
 rw[g61]
 unfold lY
 rw[List.take_of_length_le (List.drop_eq_nil_iff.1 h3)]
theorem aDt (hN:N=((Lc.dec L).length:Int)) (hb:N≤256) (ho:(off:Int)<N) (hg:tG L N (off,c)) {m:Int} (hm:m=(aX (aF L ((off:Int)+1) (N-off-1)):Int)+1):
  G 91 [lY L N c,G 50 [L,(off:Int),m]]=lY L N (c+1)∧(bH 300 (aF L 0 N)).drop (c+1)=bH 300 (eA ((aF L ((off:Int)+1) (N-off-1)).drop (aX (aF L ((off:Int)+1) (N-off-1))))):=by
 obtain⟨hg,h2⟩:=hg
 simp only at h2
 have hs:=zQ hN hb ho
 rw[←aAZ hN hb ho _ (lV _),←hm]at hs
 rw[hs]at h2
 have hlt:c<(bH 300 (aF L 0 N)).length:=by
  rcases Nat.lt_or_ge c (bH 300 (aF L 0 N)).length with q|q
  ·exact q
  ·rw[List.drop_eq_nil_of_le q]at h2;cases h2
 rw[List.drop_eq_getElem_cons hlt]at h2
 obtain⟨e1,e2⟩:=List.cons.inj h2
 refine⟨?_,e2⟩
 unfold lY
 rw[iT iZ,List.take_add_one,List.getElem?_eq_getElem hlt,e1]
 congr 1
 unfold xK
 rw[List.map_append]
 rfl
theorem aJP (hN:N=((Lc.dec L).length:Int)) (hb:N≤256) (ho:(off:Int)<N) (hg:tG L N (off,c)) (hk:G 84 [L,(off:Int),0]=0) (hA:G 53 [L,(off:Int)+1,N-off-1]+1=0) (h56:G 56 [L,(off:Int),N-off]<0):
  tG L N (N.toNat,c+1)∧G 91 [lY L N c,G 50 [L,(off:Int),N-off]]=lY L N (c+1):=by
 have hc:=aAl hN hb ho hA
 have hl:=gF hN hb ho
 obtain⟨q1,q2⟩:=aDt hN hb ho hg (m:=N-off) (by omega)
 refine⟨⟨aJB hN hb ho hg.1 hk hA h56,?_⟩,q1⟩
 simp only
 rw[q2,hc,List.drop_eq_nil_of_le (Nat.le_refl _),List.drop_eq_nil_of_le (by rw[bX (by omega) (by omega) (by omega)];omega)]
 rfl
theorem uA (hN:N=((Lc.dec L).length:Int)) (hb:N≤256) (ho:(off:Int)<N) (hg:tG L N (off,c)) (hk:G 84 [L,(off:Int),0]=0) (hB:¬G 53 [L,(off:Int)+1,N-off-1]+1=0) (h56:G 56 [L,(off:Int),G 53 [L,(off:Int)+1,N-off-1]+1]<0):
  let R:=G 53 [L,(off:Int)+1,N-off-1]+1
  0<R∧(off:Int)+R<N∧G 91 [lY L N c,G 50 [L,(off:Int),R]]=lY L N (c+1)∧(G 84 [L,(off:Int)+R,0]=3→tG L N (((off:Int)+R+1).toNat,c+1))∧(¬G 84 [L,(off:Int)+R,0]=3→tG L N (((off:Int)+R).toNat,c+1)):=by
 intro R
 obtain⟨e1,e2⟩:=pL hN hb ho hB
 have hl:=gF hN hb ho
 obtain⟨d1,d2⟩:=aA3 hN hb ho e2
 obtain⟨p1,p2,p3,p4⟩:=aJE hN hb ho hg.1 hk hB h56
 have hR:R=(aX (aF L ((off:Int)+1) (N-off-1)):Int)+1:=by show G 53 _+1=_;rw[e1]
 obtain⟨q1,q2⟩:=aDt hN hb ho hg hR
 have eo:(off:Int)+R=((off+1+aX (aF L ((off:Int)+1) (N-off-1)):Nat):Int):=by rw[hR];omega
 refine⟨p1,p2,q1,fun h3=>⟨p3 h3,?_⟩,fun h3=>⟨p4 h3,?_⟩⟩
 ·rw[eo,kL]at h3
  simp only
  rw[q2,d1,show ((off:Int)+R+1).toNat=off+1+aX (aF L ((off:Int)+1) (N-off-1))+1 by omega,gQ h3]
 ·rw[eo,kL]at h3
  simp only
  rw[q2,d1,show ((off:Int)+R).toNat=off+1+aX (aF L ((off:Int)+1) (N-off-1))by omega,d2,iY h3]
end
theorem vF:∀ a b:List (List Int),aX (a++b)=if aX a<a.length then aX a else a.length+aX b
 |[],b=>by simp [aX]
 |r::rs,b=>by
  by_cases h:sk r=0∨sk r=3
  ·have e1:aX (r::rs)=0:=by unfold aX;rw[if_pos h]
   have e2:aX (r::rs++b)=0:=by show aX (r::(rs++b))=0;unfold aX;rw[if_pos h]
   rw[e1,e2,if_pos (by simp)]
  ·have e1:aX (r::rs)=aX rs+1:=by rw[aX,if_neg h]
   have e2:aX (r::rs++b)=aX (rs++b)+1:=by show aX (r::(rs++b))=_;rw[aX,if_neg h]
   rw[e1,e2,vF rs b]
   simp only[List.length_cons]
   split<;>split<;>omega
theorem zA (l m:List (List Int)) (h:l≠[]):eA (l++m)=eA l++m:=by
 cases l with
 |nil=>exact absurd rfl h
 |cons q qs=>
  by_cases hq:sk q=3
  ·rw[gQ hq,List.cons_append,gQ hq]
  ·rw[iY hq,List.cons_append,iY hq]
theorem qY:∀ f:Nat,bH f []=[]
 |0=>rfl
 |_+1=>rfl
theorem aBV:∀ (f:Nat) (l m:List (List Int)),(l++m).length≤f→(∀ q,m.head?=some q→sk q=0)→bH f (l++m)=bH f l++bH f m
 |f,[],m,_,_=>by rw[List.nil_append,qY,List.nil_append]
 |0,r::rs,m,h,_=>by simp at h
 |f+1,r::rs,m,h,hm=>by
  have hl:rs.length+m.length≤f:=by simp only[List.cons_append,List.length_cons,List.length_append]at h;omega
  have em:bH (f+1) m=bH f m:=lN f m (by omega)
  show (r::(rs++m).take (aX (rs++m)))::bH f (eA ((rs++m).drop (aX (rs++m))))=((r::rs.take (aX rs))::bH f (eA (rs.drop (aX rs))))++bH (f+1) m
  rw[em,vF]
  have hle:=lV rs
  by_cases hc:aX rs<rs.length
  ·rw[if_pos hc,List.take_append_of_le_length hle,List.drop_append_of_le_length hle,zA _ _ (by intro q;rw[List.drop_eq_nil_iff]at q;omega)]
   have h1:=kR (rs.drop (aX rs))
   rw[List.length_drop]at h1
   rw[aBV f _ m (by rw[List.length_append];omega) hm,List.cons_append]
  ·have hcl:aX rs=rs.length:=by omega
   have hm0:aX m=0∧eA m=m:=by
    cases m with
    |nil=>exact⟨rfl,rfl⟩
    |cons q qs=>
     have:=hm q rfl
     exact⟨by unfold aX;rw[if_pos (.inl this)],iY (by omega)⟩
   rw[if_neg hc,hm0.1,hcl,Nat.add_zero,List.take_left,List.drop_left,List.take_length,List.drop_length,hm0.2]
   show _=(r::rs)::(bH f []++bH f m)
   rw[qY,List.nil_append]
theorem yZ {s:List Int} {m:List (List Int)} (hs:sk s=3):∀ (f:Nat) (l:List (List Int)),(l++s::m).length≤f→l≠[]→(∀ q,l.getLast?=some q→¬sk q=3)→bH f (l++s::m)=bH f l++bH f m
 |_,[],_,h,_=>absurd rfl h
 |0,r::rs,h,_,_=>by simp at h
 |f+1,r::rs,h,_,hq=>by
  have hl:rs.length+m.length+1≤f:=by simp only[List.cons_append,List.length_cons,List.length_append]at h;omega
  have em:bH (f+1) m=bH f m:=lN f m (by omega)
  show (r::(rs++s::m).take (aX (rs++s::m)))::bH f (eA ((rs++s::m).drop (aX (rs++s::m))))=((r::rs.take (aX rs))::bH f (eA (rs.drop (aX rs))))++bH (f+1) m
  rw[em,vF]
  have hle:=lV rs
  by_cases hc:aX rs<rs.length
  ·have hne:rs.drop (aX rs)≠[]:=by intro q;rw[List.drop_eq_nil_iff]at q;omega
   have hlast:(rs.drop (aX rs)).getLast?=(r::rs).getLast?:=by
    rw[List.getLast?_drop,if_neg (by omega)]
    cases rs with
    |nil=>simp at hc
    |cons x xs=>rw[List.getLast?_cons_cons]
   rw[if_pos hc,List.take_append_of_le_length hle,List.drop_append_of_le_length hle,zA _ _ hne]
   have h1:=kR (rs.drop (aX rs))
   rw[List.length_drop]at h1
   have h2:eA (rs.drop (aX rs))≠[]∧∀ q,(eA (rs.drop (aX rs))).getLast?=some q→¬sk q=3:=by
    rw[←hlast]at hq
    cases hd:rs.drop (aX rs)with
    |nil=>exact absurd hd hne
    |cons q qs=>
     rw[hd]at hq
     by_cases hk:sk q=3
     ·rw[gQ hk]
      cases qs with
      |nil=>exact absurd hk (hq q rfl)
      |cons y ys=>exact⟨by simp,fun z hz=>hq z (by rw[List.getLast?_cons_cons];exact hz)⟩
     ·rw[iY hk]
      exact⟨by simp,hq⟩
   rw[yZ hs f _ (by rw[List.length_append,List.length_cons];omega) h2.1 h2.2,List.cons_append]
  ·have hcl:aX rs=rs.length:=by omega
   have hs0:aX (s::m)=0:=by unfold aX;rw[if_pos (.inr hs)]
   rw[if_neg hc,hs0,hcl,Nat.add_zero,List.take_left,List.drop_left,List.take_length,List.drop_length,gQ hs]
   show _=(r::rs)::(bH f []++bH f m)
   rw[qY,List.nil_append]
def flP (p:Bool) (l:List (List Int)):Bool:=l.foldl (fun _ r=>decide (sk r=3)) p
theorem tH:∀ (p:Bool) (l m:List (List Int)),pD p (l++m)=(pD p l && pD (flP p l) m)
 |p,[],m=>by simp [pD,flP]
 |p,r::rs,m=>by
  show (_ && pD (decide (sk r=3)) (rs++m))=(_ && pD (decide (sk r=3)) rs && pD (flP (decide (sk r=3)) rs) m)
  rw[tH]
  simp only[Bool.and_assoc]
theorem aKd {p:Bool} {m:List (List Int)} (h:pD true m=true):pD p m=true:=by
 cases m with
 |nil=>rfl
 |cons q qs=>
  cases p
  ·unfold pD at h ⊢
   simp only[Bool.and_eq_true,Bool.or_eq_true,Bool.not_true,Bool.false_eq_true,or_false,Bool.not_false,or_true,and_true]at h ⊢
   exact⟨h.1.1,h.2⟩
  ·exact h
theorem aIK {m:List (List Int)} (h:pD true m=true):∀ q,m.head?=some q→sk q=0:=by
 intro q hq
 cases m with
 |nil=>cases hq
 |cons r rs=>
  cases hq
  unfold pD at h
  simp only[Bool.and_eq_true,Bool.or_eq_true,decide_eq_true_eq,Bool.not_true,Bool.false_eq_true,or_false]at h
  exact h.1.2
theorem aBl:∀ (p:Bool) (l:List (List Int)) (q:List Int),l.getLast?=some q→flP p l=decide (sk q=3)
 |p,[],q,h=>by cases h
 |p,[r],q,h=>by cases h;rfl
 |p,r::x::xs,q,h=>by
  rw[List.getLast?_cons_cons]at h
  show flP (decide (sk r=3)) (x::xs)=_
  exact aBl _ (x::xs) q h
theorem uY {X k:Int} (hk:k=((Lc.dec X).length:Int)) (hb:k≤300):aF X 0 k=Lc.dec X:=by
 unfold aF
 rw[show (0:Int).toNat=0 from rfl,List.drop_zero,List.take_of_length_le (by omega)]
theorem aBj {X k:Int} (hk:k=((Lc.dec X).length:Int)) (hb:k≤300):G 55 [X,k]=1↔pD true (Lc.dec X)=true:=by
 rw[(aLk (L:=X) (N:=k) (by omega)).1,uY hk hb]
 split
 ·rename_i h;simp [h]
 ·rename_i h;simp [h]
theorem g54 {X k:Int} (hk:k=((Lc.dec X).length:Int)) (hb:k≤300):G 54 [X,k]=((bH 300 (Lc.dec X)).length:Int):=by
 show (((bH 300 (aF X 0 k)).length:Nat):Int)=_
 rw[uY hk hb]
theorem aFU {X k:Int} (hk:k=((Lc.dec X).length:Int)) (hb:k≤300):G 61 [X,k]=Lc.enc (xK (bH 300 (Lc.dec X))):=by
 rw[g61,uY hk hb]
section
variable {L M X n m:Int}
theorem aAq (hn:n=((Lc.dec L).length:Int)) (hm:m=((Lc.dec M).length:Int)) (h1:n≤100) (h2:m≤100) (hX:Lc.dec X=Lc.dec L++Lc.dec M) {k:Int} (hk:k=n+m) (h:G 55 [X,k]=1):G 55 [L,n]=1:=by
 rw[aBj (by rw[hX,List.length_append];omega) (by omega),hX,tH,Bool.and_eq_true]at h
 rw[aBj hn (by omega)]
 exact h.1
theorem jA (hn:n=((Lc.dec L).length:Int)) (hm:m=((Lc.dec M).length:Int)) (h1:n≤100) (h2:m≤100) (hX:Lc.dec X=Lc.dec L++Lc.dec M) {k:Int} (hk:k=n+m) (a:G 55 [L,n]=1) (b:G 55 [M,m]=1):
  G 55 [X,k]=1∧G 54 [X,k]=G 54 [L,n]+G 54 [M,m]∧Lc.dec (G 61 [X,k])=Lc.dec (G 61 [L,n])++Lc.dec (G 61 [M,m]):=by
 have hlen:k=((Lc.dec X).length:Int):=by rw[hX,List.length_append];omega
 rw[aBj hn (by omega)]at a
 rw[aBj hm (by omega)]at b
 have e:=aBV 300 (Lc.dec L) (Lc.dec M) (by rw[List.length_append];omega) (aIK b)
 rw[aBj hlen (by omega),g54 hlen (by omega),g54 hn (by omega),g54 hm (by omega),aFU hlen (by omega),aFU hn (by omega),aFU hm (by omega),hX,tH,a,e]
 refine⟨by rw[aKd b];rfl,by rw[List.length_append];omega,?_⟩
 rw[Lc.dec_enc,Lc.dec_enc,Lc.dec_enc]
 unfold xK
 rw[List.map_append]
theorem pU (hn:n=((Lc.dec L).length:Int)) (hm:m=((Lc.dec M).length:Int)) (h1:n≤100) (h2:m≤100) {s:List Int} (hs:sk s=3) (hX:Lc.dec X=Lc.dec L++s::Lc.dec M) {k:Int} (hk:k=n+1+m) (h0:1≤n) (hl:¬G 84 [L,n-1,0]=3) (a:G 55 [L,n]=1) (b:G 55 [M,m]=1):
  G 55 [X,k]=1∧G 54 [X,k]=G 54 [L,n]+G 54 [M,m]∧Lc.dec (G 61 [X,k])=Lc.dec (G 61 [L,n])++Lc.dec (G 61 [M,m]):=by
 have hlen:k=((Lc.dec X).length:Int):=by rw[hX,List.length_append,List.length_cons];omega
 rw[aBj hn (by omega)]at a
 rw[aBj hm (by omega)]at b
 have hne:Lc.dec L≠[]:=by intro q;rw[q]at hn;simp at hn;omega
 have hlast:∀ q,(Lc.dec L).getLast?=some q→¬sk q=3:=by
  intro q hq h3
  apply hl
  have e:n-1=(((Lc.dec L).length-1:Nat):Int):=by omega
  rw[e,kL]
  rw[List.getLast?_eq_getElem?]at hq
  rw[List.getD_eq_getElem?_getD,hq]
  exact h3
 have e:=yZ (m:=Lc.dec M) hs 300 (Lc.dec L) (by rw[List.length_append,List.length_cons];omega) hne hlast
 rw[aBj hlen (by omega),g54 hlen (by omega),g54 hn (by omega),g54 hm (by omega),aFU hlen (by omega),aFU hn (by omega),aFU hm (by omega),hX,tH,a,e]
 refine⟨?_,by rw[List.length_append];omega,?_⟩
 ·obtain⟨q,hq⟩:∃ q,(Lc.dec L).getLast?=some q:=by
   cases h:(Lc.dec L).getLast? with
   |none=>exact absurd (List.getLast?_eq_none_iff.1 h) hne
   |some q=>exact⟨q,rfl⟩
  rw[aBl true _ q hq,decide_eq_false (hlast q hq)]
  unfold pD
  rw[hs]
  simpa using b
 ·rw[Lc.dec_enc,Lc.dec_enc,Lc.dec_enc]
  unfold xK
  rw[List.map_append]
end
theorem pY (a b:Int):Lc.dec (G 94 [a,b])=Lc.dec a++Lc.dec b:=by
 rw[iZ 94 _ (by decide) (by decide)]
 show Lc.dec (Lc.enc _)=_
 rw[Lc.dec_enc]
theorem aJv (a:Int) (r:List Int):Lc.dec (G 91 (a::r))=Lc.dec a++[r]:=by
 rw[iZ 91 _ (by decide) (by decide)]
 show Lc.dec (Lc.enc _)=_
 rw[Lc.dec_enc]
theorem jY (L M:Int):Lc.dec (G 94 [G 94 [0,L],M])=Lc.dec L++Lc.dec M:=by
 rw[pY,pY,Lc.dec_zero,List.nil_append]
theorem aAi (L M:Int) (s:List Int):Lc.dec (G 94 [G 91 (G 94 [0,L]::s),M])=Lc.dec L++s::Lc.dec M:=by
 rw[pY,aJv,pY,Lc.dec_zero,List.nil_append,List.append_assoc]
 rfl
theorem aAc {L M X n m k:Int} (h:Lc.dec (G 61 [X,k])=Lc.dec (G 61 [L,n])++Lc.dec (G 61 [M,m])):G 61 [X,k]=G 94 [G 94 [0,G 61 [L,n]],G 61 [M,m]]:=by
 rw[iZ 94 _ (by decide) (by decide)]
 show _=Lc.enc (Lc.dec (G 94 [0,G 61 [L,n]])++Lc.dec (G 61 [M,m]))
 rw[pY,Lc.dec_zero,List.nil_append,←h,g61,Lc.dec_enc]
theorem gY {n m:Int} (h0:¬100<n) (h1:¬100<m):n≤256∧m≤256∧n+m≤256∧n+1+m≤256:=by omega
theorem tK:sk [3,1,2,0,0,0,0]=3:=by decide
end Go.Proofs.Ythiehfhphgkaeaa
namespace Go.Proofs.Ythiehfhphgkaeaa
open Go Go.RowKit Sx Wi
def cG (N L:Int) (p:Nat × Nat):Nat→Int:=eT ([N]++[(p.1:Int),(p.2:Int),lY L N p.2,L])
theorem aKL (N L:Int) (b0:0≤N∧N≤256) (hN:N=((Lc.dec L).length:Int)) (p:Nat × Nat) (hp:tG L N p):∀ k q,aDE[k]?=some q→q.1≤cG N L p k∧cG N L p k≤q.2:=by
 have h:=aIO b0 hN hp.1
 unfold cG aDE
 exact cQ (xs:=[N,(p.1:Int),(p.2:Int)]) (ls:=[lY L N p.2,L]) (by exact⟨b0,by have:=hp.1.1;omega,by omega,trivial⟩)
set_option maxHeartbeats 4000000 in
set_option maxRecDepth 100000 in
theorem aLQ (N L:Int) (b0:0≤N∧N≤256) (hN:N=((Lc.dec L).length:Int)) (p:Nat × Nat) (hp:tG L N p):Sx.Way (vT Try.prog) G (cG N L p) (bV G (cG N L) (eT ([N]++[L])) 1 aMo.b (tG L N) (fun p=>N.toNat-p.1) p) []:=by
 refine aS cS (fun h0=>?_) (fun h0=>?_)
 rotate_left
 ·skip
  refine aQ aGl ?_
  unfold cS at h0;unfold aBR;have hg:=hp.1;simp only[nn,cG,List.cons_append,List.nil_append,Bool.or_eq_true,bF,ne_eq]at h0;have q:=aMv hN b0.2 (by omega) hg;have qe:=aL4 hN b0.2 (by omega) hp;clear h0;simp only[bV];refine⟨?_,cJ (by simp),?_⟩;(· show decide (G 55 [L,N]=1)=true;exact decide_eq_true q.2);simp only[aR];simp only[nn,cG,List.cons_append,List.nil_append,Bool.or_eq_true,bF,ne_eq];(repeat' refine And.intro ?_ ?_)<;>first|with_reducible exact q.1|with_reducible exact qe|with_reducible rfl|with_reducible trivial
 refine aS dC (fun h1=>?_) (fun h1=>?_)
 rotate_left
 ·skip
  refine bI ?_
  unfold cS at h0;unfold dC at h1;have hg:=hp.1;simp only[nn,cG,List.cons_append,List.nil_append,Bool.or_eq_true,bF,ne_eq]at h0 h1;omega
 refine aS dA (fun h2=>?_) (fun h2=>?_)
 ·skip
  refine aS dD (fun h3=>?_) (fun h3=>?_)
  rotate_left
  ·skip
   refine bI ?_
   unfold cS at h0;unfold dC at h1;unfold dA at h2;unfold dD at h3;have hg:=hp.1;simp only[nn,cG,List.cons_append,List.nil_append,Bool.or_eq_true,bF,ne_eq]at h0 h1 h2 h3;first|(have q:=wN hN b0.2 (by clear h1 h2 h3;omega) h2;generalize G 53 [L,(p.1:Int)+1,N-(p.1:Int)-1]=R at *;clear hp hg;omega)|(clear h2;omega)
  refine aS dE (fun h4=>?_) (fun h4=>?_)
  rotate_left
  ·skip
   refine aQ aFB ?_
   unfold cS at h0;unfold dC at h1;unfold dA at h2;unfold dD at h3;unfold dE at h4;have hg:=hp.1;simp only[nn,cG,List.cons_append,List.nil_append,Bool.or_eq_true,bF,ne_eq]at h0 h1 h2 h3 h4;have q:¬G 55 [L,N]=1:=aDJ hN b0.2 (by clear h1 h2 h3 h4;omega) hg h2 (.inl h4);clear h0 h1 h2 h3 h4;simp only[bV];refine⟨?_,cJ (by simp),?_⟩;(· show decide (G 55 [L,N]=1)=false;exact decide_eq_false q);simp only[aR];simp only[nn,cG,List.cons_append,List.nil_append,Bool.or_eq_true,bF,ne_eq];all_goals ((repeat' refine And.intro ?_ ?_)<;>first|with_reducible rfl|with_reducible trivial)
  refine aS kP (fun h5=>?_) (fun h5=>?_)
  rotate_left
  ·skip
   refine bI ?_
   unfold cS at h0;unfold dC at h1;unfold dA at h2;unfold dD at h3;unfold dE at h4;unfold kP at h5;have hg:=hp.1;simp only[nn,cG,List.cons_append,List.nil_append,Bool.or_eq_true,bF,ne_eq]at h0 h1 h2 h3 h4 h5;first|(have q:=wN hN b0.2 (by clear h1 h2 h3 h4 h5;omega) h2;generalize G 53 [L,(p.1:Int)+1,N-(p.1:Int)-1]=R at *;clear hp hg h5;omega)|(clear h2 h3 h4;omega)
  refine aS kV (fun h6=>?_) (fun h6=>?_)
  rotate_left
  ·skip
   refine aQ aGe ?_
   unfold cS at h0;unfold dC at h1;unfold dA at h2;unfold dD at h3;unfold dE at h4;unfold kP at h5;unfold kV at h6;have hg:=hp.1;simp only[nn,cG,List.cons_append,List.nil_append,Bool.or_eq_true,bF,ne_eq]at h0 h1 h2 h3 h4 h5 h6;have q:¬G 55 [L,N]=1:=aDJ hN b0.2 (by clear h1 h2 h3 h4 h5 h6;omega) hg h2 (.inr h6);clear h0 h1 h2 h3 h4 h5 h6;simp only[bV];refine⟨?_,cJ (by simp),?_⟩;(· show decide (G 55 [L,N]=1)=false;exact decide_eq_false q);simp only[aR];simp only[nn,cG,List.cons_append,List.nil_append,Bool.or_eq_true,bF,ne_eq];all_goals ((repeat' refine And.intro ?_ ?_)<;>first|with_reducible rfl|with_reducible trivial)
  refine aS pH (fun h7=>?_) (fun h7=>?_)
  ·skip
   refine bI ?_
   unfold cS at h0;unfold dC at h1;unfold dA at h2;unfold dD at h3;unfold dE at h4;unfold kP at h5;unfold kV at h6;unfold pH at h7;have hg:=hp.1;simp only[nn,cG,List.cons_append,List.nil_append,Bool.or_eq_true,bF,ne_eq]at h0 h1 h2 h3 h4 h5 h6 h7;first|(have q:=wN hN b0.2 (by clear h1 h2 h3 h4 h5 h6 h7;omega) h2;generalize G 53 [L,(p.1:Int)+1,N-(p.1:Int)-1]=R at *;clear hp hg h5 h7;omega)|(clear h2 h3 h4 h5 h6;omega)
  refine aQ aJG ?_
  unfold cS at h0;unfold dC at h1;unfold dA at h2;unfold dD at h3;unfold dE at h4;unfold kP at h5;unfold kV at h6;unfold pH at h7;unfold aBt;have hg:=hp.1;simp only[nn,cG,List.cons_append,List.nil_append,Bool.or_eq_true,bF,ne_eq]at h0 h1 h2 h3 h4 h5 h6 h7;obtain⟨q,qc⟩:=aJP hN b0.2 (by clear h1 h2 h3 h4 h5 h6 h7;omega) hp h4 h2 h6;clear h1 h2 h3 h4 h5 h6 h7;have hm:N.toNat-N.toNat<N.toNat-p.1:=(by clear qc;omega);  simp only[bV];refine⟨(N.toNat,p.2+1),q,hm,cJ (by simp),?_⟩;simp only[aR];clear q hm hp hg;simp only[nn,Int.natCast_add,Int.cast_ofNat_Int,Int.natCast_one,cG,List.cons_append,List.nil_append,Bool.or_eq_true,bF,ne_eq];all_goals ((repeat' refine And.intro ?_ ?_)<;>first|with_reducible exact qc|(rw[hR];with_reducible exact qc)|with_reducible rfl|with_reducible trivial|(clear qc;omega))
 refine aS eU (fun h3=>?_) (fun h3=>?_)
 rotate_left
 ·skip
  refine bI ?_
  unfold cS at h0;unfold dC at h1;unfold dA at h2;unfold eU at h3;have hg:=hp.1;simp only[nn,cG,List.cons_append,List.nil_append,Bool.or_eq_true,bF,ne_eq]at h0 h1 h2 h3;first|(have q:=wN hN b0.2 (by clear h1 h2 h3;omega) h2;generalize G 53 [L,(p.1:Int)+1,N-(p.1:Int)-1]=R at *;clear hp hg;omega)|(clear h2;omega)
 refine aS dD (fun h4=>?_) (fun h4=>?_)
 rotate_left
 ·skip
  refine bI ?_
  unfold cS at h0;unfold dC at h1;unfold dA at h2;unfold eU at h3;unfold dD at h4;have hg:=hp.1;simp only[nn,cG,List.cons_append,List.nil_append,Bool.or_eq_true,bF,ne_eq]at h0 h1 h2 h3 h4;first|(have q:=wN hN b0.2 (by clear h1 h2 h3 h4;omega) h2;generalize G 53 [L,(p.1:Int)+1,N-(p.1:Int)-1]=R at *;clear hp hg;omega)|(clear h2 h3;omega)
 refine aS dE (fun h5=>?_) (fun h5=>?_)
 rotate_left
 ·skip
  refine aQ aGM ?_
  unfold cS at h0;unfold dC at h1;unfold dA at h2;unfold eU at h3;unfold dD at h4;unfold dE at h5;have hg:=hp.1;simp only[nn,cG,List.cons_append,List.nil_append,Bool.or_eq_true,bF,ne_eq]at h0 h1 h2 h3 h4 h5;have q:¬G 55 [L,N]=1:=aEq hN b0.2 (by clear h1 h2 h3 h4 h5;omega) hg h2 (.inl h5);clear h0 h1 h2 h3 h4 h5;simp only[bV];refine⟨?_,cJ (by simp),?_⟩;(· show decide (G 55 [L,N]=1)=false;exact decide_eq_false q);simp only[aR];simp only[nn,cG,List.cons_append,List.nil_append,Bool.or_eq_true,bF,ne_eq];all_goals ((repeat' refine And.intro ?_ ?_)<;>first|with_reducible rfl|with_reducible trivial)
 refine aS iA (fun h6=>?_) (fun h6=>?_)
 rotate_left
 ·skip
  refine bI ?_
  unfold cS at h0;unfold dC at h1;unfold dA at h2;unfold eU at h3;unfold dD at h4;unfold dE at h5;unfold iA at h6;have hg:=hp.1;simp only[nn,cG,List.cons_append,List.nil_append,Bool.or_eq_true,bF,ne_eq]at h0 h1 h2 h3 h4 h5 h6;first|(have q:=wN hN b0.2 (by clear h1 h2 h3 h4 h5 h6;omega) h2;generalize G 53 [L,(p.1:Int)+1,N-(p.1:Int)-1]=R at *;clear hp hg h5;omega)|(clear h2 h3 h4 h5;omega)
 refine aS fU (fun h7=>?_) (fun h7=>?_)
 rotate_left
 ·skip
  refine aQ aGL ?_
  unfold cS at h0;unfold dC at h1;unfold dA at h2;unfold eU at h3;unfold dD at h4;unfold dE at h5;unfold iA at h6;unfold fU at h7;have hg:=hp.1;simp only[nn,cG,List.cons_append,List.nil_append,Bool.or_eq_true,bF,ne_eq]at h0 h1 h2 h3 h4 h5 h6 h7;have q:¬G 55 [L,N]=1:=aEq hN b0.2 (by clear h1 h2 h3 h4 h5 h6 h7;omega) hg h2 (.inr h7);clear h0 h1 h2 h3 h4 h5 h6 h7;simp only[bV];refine⟨?_,cJ (by simp),?_⟩;(· show decide (G 55 [L,N]=1)=false;exact decide_eq_false q);simp only[aR];simp only[nn,cG,List.cons_append,List.nil_append,Bool.or_eq_true,bF,ne_eq];all_goals ((repeat' refine And.intro ?_ ?_)<;>first|with_reducible rfl|with_reducible trivial)
 refine aS gN (fun h8=>?_) (fun h8=>?_)
 rotate_left
 ·skip
  refine aQ aFa ?_
  unfold cS at h0;unfold dC at h1;unfold dA at h2;unfold eU at h3;unfold dD at h4;unfold dE at h5;unfold iA at h6;unfold fU at h7;unfold gN at h8;unfold qA;have hg:=hp.1;simp only[nn,cG,List.cons_append,List.nil_append,Bool.or_eq_true,bF,ne_eq]at h0 h1 h2 h3 h4 h5 h6 h7 h8;exfalso;obtain⟨q1,q2,_,_,_⟩:=uA hN b0.2 (by clear h1 h2 h3 h4 h5 h6 h7 h8;omega) hp h5 h2 h7;generalize G 53 [L,(p.1:Int)+1,N-(p.1:Int)-1]+1=R at *;clear hp hg h1 h2 h3 h4 h5 h6 h7;omega
 refine aS kH (fun h9=>?_) (fun h9=>?_)
 rotate_left
 ·skip
  refine bI ?_
  unfold cS at h0;unfold dC at h1;unfold dA at h2;unfold eU at h3;unfold dD at h4;unfold dE at h5;unfold iA at h6;unfold fU at h7;unfold gN at h8;unfold kH at h9;have hg:=hp.1;simp only[nn,cG,List.cons_append,List.nil_append,Bool.or_eq_true,bF,ne_eq]at h0 h1 h2 h3 h4 h5 h6 h7 h8 h9;first|(have q:=wN hN b0.2 (by clear h1 h2 h3 h4 h5 h6 h7 h8 h9;omega) h2;generalize G 53 [L,(p.1:Int)+1,N-(p.1:Int)-1]=R at *;clear hp hg h5 h7;omega)|(clear h2 h3 h4 h5 h6 h7 h8;omega)
 refine aS kO (fun h10=>?_) (fun h10=>?_)
 ·skip
  refine aQ aGp ?_
  unfold cS at h0;unfold dC at h1;unfold dA at h2;unfold eU at h3;unfold dD at h4;unfold dE at h5;unfold iA at h6;unfold fU at h7;unfold gN at h8;unfold kH at h9;unfold kO at h10;unfold aA0;have hg:=hp.1;simp only[nn,cG,List.cons_append,List.nil_append,Bool.or_eq_true,bF,ne_eq]at h0 h1 h2 h3 h4 h5 h6 h7 h8 h9 h10;obtain⟨q1,q2,qc,q3,_⟩:=uA hN b0.2 (by clear h1 h2 h3 h4 h5 h6 h7 h8 h9 h10;omega) hp h5 h2 h7;have q:=q3 h10;clear q3 h1 h2 h3 h4 h5 h6 h7 h8 h9 h10;generalize hR:G 53 [L,(p.1:Int)+1,N-(p.1:Int)-1]+1=R at *;have hm:N.toNat-((p.1:Int)+R+1).toNat<N.toNat-p.1:=(by clear qc;omega);  simp only[bV];refine⟨(((p.1:Int)+R+1).toNat,p.2+1),q,hm,cJ (by simp),?_⟩;simp only[aR];clear q hm hp hg;simp only[nn,Int.natCast_add,Int.cast_ofNat_Int,Int.natCast_one,cG,List.cons_append,List.nil_append,Bool.or_eq_true,bF,ne_eq];all_goals ((repeat' refine And.intro ?_ ?_)<;>first|with_reducible exact qc|(rw[hR];with_reducible exact qc)|with_reducible rfl|with_reducible trivial|(clear qc;omega))
 refine aQ aEY ?_
 unfold cS at h0;unfold dC at h1;unfold dA at h2;unfold eU at h3;unfold dD at h4;unfold dE at h5;unfold iA at h6;unfold fU at h7;unfold gN at h8;unfold kH at h9;unfold kO at h10;unfold qA;have hg:=hp.1;simp only[nn,cG,List.cons_append,List.nil_append,Bool.or_eq_true,bF,ne_eq]at h0 h1 h2 h3 h4 h5 h6 h7 h8 h9 h10;obtain⟨q1,q2,qc,_,q3⟩:=uA hN b0.2 (by clear h1 h2 h3 h4 h5 h6 h7 h8 h9 h10;omega) hp h5 h2 h7;have q:=q3 h10;clear q3 h1 h2 h3 h4 h5 h6 h7 h8 h9 h10;generalize hR:G 53 [L,(p.1:Int)+1,N-(p.1:Int)-1]+1=R at *;have hm:N.toNat-((p.1:Int)+R).toNat<N.toNat-p.1:=(by clear qc;omega);  simp only[bV];refine⟨(((p.1:Int)+R).toNat,p.2+1),q,hm,cJ (by simp),?_⟩;simp only[aR];clear q hm hp hg;simp only[nn,Int.natCast_add,Int.cast_ofNat_Int,Int.natCast_one,cG,List.cons_append,List.nil_append,Bool.or_eq_true,bF,ne_eq];all_goals ((repeat' refine And.intro ?_ ?_)<;>first|with_reducible exact qc|(rw[hR];with_reducible exact qc)|with_reducible rfl|with_reducible trivial|(clear qc;omega))
theorem aIP:bB (cH Try.prog 20)=[dJ (cH Try.prog 20) 0]:=by kernel_rfl
set_option maxRecDepth 100000 in
theorem aMO (N L:Int) (b0:0≤N∧N≤256) (hN:N=((Lc.dec L).length:Int)):iJ Try.prog G (bO GB) (dJ (cH Try.prog 20) 0) aMe (eT ([N]++[L])):=by
 intro _ _
 have e:fK G (eT ([N]++[L])) aMe.es=cG N L (0,0):=by
  unfold cG
  rw[aIY,eM]
  rfl
 rw[e]
 exact⟨N.toNat+1,dT (ι:=Nat × Nat) (ρ:=cG N L) (ρT:=eT ([N]++[L])) (m:=fun p=>N.toNat-p.1) (Good:=tG L N) (run:=vT Try.prog) (fun _=>rfl) fits rfl eK (fun p hp=>aKL N L b0 hN p hp) (fun _ _ X hX hG=>uG hX hG) (fun _ _ X hX hG=>cO) (fun p hp=>aLQ N L b0 hN p hp) (by decide) (N.toNat+1) (0,0) (aIZ b0.1) (by show N.toNat-0<N.toNat+1;omega)⟩
set_option maxHeartbeats 1000000 in
set_option maxRecDepth 100000 in
theorem aMs (N L:Int) (b0:0≤N∧N≤256):dW Try.prog G GB 20 aL6 (eT ([N]++[L])):=by
 refine lX 0 rfl (fun hN=>?_)
 replace hN:N=((Lc.dec L).length:Int):=hN
 refine cP (lp:=aLD) (run:=aHg Try.prog) (fun _=>rfl) fits (cQ (xs:=[N]) (ls:=[L]) (by exact⟨b0,trivial⟩)) eK (fun X hX hG=>uG hX hG) (fun X hX hG fn c hf hc=>?_) rfl ?_
 ·refine fT ((congrArg bB (gU hf hc)).symm.trans aIP) ?_
  intro b hb
  simp only[List.mem_cons,List.mem_nil_iff,or_false]at hb
  subst hb
  refine iB hX hG (by kernel_rfl) ?_
  intro p hp'
  simp only[List.mem_cons,List.mem_nil_iff,or_false]at hp'
  subst hp'
  exact aMO N L b0 hN
 ·skip
  refine aS mM (fun h0=>?_) (fun h0=>?_)
  ·skip
   refine aQ aKe ?_
   unfold mM at h0;exact⟨h0,trivial⟩
  refine aQ aIJ ?_
  unfold mM at h0;exact⟨h0,trivial⟩
def aBc:Ctx→List SV→aG→Res (SV × aG):=dL GB aCB 1 (.lit true) aL6
theorem aM2 {X:Ctx} {ρ:Nat→Int} (hX:X.Ok ρ) (hG:X.G=G):eZ Try.prog X ρ GB 20 aBc:=by
 obtain⟨XG,XI,XV,XF⟩:=X
 simp only at hG
 subst hG
 refine cL hX ?_
 intro xs ls hw hl hp
 unfold aCB at hw
 obtain⟨x0,y0,e0,b0,h0⟩:=eF hw
 have e1:=oS h0
 subst e1 e0
 obtain⟨l0,rfl⟩:=rX hl
 exact aMs x0 l0 b0
def aIS:aZ:=gG 20 aBc aEj
theorem aCe {X:Ctx} {ρ:Nat→Int} (hX:X.Ok ρ) (hG:X.G=G):gW Try.prog X ρ GB aIS:=eE (aM2 hX hG) (uG hX hG)
def aH3:List (Int × Int):=[(0,9223372036854775807)]
def aMp:FunS:=⟨[(.own 0 (.var 0) none)],[some ([.vec [.int .u8,.int .i32,.int .i32,.int .i32,.int .i32,.int .i32,.int .i32] (.var 1) (.var 0) true],bC)],(.and (.cmp .le (.var 0) (.lit 256)) (.cmp .eq (.app 55 (.cons (.var 1) (.cons (.var 0) .nil))) (.lit 1))),(.tuple [(.vsl 1 1 (.lit 0) (.app 54 (.cons (.var 1) (.cons (.var 0) .nil))) (some (.app 54 (.cons (.var 1) (.cons (.var 0) .nil))))),(.int .i64 (.lit 0))]),[some ([.vec [.int .u8,.int .i32,.int .i32,.int .i32,.int .i32,.int .i32,.int .i32] (.var 1) (.var 0) true],bC),some ([.lol 1 [.int .i64,.int .i64] (.app 61 (.cons (.var 1) (.cons (.var 0) .nil))) (.app 54 (.cons (.var 1) (.cons (.var 0) .nil)))],aL+30)],(.tuple [(.con (.slice none 0 0)),(.int .i64 (.op .sub (.lit 4) (.op .min (.lit 1) (.op .max (.lit 0) (.op .sub (.var 0) (.lit 256))))))]),[some ([.vec [.int .u8,.int .i32,.int .i32,.int .i32,.int .i32,.int .i32,.int .i32] (.var 1) (.var 0) true],bC)]⟩
def aJK (P:Program) (fs:List B):Res SV:=bW G GI aH3 fs fun X=>fB P X GB aIS dK 4000 9 aMp
end Go.Proofs.Ythiehfhphgkaeaa
set_option maxRecDepth 100000
namespace Go.Proofs.Ythiehfhphgkaeaa
open Go Go.RowKit Sx Wi
def aAg (P:Program) (fs:List B):Res SV:=aJK P fs
def aBY:List B:=[]
def kK:B:=(.cmp .lt (.lit 256) (.var 0))
def aJM:List B:=bA kK++aBY
def aA4:List B:=bA (B.neg kK)++aBY
def mE:B:=(.cmp .eq (.app 55 (.cons (.var 1) (.cons (.var 0) .nil))) (.lit 1))
def aJY:List B:=bA mE++aA4
def aHY:List B:=bA (B.neg mE)++aA4
theorem aJO:aAg Try.prog aJM = .ok (.tuple [(.agg [(.int .i64 (.lit 3)),(.int .i64 (.op .sub (.lit 4) (.op .min (.lit 1) (.op .max (.lit 0) (.op .sub (.var 0) (.lit 256))))))]),(.bool (.lit false))]):=by kernel_rfl
theorem aHA:aAg Try.prog aJY = .ok (.tuple [(.agg []),(.bool (.lit true))]):=by kernel_rfl
theorem aHu:aAg Try.prog aHY = .ok (.tuple [(.agg [(.int .i64 (.lit 4)),(.int .i64 (.op .sub (.lit 4) (.op .min (.lit 1) (.op .max (.lit 0) (.op .sub (.var 0) (.lit 256))))))]),(.bool (.lit false))]):=by kernel_rfl
end Go.Proofs.Ythiehfhphgkaeaa
namespace Go.Proofs.Ythiehfhphgkaeaa
open Go Go.RowKit Sx Wi
set_option maxHeartbeats 1000000 in
set_option maxRecDepth 100000 in
theorem aL2 (N L:Int) (b0:0≤N∧N≤9223372036854775807):dW Try.prog G GB 9 aMp (eT ([N]++[L])):=by
 refine cP (lp:=dK) (run:=aJK Try.prog) (fun _=>rfl) fits (cQ (xs:=[N]) (ls:=[L]) (by exact⟨b0,trivial⟩)) eK (fun X hX hG=>aCe hX hG) (fun X hX hG fn c hf hc=>cO) rfl ?_
 refine aS kK (fun h0=>?_) (fun h0=>?_)
 ·skip
  refine aQ aJO ?_
  unfold kK at h0;simp only[nn,List.cons_append,List.nil_append,Bool.or_eq_true,bF,ne_eq]at h0;simp only[aB8];refine⟨?_,?_⟩;(· show (decide (N≤256) && decide (G 55 [L,N]=1))=false;rw[decide_eq_false (by omega:¬N≤256),Bool.false_and]);simp only[aR];simp only[nn,List.cons_append,List.nil_append,Bool.or_eq_true,bF,ne_eq];refine⟨?_,trivial⟩;  omega
 refine aS mE (fun h1=>?_) (fun h1=>?_)
 ·skip
  refine aQ aHA ?_
  unfold kK at h0;unfold mE at h1;simp only[nn,List.cons_append,List.nil_append,Bool.or_eq_true,bF,ne_eq]at h0 h1;simp only[aB8];refine⟨?_,trivial⟩;show (decide (N≤256) && decide (G 55 [L,N]=1))=true;rw[decide_eq_true (by clear h1;omega:N≤256),decide_eq_true h1];rfl
 refine aQ aHu ?_
 unfold kK at h0;unfold mE at h1;simp only[nn,List.cons_append,List.nil_append,Bool.or_eq_true,bF,ne_eq]at h0 h1;simp only[aB8];refine⟨?_,?_⟩;(· show (decide (N≤256) && decide (G 55 [L,N]=1))=false;rw[decide_eq_false h1,Bool.and_false]);simp only[aR];simp only[nn,List.cons_append,List.nil_append,Bool.or_eq_true,bF,ne_eq];refine⟨?_,trivial⟩;clear h1;omega
def aAI:Ctx→List SV→aG→Res (SV × aG):=dL GB aH3 1 (.lit true) aMp
theorem aMS {X:Ctx} {ρ:Nat→Int} (hX:X.Ok ρ) (hG:X.G=G):eZ Try.prog X ρ GB 9 aAI:=by
 obtain⟨XG,XI,XV,XF⟩:=X
 simp only at hG
 subst hG
 refine cL hX ?_
 intro xs ls hw hl hp
 unfold aH3 at hw
 obtain⟨x0,y0,e0,b0,h0⟩:=eF hw
 have e1:=oS h0
 subst e1 e0
 obtain⟨l0,rfl⟩:=rX hl
 exact aL2 x0 l0 b0
def aLG:aZ:=gG 9 aAI aIS
theorem aJg {X:Ctx} {ρ:Nat→Int} (hX:X.Ok ρ) (hG:X.G=G):gW Try.prog X ρ GB aLG:=eE (aMS hX hG) (aCe hX hG)
def nO:List (Int × Int):=[(-2147483648,2147483647),(-2147483648,2147483647),(-2147483648,2147483647),(-2147483648,2147483647),(-2147483648,2147483647),(-2147483648,2147483647),(-2147483648,2147483647),(-2147483648,2147483647),(0,64),(1,65)]
def uO:List (Int × Int):=[(-2147483648,2147483647),(-2147483648,2147483647),(-2147483648,2147483647),(-2147483648,2147483647),(-2147483648,2147483647),(-2147483648,2147483647),(-2147483648,2147483647),(-2147483648,2147483647)]
def aMy:St:=⟨[.any,.any,(.own 15 (.var 9) none),(.ptr 1 0),.any,.any,(.ptr 14 0),(.int .i64 (.op .shl (.lit 1) (.app 43 (.cons (.var 0) (.cons (.var 1) (.cons (.var 2) (.cons (.var 3) (.cons (.var 4) (.cons (.var 5) (.cons (.var 6) (.cons (.var 7) .nil))))))))))),.any,(.slice 0 0 2 2),(.int .i64 (.lit 2)),(.int .i64 (.lit 1)),.any,.any,.any,.any,.any,.any,.any,.any,.any,.any,.any,.any,.any,.any,.any,.any,(.int .i64 (.op .shl (.lit 1) (.app 43 (.cons (.var 0) (.cons (.var 1) (.cons (.var 2) (.cons (.var 3) (.cons (.var 4) (.cons (.var 5) (.cons (.var 6) (.cons (.var 7) .nil))))))))))),(.int .i64 (.op .shl (.lit 1) (.app 43 (.cons (.var 0) (.cons (.var 1) (.cons (.var 2) (.cons (.var 3) (.cons (.var 4) (.cons (.var 5) (.cons (.var 6) (.cons (.var 7) .nil))))))))))),(.int .i64 (.var 8)),.any,.any,.any,.any,.any,.any,.any,.any,.any,.any,.any,.any,.any,.any,.any,.any,.any,.any,.any,.any,.any,.any,.any],[some ([(.int .u8 (.lit 0)),(.int .i32 (.var 0)),(.int .i32 (.var 1)),(.int .i32 (.lit 0)),(.int .i32 (.lit 0)),(.int .i32 (.lit 0)),(.int .i32 (.lit 0)),(.int .u8 (.lit 2)),(.int .i32 (.var 2)),(.int .i32 (.var 3)),(.int .i32 (.var 4)),(.int .i32 (.var 5)),(.int .i32 (.var 6)),(.int .i32 (.var 7))],38),some ([(.int .i64 (.var 0)),(.int .i64 (.var 1))],57),none,none,none,none,none,none,none,none,none,none,none,none,some ([(.int .i64 (.var 0)),(.int .i64 (.var 1)),(.int .i64 (.var 2)),(.int .i64 (.var 3)),(.int .i64 (.var 4)),(.int .i64 (.var 5)),(.int .i64 (.var 6)),(.int .i64 (.var 7))],60),kM [.int .i64,.int .i64] (.var 10) (.var 9) 32]⟩
def aIT:St:=⟨[.any,.any,(.own 15 (.op .add (.op .shl (.lit 1) (.app 43 (.cons (.var 0) (.cons (.var 1) (.cons (.var 2) (.cons (.var 3) (.cons (.var 4) (.cons (.var 5) (.cons (.var 6) (.cons (.var 7) .nil)))))))))) (.lit 1)) none),(.ptr 1 0),.any,.any,(.ptr 14 0),.any,.any,(.slice 0 0 2 2),(.int .i64 (.lit 2)),(.int .i64 (.lit 1)),.any,.any,.any,.any,.any,.any,.any,.any,.any,.any,.any,.any,.any,.any,.any,.any,.any,.any,.any,.any,.any,.any,.any,.any,.any,.any,.any,.any,.any,.any,.any,.any,.any,.any,.any,.any,.any,.any,.any,.any,.any,.any],[some ([(.int .u8 (.lit 0)),(.int .i32 (.var 0)),(.int .i32 (.var 1)),(.int .i32 (.lit 0)),(.int .i32 (.lit 0)),(.int .i32 (.lit 0)),(.int .i32 (.lit 0)),(.int .u8 (.lit 2)),(.int .i32 (.var 2)),(.int .i32 (.var 3)),(.int .i32 (.var 4)),(.int .i32 (.var 5)),(.int .i32 (.var 6)),(.int .i32 (.var 7))],38),some ([(.int .i64 (.var 0)),(.int .i64 (.var 1))],57),none,none,none,none,none,none,none,none,none,none,none,none,some ([(.int .i64 (.var 0)),(.int .i64 (.var 1)),(.int .i64 (.var 2)),(.int .i64 (.var 3)),(.int .i64 (.var 4)),(.int .i64 (.var 5)),(.int .i64 (.var 6)),(.int .i64 (.var 7))],60),kM [.int .i64,.int .i64] (.app 44 (.cons (.var 0) (.cons (.var 1) (.cons (.var 2) (.cons (.var 3) (.cons (.var 4) (.cons (.var 5) (.cons (.var 6) (.cons (.var 7) .nil))))))))) (.op .add (.op .shl (.lit 1) (.app 43 (.cons (.var 0) (.cons (.var 1) (.cons (.var 2) (.cons (.var 3) (.cons (.var 4) (.cons (.var 5) (.cons (.var 6) (.cons (.var 7) .nil)))))))))) (.lit 1)) 32]⟩
def aHP:LoopS:=⟨8,15,aMy,.lit true,.exit 2,aIT,.exit 2,aIT⟩
def aDn:LoopU:=⟨aHP,[(.var 0),(.var 1),(.var 2),(.var 3),(.var 4),(.var 5),(.var 6),(.var 7),(.lit 0),(.lit 1),(.app 91 (.cons (.lit 0) (.cons (.app 2 (.cons (.var 0) (.cons (.op .mul (.lit 1) (.lit 256)) .nil))) (.cons (.app 2 (.cons (.var 1) (.cons (.op .mul (.lit 1) (.lit 256)) .nil))) .nil))))],nO,.lit true⟩
def pC (P:Program) (fs:List B):Res SV:=bW G GI nO fs fun X=>gZ P X GB cU dK 400 (dJ (cH P 16) 1) aHP
def aDO:eJ:=iD 9 (fC (bO GB) [aDn]) dK
def aCR:FunS:=⟨[(.slice 0 0 2 2)],cD GB++[some ([(.int .u8 (.lit 0)),(.int .i32 (.var 0)),(.int .i32 (.var 1)),(.int .i32 (.lit 0)),(.int .i32 (.lit 0)),(.int .i32 (.lit 0)),(.int .i32 (.lit 0)),(.int .u8 (.lit 2)),(.int .i32 (.var 2)),(.int .i32 (.var 3)),(.int .i32 (.var 4)),(.int .i32 (.var 5)),(.int .i32 (.var 6)),(.int .i32 (.var 7))],38)],.lit true,(.vsl 1 2 (.lit 0) (.op .add (.op .shl (.lit 1) (.app 43 (.cons (.var 0) (.cons (.var 1) (.cons (.var 2) (.cons (.var 3) (.cons (.var 4) (.cons (.var 5) (.cons (.var 6) (.cons (.var 7) .nil)))))))))) (.lit 1)) (some (.op .add (.op .shl (.lit 1) (.app 43 (.cons (.var 0) (.cons (.var 1) (.cons (.var 2) (.cons (.var 3) (.cons (.var 4) (.cons (.var 5) (.cons (.var 6) (.cons (.var 7) .nil)))))))))) (.lit 1)))),cD GB++[some ([(.int .u8 (.lit 0)),(.int .i32 (.var 0)),(.int .i32 (.var 1)),(.int .i32 (.lit 0)),(.int .i32 (.lit 0)),(.int .i32 (.lit 0)),(.int .i32 (.lit 0)),(.int .u8 (.lit 2)),(.int .i32 (.var 2)),(.int .i32 (.var 3)),(.int .i32 (.var 4)),(.int .i32 (.var 5)),(.int .i32 (.var 6)),(.int .i32 (.var 7))],38),kM [.int .i64,.int .i64] (.app 44 (.cons (.var 0) (.cons (.var 1) (.cons (.var 2) (.cons (.var 3) (.cons (.var 4) (.cons (.var 5) (.cons (.var 6) (.cons (.var 7) .nil))))))))) (.op .add (.op .shl (.lit 1) (.app 43 (.cons (.var 0) (.cons (.var 1) (.cons (.var 2) (.cons (.var 3) (.cons (.var 4) (.cons (.var 5) (.cons (.var 6) (.cons (.var 7) .nil)))))))))) (.lit 1)) 32],(.vsl 1 2 (.lit 0) (.op .add (.op .shl (.lit 1) (.app 43 (.cons (.var 0) (.cons (.var 1) (.cons (.var 2) (.cons (.var 3) (.cons (.var 4) (.cons (.var 5) (.cons (.var 6) (.cons (.var 7) .nil)))))))))) (.lit 1)) (some (.op .add (.op .shl (.lit 1) (.app 43 (.cons (.var 0) (.cons (.var 1) (.cons (.var 2) (.cons (.var 3) (.cons (.var 4) (.cons (.var 5) (.cons (.var 6) (.cons (.var 7) .nil)))))))))) (.lit 1)))),cD GB++[some ([(.int .u8 (.lit 0)),(.int .i32 (.var 0)),(.int .i32 (.var 1)),(.int .i32 (.lit 0)),(.int .i32 (.lit 0)),(.int .i32 (.lit 0)),(.int .i32 (.lit 0)),(.int .u8 (.lit 2)),(.int .i32 (.var 2)),(.int .i32 (.var 3)),(.int .i32 (.var 4)),(.int .i32 (.var 5)),(.int .i32 (.var 6)),(.int .i32 (.var 7))],38),kM [.int .i64,.int .i64] (.app 44 (.cons (.var 0) (.cons (.var 1) (.cons (.var 2) (.cons (.var 3) (.cons (.var 4) (.cons (.var 5) (.cons (.var 6) (.cons (.var 7) .nil))))))))) (.op .add (.op .shl (.lit 1) (.app 43 (.cons (.var 0) (.cons (.var 1) (.cons (.var 2) (.cons (.var 3) (.cons (.var 4) (.cons (.var 5) (.cons (.var 6) (.cons (.var 7) .nil)))))))))) (.lit 1)) 32]⟩
def aCb (P:Program) (fs:List B):Res SV:=bW G GI uO fs fun X=>fB P X GB cU aDO 400 16 aCR
end Go.Proofs.Ythiehfhphgkaeaa
set_option maxRecDepth 100000
namespace Go.Proofs.Ythiehfhphgkaeaa
open Go Go.RowKit Sx Wi
def aDw (P:Program) (fs:List B):Res SV:=pC P fs
def aB2:List B:=[]
def mY:B:=(.cmp .lt (.var 8) (.op .shl (.lit 1) (.app 43 (.cons (.var 0) (.cons (.var 1) (.cons (.var 2) (.cons (.var 3) (.cons (.var 4) (.cons (.var 5) (.cons (.var 6) (.cons (.var 7) .nil)))))))))))
def aJI:List B:=bA mY++aB2
def aBq:SV:=(.agg [(.int .i64 (.op .add (.var 9) (.lit 1))),(.int .i64 (.var 9)),(.int .i64 (.op .add (.var 8) (.lit 1))),(.int .i64 (.var 8)),(.int .i64 (.app 91 (.cons (.var 10) (.cons (.app 2 (.cons (.op .add (.op .add (.op .add (.op .mul (.op .mul (.op .mul (.op .sub (.op .shl (.lit 1) (.app 43 (.cons (.var 0) (.cons (.var 1) (.cons (.var 2) (.cons (.var 3) (.cons (.var 4) (.cons (.var 5) (.cons (.var 6) (.cons (.var 7) .nil)))))))))) (.op .add (.var 8) (.lit 1))) (.op .sub (.op .shl (.lit 1) (.app 43 (.cons (.var 0) (.cons (.var 1) (.cons (.var 2) (.cons (.var 3) (.cons (.var 4) (.cons (.var 5) (.cons (.var 6) (.cons (.var 7) .nil)))))))))) (.op .add (.var 8) (.lit 1)))) (.op .sub (.op .shl (.lit 1) (.app 43 (.cons (.var 0) (.cons (.var 1) (.cons (.var 2) (.cons (.var 3) (.cons (.var 4) (.cons (.var 5) (.cons (.var 6) (.cons (.var 7) .nil)))))))))) (.op .add (.var 8) (.lit 1)))) (.var 0)) (.op .mul (.op .mul (.op .mul (.op .mul (.lit 3) (.op .sub (.op .shl (.lit 1) (.app 43 (.cons (.var 0) (.cons (.var 1) (.cons (.var 2) (.cons (.var 3) (.cons (.var 4) (.cons (.var 5) (.cons (.var 6) (.cons (.var 7) .nil)))))))))) (.op .add (.var 8) (.lit 1)))) (.op .sub (.op .shl (.lit 1) (.app 43 (.cons (.var 0) (.cons (.var 1) (.cons (.var 2) (.cons (.var 3) (.cons (.var 4) (.cons (.var 5) (.cons (.var 6) (.cons (.var 7) .nil)))))))))) (.op .add (.var 8) (.lit 1)))) (.op .add (.var 8) (.lit 1))) (.var 2))) (.op .mul (.op .mul (.op .mul (.op .mul (.lit 3) (.op .sub (.op .shl (.lit 1) (.app 43 (.cons (.var 0) (.cons (.var 1) (.cons (.var 2) (.cons (.var 3) (.cons (.var 4) (.cons (.var 5) (.cons (.var 6) (.cons (.var 7) .nil)))))))))) (.op .add (.var 8) (.lit 1)))) (.op .add (.var 8) (.lit 1))) (.op .add (.var 8) (.lit 1))) (.var 4))) (.op .mul (.op .mul (.op .mul (.op .add (.var 8) (.lit 1)) (.op .add (.var 8) (.lit 1))) (.op .add (.var 8) (.lit 1))) (.var 6))) (.cons (.op .mul (.op .mul (.op .shl (.lit 1) (.app 43 (.cons (.var 0) (.cons (.var 1) (.cons (.var 2) (.cons (.var 3) (.cons (.var 4) (.cons (.var 5) (.cons (.var 6) (.cons (.var 7) .nil)))))))))) (.op .mul (.op .shl (.lit 1) (.app 43 (.cons (.var 0) (.cons (.var 1) (.cons (.var 2) (.cons (.var 3) (.cons (.var 4) (.cons (.var 5) (.cons (.var 6) (.cons (.var 7) .nil)))))))))) (.op .shl (.lit 1) (.app 43 (.cons (.var 0) (.cons (.var 1) (.cons (.var 2) (.cons (.var 3) (.cons (.var 4) (.cons (.var 5) (.cons (.var 6) (.cons (.var 7) .nil)))))))))))) (.lit 256)) .nil))) (.cons (.app 2 (.cons (.op .add (.op .add (.op .add (.op .mul (.op .mul (.op .mul (.op .sub (.op .shl (.lit 1) (.app 43 (.cons (.var 0) (.cons (.var 1) (.cons (.var 2) (.cons (.var 3) (.cons (.var 4) (.cons (.var 5) (.cons (.var 6) (.cons (.var 7) .nil)))))))))) (.op .add (.var 8) (.lit 1))) (.op .sub (.op .shl (.lit 1) (.app 43 (.cons (.var 0) (.cons (.var 1) (.cons (.var 2) (.cons (.var 3) (.cons (.var 4) (.cons (.var 5) (.cons (.var 6) (.cons (.var 7) .nil)))))))))) (.op .add (.var 8) (.lit 1)))) (.op .sub (.op .shl (.lit 1) (.app 43 (.cons (.var 0) (.cons (.var 1) (.cons (.var 2) (.cons (.var 3) (.cons (.var 4) (.cons (.var 5) (.cons (.var 6) (.cons (.var 7) .nil)))))))))) (.op .add (.var 8) (.lit 1)))) (.var 1)) (.op .mul (.op .mul (.op .mul (.op .mul (.lit 3) (.op .sub (.op .shl (.lit 1) (.app 43 (.cons (.var 0) (.cons (.var 1) (.cons (.var 2) (.cons (.var 3) (.cons (.var 4) (.cons (.var 5) (.cons (.var 6) (.cons (.var 7) .nil)))))))))) (.op .add (.var 8) (.lit 1)))) (.op .sub (.op .shl (.lit 1) (.app 43 (.cons (.var 0) (.cons (.var 1) (.cons (.var 2) (.cons (.var 3) (.cons (.var 4) (.cons (.var 5) (.cons (.var 6) (.cons (.var 7) .nil)))))))))) (.op .add (.var 8) (.lit 1)))) (.op .add (.var 8) (.lit 1))) (.var 3))) (.op .mul (.op .mul (.op .mul (.op .mul (.lit 3) (.op .sub (.op .shl (.lit 1) (.app 43 (.cons (.var 0) (.cons (.var 1) (.cons (.var 2) (.cons (.var 3) (.cons (.var 4) (.cons (.var 5) (.cons (.var 6) (.cons (.var 7) .nil)))))))))) (.op .add (.var 8) (.lit 1)))) (.op .add (.var 8) (.lit 1))) (.op .add (.var 8) (.lit 1))) (.var 5))) (.op .mul (.op .mul (.op .mul (.op .add (.var 8) (.lit 1)) (.op .add (.var 8) (.lit 1))) (.op .add (.var 8) (.lit 1))) (.var 7))) (.cons (.op .mul (.op .mul (.op .shl (.lit 1) (.app 43 (.cons (.var 0) (.cons (.var 1) (.cons (.var 2) (.cons (.var 3) (.cons (.var 4) (.cons (.var 5) (.cons (.var 6) (.cons (.var 7) .nil)))))))))) (.op .mul (.op .shl (.lit 1) (.app 43 (.cons (.var 0) (.cons (.var 1) (.cons (.var 2) (.cons (.var 3) (.cons (.var 4) (.cons (.var 5) (.cons (.var 6) (.cons (.var 7) .nil)))))))))) (.op .shl (.lit 1) (.app 43 (.cons (.var 0) (.cons (.var 1) (.cons (.var 2) (.cons (.var 3) (.cons (.var 4) (.cons (.var 5) (.cons (.var 6) (.cons (.var 7) .nil)))))))))))) (.lit 256)) .nil))) .nil))))),(.int .i64 (.var 10)),(.int .i64 (.op .add (.var 9) (.lit 1))),(.int .i64 (.var 9))])
def aId:List B:=bA (B.neg mY)++aB2
def aBQ:SV:=(.tuple [(.agg [(.int .i64 (.var 9)),(.int .i64 (.op .add (.op .shl (.lit 1) (.app 43 (.cons (.var 0) (.cons (.var 1) (.cons (.var 2) (.cons (.var 3) (.cons (.var 4) (.cons (.var 5) (.cons (.var 6) (.cons (.var 7) .nil)))))))))) (.lit 1))),(.int .i64 (.var 10)),(.int .i64 (.app 44 (.cons (.var 0) (.cons (.var 1) (.cons (.var 2) (.cons (.var 3) (.cons (.var 4) (.cons (.var 5) (.cons (.var 6) (.cons (.var 7) .nil)))))))))),(.int .i64 (.var 9)),(.int .i64 (.op .add (.op .shl (.lit 1) (.app 43 (.cons (.var 0) (.cons (.var 1) (.cons (.var 2) (.cons (.var 3) (.cons (.var 4) (.cons (.var 5) (.cons (.var 6) (.cons (.var 7) .nil)))))))))) (.lit 1)))]),(.bool (.lit true))])
theorem aHK:aDw Try.prog aJI = .ok aBq:=by kernel_rfl
theorem aHh:aDw Try.prog aId = .ok aBQ:=by kernel_rfl
end Go.Proofs.Ythiehfhphgkaeaa
namespace Go.Proofs.Ythiehfhphgkaeaa
open Go Go.RowKit Sx Wi
def eH (x0 x1 x2 x3 x4 x5 x6 x7:Int) (a:Nat):Nat→Int:=eT (([x0,x1,x2,x3,x4,x5,x6,x7]:List Int)++[(a:Int),((gM [x0,x1,x2,x3,x4,x5,x6,x7] (cW [x0,x1,x2,x3,x4,x5,x6,x7]) a).length:Int),Lc.enc (gM [x0,x1,x2,x3,x4,x5,x6,x7] (cW [x0,x1,x2,x3,x4,x5,x6,x7]) a)])
theorem aE1 (x0 x1 x2 x3 x4 x5 x6 x7:Int) (b0 : -2147483648≤x0∧x0≤2147483647) (b1 : -2147483648≤x1∧x1≤2147483647) (b2 : -2147483648≤x2∧x2≤2147483647) (b3 : -2147483648≤x3∧x3≤2147483647) (b4 : -2147483648≤x4∧x4≤2147483647) (b5 : -2147483648≤x5∧x5≤2147483647) (b6 : -2147483648≤x6∧x6≤2147483647) (b7 : -2147483648≤x7∧x7≤2147483647) (a:Nat) (ha:(a:Int)≤cW [x0,x1,x2,x3,x4,x5,x6,x7]):∀ i q,nO[i]?=some q→q.1≤eH x0 x1 x2 x3 x4 x5 x6 x7 a i∧eH x0 x1 x2 x3 x4 x5 x6 x7 a i≤q.2:=by
 have hp:=fZ [x0,x1,x2,x3,x4,x5,x6,x7]
 have hl:=fD [x0,x1,x2,x3,x4,x5,x6,x7] (cW [x0,x1,x2,x3,x4,x5,x6,x7]) a
 unfold eH nO
 have e:([x0,x1,x2,x3,x4,x5,x6,x7]:List Int)++[(a:Int),((gM [x0,x1,x2,x3,x4,x5,x6,x7] (cW [x0,x1,x2,x3,x4,x5,x6,x7]) a).length:Int),Lc.enc (gM [x0,x1,x2,x3,x4,x5,x6,x7] (cW [x0,x1,x2,x3,x4,x5,x6,x7]) a)]=(([x0,x1,x2,x3,x4,x5,x6,x7]:List Int)++[(a:Int),((gM [x0,x1,x2,x3,x4,x5,x6,x7] (cW [x0,x1,x2,x3,x4,x5,x6,x7]) a).length:Int)])++[Lc.enc (gM [x0,x1,x2,x3,x4,x5,x6,x7] (cW [x0,x1,x2,x3,x4,x5,x6,x7]) a)]:=by simp
 rw[e]
 exact cQ (by simp only[List.cons_append,List.nil_append];exact⟨b0,b1,b2,b3,b4,b5,b6,b7,by omega,by omega,trivial⟩)
theorem rL (x0 x1 x2 x3 x4 x5 x6 x7:Int):1*2 ^ (G 43 [x0,x1,x2,x3,x4,x5,x6,x7]).toNat=cW [x0,x1,x2,x3,x4,x5,x6,x7]:=rfl
set_option maxRecDepth 100000 in
theorem aHX (x0 x1 x2 x3 x4 x5 x6 x7:Int) (a:Nat):G 91 [Lc.enc (gM [x0,x1,x2,x3,x4,x5,x6,x7] (cW [x0,x1,x2,x3,x4,x5,x6,x7]) a),G 2 [((((((((1*2 ^ (G 43 [x0,x1,x2,x3,x4,x5,x6,x7]).toNat)-((a:Int)+1))*((1*2 ^ (G 43 [x0,x1,x2,x3,x4,x5,x6,x7]).toNat)-((a:Int)+1)))*((1*2 ^ (G 43 [x0,x1,x2,x3,x4,x5,x6,x7]).toNat)-((a:Int)+1)))*x0)+((((3*((1*2 ^ (G 43 [x0,x1,x2,x3,x4,x5,x6,x7]).toNat)-((a:Int)+1)))*((1*2 ^ (G 43 [x0,x1,x2,x3,x4,x5,x6,x7]).toNat)-((a:Int)+1)))*((a:Int)+1))*x2))+((((3*((1*2 ^ (G 43 [x0,x1,x2,x3,x4,x5,x6,x7]).toNat)-((a:Int)+1)))*((a:Int)+1))*((a:Int)+1))*x4))+(((((a:Int)+1)*((a:Int)+1))*((a:Int)+1))*x6)),(((1*2 ^ (G 43 [x0,x1,x2,x3,x4,x5,x6,x7]).toNat)*((1*2 ^ (G 43 [x0,x1,x2,x3,x4,x5,x6,x7]).toNat)*(1*2 ^ (G 43 [x0,x1,x2,x3,x4,x5,x6,x7]).toNat)))*256)],G 2 [((((((((1*2 ^ (G 43 [x0,x1,x2,x3,x4,x5,x6,x7]).toNat)-((a:Int)+1))*((1*2 ^ (G 43 [x0,x1,x2,x3,x4,x5,x6,x7]).toNat)-((a:Int)+1)))*((1*2 ^ (G 43 [x0,x1,x2,x3,x4,x5,x6,x7]).toNat)-((a:Int)+1)))*x1)+((((3*((1*2 ^ (G 43 [x0,x1,x2,x3,x4,x5,x6,x7]).toNat)-((a:Int)+1)))*((1*2 ^ (G 43 [x0,x1,x2,x3,x4,x5,x6,x7]).toNat)-((a:Int)+1)))*((a:Int)+1))*x3))+((((3*((1*2 ^ (G 43 [x0,x1,x2,x3,x4,x5,x6,x7]).toNat)-((a:Int)+1)))*((a:Int)+1))*((a:Int)+1))*x5))+(((((a:Int)+1)*((a:Int)+1))*((a:Int)+1))*x7)),(((1*2 ^ (G 43 [x0,x1,x2,x3,x4,x5,x6,x7]).toNat)*((1*2 ^ (G 43 [x0,x1,x2,x3,x4,x5,x6,x7]).toNat)*(1*2 ^ (G 43 [x0,x1,x2,x3,x4,x5,x6,x7]).toNat)))*256)]]=Lc.enc (gM [x0,x1,x2,x3,x4,x5,x6,x7] (cW [x0,x1,x2,x3,x4,x5,x6,x7]) (a+1)):=by
 have er:qI [x0,x1,x2,x3,x4,x5,x6,x7] (cW [x0,x1,x2,x3,x4,x5,x6,x7]) ((a:Int)+1)=[G 2 [((((((((1*2 ^ (G 43 [x0,x1,x2,x3,x4,x5,x6,x7]).toNat)-((a:Int)+1))*((1*2 ^ (G 43 [x0,x1,x2,x3,x4,x5,x6,x7]).toNat)-((a:Int)+1)))*((1*2 ^ (G 43 [x0,x1,x2,x3,x4,x5,x6,x7]).toNat)-((a:Int)+1)))*x0)+((((3*((1*2 ^ (G 43 [x0,x1,x2,x3,x4,x5,x6,x7]).toNat)-((a:Int)+1)))*((1*2 ^ (G 43 [x0,x1,x2,x3,x4,x5,x6,x7]).toNat)-((a:Int)+1)))*((a:Int)+1))*x2))+((((3*((1*2 ^ (G 43 [x0,x1,x2,x3,x4,x5,x6,x7]).toNat)-((a:Int)+1)))*((a:Int)+1))*((a:Int)+1))*x4))+(((((a:Int)+1)*((a:Int)+1))*((a:Int)+1))*x6)),(((1*2 ^ (G 43 [x0,x1,x2,x3,x4,x5,x6,x7]).toNat)*((1*2 ^ (G 43 [x0,x1,x2,x3,x4,x5,x6,x7]).toNat)*(1*2 ^ (G 43 [x0,x1,x2,x3,x4,x5,x6,x7]).toNat)))*256)],G 2 [((((((((1*2 ^ (G 43 [x0,x1,x2,x3,x4,x5,x6,x7]).toNat)-((a:Int)+1))*((1*2 ^ (G 43 [x0,x1,x2,x3,x4,x5,x6,x7]).toNat)-((a:Int)+1)))*((1*2 ^ (G 43 [x0,x1,x2,x3,x4,x5,x6,x7]).toNat)-((a:Int)+1)))*x1)+((((3*((1*2 ^ (G 43 [x0,x1,x2,x3,x4,x5,x6,x7]).toNat)-((a:Int)+1)))*((1*2 ^ (G 43 [x0,x1,x2,x3,x4,x5,x6,x7]).toNat)-((a:Int)+1)))*((a:Int)+1))*x3))+((((3*((1*2 ^ (G 43 [x0,x1,x2,x3,x4,x5,x6,x7]).toNat)-((a:Int)+1)))*((a:Int)+1))*((a:Int)+1))*x5))+(((((a:Int)+1)*((a:Int)+1))*((a:Int)+1))*x7)),(((1*2 ^ (G 43 [x0,x1,x2,x3,x4,x5,x6,x7]).toNat)*((1*2 ^ (G 43 [x0,x1,x2,x3,x4,x5,x6,x7]).toNat)*(1*2 ^ (G 43 [x0,x1,x2,x3,x4,x5,x6,x7]).toNat)))*256)]]:=rfl
 rw[←er,iT iZ]
 rfl
set_option maxHeartbeats 2000000 in
set_option maxRecDepth 100000 in
theorem aKf (x0 x1 x2 x3 x4 x5 x6 x7:Int) (b0 : -2147483648≤x0∧x0≤2147483647) (b1 : -2147483648≤x1∧x1≤2147483647) (b2 : -2147483648≤x2∧x2≤2147483647) (b3 : -2147483648≤x3∧x3≤2147483647) (b4 : -2147483648≤x4∧x4≤2147483647) (b5 : -2147483648≤x5∧x5≤2147483647) (b6 : -2147483648≤x6∧x6≤2147483647) (b7 : -2147483648≤x7∧x7≤2147483647) (a:Nat) (ha:(a:Int)≤cW [x0,x1,x2,x3,x4,x5,x6,x7]):Sx.Way (pC Try.prog) G (eH x0 x1 x2 x3 x4 x5 x6 x7 a) (bV G (eH x0 x1 x2 x3 x4 x5 x6 x7) (eT ([x0,x1,x2,x3,x4,x5,x6,x7]:List Int)) 8 (.lit true) (fun a=>(a:Int)≤cW [x0,x1,x2,x3,x4,x5,x6,x7]) (fun a=>(cW [x0,x1,x2,x3,x4,x5,x6,x7]).toNat-a) a) []:=by
 refine aS mY (fun h0=>?_) (fun h0=>?_)
 ·skip
  refine aQ aHK ?_
  unfold mY at h0;unfold aBq;have hp:=fZ [x0,x1,x2,x3,x4,x5,x6,x7];have hl:=fD [x0,x1,x2,x3,x4,x5,x6,x7] (cW [x0,x1,x2,x3,x4,x5,x6,x7]) a;simp only[nn,eH,List.cons_append,List.nil_append,bF]at h0;simp only[rL]at h0;have hl2:=fD [x0,x1,x2,x3,x4,x5,x6,x7] (cW [x0,x1,x2,x3,x4,x5,x6,x7]) (a+1);have ec:=aHX x0 x1 x2 x3 x4 x5 x6 x7 a;simp only[bV];refine⟨a+1,by omega,by omega,cJ (by simp),?_⟩;simp only[aR];clear h0;simp only[nn,eH,List.cons_append,List.nil_append,bF]at ec ⊢;(repeat' refine And.intro ?_ ?_)<;>first|with_reducible exact ec|omega|with_reducible trivial
 refine aQ aHh ?_
 unfold mY at h0;unfold aBQ;have hp:=fZ [x0,x1,x2,x3,x4,x5,x6,x7];have hl:=fD [x0,x1,x2,x3,x4,x5,x6,x7] (cW [x0,x1,x2,x3,x4,x5,x6,x7]) a;simp only[nn,eH,List.cons_append,List.nil_append,bF]at h0;simp only[rL]at h0;have hn:a=(cW [x0,x1,x2,x3,x4,x5,x6,x7]).toNat:=(by omega);have ec:Lc.enc (gM [x0,x1,x2,x3,x4,x5,x6,x7] (cW [x0,x1,x2,x3,x4,x5,x6,x7]) a)=G 44 [x0,x1,x2,x3,x4,x5,x6,x7]:=(by rw[hn];rfl);have el:((gM [x0,x1,x2,x3,x4,x5,x6,x7] (cW [x0,x1,x2,x3,x4,x5,x6,x7]) a).length:Int)=1*2 ^ (G 43 [x0,x1,x2,x3,x4,x5,x6,x7]).toNat+1:=(by rw[hl,rL];omega);clear h0;simp only[bV];refine⟨rfl,aKO (by simp),?_⟩;simp only[aR];simp only[nn,eH,List.cons_append,List.nil_append,bF]at ec el ⊢;(repeat' refine And.intro ?_ ?_)<;>first|with_reducible exact ec|with_reducible exact el|with_reducible trivial
end Go.Proofs.Ythiehfhphgkaeaa
set_option maxRecDepth 100000
namespace Go.Proofs.Ythiehfhphgkaeaa
open Go Go.RowKit Sx Wi
def aKM (P:Program) (fs:List B):Res SV:=aCb P fs
def aJ3:List B:=[]
theorem aI9:aKM Try.prog aJ3 = .ok (.tuple [(.agg []),(.bool (.lit true))]):=by kernel_rfl
end Go.Proofs.Ythiehfhphgkaeaa
namespace Go.Proofs.Ythiehfhphgkaeaa
open Go Go.RowKit Sx Wi
set_option maxRecDepth 100000 in
theorem aJV (x0 x1 x2 x3 x4 x5 x6 x7:Int):iJ Try.prog G (bO GB) (dJ (cH Try.prog 16) 1) aDn (eT ([x0,x1,x2,x3,x4,x5,x6,x7]:List Int)):=by
 intro hw _
 have hb:eC nO (([x0,x1,x2,x3,x4,x5,x6,x7]:List Int)++[0,1]):=hw
 unfold nO at hb
 simp only[List.cons_append,List.nil_append]at hb
 obtain⟨b0,b1,b2,b3,b4,b5,b6,b7,_⟩:=hb
 have hC:G 91 [0,G 2 [x0,1*256],G 2 [x1,1*256]]=Lc.enc (gM [x0,x1,x2,x3,x4,x5,x6,x7] (cW [x0,x1,x2,x3,x4,x5,x6,x7]) 0):=iT iZ [] [G 2 [x0,1*256],G 2 [x1,1*256]]
 have e:fK G (eT ([x0,x1,x2,x3,x4,x5,x6,x7]:List Int)) aDn.es=eH x0 x1 x2 x3 x4 x5 x6 x7 0:=by
  rw[eM];unfold eH;rw[←hC];rfl
 rw[e]
 have hp:=fZ [x0,x1,x2,x3,x4,x5,x6,x7]
 exact⟨(cW [x0,x1,x2,x3,x4,x5,x6,x7]).toNat+1,dT (ι:=Nat) (ρ:=eH x0 x1 x2 x3 x4 x5 x6 x7) (ρT:=eT ([x0,x1,x2,x3,x4,x5,x6,x7]:List Int)) (m:=fun a=>(cW [x0,x1,x2,x3,x4,x5,x6,x7]).toNat-a) (Good:=fun a=>(a:Int)≤cW [x0,x1,x2,x3,x4,x5,x6,x7]) (run:=pC Try.prog) (fun _=>rfl) fits rfl eK (fun a ha=>aE1 x0 x1 x2 x3 x4 x5 x6 x7 b0 b1 b2 b3 b4 b5 b6 b7 a ha) (fun _ _ X hX hG=>bN hX hG) (fun _ _ X hX hG=>cO) (fun a ha=>aKf x0 x1 x2 x3 x4 x5 x6 x7 b0 b1 b2 b3 b4 b5 b6 b7 a ha) (by decide) _ 0 (by show ((0:Nat):Int)≤_;omega) (by show (cW [x0,x1,x2,x3,x4,x5,x6,x7]).toNat-0<_;omega)⟩
theorem aCO:bB (cH Try.prog 16)=[dJ (cH Try.prog 16) 0,dJ (cH Try.prog 16) 1]:=by kernel_rfl
set_option maxRecDepth 100000 in
theorem aIp (x0 x1 x2 x3 x4 x5 x6 x7:Int) (b0 : -2147483648≤x0∧x0≤2147483647) (b1 : -2147483648≤x1∧x1≤2147483647) (b2 : -2147483648≤x2∧x2≤2147483647) (b3 : -2147483648≤x3∧x3≤2147483647) (b4 : -2147483648≤x4∧x4≤2147483647) (b5 : -2147483648≤x5∧x5≤2147483647) (b6 : -2147483648≤x6∧x6≤2147483647) (b7 : -2147483648≤x7∧x7≤2147483647):dW Try.prog G GB 16 aCR (eT ([x0,x1,x2,x3,x4,x5,x6,x7]:List Int)):=by
 refine cP (lp:=aDO) (run:=aCb Try.prog) (fun _=>rfl) fits (dO ⟨b0,b1,b2,b3,b4,b5,b6,b7,trivial⟩) eK (fun X hX hG=>bN hX hG) (fun X hX hG fn c hf hc=>?_) rfl ?_
 ·refine fT ((congrArg bB (gU hf hc)).symm.trans aCO) ?_
  intro b hb
  simp only[List.mem_cons,List.mem_nil_iff,or_false]at hb
  rcases hb with rfl|rfl
  ·exact yR (j:=3) (by kernel_rfl) (by decide) aB7
  ·refine iB hX hG (by kernel_rfl) ?_
   intro p hp
   simp only[List.mem_cons,List.mem_nil_iff,or_false]at hp
   subst hp
   exact aJV x0 x1 x2 x3 x4 x5 x6 x7
 ·skip
  refine aQ aI9 ?_
  exact⟨rfl,trivial⟩
theorem aM {p:Int × Int} {l:List (Int × Int)} {xs:List Int} (h:eC (p::l) xs):∃ x ys,xs=x::ys∧(p.1≤x∧x≤p.2)∧eC l ys:=by
 cases xs with
 |nil=>exact h.elim
 |cons x ys=>exact⟨x,ys,rfl,h.1,h.2⟩
theorem oW {xs:List Int} (h:eC [] xs):xs=[]:=by
 cases xs with
 |nil=>rfl
 |cons x ys=>exact h.elim
def uB:Ctx→List SV→aG→Res (SV × aG):=dL GB uO 0 (.lit true) aCR
theorem aKl {X:Ctx} {ρ:Nat→Int} (hX:X.Ok ρ) (hG:X.G=G):eZ Try.prog X ρ GB 16 uB:=by
 obtain⟨XG,XI,XV,XF⟩:=X
 simp only at hG
 subst hG
 refine cL hX ?_
 intro xs ls hw hl _
 have hl':ls=[]:=List.length_eq_zero_iff.1 hl
 subst hl'
 rw[List.append_nil]
 unfold uO at hw
 obtain⟨x0,y0,e0,b0,h0⟩:=aM hw
 obtain⟨x1,y1,e1,b1,h1⟩:=aM h0
 obtain⟨x2,y2,e2,b2,h2⟩:=aM h1
 obtain⟨x3,y3,e3,b3,h3⟩:=aM h2
 obtain⟨x4,y4,e4,b4,h4⟩:=aM h3
 obtain⟨x5,y5,e5,b5,h5⟩:=aM h4
 obtain⟨x6,y6,e6,b6,h6⟩:=aM h5
 obtain⟨x7,y7,e7,b7,h7⟩:=aM h6
 have e8:=oW h7
 subst e8 e7 e6 e5 e4 e3 e2 e1 e0
 exact aIp x0 x1 x2 x3 x4 x5 x6 x7 b0 b1 b2 b3 b4 b5 b6 b7
end Go.Proofs.Ythiehfhphgkaeaa
