/- What is proved: the law LookupsFlat,over all its ways: it is true. No condition but the numbers' own bounds. -/
import Derived.Test.YtdldallkeheciaaQNn
import Derived.Test.YtdldallkeheciaaQa10
import Derived.Test.YtdldallkeheciaaQa11
import Derived.Test.YtdldallkeheciaaQa1
set_option linter.unusedSimpArgs false
set_option linter.unusedVariables false
namespace Go.Proofs.Ytdldallkeheciaa
open Go Go.RowKit Sx Wi Lk
def kF (x0 x1 x2 x3 x4 x5 x6 x7 x8 x9 x10 x11 x12 x13 x14 x15 l0 l1 l2 l3 l4 l5 l6:Int) (i:Nat):Nat→Int:=cR ([x0,x1,x2,x3,x4,x5,x6,x7,x8,x9,x10,x11,x12,x13,x14,x15,(i:Int)]++[l0,l1,l2,l3,l4,l5,l6,G 75 [255*x15,x7,(i:Int)]])
theorem aPU (x0 x1 x2 x3 x4 x5 x6 x7 x8 x9 x10 x11 x12 x13 x14 x15 l0 l1 l2 l3 l4 l5 l6:Int) (b0:0≤x0∧x0≤255) (b1:0≤x1∧x1≤9223372036854775807) (b2:0≤x2∧x2≤9223372036854775807) (b3:0≤x3∧x3≤17592186043904) (b4:(-9223372036854775808)≤x4∧x4≤9223372036854775807) (b5:0≤x5∧x5≤9223372036854775807) (b6:0≤x6∧x6≤9223372036854775807) (b7:0≤x7∧x7≤70000) (b8:0≤x8∧x8≤9223372036854775807) (b9:0≤x9∧x9≤9223372036854775807) (b10:(-2147483648)≤x10∧x10≤2147483647) (b11:0≤x11∧x11≤9223372036854775807) (b12:0≤x12∧x12≤9223372036854775807) (b13:0≤x13∧x13≤9223372036854775807) (b14:0≤x14∧x14≤9223372036854775807) (b15:0≤x15∧x15≤1) (i:Nat) (hi:(i:Int)≤x7):∀ k q,aBm[k]?=some q→q.1≤kF x0 x1 x2 x3 x4 x5 x6 x7 x8 x9 x10 x11 x12 x13 x14 x15 l0 l1 l2 l3 l4 l5 l6 i k∧kF x0 x1 x2 x3 x4 x5 x6 x7 x8 x9 x10 x11 x12 x13 x14 x15 l0 l1 l2 l3 l4 l5 l6 i k≤q.2:=by
 unfold kF aBm
 exact bP (xs:=[x0,x1,x2,x3,x4,x5,x6,x7,x8,x9,x10,x11,x12,x13,x14,x15,(i:Int)]) (by exact⟨b0,b1,b2,b3,b4,b5,b6,b7,b8,b9,b10,b11,b12,b13,b14,b15,by omega,trivial⟩)
set_option maxHeartbeats 4000000 in
set_option maxRecDepth 100000 in
theorem aT2 (x0 x1 x2 x3 x4 x5 x6 x7 x8 x9 x10 x11 x12 x13 x14 x15 l0 l1 l2 l3 l4 l5 l6:Int) (b0:0≤x0∧x0≤255) (b1:0≤x1∧x1≤9223372036854775807) (b2:0≤x2∧x2≤9223372036854775807) (b3:0≤x3∧x3≤17592186043904) (b4:(-9223372036854775808)≤x4∧x4≤9223372036854775807) (b5:0≤x5∧x5≤9223372036854775807) (b6:0≤x6∧x6≤9223372036854775807) (b7:0≤x7∧x7≤70000) (b8:0≤x8∧x8≤9223372036854775807) (b9:0≤x9∧x9≤9223372036854775807) (b10:(-2147483648)≤x10∧x10≤2147483647) (b11:0≤x11∧x11≤9223372036854775807) (b12:0≤x12∧x12≤9223372036854775807) (b13:0≤x13∧x13≤9223372036854775807) (b14:0≤x14∧x14≤9223372036854775807) (b15:0≤x15∧x15≤1) (i:Nat) (hi:(i:Int)≤x7):Sx.Way (xJ Try.prog) G (kF x0 x1 x2 x3 x4 x5 x6 x7 x8 x9 x10 x11 x12 x13 x14 x15 l0 l1 l2 l3 l4 l5 l6 i) (cF G (kF x0 x1 x2 x3 x4 x5 x6 x7 x8 x9 x10 x11 x12 x13 x14 x15 l0 l1 l2 l3 l4 l5 l6) (cR ([x0,x1,x2,x3,x4,x5,x6,x7,x8,x9,x10,x11,x12,x13,x14,x15]++[l0,l1,l2,l3,l4,l5,l6])) 16 (.lit true) (fun i=>(i:Int)≤x7) (fun i=>x7.toNat-i) i) []:=by
 refine aG tA (fun h0=>?_) (fun h0=>?_)
 ·skip
  refine aH aOs ?_
  unfold tA at h0;unfold aHc;have z:=h0;clear h0;simp only[nn,kF,List.cons_append,List.nil_append,Bool.or_eq_true,aP,ne_eq]at z;have key:=aJY (c:=255*x15) z;have hm:x7.toNat-(i+1)<x7.toNat-i:=(by omega);have hg:((i+1:Nat):Int)≤x7:=(by omega);clear z;simp only[cF];refine⟨i+1,hg,hm,(fun k hk=>by (match k,hk with|0,_=>rfl|1,_=>rfl|2,_=>rfl|3,_=>rfl|4,_=>rfl|5,_=>rfl|6,_=>rfl|7,_=>rfl|8,_=>rfl|9,_=>rfl|10,_=>rfl|11,_=>rfl|12,_=>rfl|13,_=>rfl|14,_=>rfl|k+15,hk=>(have e:k=0:=(by omega);subst e;rfl))),?_⟩;simp only[aI];simp only[nn,kF,List.cons_append,List.nil_append,Bool.or_eq_true,aP,ne_eq];rw[key];(repeat' refine And.intro ?_ ?_)<;>first|with_reducible rfl|trivial|omega
 refine aH aQ5 ?_
 unfold tA at h0;unfold aHP;simp only[nn,kF,List.cons_append,List.nil_append,Bool.or_eq_true,aP,ne_eq]at h0;have he:(i:Int)=x7:=(by omega);clear h0;simp only[cF];refine⟨rfl,(fun k hk=>by (match k,hk with|0,_=>rfl|1,_=>rfl|2,_=>rfl|3,_=>rfl|4,_=>rfl|5,_=>rfl|6,_=>rfl|7,_=>rfl|8,_=>rfl|9,_=>rfl|10,_=>rfl|11,_=>rfl|12,_=>rfl|13,_=>rfl|14,_=>rfl|k+15,hk=>(have e:k=0:=(by omega);subst e;rfl))),?_⟩;simp only[aI];simp only[nn,kF,List.cons_append,List.nil_append,Bool.or_eq_true,aP,ne_eq];rw[he];(repeat' refine And.intro ?_ ?_)<;>first|with_reducible rfl|trivial
set_option maxRecDepth 100000 in
theorem aTH (x0 x1 x2 x3 x4 x5 x6 x7 x8 x9 x10 x11 x12 x13 x14 x15 l0 l1 l2 l3 l4 l5 l6:Int):gG Try.prog G (bN GB) (cN (bW Try.prog 4) 0) aUd (cR ([x0,x1,x2,x3,x4,x5,x6,x7,x8,x9,x10,x11,x12,x13,x14,x15]++[l0,l1,l2,l3,l4,l5,l6])):=by
 intro hw _
 have hb:dW aBm ([x0,x1,x2,x3,x4,x5,x6,x7,x8,x9,x10,x11,x12,x13,x14,x15]++[0]):=hw
 unfold aBm at hb
 simp only[List.cons_append,List.nil_append]at hb
 obtain⟨b0,b1,b2,b3,b4,b5,b6,b7,b8,b9,b10,b11,b12,b13,b14,b15,_⟩:=hb
 have e:gA G (cR ([x0,x1,x2,x3,x4,x5,x6,x7,x8,x9,x10,x11,x12,x13,x14,x15]++[l0,l1,l2,l3,l4,l5,l6])) aUd.es=kF x0 x1 x2 x3 x4 x5 x6 x7 x8 x9 x10 x11 x12 x13 x14 x15 l0 l1 l2 l3 l4 l5 l6 0:=by
  rw[eI]
  unfold kF
  rw[show ((0:Nat):Int)=0 from rfl,←aNe]
  rfl
 rw[e]
 exact⟨x7.toNat+1,gB (ι:=Nat) (ρ:=kF x0 x1 x2 x3 x4 x5 x6 x7 x8 x9 x10 x11 x12 x13 x14 x15 l0 l1 l2 l3 l4 l5 l6) (ρT:=(cR ([x0,x1,x2,x3,x4,x5,x6,x7,x8,x9,x10,x11,x12,x13,x14,x15]++[l0,l1,l2,l3,l4,l5,l6]))) (m:=fun i=>x7.toNat-i) (Good:=fun i=>(i:Int)≤x7) (run:=xJ Try.prog) (fun _=>rfl) fits rfl eS (fun i hi=>aPU x0 x1 x2 x3 x4 x5 x6 x7 x8 x9 x10 x11 x12 x13 x14 x15 l0 l1 l2 l3 l4 l5 l6 b0 b1 b2 b3 b4 b5 b6 b7 b8 b9 b10 b11 b12 b13 b14 b15 i hi) (fun _ _ X hX hG=>dA hX hG) (fun _ _ X hX hG=>cG) (fun i hi=>aT2 x0 x1 x2 x3 x4 x5 x6 x7 x8 x9 x10 x11 x12 x13 x14 x15 l0 l1 l2 l3 l4 l5 l6 b0 b1 b2 b3 b4 b5 b6 b7 b8 b9 b10 b11 b12 b13 b14 b15 i hi) (by decide) _ 0 (by show ((0:Nat):Int)≤x7;omega) (by show x7.toNat-0<x7.toNat+1;omega)⟩
def bR (x0 x1 x2 x3 x4 x5 x6 x7 x8 x9 x10 x11 x12 x13 x14 x15 l0 l1 l2 l3 l4 l5 l6 X:Int) (j:Nat):Nat→Int:=cR ([x0,x1,x2,x3,x4,x5,x6,x7,x8,x9,x10,x11,x12,x13,x14,x15,(j:Int)]++[l0,l1,l2,l3,l4,l5,l6,X])
theorem aHH (x0 x1 x2 x3 x4 x5 x6 x7 x8 x9 x10 x11 x12 x13 x14 x15 l0 l1 l2 l3 l4 l5 l6 X:Int) (b0:0≤x0∧x0≤255) (b1:0≤x1∧x1≤9223372036854775807) (b2:0≤x2∧x2≤9223372036854775807) (b3:0≤x3∧x3≤17592186043904) (b4:(-9223372036854775808)≤x4∧x4≤9223372036854775807) (b5:0≤x5∧x5≤9223372036854775807) (b6:0≤x6∧x6≤9223372036854775807) (b7:0≤x7∧x7≤70000) (b8:0≤x8∧x8≤9223372036854775807) (b9:0≤x9∧x9≤9223372036854775807) (b10:(-2147483648)≤x10∧x10≤2147483647) (b11:0≤x11∧x11≤9223372036854775807) (b12:0≤x12∧x12≤9223372036854775807) (b13:0≤x13∧x13≤9223372036854775807) (b14:0≤x14∧x14≤9223372036854775807) (b15:0≤x15∧x15≤1) (h4:x2≤4) (j:Nat) (hj:(j:Int)≤x2):∀ k q,sV[k]?=some q→q.1≤bR x0 x1 x2 x3 x4 x5 x6 x7 x8 x9 x10 x11 x12 x13 x14 x15 l0 l1 l2 l3 l4 l5 l6 X j k∧bR x0 x1 x2 x3 x4 x5 x6 x7 x8 x9 x10 x11 x12 x13 x14 x15 l0 l1 l2 l3 l4 l5 l6 X j k≤q.2:=by
 unfold bR sV
 exact bP (xs:=[x0,x1,x2,x3,x4,x5,x6,x7,x8,x9,x10,x11,x12,x13,x14,x15,(j:Int)]) (by exact⟨b0,b1,b2,b3,b4,b5,b6,b7,b8,b9,b10,b11,b12,b13,b14,b15,by omega,trivial⟩)
set_option maxHeartbeats 4000000 in
set_option maxRecDepth 100000 in
theorem aM3 (x0 x1 x2 x3 x4 x5 x6 x7 x8 x9 x10 x11 x12 x13 x14 x15 l0 l1 l2 l3 l4 l5 l6 X C:Int) (b0:0≤x0∧x0≤255) (b1:0≤x1∧x1≤9223372036854775807) (b2:0≤x2∧x2≤9223372036854775807) (b3:0≤x3∧x3≤17592186043904) (b4:(-9223372036854775808)≤x4∧x4≤9223372036854775807) (b5:0≤x5∧x5≤9223372036854775807) (b6:0≤x6∧x6≤9223372036854775807) (b7:0≤x7∧x7≤70000) (b8:0≤x8∧x8≤9223372036854775807) (b9:0≤x9∧x9≤9223372036854775807) (b10:(-2147483648)≤x10∧x10≤2147483647) (b11:0≤x11∧x11≤9223372036854775807) (b12:0≤x12∧x12≤9223372036854775807) (b13:0≤x13∧x13≤9223372036854775807) (b14:0≤x14∧x14≤9223372036854775807) (b15:0≤x15∧x15≤1) (h4:x2≤4) (h6:x6=0∧C=l1∨x6=x2∧0<x6∧C=l4) (ho:aBY l1 C x2 x15 X) (j:Nat) (hj:(j:Int)≤x2):Sx.Way (sX Try.prog) G (bR x0 x1 x2 x3 x4 x5 x6 x7 x8 x9 x10 x11 x12 x13 x14 x15 l0 l1 l2 l3 l4 l5 l6 X j) (cF G (bR x0 x1 x2 x3 x4 x5 x6 x7 x8 x9 x10 x11 x12 x13 x14 x15 l0 l1 l2 l3 l4 l5 l6 X) (cR ([x0,x1,x2,x3,x4,x5,x6,x7,x8,x9,x10,x11,x12,x13,x14,x15]++[l0,l1,l2,l3,l4,l5,l6])) 16 (.lit true) (fun j=>(j:Int)≤x2) (fun j=>x2.toNat-j) j) []:=by
 refine aG fP (fun h0=>?_) (fun h0=>?_)
 rotate_left
 ·skip
  refine aH aNp ?_
  unfold aHT;clear h0;simp only[cF];refine⟨rfl,(fun k hk=>by (match k,hk with|0,_=>rfl|1,_=>rfl|2,_=>rfl|3,_=>rfl|4,_=>rfl|5,_=>rfl|6,_=>rfl|7,_=>rfl|8,_=>rfl|9,_=>rfl|10,_=>rfl|11,_=>rfl|12,_=>rfl|13,_=>rfl|14,_=>rfl|k+15,hk=>(have e:k=0:=(by omega);subst e;rfl))),?_⟩;simp only[aI];(try (simp only[nn,bR,List.cons_append,List.nil_append,Bool.or_eq_true,aP,ne_eq]));(try ((repeat' refine And.intro ?_ ?_)<;>first|with_reducible rfl|trivial))
 refine aG aCd (fun h1=>?_) (fun h1=>?_)
 rotate_left
 ·skip
  refine aQ ?_
  unfold aCd at h1;exfalso;have z1:=h1;clear h0 h1;simp only[nn,bR,List.cons_append,List.nil_append,Bool.or_eq_true,aP,ne_eq]at z1;omega
 refine aG jW (fun h2=>?_) (fun h2=>?_)
 ·skip
  refine aG jU (fun h3=>?_) (fun h3=>?_)
  ·skip
   refine aG aDe (fun h4=>?_) (fun h4=>?_)
   ·skip
    refine aH aOD ?_
    unfold fP at h0;unfold mA;have z:=h0;clear h0 h1 h2 h3 h4;simp only[nn,bR,List.cons_append,List.nil_append,Bool.or_eq_true,aP,ne_eq]at z;have hm:x2.toNat-(j+1)<x2.toNat-j:=(by omega);have hg:((j+1:Nat):Int)≤x2:=(by omega);clear z;simp only[cF];refine⟨j+1,hg,hm,(fun k hk=>by (match k,hk with|0,_=>rfl|1,_=>rfl|2,_=>rfl|3,_=>rfl|4,_=>rfl|5,_=>rfl|6,_=>rfl|7,_=>rfl|8,_=>rfl|9,_=>rfl|10,_=>rfl|11,_=>rfl|12,_=>rfl|13,_=>rfl|14,_=>rfl|k+15,hk=>(have e:k=0:=(by omega);subst e;rfl))),?_⟩;simp only[aI];simp only[nn,bR,List.cons_append,List.nil_append,Bool.or_eq_true,aP,ne_eq];(repeat' refine And.intro ?_ ?_)<;>first|with_reducible rfl|trivial|omega
   refine aQ ?_
   unfold fP at h0;unfold jW at h2;unfold jU at h3;unfold aDe at h4;exfalso;have z:=h0;simp only[nn,bR,List.cons_append,List.nil_append,Bool.or_eq_true,aP,ne_eq]at z;first|(have y1:=h2;have z1:=h4;clear h0 h1 h2 h3 h4;simp only[nn,bR,List.cons_append,List.nil_append,Bool.or_eq_true,aP,ne_eq]at y1 z1;omega)|(have o:=ho j z;have y1:=h2;have y2:=h3;have z1:=h4;clear h0 h1 h2 h3 h4;simp only[nn,bR,List.cons_append,List.nil_append,Bool.or_eq_true,aP,ne_eq]at y1 y2 z1;rcases h6 with⟨g1,g2⟩|⟨g1,g2,g3⟩<;>first|omega|(subst g2;(first|rw[if_pos y2]at o|rw[if_neg (by omega)]at o);with_reducible exact absurd o z1)|(subst g3;(first|rw[if_pos y2]at o|rw[if_neg (by omega)]at o);with_reducible exact absurd o z1))
  refine aG aC3 (fun h4=>?_) (fun h4=>?_)
  ·skip
   refine aH aPA ?_
   unfold fP at h0;unfold mA;have z:=h0;clear h0 h1 h2 h3 h4;simp only[nn,bR,List.cons_append,List.nil_append,Bool.or_eq_true,aP,ne_eq]at z;have hm:x2.toNat-(j+1)<x2.toNat-j:=(by omega);have hg:((j+1:Nat):Int)≤x2:=(by omega);clear z;simp only[cF];refine⟨j+1,hg,hm,(fun k hk=>by (match k,hk with|0,_=>rfl|1,_=>rfl|2,_=>rfl|3,_=>rfl|4,_=>rfl|5,_=>rfl|6,_=>rfl|7,_=>rfl|8,_=>rfl|9,_=>rfl|10,_=>rfl|11,_=>rfl|12,_=>rfl|13,_=>rfl|14,_=>rfl|k+15,hk=>(have e:k=0:=(by omega);subst e;rfl))),?_⟩;simp only[aI];simp only[nn,bR,List.cons_append,List.nil_append,Bool.or_eq_true,aP,ne_eq];(repeat' refine And.intro ?_ ?_)<;>first|with_reducible rfl|trivial|omega
  refine aQ ?_
  unfold fP at h0;unfold jW at h2;unfold jU at h3;unfold aC3 at h4;exfalso;have z:=h0;simp only[nn,bR,List.cons_append,List.nil_append,Bool.or_eq_true,aP,ne_eq]at z;first|(have y1:=h2;have z1:=h4;clear h0 h1 h2 h3 h4;simp only[nn,bR,List.cons_append,List.nil_append,Bool.or_eq_true,aP,ne_eq]at y1 z1;omega)|(have o:=ho j z;have y1:=h2;have y2:=h3;have z1:=h4;clear h0 h1 h2 h3 h4;simp only[nn,bR,List.cons_append,List.nil_append,Bool.or_eq_true,aP,ne_eq]at y1 y2 z1;rcases h6 with⟨g1,g2⟩|⟨g1,g2,g3⟩<;>first|omega|(subst g2;(first|rw[if_pos y2]at o|rw[if_neg (by omega)]at o);with_reducible exact absurd o z1)|(subst g3;(first|rw[if_pos y2]at o|rw[if_neg (by omega)]at o);with_reducible exact absurd o z1))
 refine aG xG (fun h3=>?_) (fun h3=>?_)
 rotate_left
 ·skip
  refine aQ ?_
  unfold fP at h0;unfold jW at h2;unfold xG at h3;exfalso;have z:=h0;simp only[nn,bR,List.cons_append,List.nil_append,Bool.or_eq_true,aP,ne_eq]at z;first|(have y1:=h2;have z1:=h3;clear h0 h1 h2 h3;simp only[nn,bR,List.cons_append,List.nil_append,Bool.or_eq_true,aP,ne_eq]at y1 z1;omega)|(have o:=ho j z;have y1:=h2;have y2:=h2;have z1:=h3;clear h0 h1 h2 h3;simp only[nn,bR,List.cons_append,List.nil_append,Bool.or_eq_true,aP,ne_eq]at y1 y2 z1;rcases h6 with⟨g1,g2⟩|⟨g1,g2,g3⟩<;>first|omega|(subst g2;(first|rw[if_pos y2]at o|rw[if_neg (by omega)]at o);with_reducible exact absurd o z1)|(subst g3;(first|rw[if_pos y2]at o|rw[if_neg (by omega)]at o);with_reducible exact absurd o z1))
 refine aG xB (fun h4=>?_) (fun h4=>?_)
 rotate_left
 ·skip
  refine aQ ?_
  unfold fP at h0;unfold jW at h2;unfold xG at h3;unfold xB at h4;exfalso;have z:=h0;simp only[nn,bR,List.cons_append,List.nil_append,Bool.or_eq_true,aP,ne_eq]at z;first|(have y1:=h2;have z1:=h4;clear h0 h1 h2 h3 h4;simp only[nn,bR,List.cons_append,List.nil_append,Bool.or_eq_true,aP,ne_eq]at y1 z1;omega)|(have o:=ho j z;have y1:=h2;have y2:=h3;have z1:=h4;clear h0 h1 h2 h3 h4;simp only[nn,bR,List.cons_append,List.nil_append,Bool.or_eq_true,aP,ne_eq]at y1 y2 z1;rcases h6 with⟨g1,g2⟩|⟨g1,g2,g3⟩<;>first|omega|(subst g2;(first|rw[if_pos y2]at o|rw[if_neg (by omega)]at o);with_reducible exact absurd o z1)|(subst g3;(first|rw[if_pos y2]at o|rw[if_neg (by omega)]at o);with_reducible exact absurd o z1))
 refine aG aCk (fun h5=>?_) (fun h5=>?_)
 rotate_left
 ·skip
  refine aQ ?_
  unfold fP at h0;unfold jW at h2;unfold xB at h4;unfold aCk at h5;exfalso;have z:=h0;simp only[nn,bR,List.cons_append,List.nil_append,Bool.or_eq_true,aP,ne_eq]at z;first|(have y1:=h2;have z1:=h5;clear h0 h1 h2 h3 h4 h5;simp only[nn,bR,List.cons_append,List.nil_append,Bool.or_eq_true,aP,ne_eq]at y1 z1;omega)|(have o:=ho j z;have y1:=h2;have y2:=h4;have z1:=h5;clear h0 h1 h2 h3 h4 h5;simp only[nn,bR,List.cons_append,List.nil_append,Bool.or_eq_true,aP,ne_eq]at y1 y2 z1;rcases h6 with⟨g1,g2⟩|⟨g1,g2,g3⟩<;>first|omega|(subst g2;(first|rw[if_pos y2]at o|rw[if_neg (by omega)]at o);with_reducible exact absurd o z1)|(subst g3;(first|rw[if_pos y2]at o|rw[if_neg (by omega)]at o);with_reducible exact absurd o z1))
 refine aG jU (fun h6=>?_) (fun h6=>?_)
 ·skip
  refine aG aBv (fun h7=>?_) (fun h7=>?_)
  ·skip
   refine aH aMv ?_
   unfold fP at h0;unfold mA;have z:=h0;clear h0 h1 h2 h3 h4 h5 h6 h7;simp only[nn,bR,List.cons_append,List.nil_append,Bool.or_eq_true,aP,ne_eq]at z;have hm:x2.toNat-(j+1)<x2.toNat-j:=(by omega);have hg:((j+1:Nat):Int)≤x2:=(by omega);clear z;simp only[cF];refine⟨j+1,hg,hm,(fun k hk=>by (match k,hk with|0,_=>rfl|1,_=>rfl|2,_=>rfl|3,_=>rfl|4,_=>rfl|5,_=>rfl|6,_=>rfl|7,_=>rfl|8,_=>rfl|9,_=>rfl|10,_=>rfl|11,_=>rfl|12,_=>rfl|13,_=>rfl|14,_=>rfl|k+15,hk=>(have e:k=0:=(by omega);subst e;rfl))),?_⟩;simp only[aI];simp only[nn,bR,List.cons_append,List.nil_append,Bool.or_eq_true,aP,ne_eq];(repeat' refine And.intro ?_ ?_)<;>first|with_reducible rfl|trivial|omega
  refine aQ ?_
  unfold fP at h0;unfold jW at h2;unfold jU at h6;unfold aBv at h7;exfalso;have z:=h0;simp only[nn,bR,List.cons_append,List.nil_append,Bool.or_eq_true,aP,ne_eq]at z;first|(have y1:=h2;have z1:=h7;clear h0 h1 h2 h3 h4 h5 h6 h7;simp only[nn,bR,List.cons_append,List.nil_append,Bool.or_eq_true,aP,ne_eq]at y1 z1;omega)|(have o:=ho j z;have y1:=h2;have y2:=h6;have z1:=h7;clear h0 h1 h2 h3 h4 h5 h6 h7;simp only[nn,bR,List.cons_append,List.nil_append,Bool.or_eq_true,aP,ne_eq]at y1 y2 z1;rcases h6 with⟨g1,g2⟩|⟨g1,g2,g3⟩<;>first|omega|(subst g2;(first|rw[if_pos y2]at o|rw[if_neg (by omega)]at o);with_reducible exact absurd o z1)|(subst g3;(first|rw[if_pos y2]at o|rw[if_neg (by omega)]at o);with_reducible exact absurd o z1))
 refine aG zX (fun h7=>?_) (fun h7=>?_)
 ·skip
  refine aH aJv ?_
  unfold fP at h0;unfold mA;have z:=h0;clear h0 h1 h2 h3 h4 h5 h6 h7;simp only[nn,bR,List.cons_append,List.nil_append,Bool.or_eq_true,aP,ne_eq]at z;have hm:x2.toNat-(j+1)<x2.toNat-j:=(by omega);have hg:((j+1:Nat):Int)≤x2:=(by omega);clear z;simp only[cF];refine⟨j+1,hg,hm,(fun k hk=>by (match k,hk with|0,_=>rfl|1,_=>rfl|2,_=>rfl|3,_=>rfl|4,_=>rfl|5,_=>rfl|6,_=>rfl|7,_=>rfl|8,_=>rfl|9,_=>rfl|10,_=>rfl|11,_=>rfl|12,_=>rfl|13,_=>rfl|14,_=>rfl|k+15,hk=>(have e:k=0:=(by omega);subst e;rfl))),?_⟩;simp only[aI];simp only[nn,bR,List.cons_append,List.nil_append,Bool.or_eq_true,aP,ne_eq];(repeat' refine And.intro ?_ ?_)<;>first|with_reducible rfl|trivial|omega
 refine aQ ?_
 unfold fP at h0;unfold jW at h2;unfold jU at h6;unfold zX at h7;exfalso;have z:=h0;simp only[nn,bR,List.cons_append,List.nil_append,Bool.or_eq_true,aP,ne_eq]at z;first|(have y1:=h2;have z1:=h7;clear h0 h1 h2 h3 h4 h5 h6 h7;simp only[nn,bR,List.cons_append,List.nil_append,Bool.or_eq_true,aP,ne_eq]at y1 z1;omega)|(have o:=ho j z;have y1:=h2;have y2:=h6;have z1:=h7;clear h0 h1 h2 h3 h4 h5 h6 h7;simp only[nn,bR,List.cons_append,List.nil_append,Bool.or_eq_true,aP,ne_eq]at y1 y2 z1;rcases h6 with⟨g1,g2⟩|⟨g1,g2,g3⟩<;>first|omega|(subst g2;(first|rw[if_pos y2]at o|rw[if_neg (by omega)]at o);with_reducible exact absurd o z1)|(subst g3;(first|rw[if_pos y2]at o|rw[if_neg (by omega)]at o);with_reducible exact absurd o z1))
set_option maxRecDepth 100000 in
theorem aRl (x0 x1 x2 x3 x4 x5 x6 x7 x8 x9 x10 x11 x12 x13 x14 x15 l0 l1 l2 l3 l4 l5 l6:Int):gG Try.prog G (bN GB) (cN (bW Try.prog 4) 1) aME (cR ([x0,x1,x2,x3,x4,x5,x6,x7,x8,x9,x10,x11,x12,x13,x14,x15]++[l0,l1,l2,l3,l4,l5,l6])):=by
 intro hw hpre
 have hb:dW sV ([x0,x1,x2,x3,x4,x5,x6,x7,x8,x9,x10,x11,x12,x13,x14,x15]++[0]):=hw
 unfold sV at hb
 simp only[List.cons_append,List.nil_append]at hb
 obtain⟨b0,b1,b2,b3,b4,b5,b6,b7,b8,b9,b10,b11,b12,b13,b14,b15,_⟩:=hb
 have e:gA G (cR ([x0,x1,x2,x3,x4,x5,x6,x7,x8,x9,x10,x11,x12,x13,x14,x15]++[l0,l1,l2,l3,l4,l5,l6])) aME.es=bR x0 x1 x2 x3 x4 x5 x6 x7 x8 x9 x10 x11 x12 x13 x14 x15 l0 l1 l2 l3 l4 l5 l6 (G 73 [l2,G 75 [255*x15,x7,x7],x7,x4,l1,l1,x2,G 65 [l0,l2,l3,x5,l6,x14,x14],x3,x2]) 0:=by
  rw[eI]
  rfl
 rw[e]at hpre ⊢
 have hq:B.den G (bR x0 x1 x2 x3 x4 x5 x6 x7 x8 x9 x10 x11 x12 x13 x14 x15 l0 l1 l2 l3 l4 l5 l6 (G 73 [l2,G 75 [255*x15,x7,x7],x7,x4,l1,l1,x2,G 65 [l0,l2,l3,x5,l6,x14,x14],x3,x2]) 0) (.and (.and (.and (.cmp .eq (.var 0) (.lit 1)) (.and (.cmp .lt (.lit 0) (.var 1)) (.and (.cmp .le (.var 1) (.lit 4)) (.and (B.neg (.or (.and (.cmp .lt (.lit 0) (.var 1)) (.cmp .le (.app 82 (.cons (.var 17) (.cons (.lit 0) (.cons (.lit 1) .nil)))) (.app 82 (.cons (.var 17) (.cons (.lit 0) (.cons (.lit 0) .nil)))))) (.or (.and (.cmp .lt (.lit 1) (.var 1)) (.cmp .le (.app 82 (.cons (.var 17) (.cons (.lit 1) (.cons (.lit 1) .nil)))) (.app 82 (.cons (.var 17) (.cons (.lit 1) (.cons (.lit 0) .nil)))))) (.or (.and (.cmp .lt (.lit 2) (.var 1)) (.cmp .le (.app 82 (.cons (.var 17) (.cons (.lit 2) (.cons (.lit 1) .nil)))) (.app 82 (.cons (.var 17) (.cons (.lit 2) (.cons (.lit 0) .nil)))))) (.and (.cmp .lt (.lit 3) (.var 1)) (.cmp .le (.app 82 (.cons (.var 17) (.cons (.lit 3) (.cons (.lit 1) .nil)))) (.app 82 (.cons (.var 17) (.cons (.lit 3) (.cons (.lit 0) .nil)))))))))) (.and (.cmp .lt (.lit 0) (.var 2)) (.and (.cmp .le (.var 2) (.lit 4)) (.and (B.neg (.or (.and (.cmp .lt (.lit 0) (.var 2)) (.cmp .lt (.app 82 (.cons (.var 18) (.cons (.lit 0) (.cons (.lit 1) .nil)))) (.app 82 (.cons (.var 18) (.cons (.lit 0) (.cons (.lit 0) .nil)))))) (.or (.and (.cmp .lt (.lit 1) (.var 2)) (.cmp .lt (.app 82 (.cons (.var 18) (.cons (.lit 1) (.cons (.lit 1) .nil)))) (.app 82 (.cons (.var 18) (.cons (.lit 1) (.cons (.lit 0) .nil)))))) (.or (.and (.cmp .lt (.lit 2) (.var 2)) (.cmp .lt (.app 82 (.cons (.var 18) (.cons (.lit 2) (.cons (.lit 1) .nil)))) (.app 82 (.cons (.var 18) (.cons (.lit 2) (.cons (.lit 0) .nil)))))) (.and (.cmp .lt (.lit 3) (.var 2)) (.cmp .lt (.app 82 (.cons (.var 18) (.cons (.lit 3) (.cons (.lit 1) .nil)))) (.app 82 (.cons (.var 18) (.cons (.lit 3) (.cons (.lit 0) .nil)))))))))) (.and (.cmp .eq (.var 3) (.var 1)) (.and (B.neg (.or (.and (.cmp .lt (.lit 0) (.var 3)) (.or (.cmp .lt (.app 83 (.cons (.var 19) (.cons (.lit 0) (.cons (.lit 0) .nil)))) (.lit 1)) (.cmp .lt (.lit 256) (.app 83 (.cons (.var 19) (.cons (.lit 0) (.cons (.lit 0) .nil))))))) (.or (.and (.cmp .lt (.lit 1) (.var 3)) (.or (.cmp .lt (.app 83 (.cons (.var 19) (.cons (.lit 1) (.cons (.lit 0) .nil)))) (.lit 1)) (.cmp .lt (.lit 256) (.app 83 (.cons (.var 19) (.cons (.lit 1) (.cons (.lit 0) .nil))))))) (.or (.and (.cmp .lt (.lit 2) (.var 3)) (.or (.cmp .lt (.app 83 (.cons (.var 19) (.cons (.lit 2) (.cons (.lit 0) .nil)))) (.lit 1)) (.cmp .lt (.lit 256) (.app 83 (.cons (.var 19) (.cons (.lit 2) (.cons (.lit 0) .nil))))))) (.or (.and (.cmp .lt (.lit 3) (.var 3)) (.or (.cmp .lt (.app 83 (.cons (.var 19) (.cons (.lit 3) (.cons (.lit 0) .nil)))) (.lit 1)) (.cmp .lt (.lit 256) (.app 83 (.cons (.var 19) (.cons (.lit 3) (.cons (.lit 0) .nil))))))) (.or (.and (.cmp .lt (.lit 4) (.var 3)) (.or (.cmp .lt (.app 83 (.cons (.var 19) (.cons (.lit 4) (.cons (.lit 0) .nil)))) (.lit 1)) (.cmp .lt (.lit 256) (.app 83 (.cons (.var 19) (.cons (.lit 4) (.cons (.lit 0) .nil))))))) (.or (.and (.cmp .lt (.lit 5) (.var 3)) (.or (.cmp .lt (.app 83 (.cons (.var 19) (.cons (.lit 5) (.cons (.lit 0) .nil)))) (.lit 1)) (.cmp .lt (.lit 256) (.app 83 (.cons (.var 19) (.cons (.lit 5) (.cons (.lit 0) .nil))))))) (.or (.and (.cmp .lt (.lit 6) (.var 3)) (.or (.cmp .lt (.app 83 (.cons (.var 19) (.cons (.lit 6) (.cons (.lit 0) .nil)))) (.lit 1)) (.cmp .lt (.lit 256) (.app 83 (.cons (.var 19) (.cons (.lit 6) (.cons (.lit 0) .nil))))))) (.and (.cmp .lt (.lit 7) (.var 3)) (.or (.cmp .lt (.app 83 (.cons (.var 19) (.cons (.lit 7) (.cons (.lit 0) .nil)))) (.lit 1)) (.cmp .lt (.lit 256) (.app 83 (.cons (.var 19) (.cons (.lit 7) (.cons (.lit 0) .nil))))))))))))))) (.and (.or (.cmp .eq (.var 4) (.lit 1)) (.or (.cmp .eq (.var 4) (.lit 2)) (.or (.cmp .eq (.var 4) (.lit 4)) (.or (.cmp .eq (.var 4) (.lit 8)) (.or (.cmp .eq (.var 4) (.lit 12)) (.cmp .eq (.var 4) (.lit 16))))))) (.and (.or (.cmp .eq (.var 5) (.lit 0)) (.cmp .eq (.var 5) (.var 1))) (.or (.cmp .eq (.var 6) (.lit 0)) (.cmp .eq (.var 6) (.var 2)))))))))))))) (.and (.cmp .le (.app 63 (.cons (.var 2) (.cons (.var 4) (.cons (.var 19) (.cons (.var 3) .nil))))) (.lit 524288)) (.cmp .le (.app 63 (.cons (.var 2) (.cons (.var 4) (.cons (.var 19) (.cons (.var 3) .nil))))) (.op .mul (.lit 8) (.var 7))))) (.and (.cmp .eq (.var 14) (.var 1)) (.cmp .eq (.var 6) (.lit 0))))=true:=hpre
 rw[aZ,Bool.and_eq_true]at hq
 obtain⟨q1,q2⟩:=hq
 rw[aZ,Bool.and_eq_true]at q1
 have tb:=nF (x0:=x0) (x1:=x1) (x2:=x2) (x3:=x3) (x4:=x4) (x5:=x5) (x6:=x6) (x7:=x7) (D:=l0) (R:=l1) (S:=l2) (ls:=[]) q1.1
 have q3:=q1.2
 simp only[nn,bR,List.cons_append,List.nil_append,Bool.or_eq_true,aP,ne_eq]at q2 q3
 obtain⟨t0,t1,tD,t2,tR,t3,tS,t4,t5,t6⟩:=tb
 have h0:0≤x2:=by omega
 have h4:x2≤4:=t2.2
 have e3:x3=x14:=by omega
 have hN:aK x2 x4 l2 x14.toNat≤8*x7:=by rw[←e3];exact q3.2
 have ho:aBY l1 l1 x2 x15 (G 73 [l2,G 75 [255*x15,x7,x7],x7,x4,l1,l1,x2,G 65 [l0,l2,l3,x5,l6,x14,x14],x3,x2]):=by
  rw[e3]
  exact aBf (m:=x14) (fun k hk=>tS k (by omega)) ⟨by omega,by omega⟩ tR hN ⟨by omega,by omega⟩ (by omega)
 exact⟨x2.toNat+1,gB (ι:=Nat) (ρ:=bR x0 x1 x2 x3 x4 x5 x6 x7 x8 x9 x10 x11 x12 x13 x14 x15 l0 l1 l2 l3 l4 l5 l6 (G 73 [l2,G 75 [255*x15,x7,x7],x7,x4,l1,l1,x2,G 65 [l0,l2,l3,x5,l6,x14,x14],x3,x2])) (ρT:=(cR ([x0,x1,x2,x3,x4,x5,x6,x7,x8,x9,x10,x11,x12,x13,x14,x15]++[l0,l1,l2,l3,l4,l5,l6]))) (m:=fun j=>x2.toNat-j) (Good:=fun j=>(j:Int)≤x2) (run:=sX Try.prog) (fun _=>rfl) fits rfl eS (fun j hj=>aHH x0 x1 x2 x3 x4 x5 x6 x7 x8 x9 x10 x11 x12 x13 x14 x15 l0 l1 l2 l3 l4 l5 l6 _ b0 b1 b2 b3 b4 b5 b6 b7 b8 b9 b10 b11 b12 b13 b14 b15 h4 j hj) (fun _ _ X hX hG=>dA hX hG) (fun _ _ X hX hG=>cG) (fun j hj=>aM3 x0 x1 x2 x3 x4 x5 x6 x7 x8 x9 x10 x11 x12 x13 x14 x15 l0 l1 l2 l3 l4 l5 l6 _ l1 b0 b1 b2 b3 b4 b5 b6 b7 b8 b9 b10 b11 b12 b13 b14 b15 h4 (by omega) ho j hj) (by decide) _ 0 (by show ((0:Nat):Int)≤x2;omega) (by show x2.toNat-0<x2.toNat+1;omega)⟩
set_option maxRecDepth 100000 in
theorem aR1 (x0 x1 x2 x3 x4 x5 x6 x7 x8 x9 x10 x11 x12 x13 x14 x15 l0 l1 l2 l3 l4 l5 l6:Int):gG Try.prog G (bN GB) (cN (bW Try.prog 4) 1) aK0 (cR ([x0,x1,x2,x3,x4,x5,x6,x7,x8,x9,x10,x11,x12,x13,x14,x15]++[l0,l1,l2,l3,l4,l5,l6])):=by
 intro hw hpre
 have hb:dW sV ([x0,x1,x2,x3,x4,x5,x6,x7,x8,x9,x10,x11,x12,x13,x14,x15]++[0]):=hw
 unfold sV at hb
 simp only[List.cons_append,List.nil_append]at hb
 obtain⟨b0,b1,b2,b3,b4,b5,b6,b7,b8,b9,b10,b11,b12,b13,b14,b15,_⟩:=hb
 have e:gA G (cR ([x0,x1,x2,x3,x4,x5,x6,x7,x8,x9,x10,x11,x12,x13,x14,x15]++[l0,l1,l2,l3,l4,l5,l6])) aK0.es=bR x0 x1 x2 x3 x4 x5 x6 x7 x8 x9 x10 x11 x12 x13 x14 x15 l0 l1 l2 l3 l4 l5 l6 (G 73 [l2,G 75 [255*x15,x7,x7],x7,x4,l4,l1,x2,G 65 [l0,l2,l3,x5,l6,x14,x14],x3,x2]) 0:=by
  rw[eI]
  rfl
 rw[e]at hpre ⊢
 have hq:B.den G (bR x0 x1 x2 x3 x4 x5 x6 x7 x8 x9 x10 x11 x12 x13 x14 x15 l0 l1 l2 l3 l4 l5 l6 (G 73 [l2,G 75 [255*x15,x7,x7],x7,x4,l4,l1,x2,G 65 [l0,l2,l3,x5,l6,x14,x14],x3,x2]) 0) (.and (.and (.and (.cmp .eq (.var 0) (.lit 1)) (.and (.cmp .lt (.lit 0) (.var 1)) (.and (.cmp .le (.var 1) (.lit 4)) (.and (B.neg (.or (.and (.cmp .lt (.lit 0) (.var 1)) (.cmp .le (.app 82 (.cons (.var 17) (.cons (.lit 0) (.cons (.lit 1) .nil)))) (.app 82 (.cons (.var 17) (.cons (.lit 0) (.cons (.lit 0) .nil)))))) (.or (.and (.cmp .lt (.lit 1) (.var 1)) (.cmp .le (.app 82 (.cons (.var 17) (.cons (.lit 1) (.cons (.lit 1) .nil)))) (.app 82 (.cons (.var 17) (.cons (.lit 1) (.cons (.lit 0) .nil)))))) (.or (.and (.cmp .lt (.lit 2) (.var 1)) (.cmp .le (.app 82 (.cons (.var 17) (.cons (.lit 2) (.cons (.lit 1) .nil)))) (.app 82 (.cons (.var 17) (.cons (.lit 2) (.cons (.lit 0) .nil)))))) (.and (.cmp .lt (.lit 3) (.var 1)) (.cmp .le (.app 82 (.cons (.var 17) (.cons (.lit 3) (.cons (.lit 1) .nil)))) (.app 82 (.cons (.var 17) (.cons (.lit 3) (.cons (.lit 0) .nil)))))))))) (.and (.cmp .lt (.lit 0) (.var 2)) (.and (.cmp .le (.var 2) (.lit 4)) (.and (B.neg (.or (.and (.cmp .lt (.lit 0) (.var 2)) (.cmp .lt (.app 82 (.cons (.var 18) (.cons (.lit 0) (.cons (.lit 1) .nil)))) (.app 82 (.cons (.var 18) (.cons (.lit 0) (.cons (.lit 0) .nil)))))) (.or (.and (.cmp .lt (.lit 1) (.var 2)) (.cmp .lt (.app 82 (.cons (.var 18) (.cons (.lit 1) (.cons (.lit 1) .nil)))) (.app 82 (.cons (.var 18) (.cons (.lit 1) (.cons (.lit 0) .nil)))))) (.or (.and (.cmp .lt (.lit 2) (.var 2)) (.cmp .lt (.app 82 (.cons (.var 18) (.cons (.lit 2) (.cons (.lit 1) .nil)))) (.app 82 (.cons (.var 18) (.cons (.lit 2) (.cons (.lit 0) .nil)))))) (.and (.cmp .lt (.lit 3) (.var 2)) (.cmp .lt (.app 82 (.cons (.var 18) (.cons (.lit 3) (.cons (.lit 1) .nil)))) (.app 82 (.cons (.var 18) (.cons (.lit 3) (.cons (.lit 0) .nil)))))))))) (.and (.cmp .eq (.var 3) (.var 1)) (.and (B.neg (.or (.and (.cmp .lt (.lit 0) (.var 3)) (.or (.cmp .lt (.app 83 (.cons (.var 19) (.cons (.lit 0) (.cons (.lit 0) .nil)))) (.lit 1)) (.cmp .lt (.lit 256) (.app 83 (.cons (.var 19) (.cons (.lit 0) (.cons (.lit 0) .nil))))))) (.or (.and (.cmp .lt (.lit 1) (.var 3)) (.or (.cmp .lt (.app 83 (.cons (.var 19) (.cons (.lit 1) (.cons (.lit 0) .nil)))) (.lit 1)) (.cmp .lt (.lit 256) (.app 83 (.cons (.var 19) (.cons (.lit 1) (.cons (.lit 0) .nil))))))) (.or (.and (.cmp .lt (.lit 2) (.var 3)) (.or (.cmp .lt (.app 83 (.cons (.var 19) (.cons (.lit 2) (.cons (.lit 0) .nil)))) (.lit 1)) (.cmp .lt (.lit 256) (.app 83 (.cons (.var 19) (.cons (.lit 2) (.cons (.lit 0) .nil))))))) (.or (.and (.cmp .lt (.lit 3) (.var 3)) (.or (.cmp .lt (.app 83 (.cons (.var 19) (.cons (.lit 3) (.cons (.lit 0) .nil)))) (.lit 1)) (.cmp .lt (.lit 256) (.app 83 (.cons (.var 19) (.cons (.lit 3) (.cons (.lit 0) .nil))))))) (.or (.and (.cmp .lt (.lit 4) (.var 3)) (.or (.cmp .lt (.app 83 (.cons (.var 19) (.cons (.lit 4) (.cons (.lit 0) .nil)))) (.lit 1)) (.cmp .lt (.lit 256) (.app 83 (.cons (.var 19) (.cons (.lit 4) (.cons (.lit 0) .nil))))))) (.or (.and (.cmp .lt (.lit 5) (.var 3)) (.or (.cmp .lt (.app 83 (.cons (.var 19) (.cons (.lit 5) (.cons (.lit 0) .nil)))) (.lit 1)) (.cmp .lt (.lit 256) (.app 83 (.cons (.var 19) (.cons (.lit 5) (.cons (.lit 0) .nil))))))) (.or (.and (.cmp .lt (.lit 6) (.var 3)) (.or (.cmp .lt (.app 83 (.cons (.var 19) (.cons (.lit 6) (.cons (.lit 0) .nil)))) (.lit 1)) (.cmp .lt (.lit 256) (.app 83 (.cons (.var 19) (.cons (.lit 6) (.cons (.lit 0) .nil))))))) (.and (.cmp .lt (.lit 7) (.var 3)) (.or (.cmp .lt (.app 83 (.cons (.var 19) (.cons (.lit 7) (.cons (.lit 0) .nil)))) (.lit 1)) (.cmp .lt (.lit 256) (.app 83 (.cons (.var 19) (.cons (.lit 7) (.cons (.lit 0) .nil))))))))))))))) (.and (.or (.cmp .eq (.var 4) (.lit 1)) (.or (.cmp .eq (.var 4) (.lit 2)) (.or (.cmp .eq (.var 4) (.lit 4)) (.or (.cmp .eq (.var 4) (.lit 8)) (.or (.cmp .eq (.var 4) (.lit 12)) (.cmp .eq (.var 4) (.lit 16))))))) (.and (.or (.cmp .eq (.var 5) (.lit 0)) (.cmp .eq (.var 5) (.var 1))) (.or (.cmp .eq (.var 6) (.lit 0)) (.cmp .eq (.var 6) (.var 2)))))))))))))) (.and (.cmp .le (.app 63 (.cons (.var 2) (.cons (.var 4) (.cons (.var 19) (.cons (.var 3) .nil))))) (.lit 524288)) (.cmp .le (.app 63 (.cons (.var 2) (.cons (.var 4) (.cons (.var 19) (.cons (.var 3) .nil))))) (.op .mul (.lit 8) (.var 7))))) (.and (.cmp .eq (.var 14) (.var 1)) (.cmp .lt (.lit 0) (.var 6))))=true:=hpre
 rw[aZ,Bool.and_eq_true]at hq
 obtain⟨q1,q2⟩:=hq
 rw[aZ,Bool.and_eq_true]at q1
 have tb:=nF (x0:=x0) (x1:=x1) (x2:=x2) (x3:=x3) (x4:=x4) (x5:=x5) (x6:=x6) (x7:=x7) (D:=l0) (R:=l1) (S:=l2) (ls:=[]) q1.1
 have q3:=q1.2
 simp only[nn,bR,List.cons_append,List.nil_append,Bool.or_eq_true,aP,ne_eq]at q2 q3
 obtain⟨t0,t1,tD,t2,tR,t3,tS,t4,t5,t6⟩:=tb
 have h0:0≤x2:=by omega
 have h4:x2≤4:=t2.2
 have e3:x3=x14:=by omega
 have hN:aK x2 x4 l2 x14.toNat≤8*x7:=by rw[←e3];exact q3.2
 have ho:aBY l1 l4 x2 x15 (G 73 [l2,G 75 [255*x15,x7,x7],x7,x4,l4,l1,x2,G 65 [l0,l2,l3,x5,l6,x14,x14],x3,x2]):=by
  rw[e3]
  exact aBf (m:=x14) (fun k hk=>tS k (by omega)) ⟨by omega,by omega⟩ tR hN ⟨by omega,by omega⟩ (by omega)
 exact⟨x2.toNat+1,gB (ι:=Nat) (ρ:=bR x0 x1 x2 x3 x4 x5 x6 x7 x8 x9 x10 x11 x12 x13 x14 x15 l0 l1 l2 l3 l4 l5 l6 (G 73 [l2,G 75 [255*x15,x7,x7],x7,x4,l4,l1,x2,G 65 [l0,l2,l3,x5,l6,x14,x14],x3,x2])) (ρT:=(cR ([x0,x1,x2,x3,x4,x5,x6,x7,x8,x9,x10,x11,x12,x13,x14,x15]++[l0,l1,l2,l3,l4,l5,l6]))) (m:=fun j=>x2.toNat-j) (Good:=fun j=>(j:Int)≤x2) (run:=sX Try.prog) (fun _=>rfl) fits rfl eS (fun j hj=>aHH x0 x1 x2 x3 x4 x5 x6 x7 x8 x9 x10 x11 x12 x13 x14 x15 l0 l1 l2 l3 l4 l5 l6 _ b0 b1 b2 b3 b4 b5 b6 b7 b8 b9 b10 b11 b12 b13 b14 b15 h4 j hj) (fun _ _ X hX hG=>dA hX hG) (fun _ _ X hX hG=>cG) (fun j hj=>aM3 x0 x1 x2 x3 x4 x5 x6 x7 x8 x9 x10 x11 x12 x13 x14 x15 l0 l1 l2 l3 l4 l5 l6 _ l4 b0 b1 b2 b3 b4 b5 b6 b7 b8 b9 b10 b11 b12 b13 b14 b15 h4 (by omega) ho j hj) (by decide) _ 0 (by show ((0:Nat):Int)≤x2;omega) (by show x2.toNat-0<x2.toNat+1;omega)⟩
set_option maxRecDepth 100000 in
theorem jP (x0 x1 x2 x3 x4 x5 x6 x7 x8 x9 x10 x11 x12 x13 x14 x15 l0 l1 l2 l3 l4 l5 l6:Int) (h:B.den G (cR ([x0,x1,x2,x3,x4,x5,x6,x7,x8,x9,x10,x11,x12,x13,x14,x15]++[l0,l1,l2,l3,l4,l5,l6])) (.and (.and (.cmp .eq (.var 0) (.lit 1)) (.and (.cmp .lt (.lit 0) (.var 1)) (.and (.cmp .le (.var 1) (.lit 4)) (.and (B.neg (.or (.and (.cmp .lt (.lit 0) (.var 1)) (.cmp .le (.app 82 (.cons (.var 16) (.cons (.lit 0) (.cons (.lit 1) .nil)))) (.app 82 (.cons (.var 16) (.cons (.lit 0) (.cons (.lit 0) .nil)))))) (.or (.and (.cmp .lt (.lit 1) (.var 1)) (.cmp .le (.app 82 (.cons (.var 16) (.cons (.lit 1) (.cons (.lit 1) .nil)))) (.app 82 (.cons (.var 16) (.cons (.lit 1) (.cons (.lit 0) .nil)))))) (.or (.and (.cmp .lt (.lit 2) (.var 1)) (.cmp .le (.app 82 (.cons (.var 16) (.cons (.lit 2) (.cons (.lit 1) .nil)))) (.app 82 (.cons (.var 16) (.cons (.lit 2) (.cons (.lit 0) .nil)))))) (.and (.cmp .lt (.lit 3) (.var 1)) (.cmp .le (.app 82 (.cons (.var 16) (.cons (.lit 3) (.cons (.lit 1) .nil)))) (.app 82 (.cons (.var 16) (.cons (.lit 3) (.cons (.lit 0) .nil)))))))))) (.and (.cmp .lt (.lit 0) (.var 2)) (.and (.cmp .le (.var 2) (.lit 4)) (.and (B.neg (.or (.and (.cmp .lt (.lit 0) (.var 2)) (.cmp .lt (.app 82 (.cons (.var 17) (.cons (.lit 0) (.cons (.lit 1) .nil)))) (.app 82 (.cons (.var 17) (.cons (.lit 0) (.cons (.lit 0) .nil)))))) (.or (.and (.cmp .lt (.lit 1) (.var 2)) (.cmp .lt (.app 82 (.cons (.var 17) (.cons (.lit 1) (.cons (.lit 1) .nil)))) (.app 82 (.cons (.var 17) (.cons (.lit 1) (.cons (.lit 0) .nil)))))) (.or (.and (.cmp .lt (.lit 2) (.var 2)) (.cmp .lt (.app 82 (.cons (.var 17) (.cons (.lit 2) (.cons (.lit 1) .nil)))) (.app 82 (.cons (.var 17) (.cons (.lit 2) (.cons (.lit 0) .nil)))))) (.and (.cmp .lt (.lit 3) (.var 2)) (.cmp .lt (.app 82 (.cons (.var 17) (.cons (.lit 3) (.cons (.lit 1) .nil)))) (.app 82 (.cons (.var 17) (.cons (.lit 3) (.cons (.lit 0) .nil)))))))))) (.and (.cmp .eq (.var 3) (.var 1)) (.and (B.neg (.or (.and (.cmp .lt (.lit 0) (.var 3)) (.or (.cmp .lt (.app 83 (.cons (.var 18) (.cons (.lit 0) (.cons (.lit 0) .nil)))) (.lit 1)) (.cmp .lt (.lit 256) (.app 83 (.cons (.var 18) (.cons (.lit 0) (.cons (.lit 0) .nil))))))) (.or (.and (.cmp .lt (.lit 1) (.var 3)) (.or (.cmp .lt (.app 83 (.cons (.var 18) (.cons (.lit 1) (.cons (.lit 0) .nil)))) (.lit 1)) (.cmp .lt (.lit 256) (.app 83 (.cons (.var 18) (.cons (.lit 1) (.cons (.lit 0) .nil))))))) (.or (.and (.cmp .lt (.lit 2) (.var 3)) (.or (.cmp .lt (.app 83 (.cons (.var 18) (.cons (.lit 2) (.cons (.lit 0) .nil)))) (.lit 1)) (.cmp .lt (.lit 256) (.app 83 (.cons (.var 18) (.cons (.lit 2) (.cons (.lit 0) .nil))))))) (.or (.and (.cmp .lt (.lit 3) (.var 3)) (.or (.cmp .lt (.app 83 (.cons (.var 18) (.cons (.lit 3) (.cons (.lit 0) .nil)))) (.lit 1)) (.cmp .lt (.lit 256) (.app 83 (.cons (.var 18) (.cons (.lit 3) (.cons (.lit 0) .nil))))))) (.or (.and (.cmp .lt (.lit 4) (.var 3)) (.or (.cmp .lt (.app 83 (.cons (.var 18) (.cons (.lit 4) (.cons (.lit 0) .nil)))) (.lit 1)) (.cmp .lt (.lit 256) (.app 83 (.cons (.var 18) (.cons (.lit 4) (.cons (.lit 0) .nil))))))) (.or (.and (.cmp .lt (.lit 5) (.var 3)) (.or (.cmp .lt (.app 83 (.cons (.var 18) (.cons (.lit 5) (.cons (.lit 0) .nil)))) (.lit 1)) (.cmp .lt (.lit 256) (.app 83 (.cons (.var 18) (.cons (.lit 5) (.cons (.lit 0) .nil))))))) (.or (.and (.cmp .lt (.lit 6) (.var 3)) (.or (.cmp .lt (.app 83 (.cons (.var 18) (.cons (.lit 6) (.cons (.lit 0) .nil)))) (.lit 1)) (.cmp .lt (.lit 256) (.app 83 (.cons (.var 18) (.cons (.lit 6) (.cons (.lit 0) .nil))))))) (.and (.cmp .lt (.lit 7) (.var 3)) (.or (.cmp .lt (.app 83 (.cons (.var 18) (.cons (.lit 7) (.cons (.lit 0) .nil)))) (.lit 1)) (.cmp .lt (.lit 256) (.app 83 (.cons (.var 18) (.cons (.lit 7) (.cons (.lit 0) .nil))))))))))))))) (.and (.or (.cmp .eq (.var 4) (.lit 1)) (.or (.cmp .eq (.var 4) (.lit 2)) (.or (.cmp .eq (.var 4) (.lit 4)) (.or (.cmp .eq (.var 4) (.lit 8)) (.or (.cmp .eq (.var 4) (.lit 12)) (.cmp .eq (.var 4) (.lit 16))))))) (.and (.or (.cmp .eq (.var 5) (.lit 0)) (.cmp .eq (.var 5) (.var 1))) (.or (.cmp .eq (.var 6) (.lit 0)) (.cmp .eq (.var 6) (.var 2)))))))))))))) (.and (.cmp .le (.app 63 (.cons (.var 2) (.cons (.var 4) (.cons (.var 18) (.cons (.var 3) .nil))))) (.lit 524288)) (.cmp .le (.app 63 (.cons (.var 2) (.cons (.var 4) (.cons (.var 18) (.cons (.var 3) .nil))))) (.op .mul (.lit 8) (.var 7)))))=true):oX x0 x1 x2 x3 x4 x5 x6 l0 l1 l2:=by
 rw[aZ,Bool.and_eq_true]at h
 exact nF (x0:=x0) (x1:=x1) (x2:=x2) (x3:=x3) (x4:=x4) (x5:=x5) (x6:=x6) (x7:=x7) (D:=l0) (R:=l1) (S:=l2) (ls:=[]) h.1
set_option maxHeartbeats 16000000 in
set_option maxRecDepth 100000 in
theorem aUT (x0 x1 x2 x3 x4 x5 x6 x7 x8 x9 x10 x11 x12 x13 x14 x15 l0 l1 l2 l3 l4 l5 l6:Int) (b0:0≤x0∧x0≤255) (b1:0≤x1∧x1≤9223372036854775807) (b2:0≤x2∧x2≤9223372036854775807) (b3:0≤x3∧x3≤17592186043904) (b4:(-9223372036854775808)≤x4∧x4≤9223372036854775807) (b5:0≤x5∧x5≤9223372036854775807) (b6:0≤x6∧x6≤9223372036854775807) (b7:0≤x7∧x7≤9223372036854775807) (b8:0≤x8∧x8≤9223372036854775807) (b9:0≤x9∧x9≤9223372036854775807) (b10:(-2147483648)≤x10∧x10≤2147483647) (b11:0≤x11∧x11≤9223372036854775807) (b12:0≤x12∧x12≤9223372036854775807) (b13:0≤x13∧x13≤9223372036854775807) (b14:0≤x14∧x14≤9223372036854775807) (b15:0≤x15∧x15≤1):gD Try.prog G GB 4 aWC (cR ([x0,x1,x2,x3,x4,x5,x6,x7,x8,x9,x10,x11,x12,x13,x14,x15]++[l0,l1,l2,l3,l4,l5,l6])):=by
 refine cX (lp:=aTl) (run:=aJy Try.prog) (fun _=>rfl) fits (bP (xs:=[x0,x1,x2,x3,x4,x5,x6,x7,x8,x9,x10,x11,x12,x13,x14,x15]) (ls:=[l0,l1,l2,l3,l4,l5,l6]) (by exact⟨b0,b1,b2,b3,b4,b5,b6,b7,b8,b9,b10,b11,b12,b13,b14,b15,trivial⟩)) eS (fun X hX hG=>aMi hX hG) (fun X hX hG fn c hf hc=>?_) rfl ?_
 ·refine kX ((congrArg bI (nM hf hc)).symm.trans aLa) ?_
  intro b hb
  simp only[List.mem_cons,List.mem_nil_iff,or_false]at hb
  rcases hb with rfl|rfl
  ·refine iJ hX hG (by kernel_rfl) ?_
   intro p hp'
   simp only[List.mem_cons,List.mem_nil_iff,or_false]at hp'
   subst hp'
   exact aTH x0 x1 x2 x3 x4 x5 x6 x7 x8 x9 x10 x11 x12 x13 x14 x15 l0 l1 l2 l3 l4 l5 l6
  ·refine qX (j:=18) (by kernel_rfl) (by decide) (iJ hX hG (by kernel_rfl) ?_)
   intro p hp'
   simp only[List.mem_cons,List.mem_nil_iff,or_false]at hp'
   rcases hp' with rfl|rfl
   ·exact aRl x0 x1 x2 x3 x4 x5 x6 x7 x8 x9 x10 x11 x12 x13 x14 x15 l0 l1 l2 l3 l4 l5 l6
   ·exact aR1 x0 x1 x2 x3 x4 x5 x6 x7 x8 x9 x10 x11 x12 x13 x14 x15 l0 l1 l2 l3 l4 l5 l6
 ·skip
  refine aG aBr (fun h0=>?_) (fun h0=>?_)
  ·skip
   refine aH aQa ?_
   exact⟨rfl,trivial⟩
  refine aG aCR (fun h1=>?_) (fun h1=>?_)
  ·skip
   refine aH aNV ?_
   exact⟨rfl,trivial⟩
  refine aG aBE (fun h2=>?_) (fun h2=>?_)
  ·skip
   refine aH aN6 ?_
   exact⟨rfl,trivial⟩
  refine aG aBF (fun h3=>?_) (fun h3=>?_)
  ·skip
   refine aH aOq ?_
   exact⟨rfl,trivial⟩
  refine aG aCX (fun h4=>?_) (fun h4=>?_)
  ·skip
   refine aH aSz ?_
   exact⟨rfl,trivial⟩
  refine aG aBA (fun h5=>?_) (fun h5=>?_)
  ·skip
   refine aH aL3 ?_
   exact⟨rfl,trivial⟩
  refine aG aCA (fun h6=>?_) (fun h6=>?_)
  ·skip
   refine aH aMS ?_
   exact⟨rfl,trivial⟩
  refine aG aB0 (fun h7=>?_) (fun h7=>?_)
  ·skip
   refine aH aJ9 ?_
   exact⟨rfl,trivial⟩
  refine aG aCe (fun h8=>?_) (fun h8=>?_)
  ·skip
   refine aH aLK ?_
   exact⟨rfl,trivial⟩
  refine aG aCH (fun h9=>?_) (fun h9=>?_)
  ·skip
   refine aH aK4 ?_
   exact⟨rfl,trivial⟩
  refine aG yK (fun h10=>?_) (fun h10=>?_)
  ·skip
   refine aH aJL ?_
   exact⟨rfl,trivial⟩
  refine aG aAb (fun h11=>?_) (fun h11=>?_)
  ·skip
   refine aH aKo ?_
   exact⟨rfl,trivial⟩
  refine aG dR (fun h12=>?_) (fun h12=>?_)
  rotate_left
  ·skip
   refine aH aLm ?_
   exact⟨rfl,trivial⟩
  refine aG yE (fun h13=>?_) (fun h13=>?_)
  rotate_left
  ·skip
   refine aQ ?_
   unfold dR at h12;unfold yE at h13;exfalso;obtain⟨t0,t1,tD,t2,tR,t3,tS,t4,t5,t6⟩:=jP x0 x1 x2 x3 x4 x5 x6 x7 x8 x9 x10 x11 x12 x13 x14 x15 l0 l1 l2 l3 l4 l5 l6 h12;clear tD tR tS;have z:=h13;clear h0 h1 h2 h3 h4 h5 h6 h7 h8 h9 h10 h11 h12 h13;simp only[nn,List.cons_append,List.nil_append,Bool.or_eq_true,aP,ne_eq]at z;omega
  refine aG zC (fun h14=>?_) (fun h14=>?_)
  rotate_left
  ·skip
   refine aQ ?_
   unfold dR at h12;unfold zC at h14;exfalso;obtain⟨t0,t1,tD,t2,tR,t3,tS,t4,t5,t6⟩:=jP x0 x1 x2 x3 x4 x5 x6 x7 x8 x9 x10 x11 x12 x13 x14 x15 l0 l1 l2 l3 l4 l5 l6 h12;clear tD tR tS;have z:=h14;clear h0 h1 h2 h3 h4 h5 h6 h7 h8 h9 h10 h11 h12 h13 h14;simp only[nn,List.cons_append,List.nil_append,Bool.or_eq_true,aP,ne_eq]at z;omega
  refine aG zB (fun h15=>?_) (fun h15=>?_)
  rotate_left
  ·skip
   refine aQ ?_
   unfold dR at h12;unfold zB at h15;exfalso;obtain⟨t0,t1,tD,t2,tR,t3,tS,t4,t5,t6⟩:=jP x0 x1 x2 x3 x4 x5 x6 x7 x8 x9 x10 x11 x12 x13 x14 x15 l0 l1 l2 l3 l4 l5 l6 h12;clear tD tR tS;have z:=h15;clear h0 h1 h2 h3 h4 h5 h6 h7 h8 h9 h10 h11 h12 h13 h14 h15;simp only[nn,List.cons_append,List.nil_append,Bool.or_eq_true,aP,ne_eq]at z;omega
  refine aG xR (fun h16=>?_) (fun h16=>?_)
  rotate_left
  ·skip
   refine aQ ?_
   unfold dR at h12;unfold xR at h16;exfalso;obtain⟨t0,t1,tD,t2,tR,t3,tS,t4,t5,t6⟩:=jP x0 x1 x2 x3 x4 x5 x6 x7 x8 x9 x10 x11 x12 x13 x14 x15 l0 l1 l2 l3 l4 l5 l6 h12;clear tD tR tS;have z:=h16;clear h0 h1 h2 h3 h4 h5 h6 h7 h8 h9 h10 h11 h12 h13 h14 h15 h16;simp only[nn,List.cons_append,List.nil_append,Bool.or_eq_true,aP,ne_eq]at z;omega
  refine aG yZ (fun h17=>?_) (fun h17=>?_)
  rotate_left
  ·skip
   refine aQ ?_
   unfold dR at h12;unfold yZ at h17;exfalso;obtain⟨t0,t1,tD,t2,tR,t3,tS,t4,t5,t6⟩:=jP x0 x1 x2 x3 x4 x5 x6 x7 x8 x9 x10 x11 x12 x13 x14 x15 l0 l1 l2 l3 l4 l5 l6 h12;clear tD tR tS;have z:=h17;clear h0 h1 h2 h3 h4 h5 h6 h7 h8 h9 h10 h11 h12 h13 h14 h15 h16 h17;simp only[nn,List.cons_append,List.nil_append,Bool.or_eq_true,aP,ne_eq]at z;omega
  refine aG zW (fun h18=>?_) (fun h18=>?_)
  rotate_left
  ·skip
   refine aQ ?_
   unfold dR at h12;unfold zW at h18;exfalso;obtain⟨t0,t1,tD,t2,tR,t3,tS,t4,t5,t6⟩:=jP x0 x1 x2 x3 x4 x5 x6 x7 x8 x9 x10 x11 x12 x13 x14 x15 l0 l1 l2 l3 l4 l5 l6 h12;clear tD tR tS;have z:=h18;clear h0 h1 h2 h3 h4 h5 h6 h7 h8 h9 h10 h11 h12 h13 h14 h15 h16 h17 h18;simp only[nn,List.cons_append,List.nil_append,Bool.or_eq_true,aP,ne_eq]at z;omega
  refine aG xU (fun h19=>?_) (fun h19=>?_)
  rotate_left
  ·skip
   refine aQ ?_
   unfold dR at h12;unfold xU at h19;exfalso;obtain⟨t0,t1,tD,t2,tR,t3,tS,t4,t5,t6⟩:=jP x0 x1 x2 x3 x4 x5 x6 x7 x8 x9 x10 x11 x12 x13 x14 x15 l0 l1 l2 l3 l4 l5 l6 h12;clear tD tR tS;have z:=h19;clear h0 h1 h2 h3 h4 h5 h6 h7 h8 h9 h10 h11 h12 h13 h14 h15 h16 h17 h18 h19;simp only[nn,List.cons_append,List.nil_append,Bool.or_eq_true,aP,ne_eq]at z;omega
  refine aG xT (fun h20=>?_) (fun h20=>?_)
  rotate_left
  ·skip
   refine aQ ?_
   unfold dR at h12;unfold xT at h20;exfalso;obtain⟨t0,t1,tD,t2,tR,t3,tS,t4,t5,t6⟩:=jP x0 x1 x2 x3 x4 x5 x6 x7 x8 x9 x10 x11 x12 x13 x14 x15 l0 l1 l2 l3 l4 l5 l6 h12;clear tD tR tS;have z:=h20;clear h0 h1 h2 h3 h4 h5 h6 h7 h8 h9 h10 h11 h12 h13 h14 h15 h16 h17 h18 h19 h20;simp only[nn,List.cons_append,List.nil_append,Bool.or_eq_true,aP,ne_eq]at z;omega
  refine aG zV (fun h21=>?_) (fun h21=>?_)
  rotate_left
  ·skip
   refine aQ ?_
   unfold dR at h12;unfold zV at h21;exfalso;obtain⟨t0,t1,tD,t2,tR,t3,tS,t4,t5,t6⟩:=jP x0 x1 x2 x3 x4 x5 x6 x7 x8 x9 x10 x11 x12 x13 x14 x15 l0 l1 l2 l3 l4 l5 l6 h12;clear tD tR tS;have z:=h21;clear h0 h1 h2 h3 h4 h5 h6 h7 h8 h9 h10 h11 h12 h13 h14 h15 h16 h17 h18 h19 h20 h21;simp only[nn,List.cons_append,List.nil_append,Bool.or_eq_true,aP,ne_eq]at z;omega
  refine aG lF (fun h22=>?_) (fun h22=>?_)
  rotate_left
  ·skip
   refine aG iY (fun h23=>?_) (fun h23=>?_)
   ·skip
    refine aH aJE ?_
    exact⟨rfl,trivial⟩
   refine aH aJ6 ?_
   exact⟨rfl,trivial⟩
  refine aG yO (fun h23=>?_) (fun h23=>?_)
  rotate_left
  ·skip
   refine aQ ?_
   unfold dR at h12;unfold lF at h22;unfold yO at h23;exfalso;obtain⟨t0,t1,tD,t2,tR,t3,tS,t4,t5,t6⟩:=jP x0 x1 x2 x3 x4 x5 x6 x7 x8 x9 x10 x11 x12 x13 x14 x15 l0 l1 l2 l3 l4 l5 l6 h12;clear tD tR tS;have z:=h23;have y0:=h22;clear h0 h1 h2 h3 h4 h5 h6 h7 h8 h9 h10 h11 h12 h13 h14 h15 h16 h17 h18 h19 h20 h21 h22 h23;simp only[nn,List.cons_append,List.nil_append,Bool.or_eq_true,aP,ne_eq]at z y0;omega
  refine aG yS (fun h24=>?_) (fun h24=>?_)
  rotate_left
  ·skip
   refine aQ ?_
   unfold dR at h12;unfold lF at h22;unfold yS at h24;exfalso;obtain⟨t0,t1,tD,t2,tR,t3,tS,t4,t5,t6⟩:=jP x0 x1 x2 x3 x4 x5 x6 x7 x8 x9 x10 x11 x12 x13 x14 x15 l0 l1 l2 l3 l4 l5 l6 h12;clear tD tR tS;have z:=h24;have y0:=h22;clear h0 h1 h2 h3 h4 h5 h6 h7 h8 h9 h10 h11 h12 h13 h14 h15 h16 h17 h18 h19 h20 h21 h22 h23 h24;simp only[nn,List.cons_append,List.nil_append,Bool.or_eq_true,aP,ne_eq]at z y0;omega
  refine aG pY (fun h25=>?_) (fun h25=>?_)
  ·skip
   refine aG iY (fun h26=>?_) (fun h26=>?_)
   ·skip
    refine aH aKY ?_
    exact⟨rfl,trivial⟩
   refine aH aNa ?_
   exact⟨rfl,trivial⟩
  refine aG yR (fun h26=>?_) (fun h26=>?_)
  rotate_left
  ·skip
   refine aQ ?_
   unfold dR at h12;unfold lF at h22;unfold pY at h25;unfold yR at h26;exfalso;obtain⟨t0,t1,tD,t2,tR,t3,tS,t4,t5,t6⟩:=jP x0 x1 x2 x3 x4 x5 x6 x7 x8 x9 x10 x11 x12 x13 x14 x15 l0 l1 l2 l3 l4 l5 l6 h12;clear tD tR tS;have z:=h26;have y0:=h22;have y1:=h25;clear h0 h1 h2 h3 h4 h5 h6 h7 h8 h9 h10 h11 h12 h13 h14 h15 h16 h17 h18 h19 h20 h21 h22 h23 h24 h25 h26;simp only[nn,List.cons_append,List.nil_append,Bool.or_eq_true,aP,ne_eq]at z y0 y1;omega
  refine aG zK (fun h27=>?_) (fun h27=>?_)
  rotate_left
  ·skip
   refine aQ ?_
   unfold dR at h12;unfold lF at h22;unfold pY at h25;unfold zK at h27;exfalso;obtain⟨t0,t1,tD,t2,tR,t3,tS,t4,t5,t6⟩:=jP x0 x1 x2 x3 x4 x5 x6 x7 x8 x9 x10 x11 x12 x13 x14 x15 l0 l1 l2 l3 l4 l5 l6 h12;clear tD tR tS;have z:=h27;have y0:=h22;have y1:=h25;clear h0 h1 h2 h3 h4 h5 h6 h7 h8 h9 h10 h11 h12 h13 h14 h15 h16 h17 h18 h19 h20 h21 h22 h23 h24 h25 h26 h27;simp only[nn,List.cons_append,List.nil_append,Bool.or_eq_true,aP,ne_eq]at z y0 y1;omega
  refine aG iY (fun h28=>?_) (fun h28=>?_)
  ·skip
   refine aH aKM ?_
   exact⟨rfl,trivial⟩
  refine aH aMj ?_
  exact⟨rfl,trivial⟩
end Go.Proofs.Ytdldallkeheciaa
