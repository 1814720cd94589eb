/- What is proved: the law LookupsHeld,over all its ways: it is true. No condition but the numbers' own bounds. -/
import Derived.Test.YtdldallkeheciaaQNn
import Derived.Test.YtdldallkeheciaaQa10
import Derived.Test.YtdldallkeheciaaQa11
import Derived.Test.YtdldallkeheciaaQa1
import Derived.Test.YtdldallkeheciaaQg5
import Derived.Test.YtdldallkeheciaaQg4
set_option linter.unusedSimpArgs false
set_option linter.unusedVariables false
namespace Go.Proofs.Ytdldallkeheciaa
open Go Go.RowKit Sx Wi Lk
def gY (x0 x1 x2 x3 x4 x5 x6 x7 x8 x9 x10 x11 x12 x13 x14 l0 l1 l2 l3 l4 l5 l6:Int) (i:Nat):Nat→Int:=cQ ([x0,x1,x2,x3,x4,x5,x6,x7,x8,x9,x10,x11,x12,x13,x14,(i:Int)]++[l0,l1,l2,l3,l4,l5,l6,(cX l0 l6 x14.toNat),cX l0 l6 i])
theorem aRI (x0 x1 x2 x3 x4 x5 x6 x7 x8 x9 x10 x11 x12 x13 x14 l0 l1 l2 l3 l4 l5 l6:Int) (b0:0≤x0∧x0≤255) (b1:0≤x1∧x1≤9223372036854775807) (b2:0≤x2∧x2≤9223372036854775807) (b3:0≤x3∧x3≤17592186043904) (b4:(-9223372036854775808)≤x4∧x4≤9223372036854775807) (b5:0≤x5∧x5≤9223372036854775807) (b6:0≤x6∧x6≤9223372036854775807) (b7:0≤x7∧x7≤9223372036854775807) (b8:0≤x8∧x8≤9223372036854775807) (b9:0≤x9∧x9≤9223372036854775807) (b10:(-2147483648)≤x10∧x10≤2147483647) (b11:0≤x11∧x11≤9223372036854775807) (b12:0≤x12∧x12≤9223372036854775807) (b13:0≤x13∧x13≤9223372036854775807) (b14:0≤x14∧x14≤9223372036854775807) (h4:x14≤4) (i:Nat) (hi:(i:Int)≤x14):∀ k q,aDN[k]?=some q→q.1≤gY x0 x1 x2 x3 x4 x5 x6 x7 x8 x9 x10 x11 x12 x13 x14 l0 l1 l2 l3 l4 l5 l6 i k∧gY x0 x1 x2 x3 x4 x5 x6 x7 x8 x9 x10 x11 x12 x13 x14 l0 l1 l2 l3 l4 l5 l6 i k≤q.2:=by
 unfold gY aDN
 exact bP (xs:=[x0,x1,x2,x3,x4,x5,x6,x7,x8,x9,x10,x11,x12,x13,x14,(i:Int)]) (by exact⟨b0,b1,b2,b3,b4,b5,b6,b7,b8,b9,b10,b11,b12,b13,b14,by omega,trivial⟩)
set_option maxHeartbeats 4000000 in
set_option maxRecDepth 100000 in
theorem aTr (x0 x1 x2 x3 x4 x5 x6 x7 x8 x9 x10 x11 x12 x13 x14 l0 l1 l2 l3 l4 l5 l6:Int) (b0:0≤x0∧x0≤255) (b1:0≤x1∧x1≤9223372036854775807) (b2:0≤x2∧x2≤9223372036854775807) (b3:0≤x3∧x3≤17592186043904) (b4:(-9223372036854775808)≤x4∧x4≤9223372036854775807) (b5:0≤x5∧x5≤9223372036854775807) (b6:0≤x6∧x6≤9223372036854775807) (b7:0≤x7∧x7≤9223372036854775807) (b8:0≤x8∧x8≤9223372036854775807) (b9:0≤x9∧x9≤9223372036854775807) (b10:(-2147483648)≤x10∧x10≤2147483647) (b11:0≤x11∧x11≤9223372036854775807) (b12:0≤x12∧x12≤9223372036854775807) (b13:0≤x13∧x13≤9223372036854775807) (b14:0≤x14∧x14≤9223372036854775807) (e14:x14=x1) (i:Nat) (hi:(i:Int)≤x14):Sx.Way (yL Try.prog) G (gY x0 x1 x2 x3 x4 x5 x6 x7 x8 x9 x10 x11 x12 x13 x14 l0 l1 l2 l3 l4 l5 l6 i) (cM G (gY x0 x1 x2 x3 x4 x5 x6 x7 x8 x9 x10 x11 x12 x13 x14 l0 l1 l2 l3 l4 l5 l6) (cQ ([x0,x1,x2,x3,x4,x5,x6,x7,x8,x9,x10,x11,x12,x13,x14]++[l0,l1,l2,l3,l4,l5,l6,(cX l0 l6 x14.toNat)])) 15 (.lit true) (fun i=>(i:Int)≤x14) (fun i=>x14.toNat-i) i) []:=by
 refine aG nM (fun h0=>?_) (fun h0=>?_)
 rotate_left
 ·skip
  refine aH aOb ?_
  unfold nM at h0;unfold aGV;simp only[nn,gY,List.cons_append,List.nil_append,Bool.or_eq_true,aP,ne_eq]at h0;have he:(i:Int)=x14:=(by omega);have hn:i=x14.toNat:=(by omega);clear h0;simp only[cM];refine⟨rfl,(fun k hk=>by (match k,hk with|0,_=>rfl|1,_=>rfl|2,_=>rfl|3,_=>rfl|4,_=>rfl|5,_=>rfl|6,_=>rfl|7,_=>rfl|8,_=>rfl|9,_=>rfl|10,_=>rfl|11,_=>rfl|12,_=>rfl|13,_=>rfl|14,_=>rfl)),?_⟩;simp only[aI];simp only[nn,gY,List.cons_append,List.nil_append,Bool.or_eq_true,aP,ne_eq];rw[he,hn];(repeat' refine And.intro ?_ ?_)<;>first|with_reducible rfl|trivial
 refine aG aCQ (fun h1=>?_) (fun h1=>?_)
 rotate_left
 ·skip
  refine aQ ?_
  unfold nM at h0;unfold aCQ at h1;exfalso;have z:=h0;have z1:=h1;clear h0 h1;simp only[nn,gY,List.cons_append,List.nil_append,Bool.or_eq_true,aP,ne_eq]at z z1;omega
 refine aG aCe (fun h2=>?_) (fun h2=>?_)
 ·skip
  refine aH aQy ?_
  unfold nM at h0;unfold aHn;have z:=h0;clear h0 h1 h2;simp only[nn,gY,List.cons_append,List.nil_append,Bool.or_eq_true,aP,ne_eq]at z;have key:=aH3 l0 l6 i;have hm:x14.toNat-(i+1)<x14.toNat-i:=(by omega);have hg:((i+1:Nat):Int)≤x14:=(by omega);clear z;simp only[cM];refine⟨i+1,hg,hm,(fun k hk=>by (match k,hk with|0,_=>rfl|1,_=>rfl|2,_=>rfl|3,_=>rfl|4,_=>rfl|5,_=>rfl|6,_=>rfl|7,_=>rfl|8,_=>rfl|9,_=>rfl|10,_=>rfl|11,_=>rfl|12,_=>rfl|13,_=>rfl|14,_=>rfl)),?_⟩;simp only[aI];simp only[nn,gY,List.cons_append,List.nil_append,Bool.or_eq_true,aP,ne_eq];rw[key];(repeat' refine And.intro ?_ ?_)<;>first|with_reducible rfl|trivial|omega
 refine aQ ?_
 unfold nM at h0;unfold aCe at h2;exfalso;have z:=h0;have z1:=h2;clear h0 h1 h2;simp only[nn,gY,List.cons_append,List.nil_append,Bool.or_eq_true,aP,ne_eq]at z z1;omega
set_option maxRecDepth 100000 in
theorem aVt (x0 x1 x2 x3 x4 x5 x6 x7 x8 x9 x10 x11 x12 x13 x14 l0 l1 l2 l3 l4 l5 l6:Int) (b0:0≤x0∧x0≤255) (b1:0≤x1∧x1≤9223372036854775807) (b2:0≤x2∧x2≤9223372036854775807) (b3:0≤x3∧x3≤17592186043904) (b4:(-9223372036854775808)≤x4∧x4≤9223372036854775807) (b5:0≤x5∧x5≤9223372036854775807) (b6:0≤x6∧x6≤9223372036854775807) (b7:0≤x7∧x7≤9223372036854775807) (b8:0≤x8∧x8≤9223372036854775807) (b9:0≤x9∧x9≤9223372036854775807) (b10:(-2147483648)≤x10∧x10≤2147483647) (b11:0≤x11∧x11≤9223372036854775807) (b12:0≤x12∧x12≤9223372036854775807) (b13:0≤x13∧x13≤9223372036854775807) (b14:0≤x14∧x14≤9223372036854775807):gE Try.prog G (bN GB) (cN (bV Try.prog 5) 0) aO5 (cQ ([x0,x1,x2,x3,x4,x5,x6,x7,x8,x9,x10,x11,x12,x13,x14]++[l0,l1,l2,l3,l4,l5,l6,(cX l0 l6 x14.toNat)])):=by
 intro hw hpre
 have hb:eJ aDN ([x0,x1,x2,x3,x4,x5,x6,x7,x8,x9,x10,x11,x12,x13,x14]++[0]):=hw
 have e:gC G (cQ ([x0,x1,x2,x3,x4,x5,x6,x7,x8,x9,x10,x11,x12,x13,x14]++[l0,l1,l2,l3,l4,l5,l6,(cX l0 l6 x14.toNat)])) aO5.es=gY x0 x1 x2 x3 x4 x5 x6 x7 x8 x9 x10 x11 x12 x13 x14 l0 l1 l2 l3 l4 l5 l6 0:=by
  rw[eG]
  unfold gY
  rw[show ((0:Nat):Int)=0 from rfl,←aHO]
  rfl
 rw[e]at hpre ⊢
 have e14:x14=x1∧x14≤4:=by
  unfold aO5 at hpre
  simp only[nn,gY,List.cons_append,List.nil_append,Bool.or_eq_true,aP,ne_eq]at hpre
  exact hpre
 obtain⟨e14,h4⟩:=e14
 exact⟨x14.toNat+1,gB (ι:=Nat) (ρ:=gY x0 x1 x2 x3 x4 x5 x6 x7 x8 x9 x10 x11 x12 x13 x14 l0 l1 l2 l3 l4 l5 l6) (ρT:=(cQ ([x0,x1,x2,x3,x4,x5,x6,x7,x8,x9,x10,x11,x12,x13,x14]++[l0,l1,l2,l3,l4,l5,l6,(cX l0 l6 x14.toNat)]))) (m:=fun i=>x14.toNat-i) (Good:=fun i=>(i:Int)≤x14) (run:=yL Try.prog) (fun _=>rfl) fits rfl eU (fun i hi=>aRI x0 x1 x2 x3 x4 x5 x6 x7 x8 x9 x10 x11 x12 x13 x14 l0 l1 l2 l3 l4 l5 l6 b0 b1 b2 b3 b4 b5 b6 b7 b8 b9 b10 b11 b12 b13 b14 h4 i hi) (fun _ _ X hX hG=>dA hX hG) (fun _ _ X hX hG=>cF) (fun i hi=>aTr x0 x1 x2 x3 x4 x5 x6 x7 x8 x9 x10 x11 x12 x13 x14 l0 l1 l2 l3 l4 l5 l6 b0 b1 b2 b3 b4 b5 b6 b7 b8 b9 b10 b11 b12 b13 b14 e14 i hi) (by decide) _ 0 (by show ((0:Nat):Int)≤x14;omega) (by show x14.toNat-0<x14.toNat+1;omega)⟩
def eT (x0 x1 x2 x3 x4 x5 x6 x7 x8 x9 x10 x11 x12 x13 x14 l0 l1 l2 l3 l4 l5 l6 X Y:Int) (j:Nat):Nat→Int:=cQ ([x0,x1,x2,x3,x4,x5,x6,x7,x8,x9,x10,x11,x12,x13,x14,(j:Int)]++[l0,l1,l2,l3,l4,l5,l6,(cX l0 l6 x14.toNat),X,Y])
theorem aGF (x0 x1 x2 x3 x4 x5 x6 x7 x8 x9 x10 x11 x12 x13 x14 l0 l1 l2 l3 l4 l5 l6 X Y:Int) (b0:0≤x0∧x0≤255) (b1:0≤x1∧x1≤9223372036854775807) (b2:0≤x2∧x2≤9223372036854775807) (b3:0≤x3∧x3≤17592186043904) (b4:(-9223372036854775808)≤x4∧x4≤9223372036854775807) (b5:0≤x5∧x5≤9223372036854775807) (b6:0≤x6∧x6≤9223372036854775807) (b7:0≤x7∧x7≤9223372036854775807) (b8:0≤x8∧x8≤9223372036854775807) (b9:0≤x9∧x9≤9223372036854775807) (b10:(-2147483648)≤x10∧x10≤2147483647) (b11:0≤x11∧x11≤9223372036854775807) (b12:0≤x12∧x12≤9223372036854775807) (b13:0≤x13∧x13≤9223372036854775807) (b14:0≤x14∧x14≤9223372036854775807) (h4:x2≤4) (j:Nat) (hj:(j:Int)≤x2):∀ k q,aDc[k]?=some q→q.1≤eT x0 x1 x2 x3 x4 x5 x6 x7 x8 x9 x10 x11 x12 x13 x14 l0 l1 l2 l3 l4 l5 l6 X Y j k∧eT x0 x1 x2 x3 x4 x5 x6 x7 x8 x9 x10 x11 x12 x13 x14 l0 l1 l2 l3 l4 l5 l6 X Y j k≤q.2:=by
 unfold eT aDc
 exact bP (xs:=[x0,x1,x2,x3,x4,x5,x6,x7,x8,x9,x10,x11,x12,x13,x14,(j:Int)]) (by exact⟨b0,b1,b2,b3,b4,b5,b6,b7,b8,b9,b10,b11,b12,b13,b14,by omega,trivial⟩)
set_option maxHeartbeats 4000000 in
set_option maxRecDepth 100000 in
theorem aMI (x0 x1 x2 x3 x4 x5 x6 x7 x8 x9 x10 x11 x12 x13 x14 l0 l1 l2 l3 l4 l5 l6 X Y:Int) (b0:0≤x0∧x0≤255) (b1:0≤x1∧x1≤9223372036854775807) (b2:0≤x2∧x2≤9223372036854775807) (b3:0≤x3∧x3≤17592186043904) (b4:(-9223372036854775808)≤x4∧x4≤9223372036854775807) (b5:0≤x5∧x5≤9223372036854775807) (b6:0≤x6∧x6≤9223372036854775807) (b7:0≤x7∧x7≤9223372036854775807) (b8:0≤x8∧x8≤9223372036854775807) (b9:0≤x9∧x9≤9223372036854775807) (b10:(-2147483648)≤x10∧x10≤2147483647) (b11:0≤x11∧x11≤9223372036854775807) (b12:0≤x12∧x12≤9223372036854775807) (b13:0≤x13∧x13≤9223372036854775807) (b14:0≤x14∧x14≤9223372036854775807) (h4:x2≤4) (ho:aK2 l1 x2 X Y) (j:Nat) (hj:(j:Int)≤x2):Sx.Way (tG Try.prog) G (eT x0 x1 x2 x3 x4 x5 x6 x7 x8 x9 x10 x11 x12 x13 x14 l0 l1 l2 l3 l4 l5 l6 X Y j) (cM G (eT x0 x1 x2 x3 x4 x5 x6 x7 x8 x9 x10 x11 x12 x13 x14 l0 l1 l2 l3 l4 l5 l6 X Y) (cQ ([x0,x1,x2,x3,x4,x5,x6,x7,x8,x9,x10,x11,x12,x13,x14]++[l0,l1,l2,l3,l4,l5,l6,(cX l0 l6 x14.toNat)])) 15 (.lit true) (fun j=>(j:Int)≤x2) (fun j=>x2.toNat-j) j) []:=by
 refine aG lW (fun h0=>?_) (fun h0=>?_)
 rotate_left
 ·skip
  refine aH aJO ?_
  unfold aGo;clear h0;simp only[cM];refine⟨rfl,(fun k hk=>by (match k,hk with|0,_=>rfl|1,_=>rfl|2,_=>rfl|3,_=>rfl|4,_=>rfl|5,_=>rfl|6,_=>rfl|7,_=>rfl|8,_=>rfl|9,_=>rfl|10,_=>rfl|11,_=>rfl|12,_=>rfl|13,_=>rfl|14,_=>rfl)),?_⟩;simp only[aI];(try (simp only[nn,eT,List.cons_append,List.nil_append,Bool.or_eq_true,aP,ne_eq]));(try ((repeat' refine And.intro ?_ ?_)<;>first|with_reducible rfl|trivial))
 refine aG aCC (fun h1=>?_) (fun h1=>?_)
 rotate_left
 ·skip
  refine aQ ?_
  unfold lW at h0;unfold aCC at h1;exfalso;have z:=h0;have z1:=h1;clear h0 h1;simp only[nn,eT,List.cons_append,List.nil_append,Bool.or_eq_true,aP,ne_eq]at z z1;omega
 refine aG aCg (fun h2=>?_) (fun h2=>?_)
 rotate_left
 ·skip
  refine aQ ?_
  unfold lW at h0;unfold aCg at h2;exfalso;have z:=h0;have z1:=h2;clear h0 h1 h2;simp only[nn,eT,List.cons_append,List.nil_append,Bool.or_eq_true,aP,ne_eq]at z z1;obtain⟨o1,o2,o3⟩:=ho j z;first|with_reducible exact absurd o1 z1|with_reducible exact absurd o2 z1|with_reducible exact absurd o3 z1|with_reducible exact absurd o2 (Int.not_le.2 z1)|with_reducible exact absurd o3 (Int.not_le.2 z1)
 refine aG aCY (fun h3=>?_) (fun h3=>?_)
 rotate_left
 ·skip
  refine aQ ?_
  unfold lW at h0;unfold aCY at h3;exfalso;have z:=h0;have z1:=h3;clear h0 h1 h2 h3;simp only[nn,eT,List.cons_append,List.nil_append,Bool.or_eq_true,aP,ne_eq]at z z1;obtain⟨o1,o2,o3⟩:=ho j z;first|with_reducible exact absurd o1 z1|with_reducible exact absurd o2 z1|with_reducible exact absurd o3 z1|with_reducible exact absurd o2 (Int.not_le.2 z1)|with_reducible exact absurd o3 (Int.not_le.2 z1)
 refine aG aCp (fun h4=>?_) (fun h4=>?_)
 ·skip
  refine aH aOQ ?_
  unfold lW at h0;unfold aGy;have z:=h0;clear h0 h1 h2 h3 h4;simp only[nn,eT,List.cons_append,List.nil_append,Bool.or_eq_true,aP,ne_eq]at z;have hm:x2.toNat-(j+1)<x2.toNat-j:=(by omega);have hg:((j+1:Nat):Int)≤x2:=(by omega);clear z;simp only[cM];refine⟨j+1,hg,hm,(fun k hk=>by (match k,hk with|0,_=>rfl|1,_=>rfl|2,_=>rfl|3,_=>rfl|4,_=>rfl|5,_=>rfl|6,_=>rfl|7,_=>rfl|8,_=>rfl|9,_=>rfl|10,_=>rfl|11,_=>rfl|12,_=>rfl|13,_=>rfl|14,_=>rfl)),?_⟩;simp only[aI];simp only[nn,eT,List.cons_append,List.nil_append,Bool.or_eq_true,aP,ne_eq];(repeat' refine And.intro ?_ ?_)<;>first|with_reducible rfl|trivial|omega
 refine aQ ?_
 unfold lW at h0;unfold aCp at h4;exfalso;have z:=h0;have z1:=h4;clear h0 h1 h2 h3 h4;simp only[nn,eT,List.cons_append,List.nil_append,Bool.or_eq_true,aP,ne_eq]at z z1;obtain⟨o1,o2,o3⟩:=ho j z;first|with_reducible exact absurd o1 z1|with_reducible exact absurd o2 z1|with_reducible exact absurd o3 z1|with_reducible exact absurd o2 (Int.not_le.2 z1)|with_reducible exact absurd o3 (Int.not_le.2 z1)
set_option maxRecDepth 100000 in
theorem aNg (x0 x1 x2 x3 x4 x5 x6 x7 x8 x9 x10 x11 x12 x13 x14 l0 l1 l2 l3 l4 l5 l6:Int) (b0:0≤x0∧x0≤255) (b1:0≤x1∧x1≤9223372036854775807) (b2:0≤x2∧x2≤9223372036854775807) (b3:0≤x3∧x3≤17592186043904) (b4:(-9223372036854775808)≤x4∧x4≤9223372036854775807) (b5:0≤x5∧x5≤9223372036854775807) (b6:0≤x6∧x6≤9223372036854775807) (b7:0≤x7∧x7≤9223372036854775807) (b8:0≤x8∧x8≤9223372036854775807) (b9:0≤x9∧x9≤9223372036854775807) (b10:(-2147483648)≤x10∧x10≤2147483647) (b11:0≤x11∧x11≤9223372036854775807) (b12:0≤x12∧x12≤9223372036854775807) (b13:0≤x13∧x13≤9223372036854775807) (b14:0≤x14∧x14≤9223372036854775807):gE Try.prog G (bN GB) (cN (bV Try.prog 5) 1) aLw (cQ ([x0,x1,x2,x3,x4,x5,x6,x7,x8,x9,x10,x11,x12,x13,x14]++[l0,l1,l2,l3,l4,l5,l6,(cX l0 l6 x14.toNat)])):=by
 intro hw hpre
 have e:gC G (cQ ([x0,x1,x2,x3,x4,x5,x6,x7,x8,x9,x10,x11,x12,x13,x14]++[l0,l1,l2,l3,l4,l5,l6,(cX l0 l6 x14.toNat)])) aLw.es=eT x0 x1 x2 x3 x4 x5 x6 x7 x8 x9 x10 x11 x12 x13 x14 l0 l1 l2 l3 l4 l5 l6 (G 73 [l2,l5,x7,x4,l1,l1,x2,G 65 [l0,l2,l3,x5,l6,x14,x14],x3,x2]) (G 73 [l2,l5,x7,x4,l1,l1,x2,G 65 [l0,l2,l3,x5,(cX l0 l6 x14.toNat),x14,x14],x3,x2]) 0:=by
  rw[eG]
  rfl
 rw[e]at hpre ⊢
 have hq:B.den G (eT x0 x1 x2 x3 x4 x5 x6 x7 x8 x9 x10 x11 x12 x13 x14 l0 l1 l2 l3 l4 l5 l6 (G 73 [l2,l5,x7,x4,l1,l1,x2,G 65 [l0,l2,l3,x5,l6,x14,x14],x3,x2]) (G 73 [l2,l5,x7,x4,l1,l1,x2,G 65 [l0,l2,l3,x5,(cX l0 l6 x14.toNat),x14,x14],x3,x2]) 0) (.and (.and (.and (.cmp .eq (.var 0) (.lit 1)) (.and (.cmp .lt (.lit 0) (.var 1)) (.and (.cmp .le (.var 1) (.lit 4)) (.and (B.neg (.or (.and (.cmp .lt (.lit 0) (.var 1)) (.cmp .le (.app 82 (.cons (.var 16) (.cons (.lit 0) (.cons (.lit 1) .nil)))) (.app 82 (.cons (.var 16) (.cons (.lit 0) (.cons (.lit 0) .nil)))))) (.or (.and (.cmp .lt (.lit 1) (.var 1)) (.cmp .le (.app 82 (.cons (.var 16) (.cons (.lit 1) (.cons (.lit 1) .nil)))) (.app 82 (.cons (.var 16) (.cons (.lit 1) (.cons (.lit 0) .nil)))))) (.or (.and (.cmp .lt (.lit 2) (.var 1)) (.cmp .le (.app 82 (.cons (.var 16) (.cons (.lit 2) (.cons (.lit 1) .nil)))) (.app 82 (.cons (.var 16) (.cons (.lit 2) (.cons (.lit 0) .nil)))))) (.and (.cmp .lt (.lit 3) (.var 1)) (.cmp .le (.app 82 (.cons (.var 16) (.cons (.lit 3) (.cons (.lit 1) .nil)))) (.app 82 (.cons (.var 16) (.cons (.lit 3) (.cons (.lit 0) .nil)))))))))) (.and (.cmp .lt (.lit 0) (.var 2)) (.and (.cmp .le (.var 2) (.lit 4)) (.and (B.neg (.or (.and (.cmp .lt (.lit 0) (.var 2)) (.cmp .lt (.app 82 (.cons (.var 17) (.cons (.lit 0) (.cons (.lit 1) .nil)))) (.app 82 (.cons (.var 17) (.cons (.lit 0) (.cons (.lit 0) .nil)))))) (.or (.and (.cmp .lt (.lit 1) (.var 2)) (.cmp .lt (.app 82 (.cons (.var 17) (.cons (.lit 1) (.cons (.lit 1) .nil)))) (.app 82 (.cons (.var 17) (.cons (.lit 1) (.cons (.lit 0) .nil)))))) (.or (.and (.cmp .lt (.lit 2) (.var 2)) (.cmp .lt (.app 82 (.cons (.var 17) (.cons (.lit 2) (.cons (.lit 1) .nil)))) (.app 82 (.cons (.var 17) (.cons (.lit 2) (.cons (.lit 0) .nil)))))) (.and (.cmp .lt (.lit 3) (.var 2)) (.cmp .lt (.app 82 (.cons (.var 17) (.cons (.lit 3) (.cons (.lit 1) .nil)))) (.app 82 (.cons (.var 17) (.cons (.lit 3) (.cons (.lit 0) .nil)))))))))) (.and (.cmp .eq (.var 3) (.var 1)) (.and (B.neg (.or (.and (.cmp .lt (.lit 0) (.var 3)) (.or (.cmp .lt (.app 83 (.cons (.var 18) (.cons (.lit 0) (.cons (.lit 0) .nil)))) (.lit 1)) (.cmp .lt (.lit 256) (.app 83 (.cons (.var 18) (.cons (.lit 0) (.cons (.lit 0) .nil))))))) (.or (.and (.cmp .lt (.lit 1) (.var 3)) (.or (.cmp .lt (.app 83 (.cons (.var 18) (.cons (.lit 1) (.cons (.lit 0) .nil)))) (.lit 1)) (.cmp .lt (.lit 256) (.app 83 (.cons (.var 18) (.cons (.lit 1) (.cons (.lit 0) .nil))))))) (.or (.and (.cmp .lt (.lit 2) (.var 3)) (.or (.cmp .lt (.app 83 (.cons (.var 18) (.cons (.lit 2) (.cons (.lit 0) .nil)))) (.lit 1)) (.cmp .lt (.lit 256) (.app 83 (.cons (.var 18) (.cons (.lit 2) (.cons (.lit 0) .nil))))))) (.or (.and (.cmp .lt (.lit 3) (.var 3)) (.or (.cmp .lt (.app 83 (.cons (.var 18) (.cons (.lit 3) (.cons (.lit 0) .nil)))) (.lit 1)) (.cmp .lt (.lit 256) (.app 83 (.cons (.var 18) (.cons (.lit 3) (.cons (.lit 0) .nil))))))) (.or (.and (.cmp .lt (.lit 4) (.var 3)) (.or (.cmp .lt (.app 83 (.cons (.var 18) (.cons (.lit 4) (.cons (.lit 0) .nil)))) (.lit 1)) (.cmp .lt (.lit 256) (.app 83 (.cons (.var 18) (.cons (.lit 4) (.cons (.lit 0) .nil))))))) (.or (.and (.cmp .lt (.lit 5) (.var 3)) (.or (.cmp .lt (.app 83 (.cons (.var 18) (.cons (.lit 5) (.cons (.lit 0) .nil)))) (.lit 1)) (.cmp .lt (.lit 256) (.app 83 (.cons (.var 18) (.cons (.lit 5) (.cons (.lit 0) .nil))))))) (.or (.and (.cmp .lt (.lit 6) (.var 3)) (.or (.cmp .lt (.app 83 (.cons (.var 18) (.cons (.lit 6) (.cons (.lit 0) .nil)))) (.lit 1)) (.cmp .lt (.lit 256) (.app 83 (.cons (.var 18) (.cons (.lit 6) (.cons (.lit 0) .nil))))))) (.and (.cmp .lt (.lit 7) (.var 3)) (.or (.cmp .lt (.app 83 (.cons (.var 18) (.cons (.lit 7) (.cons (.lit 0) .nil)))) (.lit 1)) (.cmp .lt (.lit 256) (.app 83 (.cons (.var 18) (.cons (.lit 7) (.cons (.lit 0) .nil))))))))))))))) (.and (.or (.cmp .eq (.var 4) (.lit 1)) (.or (.cmp .eq (.var 4) (.lit 2)) (.or (.cmp .eq (.var 4) (.lit 4)) (.or (.cmp .eq (.var 4) (.lit 8)) (.or (.cmp .eq (.var 4) (.lit 12)) (.cmp .eq (.var 4) (.lit 16))))))) (.and (.or (.cmp .eq (.var 5) (.lit 0)) (.cmp .eq (.var 5) (.var 1))) (.or (.cmp .eq (.var 6) (.lit 0)) (.cmp .eq (.var 6) (.var 2)))))))))))))) (.and (.cmp .le (.app 63 (.cons (.var 2) (.cons (.var 4) (.cons (.var 18) (.cons (.var 3) .nil))))) (.lit 524288)) (.cmp .le (.app 63 (.cons (.var 2) (.cons (.var 4) (.cons (.var 18) (.cons (.var 3) .nil))))) (.op .mul (.lit 8) (.var 7))))) (.cmp .eq (.var 14) (.var 1)))=true:=hpre
 rw[aZ,Bool.and_eq_true]at hq
 obtain⟨q1,q2⟩:=hq
 rw[aZ,Bool.and_eq_true]at q1
 have tb:=mY (x0:=x0) (x1:=x1) (x2:=x2) (x3:=x3) (x4:=x4) (x5:=x5) (x6:=x6) (x7:=x7) (D:=l0) (R:=l1) (S:=l2) (ls:=[]) q1.1
 simp only[nn,eT,List.cons_append,List.nil_append,Bool.or_eq_true,aP,ne_eq]at q2
 obtain⟨t0,t1,tD,t2,tR,_⟩:=tb
 have hD:∀ k:Nat,(k:Int)<x14→gM l0 k 0<gM l0 k 1:=fun k hk=>tD k (by omega)
 have hR:=tR
 have h0:0≤x2:=by omega
 have h4:x2≤4:=t2.2
 exact⟨x2.toNat+1,gB (ι:=Nat) (ρ:=eT x0 x1 x2 x3 x4 x5 x6 x7 x8 x9 x10 x11 x12 x13 x14 l0 l1 l2 l3 l4 l5 l6 (G 73 [l2,l5,x7,x4,l1,l1,x2,G 65 [l0,l2,l3,x5,l6,x14,x14],x3,x2]) (G 73 [l2,l5,x7,x4,l1,l1,x2,G 65 [l0,l2,l3,x5,(cX l0 l6 x14.toNat),x14,x14],x3,x2])) (ρT:=(cQ ([x0,x1,x2,x3,x4,x5,x6,x7,x8,x9,x10,x11,x12,x13,x14]++[l0,l1,l2,l3,l4,l5,l6,(cX l0 l6 x14.toNat)]))) (m:=fun j=>x2.toNat-j) (Good:=fun j=>(j:Int)≤x2) (run:=tG Try.prog) (fun _=>rfl) fits rfl eU (fun j hj=>aGF x0 x1 x2 x3 x4 x5 x6 x7 x8 x9 x10 x11 x12 x13 x14 l0 l1 l2 l3 l4 l5 l6 _ _ b0 b1 b2 b3 b4 b5 b6 b7 b8 b9 b10 b11 b12 b13 b14 h4 j hj) (fun _ _ X hX hG=>dA hX hG) (fun _ _ X hX hG=>cF) (fun j hj=>aMI x0 x1 x2 x3 x4 x5 x6 x7 x8 x9 x10 x11 x12 x13 x14 l0 l1 l2 l3 l4 l5 l6 _ _ b0 b1 b2 b3 b4 b5 b6 b7 b8 b9 b10 b11 b12 b13 b14 h4 (aAu hD hR) j hj) (by decide) _ 0 (by show ((0:Nat):Int)≤x2;omega) (by show x2.toNat-0<x2.toNat+1;omega)⟩
set_option maxRecDepth 100000 in
theorem aNN (x0 x1 x2 x3 x4 x5 x6 x7 x8 x9 x10 x11 x12 x13 x14 l0 l1 l2 l3 l4 l5 l6:Int) (b0:0≤x0∧x0≤255) (b1:0≤x1∧x1≤9223372036854775807) (b2:0≤x2∧x2≤9223372036854775807) (b3:0≤x3∧x3≤17592186043904) (b4:(-9223372036854775808)≤x4∧x4≤9223372036854775807) (b5:0≤x5∧x5≤9223372036854775807) (b6:0≤x6∧x6≤9223372036854775807) (b7:0≤x7∧x7≤9223372036854775807) (b8:0≤x8∧x8≤9223372036854775807) (b9:0≤x9∧x9≤9223372036854775807) (b10:(-2147483648)≤x10∧x10≤2147483647) (b11:0≤x11∧x11≤9223372036854775807) (b12:0≤x12∧x12≤9223372036854775807) (b13:0≤x13∧x13≤9223372036854775807) (b14:0≤x14∧x14≤9223372036854775807):gE Try.prog G (bN GB) (cN (bV Try.prog 5) 1) aLr (cQ ([x0,x1,x2,x3,x4,x5,x6,x7,x8,x9,x10,x11,x12,x13,x14]++[l0,l1,l2,l3,l4,l5,l6,(cX l0 l6 x14.toNat)])):=by
 intro hw hpre
 have e:gC G (cQ ([x0,x1,x2,x3,x4,x5,x6,x7,x8,x9,x10,x11,x12,x13,x14]++[l0,l1,l2,l3,l4,l5,l6,(cX l0 l6 x14.toNat)])) aLr.es=eT x0 x1 x2 x3 x4 x5 x6 x7 x8 x9 x10 x11 x12 x13 x14 l0 l1 l2 l3 l4 l5 l6 (G 73 [l2,l5,x7,x4,l4,l1,x2,G 65 [l0,l2,l3,x5,l6,x14,x14],x3,x2]) (G 73 [l2,l5,x7,x4,l4,l1,x2,G 65 [l0,l2,l3,x5,(cX l0 l6 x14.toNat),x14,x14],x3,x2]) 0:=by
  rw[eG]
  rfl
 rw[e]at hpre ⊢
 have hq:B.den G (eT x0 x1 x2 x3 x4 x5 x6 x7 x8 x9 x10 x11 x12 x13 x14 l0 l1 l2 l3 l4 l5 l6 (G 73 [l2,l5,x7,x4,l4,l1,x2,G 65 [l0,l2,l3,x5,l6,x14,x14],x3,x2]) (G 73 [l2,l5,x7,x4,l4,l1,x2,G 65 [l0,l2,l3,x5,(cX l0 l6 x14.toNat),x14,x14],x3,x2]) 0) (.and (.and (.and (.cmp .eq (.var 0) (.lit 1)) (.and (.cmp .lt (.lit 0) (.var 1)) (.and (.cmp .le (.var 1) (.lit 4)) (.and (B.neg (.or (.and (.cmp .lt (.lit 0) (.var 1)) (.cmp .le (.app 82 (.cons (.var 16) (.cons (.lit 0) (.cons (.lit 1) .nil)))) (.app 82 (.cons (.var 16) (.cons (.lit 0) (.cons (.lit 0) .nil)))))) (.or (.and (.cmp .lt (.lit 1) (.var 1)) (.cmp .le (.app 82 (.cons (.var 16) (.cons (.lit 1) (.cons (.lit 1) .nil)))) (.app 82 (.cons (.var 16) (.cons (.lit 1) (.cons (.lit 0) .nil)))))) (.or (.and (.cmp .lt (.lit 2) (.var 1)) (.cmp .le (.app 82 (.cons (.var 16) (.cons (.lit 2) (.cons (.lit 1) .nil)))) (.app 82 (.cons (.var 16) (.cons (.lit 2) (.cons (.lit 0) .nil)))))) (.and (.cmp .lt (.lit 3) (.var 1)) (.cmp .le (.app 82 (.cons (.var 16) (.cons (.lit 3) (.cons (.lit 1) .nil)))) (.app 82 (.cons (.var 16) (.cons (.lit 3) (.cons (.lit 0) .nil)))))))))) (.and (.cmp .lt (.lit 0) (.var 2)) (.and (.cmp .le (.var 2) (.lit 4)) (.and (B.neg (.or (.and (.cmp .lt (.lit 0) (.var 2)) (.cmp .lt (.app 82 (.cons (.var 17) (.cons (.lit 0) (.cons (.lit 1) .nil)))) (.app 82 (.cons (.var 17) (.cons (.lit 0) (.cons (.lit 0) .nil)))))) (.or (.and (.cmp .lt (.lit 1) (.var 2)) (.cmp .lt (.app 82 (.cons (.var 17) (.cons (.lit 1) (.cons (.lit 1) .nil)))) (.app 82 (.cons (.var 17) (.cons (.lit 1) (.cons (.lit 0) .nil)))))) (.or (.and (.cmp .lt (.lit 2) (.var 2)) (.cmp .lt (.app 82 (.cons (.var 17) (.cons (.lit 2) (.cons (.lit 1) .nil)))) (.app 82 (.cons (.var 17) (.cons (.lit 2) (.cons (.lit 0) .nil)))))) (.and (.cmp .lt (.lit 3) (.var 2)) (.cmp .lt (.app 82 (.cons (.var 17) (.cons (.lit 3) (.cons (.lit 1) .nil)))) (.app 82 (.cons (.var 17) (.cons (.lit 3) (.cons (.lit 0) .nil)))))))))) (.and (.cmp .eq (.var 3) (.var 1)) (.and (B.neg (.or (.and (.cmp .lt (.lit 0) (.var 3)) (.or (.cmp .lt (.app 83 (.cons (.var 18) (.cons (.lit 0) (.cons (.lit 0) .nil)))) (.lit 1)) (.cmp .lt (.lit 256) (.app 83 (.cons (.var 18) (.cons (.lit 0) (.cons (.lit 0) .nil))))))) (.or (.and (.cmp .lt (.lit 1) (.var 3)) (.or (.cmp .lt (.app 83 (.cons (.var 18) (.cons (.lit 1) (.cons (.lit 0) .nil)))) (.lit 1)) (.cmp .lt (.lit 256) (.app 83 (.cons (.var 18) (.cons (.lit 1) (.cons (.lit 0) .nil))))))) (.or (.and (.cmp .lt (.lit 2) (.var 3)) (.or (.cmp .lt (.app 83 (.cons (.var 18) (.cons (.lit 2) (.cons (.lit 0) .nil)))) (.lit 1)) (.cmp .lt (.lit 256) (.app 83 (.cons (.var 18) (.cons (.lit 2) (.cons (.lit 0) .nil))))))) (.or (.and (.cmp .lt (.lit 3) (.var 3)) (.or (.cmp .lt (.app 83 (.cons (.var 18) (.cons (.lit 3) (.cons (.lit 0) .nil)))) (.lit 1)) (.cmp .lt (.lit 256) (.app 83 (.cons (.var 18) (.cons (.lit 3) (.cons (.lit 0) .nil))))))) (.or (.and (.cmp .lt (.lit 4) (.var 3)) (.or (.cmp .lt (.app 83 (.cons (.var 18) (.cons (.lit 4) (.cons (.lit 0) .nil)))) (.lit 1)) (.cmp .lt (.lit 256) (.app 83 (.cons (.var 18) (.cons (.lit 4) (.cons (.lit 0) .nil))))))) (.or (.and (.cmp .lt (.lit 5) (.var 3)) (.or (.cmp .lt (.app 83 (.cons (.var 18) (.cons (.lit 5) (.cons (.lit 0) .nil)))) (.lit 1)) (.cmp .lt (.lit 256) (.app 83 (.cons (.var 18) (.cons (.lit 5) (.cons (.lit 0) .nil))))))) (.or (.and (.cmp .lt (.lit 6) (.var 3)) (.or (.cmp .lt (.app 83 (.cons (.var 18) (.cons (.lit 6) (.cons (.lit 0) .nil)))) (.lit 1)) (.cmp .lt (.lit 256) (.app 83 (.cons (.var 18) (.cons (.lit 6) (.cons (.lit 0) .nil))))))) (.and (.cmp .lt (.lit 7) (.var 3)) (.or (.cmp .lt (.app 83 (.cons (.var 18) (.cons (.lit 7) (.cons (.lit 0) .nil)))) (.lit 1)) (.cmp .lt (.lit 256) (.app 83 (.cons (.var 18) (.cons (.lit 7) (.cons (.lit 0) .nil))))))))))))))) (.and (.or (.cmp .eq (.var 4) (.lit 1)) (.or (.cmp .eq (.var 4) (.lit 2)) (.or (.cmp .eq (.var 4) (.lit 4)) (.or (.cmp .eq (.var 4) (.lit 8)) (.or (.cmp .eq (.var 4) (.lit 12)) (.cmp .eq (.var 4) (.lit 16))))))) (.and (.or (.cmp .eq (.var 5) (.lit 0)) (.cmp .eq (.var 5) (.var 1))) (.or (.cmp .eq (.var 6) (.lit 0)) (.cmp .eq (.var 6) (.var 2)))))))))))))) (.and (.cmp .le (.app 63 (.cons (.var 2) (.cons (.var 4) (.cons (.var 18) (.cons (.var 3) .nil))))) (.lit 524288)) (.cmp .le (.app 63 (.cons (.var 2) (.cons (.var 4) (.cons (.var 18) (.cons (.var 3) .nil))))) (.op .mul (.lit 8) (.var 7))))) (.cmp .eq (.var 14) (.var 1)))=true:=hpre
 rw[aZ,Bool.and_eq_true]at hq
 obtain⟨q1,q2⟩:=hq
 rw[aZ,Bool.and_eq_true]at q1
 have tb:=mY (x0:=x0) (x1:=x1) (x2:=x2) (x3:=x3) (x4:=x4) (x5:=x5) (x6:=x6) (x7:=x7) (D:=l0) (R:=l1) (S:=l2) (ls:=[]) q1.1
 simp only[nn,eT,List.cons_append,List.nil_append,Bool.or_eq_true,aP,ne_eq]at q2
 obtain⟨t0,t1,tD,t2,tR,_⟩:=tb
 have hD:∀ k:Nat,(k:Int)<x14→gM l0 k 0<gM l0 k 1:=fun k hk=>tD k (by omega)
 have hR:=tR
 have h0:0≤x2:=by omega
 have h4:x2≤4:=t2.2
 exact⟨x2.toNat+1,gB (ι:=Nat) (ρ:=eT x0 x1 x2 x3 x4 x5 x6 x7 x8 x9 x10 x11 x12 x13 x14 l0 l1 l2 l3 l4 l5 l6 (G 73 [l2,l5,x7,x4,l4,l1,x2,G 65 [l0,l2,l3,x5,l6,x14,x14],x3,x2]) (G 73 [l2,l5,x7,x4,l4,l1,x2,G 65 [l0,l2,l3,x5,(cX l0 l6 x14.toNat),x14,x14],x3,x2])) (ρT:=(cQ ([x0,x1,x2,x3,x4,x5,x6,x7,x8,x9,x10,x11,x12,x13,x14]++[l0,l1,l2,l3,l4,l5,l6,(cX l0 l6 x14.toNat)]))) (m:=fun j=>x2.toNat-j) (Good:=fun j=>(j:Int)≤x2) (run:=tG Try.prog) (fun _=>rfl) fits rfl eU (fun j hj=>aGF x0 x1 x2 x3 x4 x5 x6 x7 x8 x9 x10 x11 x12 x13 x14 l0 l1 l2 l3 l4 l5 l6 _ _ b0 b1 b2 b3 b4 b5 b6 b7 b8 b9 b10 b11 b12 b13 b14 h4 j hj) (fun _ _ X hX hG=>dA hX hG) (fun _ _ X hX hG=>cF) (fun j hj=>aMI x0 x1 x2 x3 x4 x5 x6 x7 x8 x9 x10 x11 x12 x13 x14 l0 l1 l2 l3 l4 l5 l6 _ _ b0 b1 b2 b3 b4 b5 b6 b7 b8 b9 b10 b11 b12 b13 b14 h4 (aAu hD hR) j hj) (by decide) _ 0 (by show ((0:Nat):Int)≤x2;omega) (by show x2.toNat-0<x2.toNat+1;omega)⟩
set_option maxRecDepth 100000 in
theorem jN (x0 x1 x2 x3 x4 x5 x6 x7 x8 x9 x10 x11 x12 x13 x14 l0 l1 l2 l3 l4 l5 l6:Int) (h:B.den G (cQ ([x0,x1,x2,x3,x4,x5,x6,x7,x8,x9,x10,x11,x12,x13,x14]++[l0,l1,l2,l3,l4,l5,l6,(cX l0 l6 x14.toNat)])) (.and (.and (.cmp .eq (.var 0) (.lit 1)) (.and (.cmp .lt (.lit 0) (.var 1)) (.and (.cmp .le (.var 1) (.lit 4)) (.and (B.neg (.or (.and (.cmp .lt (.lit 0) (.var 1)) (.cmp .le (.app 82 (.cons (.var 15) (.cons (.lit 0) (.cons (.lit 1) .nil)))) (.app 82 (.cons (.var 15) (.cons (.lit 0) (.cons (.lit 0) .nil)))))) (.or (.and (.cmp .lt (.lit 1) (.var 1)) (.cmp .le (.app 82 (.cons (.var 15) (.cons (.lit 1) (.cons (.lit 1) .nil)))) (.app 82 (.cons (.var 15) (.cons (.lit 1) (.cons (.lit 0) .nil)))))) (.or (.and (.cmp .lt (.lit 2) (.var 1)) (.cmp .le (.app 82 (.cons (.var 15) (.cons (.lit 2) (.cons (.lit 1) .nil)))) (.app 82 (.cons (.var 15) (.cons (.lit 2) (.cons (.lit 0) .nil)))))) (.and (.cmp .lt (.lit 3) (.var 1)) (.cmp .le (.app 82 (.cons (.var 15) (.cons (.lit 3) (.cons (.lit 1) .nil)))) (.app 82 (.cons (.var 15) (.cons (.lit 3) (.cons (.lit 0) .nil)))))))))) (.and (.cmp .lt (.lit 0) (.var 2)) (.and (.cmp .le (.var 2) (.lit 4)) (.and (B.neg (.or (.and (.cmp .lt (.lit 0) (.var 2)) (.cmp .lt (.app 82 (.cons (.var 16) (.cons (.lit 0) (.cons (.lit 1) .nil)))) (.app 82 (.cons (.var 16) (.cons (.lit 0) (.cons (.lit 0) .nil)))))) (.or (.and (.cmp .lt (.lit 1) (.var 2)) (.cmp .lt (.app 82 (.cons (.var 16) (.cons (.lit 1) (.cons (.lit 1) .nil)))) (.app 82 (.cons (.var 16) (.cons (.lit 1) (.cons (.lit 0) .nil)))))) (.or (.and (.cmp .lt (.lit 2) (.var 2)) (.cmp .lt (.app 82 (.cons (.var 16) (.cons (.lit 2) (.cons (.lit 1) .nil)))) (.app 82 (.cons (.var 16) (.cons (.lit 2) (.cons (.lit 0) .nil)))))) (.and (.cmp .lt (.lit 3) (.var 2)) (.cmp .lt (.app 82 (.cons (.var 16) (.cons (.lit 3) (.cons (.lit 1) .nil)))) (.app 82 (.cons (.var 16) (.cons (.lit 3) (.cons (.lit 0) .nil)))))))))) (.and (.cmp .eq (.var 3) (.var 1)) (.and (B.neg (.or (.and (.cmp .lt (.lit 0) (.var 3)) (.or (.cmp .lt (.app 83 (.cons (.var 17) (.cons (.lit 0) (.cons (.lit 0) .nil)))) (.lit 1)) (.cmp .lt (.lit 256) (.app 83 (.cons (.var 17) (.cons (.lit 0) (.cons (.lit 0) .nil))))))) (.or (.and (.cmp .lt (.lit 1) (.var 3)) (.or (.cmp .lt (.app 83 (.cons (.var 17) (.cons (.lit 1) (.cons (.lit 0) .nil)))) (.lit 1)) (.cmp .lt (.lit 256) (.app 83 (.cons (.var 17) (.cons (.lit 1) (.cons (.lit 0) .nil))))))) (.or (.and (.cmp .lt (.lit 2) (.var 3)) (.or (.cmp .lt (.app 83 (.cons (.var 17) (.cons (.lit 2) (.cons (.lit 0) .nil)))) (.lit 1)) (.cmp .lt (.lit 256) (.app 83 (.cons (.var 17) (.cons (.lit 2) (.cons (.lit 0) .nil))))))) (.or (.and (.cmp .lt (.lit 3) (.var 3)) (.or (.cmp .lt (.app 83 (.cons (.var 17) (.cons (.lit 3) (.cons (.lit 0) .nil)))) (.lit 1)) (.cmp .lt (.lit 256) (.app 83 (.cons (.var 17) (.cons (.lit 3) (.cons (.lit 0) .nil))))))) (.or (.and (.cmp .lt (.lit 4) (.var 3)) (.or (.cmp .lt (.app 83 (.cons (.var 17) (.cons (.lit 4) (.cons (.lit 0) .nil)))) (.lit 1)) (.cmp .lt (.lit 256) (.app 83 (.cons (.var 17) (.cons (.lit 4) (.cons (.lit 0) .nil))))))) (.or (.and (.cmp .lt (.lit 5) (.var 3)) (.or (.cmp .lt (.app 83 (.cons (.var 17) (.cons (.lit 5) (.cons (.lit 0) .nil)))) (.lit 1)) (.cmp .lt (.lit 256) (.app 83 (.cons (.var 17) (.cons (.lit 5) (.cons (.lit 0) .nil))))))) (.or (.and (.cmp .lt (.lit 6) (.var 3)) (.or (.cmp .lt (.app 83 (.cons (.var 17) (.cons (.lit 6) (.cons (.lit 0) .nil)))) (.lit 1)) (.cmp .lt (.lit 256) (.app 83 (.cons (.var 17) (.cons (.lit 6) (.cons (.lit 0) .nil))))))) (.and (.cmp .lt (.lit 7) (.var 3)) (.or (.cmp .lt (.app 83 (.cons (.var 17) (.cons (.lit 7) (.cons (.lit 0) .nil)))) (.lit 1)) (.cmp .lt (.lit 256) (.app 83 (.cons (.var 17) (.cons (.lit 7) (.cons (.lit 0) .nil))))))))))))))) (.and (.or (.cmp .eq (.var 4) (.lit 1)) (.or (.cmp .eq (.var 4) (.lit 2)) (.or (.cmp .eq (.var 4) (.lit 4)) (.or (.cmp .eq (.var 4) (.lit 8)) (.or (.cmp .eq (.var 4) (.lit 12)) (.cmp .eq (.var 4) (.lit 16))))))) (.and (.or (.cmp .eq (.var 5) (.lit 0)) (.cmp .eq (.var 5) (.var 1))) (.or (.cmp .eq (.var 6) (.lit 0)) (.cmp .eq (.var 6) (.var 2)))))))))))))) (.and (.cmp .le (.app 63 (.cons (.var 2) (.cons (.var 4) (.cons (.var 17) (.cons (.var 3) .nil))))) (.lit 524288)) (.cmp .le (.app 63 (.cons (.var 2) (.cons (.var 4) (.cons (.var 17) (.cons (.var 3) .nil))))) (.op .mul (.lit 8) (.var 7)))))=true):oR x0 x1 x2 x3 x4 x5 x6 l0 l1 l2:=by
 rw[aZ,Bool.and_eq_true]at h
 exact mY (x0:=x0) (x1:=x1) (x2:=x2) (x3:=x3) (x4:=x4) (x5:=x5) (x6:=x6) (x7:=x7) (D:=l0) (R:=l1) (S:=l2) (ls:=[]) h.1
set_option maxHeartbeats 16000000 in
set_option maxRecDepth 100000 in
theorem aVs (x0 x1 x2 x3 x4 x5 x6 x7 x8 x9 x10 x11 x12 x13 x14 l0 l1 l2 l3 l4 l5 l6:Int) (b0:0≤x0∧x0≤255) (b1:0≤x1∧x1≤9223372036854775807) (b2:0≤x2∧x2≤9223372036854775807) (b3:0≤x3∧x3≤17592186043904) (b4:(-9223372036854775808)≤x4∧x4≤9223372036854775807) (b5:0≤x5∧x5≤9223372036854775807) (b6:0≤x6∧x6≤9223372036854775807) (b7:0≤x7∧x7≤9223372036854775807) (b8:0≤x8∧x8≤9223372036854775807) (b9:0≤x9∧x9≤9223372036854775807) (b10:(-2147483648)≤x10∧x10≤2147483647) (b11:0≤x11∧x11≤9223372036854775807) (b12:0≤x12∧x12≤9223372036854775807) (b13:0≤x13∧x13≤9223372036854775807) (b14:0≤x14∧x14≤9223372036854775807):fX Try.prog G GB 5 aWh (cQ ([x0,x1,x2,x3,x4,x5,x6,x7,x8,x9,x10,x11,x12,x13,x14]++[l0,l1,l2,l3,l4,l5,l6,(cX l0 l6 x14.toNat)])):=by
 refine cY (lp:=aSO) (run:=aLH Try.prog) (fun _=>rfl) fits (bP (xs:=[x0,x1,x2,x3,x4,x5,x6,x7,x8,x9,x10,x11,x12,x13,x14]) (ls:=[l0,l1,l2,l3,l4,l5,l6,(cX l0 l6 x14.toNat)]) (by exact⟨b0,b1,b2,b3,b4,b5,b6,b7,b8,b9,b10,b11,b12,b13,b14,trivial⟩)) eU (fun X hX hG=>aMs hX hG) (fun X hX hG fn c hf hc=>?_) rfl ?_
 ·refine kS ((congrArg bI (nG hf hc)).symm.trans aKJ) ?_
  intro b hb
  simp only[List.mem_cons,List.mem_nil_iff,or_false]at hb
  rcases hb with rfl|rfl
  ·refine iX hX hG (by kernel_rfl) ?_
   intro p hp'
   simp only[List.mem_cons,List.mem_nil_iff,or_false]at hp'
   subst hp'
   exact aVt x0 x1 x2 x3 x4 x5 x6 x7 x8 x9 x10 x11 x12 x13 x14 l0 l1 l2 l3 l4 l5 l6 b0 b1 b2 b3 b4 b5 b6 b7 b8 b9 b10 b11 b12 b13 b14
  ·refine qO (j:=13) (by kernel_rfl) (by decide) (iX hX hG (by kernel_rfl) ?_)
   intro p hp'
   simp only[List.mem_cons,List.mem_nil_iff,or_false]at hp'
   rcases hp' with rfl|rfl
   ·exact aNg x0 x1 x2 x3 x4 x5 x6 x7 x8 x9 x10 x11 x12 x13 x14 l0 l1 l2 l3 l4 l5 l6 b0 b1 b2 b3 b4 b5 b6 b7 b8 b9 b10 b11 b12 b13 b14
   ·exact aNN x0 x1 x2 x3 x4 x5 x6 x7 x8 x9 x10 x11 x12 x13 x14 l0 l1 l2 l3 l4 l5 l6 b0 b1 b2 b3 b4 b5 b6 b7 b8 b9 b10 b11 b12 b13 b14
 ·skip
  refine aG aBB (fun h0=>?_) (fun h0=>?_)
  ·skip
   refine aH aQZ ?_
   exact⟨rfl,trivial⟩
  refine aG aCi (fun h1=>?_) (fun h1=>?_)
  ·skip
   refine aH aRW ?_
   exact⟨rfl,trivial⟩
  refine aG aBu (fun h2=>?_) (fun h2=>?_)
  ·skip
   refine aH aRE ?_
   exact⟨rfl,trivial⟩
  refine aG aCU (fun h3=>?_) (fun h3=>?_)
  ·skip
   refine aH aOi ?_
   exact⟨rfl,trivial⟩
  refine aG aB6 (fun h4=>?_) (fun h4=>?_)
  ·skip
   refine aH aN7 ?_
   exact⟨rfl,trivial⟩
  refine aG aCG (fun h5=>?_) (fun h5=>?_)
  ·skip
   refine aH aL2 ?_
   exact⟨rfl,trivial⟩
  refine aG aBS (fun h6=>?_) (fun h6=>?_)
  ·skip
   refine aH aLI ?_
   exact⟨rfl,trivial⟩
  refine aG aCK (fun h7=>?_) (fun h7=>?_)
  ·skip
   refine aH aJC ?_
   exact⟨rfl,trivial⟩
  refine aG aBd (fun h8=>?_) (fun h8=>?_)
  ·skip
   refine aH aL9 ?_
   exact⟨rfl,trivial⟩
  refine aG aCI (fun h9=>?_) (fun h9=>?_)
  ·skip
   refine aH aLP ?_
   exact⟨rfl,trivial⟩
  refine aG yE (fun h10=>?_) (fun h10=>?_)
  ·skip
   refine aH aJR ?_
   exact⟨rfl,trivial⟩
  refine aG dP (fun h11=>?_) (fun h11=>?_)
  ·skip
   refine aH aLS ?_
   exact⟨rfl,trivial⟩
  refine aG dQ (fun h12=>?_) (fun h12=>?_)
  rotate_left
  ·skip
   refine aH aJZ ?_
   exact⟨rfl,trivial⟩
  refine aG yH (fun h13=>?_) (fun h13=>?_)
  rotate_left
  ·skip
   refine aQ ?_
   unfold dP at h11;unfold dQ at h12;unfold yH at h13;exfalso;obtain⟨t0,t1,tD,t2,tR,t3,tS,t4,t5,t6⟩:=jN x0 x1 x2 x3 x4 x5 x6 x7 x8 x9 x10 x11 x12 x13 x14 l0 l1 l2 l3 l4 l5 l6 h12;clear tD tR tS;have z:=h13;have y0:=h11;clear h0 h1 h2 h3 h4 h5 h6 h7 h8 h9 h10 h11 h12 h13;simp only[nn,List.cons_append,List.nil_append,Bool.or_eq_true,aP,ne_eq]at z y0;omega
  refine aG zY (fun h14=>?_) (fun h14=>?_)
  rotate_left
  ·skip
   refine aQ ?_
   unfold dP at h11;unfold dQ at h12;unfold zY at h14;exfalso;obtain⟨t0,t1,tD,t2,tR,t3,tS,t4,t5,t6⟩:=jN x0 x1 x2 x3 x4 x5 x6 x7 x8 x9 x10 x11 x12 x13 x14 l0 l1 l2 l3 l4 l5 l6 h12;clear tD tR tS;have z:=h14;have y0:=h11;clear h0 h1 h2 h3 h4 h5 h6 h7 h8 h9 h10 h11 h12 h13 h14;simp only[nn,List.cons_append,List.nil_append,Bool.or_eq_true,aP,ne_eq]at z y0;omega
  refine aG wW (fun h15=>?_) (fun h15=>?_)
  rotate_left
  ·skip
   refine aQ ?_
   unfold dP at h11;unfold dQ at h12;unfold wW at h15;exfalso;obtain⟨t0,t1,tD,t2,tR,t3,tS,t4,t5,t6⟩:=jN x0 x1 x2 x3 x4 x5 x6 x7 x8 x9 x10 x11 x12 x13 x14 l0 l1 l2 l3 l4 l5 l6 h12;clear tD tR tS;have z:=h15;have y0:=h11;clear h0 h1 h2 h3 h4 h5 h6 h7 h8 h9 h10 h11 h12 h13 h14 h15;simp only[nn,List.cons_append,List.nil_append,Bool.or_eq_true,aP,ne_eq]at z y0;omega
  refine aG zR (fun h16=>?_) (fun h16=>?_)
  rotate_left
  ·skip
   refine aQ ?_
   unfold dP at h11;unfold dQ at h12;unfold zR at h16;exfalso;obtain⟨t0,t1,tD,t2,tR,t3,tS,t4,t5,t6⟩:=jN x0 x1 x2 x3 x4 x5 x6 x7 x8 x9 x10 x11 x12 x13 x14 l0 l1 l2 l3 l4 l5 l6 h12;clear tD tR tS;have z:=h16;have y0:=h11;clear h0 h1 h2 h3 h4 h5 h6 h7 h8 h9 h10 h11 h12 h13 h14 h15 h16;simp only[nn,List.cons_append,List.nil_append,Bool.or_eq_true,aP,ne_eq]at z y0;omega
  refine aG xU (fun h17=>?_) (fun h17=>?_)
  rotate_left
  ·skip
   refine aQ ?_
   unfold dP at h11;unfold dQ at h12;unfold xU at h17;exfalso;obtain⟨t0,t1,tD,t2,tR,t3,tS,t4,t5,t6⟩:=jN x0 x1 x2 x3 x4 x5 x6 x7 x8 x9 x10 x11 x12 x13 x14 l0 l1 l2 l3 l4 l5 l6 h12;clear tD tR tS;have z:=h17;have y0:=h11;clear h0 h1 h2 h3 h4 h5 h6 h7 h8 h9 h10 h11 h12 h13 h14 h15 h16 h17;simp only[nn,List.cons_append,List.nil_append,Bool.or_eq_true,aP,ne_eq]at z y0;omega
  refine aG aAf (fun h18=>?_) (fun h18=>?_)
  rotate_left
  ·skip
   refine aQ ?_
   unfold dP at h11;unfold dQ at h12;unfold aAf at h18;exfalso;obtain⟨t0,t1,tD,t2,tR,t3,tS,t4,t5,t6⟩:=jN x0 x1 x2 x3 x4 x5 x6 x7 x8 x9 x10 x11 x12 x13 x14 l0 l1 l2 l3 l4 l5 l6 h12;clear tD tR tS;have z:=h18;have y0:=h11;clear h0 h1 h2 h3 h4 h5 h6 h7 h8 h9 h10 h11 h12 h13 h14 h15 h16 h17 h18;simp only[nn,List.cons_append,List.nil_append,Bool.or_eq_true,aP,ne_eq]at z y0;omega
  refine aG xP (fun h19=>?_) (fun h19=>?_)
  rotate_left
  ·skip
   refine aQ ?_
   unfold dP at h11;unfold dQ at h12;unfold xP at h19;exfalso;obtain⟨t0,t1,tD,t2,tR,t3,tS,t4,t5,t6⟩:=jN x0 x1 x2 x3 x4 x5 x6 x7 x8 x9 x10 x11 x12 x13 x14 l0 l1 l2 l3 l4 l5 l6 h12;clear tD tR tS;have z:=h19;have y0:=h11;clear h0 h1 h2 h3 h4 h5 h6 h7 h8 h9 h10 h11 h12 h13 h14 h15 h16 h17 h18 h19;simp only[nn,List.cons_append,List.nil_append,Bool.or_eq_true,aP,ne_eq]at z y0;omega
  refine aG xM (fun h20=>?_) (fun h20=>?_)
  rotate_left
  ·skip
   refine aQ ?_
   unfold dP at h11;unfold dQ at h12;unfold xM at h20;exfalso;obtain⟨t0,t1,tD,t2,tR,t3,tS,t4,t5,t6⟩:=jN x0 x1 x2 x3 x4 x5 x6 x7 x8 x9 x10 x11 x12 x13 x14 l0 l1 l2 l3 l4 l5 l6 h12;clear tD tR tS;have z:=h20;have y0:=h11;clear h0 h1 h2 h3 h4 h5 h6 h7 h8 h9 h10 h11 h12 h13 h14 h15 h16 h17 h18 h19 h20;simp only[nn,List.cons_append,List.nil_append,Bool.or_eq_true,aP,ne_eq]at z y0;omega
  refine aG yO (fun h21=>?_) (fun h21=>?_)
  rotate_left
  ·skip
   refine aQ ?_
   unfold dP at h11;unfold dQ at h12;unfold yO at h21;exfalso;obtain⟨t0,t1,tD,t2,tR,t3,tS,t4,t5,t6⟩:=jN x0 x1 x2 x3 x4 x5 x6 x7 x8 x9 x10 x11 x12 x13 x14 l0 l1 l2 l3 l4 l5 l6 h12;clear tD tR tS;have z:=h21;have y0:=h11;clear h0 h1 h2 h3 h4 h5 h6 h7 h8 h9 h10 h11 h12 h13 h14 h15 h16 h17 h18 h19 h20 h21;simp only[nn,List.cons_append,List.nil_append,Bool.or_eq_true,aP,ne_eq]at z y0;omega
  refine aG yP (fun h22=>?_) (fun h22=>?_)
  rotate_left
  ·skip
   refine aQ ?_
   unfold dP at h11;unfold dQ at h12;unfold yP at h22;exfalso;obtain⟨t0,t1,tD,t2,tR,t3,tS,t4,t5,t6⟩:=jN x0 x1 x2 x3 x4 x5 x6 x7 x8 x9 x10 x11 x12 x13 x14 l0 l1 l2 l3 l4 l5 l6 h12;clear tD tR tS;have z:=h22;have y0:=h11;clear h0 h1 h2 h3 h4 h5 h6 h7 h8 h9 h10 h11 h12 h13 h14 h15 h16 h17 h18 h19 h20 h21 h22;simp only[nn,List.cons_append,List.nil_append,Bool.or_eq_true,aP,ne_eq]at z y0;omega
  refine aG xV (fun h23=>?_) (fun h23=>?_)
  rotate_left
  ·skip
   refine aQ ?_
   unfold dP at h11;unfold dQ at h12;unfold xV at h23;exfalso;obtain⟨t0,t1,tD,t2,tR,t3,tS,t4,t5,t6⟩:=jN x0 x1 x2 x3 x4 x5 x6 x7 x8 x9 x10 x11 x12 x13 x14 l0 l1 l2 l3 l4 l5 l6 h12;clear tD tR tS;have z:=h23;have y0:=h11;clear h0 h1 h2 h3 h4 h5 h6 h7 h8 h9 h10 h11 h12 h13 h14 h15 h16 h17 h18 h19 h20 h21 h22 h23;simp only[nn,List.cons_append,List.nil_append,Bool.or_eq_true,aP,ne_eq]at z y0;omega
  refine aG pN (fun h24=>?_) (fun h24=>?_)
  ·skip
   refine aH aIS ?_
   exact⟨rfl,trivial⟩
  refine aG xE (fun h25=>?_) (fun h25=>?_)
  rotate_left
  ·skip
   refine aQ ?_
   unfold dP at h11;unfold dQ at h12;unfold pN at h24;unfold xE at h25;exfalso;obtain⟨t0,t1,tD,t2,tR,t3,tS,t4,t5,t6⟩:=jN x0 x1 x2 x3 x4 x5 x6 x7 x8 x9 x10 x11 x12 x13 x14 l0 l1 l2 l3 l4 l5 l6 h12;clear tD tR tS;have z:=h25;have y0:=h11;have y1:=h24;clear h0 h1 h2 h3 h4 h5 h6 h7 h8 h9 h10 h11 h12 h13 h14 h15 h16 h17 h18 h19 h20 h21 h22 h23 h24 h25;simp only[nn,List.cons_append,List.nil_append,Bool.or_eq_true,aP,ne_eq]at z y0 y1;omega
  refine aG yV (fun h26=>?_) (fun h26=>?_)
  ·skip
   refine aH aKW ?_
   exact⟨rfl,trivial⟩
  refine aQ ?_
  unfold dP at h11;unfold dQ at h12;unfold pN at h24;unfold yV at h26;exfalso;obtain⟨t0,t1,tD,t2,tR,t3,tS,t4,t5,t6⟩:=jN x0 x1 x2 x3 x4 x5 x6 x7 x8 x9 x10 x11 x12 x13 x14 l0 l1 l2 l3 l4 l5 l6 h12;clear tD tR tS;have z:=h26;have y0:=h11;have y1:=h24;clear h0 h1 h2 h3 h4 h5 h6 h7 h8 h9 h10 h11 h12 h13 h14 h15 h16 h17 h18 h19 h20 h21 h22 h23 h24 h25 h26;simp only[nn,List.cons_append,List.nil_append,Bool.or_eq_true,aP,ne_eq]at z y0 y1;omega
end Go.Proofs.Ytdldallkeheciaa
namespace Go.Proofs.Ytdldallkeheciaa
open Go Go.RowKit Sx
def rR (go:TypeId→Option (List CK)) (P:Program):List Field→Nat→Option (List CK)
 |[],_=>some []
 |f::fs,o=>if f.offset=o then match go f.type with
   |some a=>if a.length=P.cellsOf f.type then match rR go P fs (o+a.length)with
     |some b=>some (a++b)
     |none=>none
    else none
   |none=>none
  else none
def nP (P:Program):Nat→TypeId→Option (List CK)
 |0,_=>none
 |d+1,t=>match P.underlying t with
  |some .bool=>some [.bool]
  |some (.int k)=>some [.int k]
  |some (.struct fs)=>match rR (nP P d) P fs.toList 0 with
   |some a=>if a.length=P.cellsOf t then some a else none
   |none=>none
  |some (.array n e)=>match nP P d e with
   |some a=>if a.length=P.cellsOf e∧n*a.length=P.cellsOf t then some (List.replicate n a).flatten else none
   |none=>none
  |_=>none
theorem aAT {go:TypeId→Option (List CK)} {P:Program}:∀ {fs:List Field} {o:Nat} {ks:List CK},rR go P fs o=some ks→∀ (i:Nat) (g:Field),fs[i]?=some g→o≤g.offset
 |[],o,ks,h,i,g,e=>by simp at e
 |f::fs,o,ks,h,i,g,e=>by
  unfold rR at h
  split at h
  case isFalse=>cases h
  rename_i ho
  split at h
  case h_2=>cases h
  split at h
  case isFalse=>cases h
  split at h
  case h_2=>cases h
  rename_i b hb
  cases i with
  |zero=>simp only[List.getElem?_cons_zero,Option.some.injEq]at e;subst e;omega
  |succ i=>have:=aAT hb i g (by simpa using e);omega
def sJ:CK→Int→Prop
 | .int k,n=>k.min≤n∧n≤k.max
 | .bool,n=>n=0∨n=1
def Kin (ks:List CK) (cs:List Value):Prop:=cs.length=ks.length∧∀ (i:Nat) (k:CK),ks[i]?=some k→∃ n,cs[i]?=some (k.mk n)∧sJ k n
theorem Kin.append {a b:List CK} {xs ys:List Value} (h:Kin a xs) (g:Kin b ys):Kin (a++b) (xs++ys):=by
 refine⟨by rw[List.length_append,List.length_append,h.1,g.1],fun i k e=>?_⟩
 rcases Nat.lt_or_ge i a.length with q|q
 ·rw[List.getElem?_append_left q]at e
  rw[List.getElem?_append_left (by rw[h.1];exact q)]
  exact h.2 i k e
 ·rw[List.getElem?_append_right q]at e
  rw[List.getElem?_append_right (by rw[h.1];exact q),h.1]
  exact g.2 _ k e
theorem Kin.row {ks:List CK} {cs:List Value} (h:Kin ks cs):∃ r:List Int,r.length=ks.length∧cs=eH ks r∧∀ (i:Nat) (k:CK),ks[i]?=some k→sJ k (r.getD i 0):=by
 classical
 obtain⟨f,hf⟩:∃ f:Nat→Int,∀ (i:Nat) (k:CK),ks[i]?=some k→cs[i]?=some (k.mk (f i))∧sJ k (f i):=by
  refine⟨fun i=>if q:∃ n,∀ k,ks[i]?=some k→cs[i]?=some (k.mk n)∧sJ k n then q.choose else 0,fun i k e=>?_⟩
  have q:∃ n,∀ k,ks[i]?=some k→cs[i]?=some (k.mk n)∧sJ k n:=by
   obtain⟨n,h1,h2⟩:=h.2 i k e
   refine⟨n,fun k' e'=>?_⟩
   rw[e]at e';cases e'
   exact⟨h1,h2⟩
  simp only[dif_pos q]
  exact q.choose_spec k e
 have hg:∀ i,i<ks.length→((List.range ks.length).map f).getD i 0=f i:=fun i hi=>by simp [List.getD,hi]
 refine⟨(List.range ks.length).map f,by simp,?_,fun i k e=>?_⟩
 ·apply List.ext_getElem?
  intro i
  unfold eH
  rw[List.getElem?_map,List.getElem?_zipIdx]
  cases e:ks[i]? with
  |none=>
   have:=List.getElem?_eq_none_iff.1 e
   rw[List.getElem?_eq_none (show cs.length≤i by rw[h.1];exact this)];rfl
  |some k=>
   rw[(hf i k e).1]
   simp only[Option.map_some,Nat.zero_add]
   rw[hg i (List.getElem?_eq_some_iff.1 e).1]
 ·rw[hg i (List.getElem?_eq_some_iff.1 e).1];exact(hf i k e).2
theorem aMA {k:IntKind} {n:Int} (h:(Lit.int k n).wf=true):CK.mk (.int k) n = .int k n∧sJ (.int k) n:=by
 simp only[Lit.wf,Bool.and_eq_true,decide_eq_true_eq]at h
 refine⟨?_,h⟩
 show Value.int k (k.wrap n)=_
 rw[gN k n h.1 h.2]
section
variable {H:Type} {enc:TypeId × Value→H} {P:Program} {w:World} {base:Nat} {spare:Nat→Bool} {held:Bool}
theorem aAY {go:TypeId→Option (List CK)} {fuel:Nat} (hgo:∀ t ks cs x,go t=some ks→DataW.trod enc P w base spare held fuel t cs=some x→Kin ks cs):∀ (fs:List Field) (o:Nat) (ks:List CK) (cs:List Value),rR go P fs o=some ks→
  (∀ (i:Nat) (f:Field),fs[i]?=some f→∃ x,DataW.trod enc P w base spare held fuel f.type ((cs.drop (f.offset-o)).take (P.cellsOf f.type))=some x)→cs.length=ks.length→Kin ks cs
 |[],o,ks,cs,hk,h,hl=>by
  simp only[rR,Option.some.injEq]at hk
  subst hk
  exact⟨hl,fun i k e=>by simp at e⟩
 |f::fs,o,ks,cs,hk,h,hl=>by
  unfold rR at hk
  split at hk
  case isFalse=>cases hk
  rename_i ho
  split at hk
  case h_2=>cases hk
  rename_i a ha
  split at hk
  case isFalse=>cases hk
  rename_i hal
  split at hk
  case h_2=>cases hk
  rename_i b hb
  cases hk
  obtain⟨x,hx⟩:=h 0 f rfl
  rw[ho,Nat.sub_self,List.drop_zero,←hal]at hx
  have k1:=hgo f.type a _ x ha hx
  rw[List.length_append]at hl
  have k2:=aAY hgo fs (o+a.length) b (cs.drop a.length) hb (by
   intro i g hg
   obtain⟨y,hy⟩:=h (i+1) g (by simpa using hg)
   refine⟨y,?_⟩
   rw[List.drop_drop]
   have hge:o+a.length≤g.offset:=aAT hb i g hg
   rw[show a.length+(g.offset-(o+a.length))=g.offset-o by omega]
   exact hy) (by rw[List.length_drop];omega)
  have:=Kin.append k1 k2
  rwa [List.take_append_drop]at this
theorem zF:∀ (d:Nat) (t:TypeId) (ks:List CK) (fuel:Nat) (cs:List Value) (x:DataW H × List MemPlace),nP P d t=some ks→DataW.trod enc P w base spare held fuel t cs=some x→Kin ks cs
 |0,t,ks,fuel,cs,x,hk,h=>by simp [nP]at hk
 |d+1,t,ks,fuel,cs,x,hk,h=>by
  unfold nP at hk
  split at hk
  ·rename_i hu
   cases hk
   obtain⟨b,rfl,_⟩:=DataW.trod_bool hu h
   refine⟨rfl,fun i k e=>?_⟩
   match i,e with
   |0,e=>
    cases e
    exact⟨if b then 1 else 0,by cases b<;>rfl,by cases b;exact .inl rfl;exact .inr rfl⟩
  ·rename_i k0 hu
   cases hk
   obtain⟨n,rfl,_,hw⟩:=DataW.trod_int hu h
   refine⟨rfl,fun i k e=>?_⟩
   match i,e with
   |0,e=>
    cases e
    exact⟨n,by rw[(aMA hw).1];rfl,(aMA hw).2⟩
  ·rename_i fs hu
   split at hk
   case h_2=>cases hk
   rename_i a ha
   split at hk
   case isFalse=>cases hk
   rename_i hl
   cases hk
   obtain⟨xs,n,rfl,_,hcl,hxl,hf⟩:=DataW.trod_struct hu h
   have:=aAY (fun t ks cs x=>zF d t ks n cs x) fs.toList 0 ks (cs.drop 0) ha (by
    intro i f hfi
    have e:=hf i f (by simpa using hfi)
    have hi:i<xs.length:=by rw[hxl];have:=(List.getElem?_eq_some_iff.1 hfi).1;simpa using this
    refine⟨xs[i],?_⟩
    rw[List.drop_zero,Nat.sub_zero,e];simp [hi]) (by rw[List.drop_zero,hcl,hl])
   simpa using this
  ·rename_i n e hu
   split at hk
   case h_2=>cases hk
   rename_i a ha
   split at hk
   case isFalse=>cases hk
   rename_i hl
   cases hk
   obtain⟨xs,m,rfl,_,hcl,hxl,hf⟩:=DataW.trod_array hu h
   have key:∀ j,j≤n→Kin (List.replicate j a).flatten (cs.take (j*a.length)):=by
    intro j
    induction j with
    |zero=>intro _;exact⟨by simp,fun i k e=>by simp at e⟩
    |succ j ih=>
     intro hj
     have e1:=hf j (by omega)
     rw[←hl.1]at e1
     have k1:=zF d e a m _ xs[j] ha (by rw[e1];simp [hxl,show j<n by omega])
     have e2:cs.take ((j+1)*a.length)=cs.take (j*a.length)++(cs.drop (j*a.length)).take a.length:=by
      rw[Nat.succ_mul,List.take_add]
     rw[e2,List.replicate_succ',List.flatten_append]
     simpa using Kin.append (ih (by omega)) k1
   have:=key n (Nat.le_refl _)
   rw[hl.2,←hcl,List.take_length]at this
   exact this
  ·cases hk
end
theorem aIq {H:Type} {enc:TypeId × Value→H} {P:Program} {W:World} {base base' d0:Nat} {spare:Nat→Bool} {held:Bool} {t e:TypeId} {v:Value} {d:DataW H} {p:List MemPlace} (ks:List CK)
  (hu:P.underlying t=some (.slice e)) (hk:nP P d0 e=some ks) (hce:ks.length=P.cellsOf e) (hpos:0<ks.length)
  (hok:Value.okWide P W .any base t v) (htr:DataW.Trod enc P W base' spare held t v d p):
  ∃ (b:Sx.Loc) (L:List (List Int)),v=(if b.nil then .slice none 0 0 else .slice (some ⟨b.blk,b.base,none⟩) L.length b.cap)∧(b.nil=true→L=[]∧b.cap=0)∧L.length≤b.cap∧L.length≤9223372036854775807∧(b.nil=true∨b.blk<W.heap.size)∧
   (∀ r,r ∈ L→r.length=ks.length∧∀ (i:Nat) (k:CK),ks[i]?=some k→sJ k (r.getD i 0))∧jM b W.heap[b.blk]? [aL1 ks L true]:=by
 obtain⟨fuel,htr⟩:=htr
 have hvs:∃ a len cap,v = .slice a len cap:=Go.WideShapes.okWide_slice hu hok
 obtain⟨a0,len0,cap0,rfl⟩:=hvs
 rcases DataW.trod_slice hu htr with⟨h,_⟩|⟨a,len,cap,elems,rest,n,_,h,_,hb,hl,hc,hel,hrd,_⟩
 ·have h:a0=none∧len0=0∧cap0=0:=by simpa [Value.cells]using h
  obtain⟨rfl,rfl,rfl⟩:=h
  refine⟨⟨0,0,true,0⟩,[],rfl,fun _=>⟨rfl,rfl⟩,by simp,by simp,.inl rfl,(fun r hr=>nomatch hr),?_⟩
  exact⟨_,ks.length,true,rfl,hpos,.inl ⟨rfl,rfl⟩⟩
 ·have h:a0=some a∧len0=len∧cap0=cap:=by simpa [Value.cells]using h
  obtain⟨rfl,rfl,rfl⟩:=h
  have hsp:a.spot=none∧∃ cs T fz,W.heap[a.block]?=some (.cells cs T fz):=by
   unfold Value.okWide at hok
   rw[hu]at hok
   simp only at hok
   unfold Cell.okWide at hok
   rw[hu]at hok
   simp only at hok
   unfold Cell.ok at hok
   rw[hu]at hok
   simp only at hok
   obtain⟨_,_,_,h2,row,cells,h3,_⟩:=hok
   refine⟨h2,?_⟩
   unfold World.shape? at h3
   split at h3
   ·exact⟨_,_,_,by assumption⟩
   ·cases h3
  obtain⟨ablk,aoff,aspot⟩:=a
  obtain⟨rfl,ccs,cT,cfz,hcc⟩:=hsp
  simp only at hcc hb
  have hlt:ablk<W.heap.size:=(Array.getElem?_eq_some_iff.1 hcc).1
  have one:∀ i,i<len0→∃ r:List Int,(r.length=ks.length∧∀ (j:Nat) (k:CK),ks[j]?=some k→sJ k (r.getD j 0))∧∀ j u,(eH ks r)[j]?=some u→W.cell? ⟨ablk,aoff+(i*ks.length+j),none⟩=some u:=by
   intro i hi
   have h1:=hrd i hi
   have h2:elems[i]?=some elems[i]:=by simp [hel,hi]
   rw[h2,Option.bind_eq_some_iff]at h1
   obtain⟨cs,h3,h4⟩:=h1
   have h5:=zF d0 e ks n cs _ hk h4
   obtain⟨r,r1,r2,r3⟩:=h5.row
   refine⟨r,⟨r1,r3⟩,fun j u hu=>?_⟩
   rw[←r2]at hu
   unfold World.cells? at h3
   split at h3
   case isFalse=>cases h3
   have hj:j<P.cellsOf e:=by
    have:=(List.getElem?_eq_some_iff.1 hu).1
    rw[h5.1,hce]at this;exact this
   have h6:=mapM_some_get h3 j j (by simp [hj])
   rw[hu]at h6
   rw[←h6,cG,cG,hce,Nat.add_assoc]
  classical
  obtain⟨f,hf⟩:∃ f:Nat→List Int,∀ i,i<len0→((f i).length=ks.length∧∀ (j:Nat) (k:CK),ks[j]?=some k→sJ k ((f i).getD j 0))∧∀ j u,(eH ks (f i))[j]?=some u→W.cell? ⟨ablk,aoff+(i*ks.length+j),none⟩=some u:=by
   refine⟨fun i=>if q:i<len0 then (one i q).choose else [],fun i hi=>?_⟩
   simp only[dif_pos hi]
   exact(one i hi).choose_spec
  obtain⟨L,hL⟩:∃ L,L=(List.range len0).map f:=⟨_,rfl⟩
  have hLl:L.length=len0:=by rw[hL];simp
  have hmem:∀ r,r ∈ L→∃ i,i<len0∧r=f i:=by
   intro r hr
   rw[hL]at hr
   obtain⟨i,hi,rfl⟩:=List.mem_map.1 hr
   exact⟨i,by simpa using hi,rfl⟩
  refine⟨⟨ablk,cap0,false,aoff⟩,L,by rw[hLl];rfl,(fun q=>by cases q),by rw[hLl];exact hl,by rw[hLl];unfold maxLen at hc;omega,.inr hlt,fun r hr=>?_,?_⟩
  ·obtain⟨i,hi,rfl⟩:=hmem r hr
   exact(hf i hi).1
  ·refine⟨_,ks.length,true,rfl,hpos,.inr ⟨rfl,?_⟩⟩
   have hcell:∀ i u,(aT ks L)[i]?=some u→W.cell? ⟨ablk,aoff+i,none⟩=some u:=by
    intro i u hi
    have hlt2:=(List.getElem?_eq_some_iff.1 hi).1
    rw[bB,hLl]at hlt2
    have hq:i / ks.length<len0:=Nat.div_lt_of_lt_mul (by rw[Nat.mul_comm];exact hlt2)
    have hm:i % ks.length<ks.length:=Nat.mod_lt _ hpos
    have e0:i=i / ks.length*ks.length+i % ks.length:=by rw[Nat.mul_comm];exact(Nat.div_add_mod i ks.length).symm
    have e1:(aT ks L)[i / ks.length*ks.length+i % ks.length]?=some ((ks[i % ks.length]).mk ((L.getD (i / ks.length) []).getD (i % ks.length) 0)):=fJ (by simp [hm]) L _ (by rw[hLl];exact hq)
    rw[←e0,hi]at e1
    have e2:L.getD (i / ks.length) []=f (i / ks.length):=by rw[hL];simp [List.getD,hq]
    have e3:(eH ks (f (i / ks.length)))[i % ks.length]?=some ((ks[i % ks.length]).mk ((f (i / ks.length)).getD (i % ks.length) 0)):=by
     unfold eH
     rw[List.getElem?_map,List.getElem?_zipIdx]
     simp [hm]
    rw[e2,←e3]at e1
    have:=(hf _ hq).2 _ u e1.symm
    rwa [←e0]at this
   refine⟨ccs,cT,cfz,hcc,fun i u hi=>?_⟩
   have:=hcell i u hi
   simpa [World.cell?,hcc]using this
theorem aH6 {G:Nat→List Int→Int} {ρ:Nat→Int} {W:World} (vs:List (Sx.Loc × List SV)) (h:∀ q,q ∈ vs→(q.1.nil=true∨q.1.blk<W.heap.size)∧∃ us,jM q.1 W.heap[q.1.blk]? us∧SV.RL G ρ (fun _=>none) q.2 us):
  RelW G ρ [] (fun id=>(vs[id]?).map (·.1)) (vs.map fun q=>some (q.2,aF)) W:=by
 have hvis:∀ id,¬jI (vs.map fun q=>(some (q.2,aF):jC)) id:=by
  rintro id ⟨q,hq,hv⟩
  rw[List.getElem?_map]at hq
  cases e:vs[id]? with
  |none=>rw[e]at hq;cases hq
  |some p=>
   rw[e]at hq
   have:q=(p.2,aF):=by cases hq;rfl
   rw[this]at hv
   exact absurd hv (show ¬vw aF=false by decide)
 have get:∀ (id:Nat) (b:Sx.Loc),(vs[id]?).map (fun q:Sx.Loc × List SV=>q.1)=some b→∃ q:Sx.Loc × List SV,vs[id]?=some q∧q.1=b:=by
  intro id b e
  cases e2:vs[id]? with
  |none=>rw[e2]at e;cases e
  |some p=>rw[e2]at e;exact⟨p,rfl,by cases e;rfl⟩
 refine⟨fun id b e=>?_,fun i j b c _ _ _ _ _ vi _=>absurd vi (hvis i),fun id cs T e=>?_,(fun p hp=>nomatch hp),fun id cs T b _ _ _ _ j c _ _ _ vj=>absurd vj (hvis j)⟩
 ·obtain⟨q,hq,rfl⟩:=get id b e
  exact⟨by rw[List.length_map];exact(List.getElem?_eq_some_iff.1 hq).1,(h q (List.mem_of_getElem? hq)).1⟩
 ·rw[List.getElem?_map]at e
  cases e2:vs[id]? with
  |none=>rw[e2]at e;cases e
  |some p=>
   rw[e2]at e
   cases e
   obtain⟨_,us,h1,h2⟩:=h p (List.mem_of_getElem? e2)
   exact⟨p.1,us,rfl,(hC (by decide)).2 h1,SV.RL_mono (fun _ _ z=>by cases z) _ _ h2⟩
theorem iU {G:Nat→List Int→Int} {ρ:Nat→Int} {α:aV} {ks:List CK} {L:List (List Int)} {C n:E} (h1:C.den G ρ=Lc.enc L) (h2:n.den G ρ=L.length):SV.RL G ρ α [.vec ks C n true] [aL1 ks L true]:=by
 refine aW ?_ bC
 simp only[SV.R]
 rw[h1,Lc.dec_enc,h2]
 exact⟨rfl,rfl⟩
theorem aQQ {P:Program} {G:Nat→List Int→Int} {f:FuncId} {F:FunS} {ρ:Nat→Int} {W:World} {vals:List Value} {α:aV} (hF:fX P G [] f F ρ) (hW:RelW G ρ [] α F.H W) (hvis:∀ id,¬jI F.H id) (hv:SV.RL G ρ α F.args vals) (hb:F.b = .lit true) (hs:F.s1 = .bool (.lit true)):
  Calls P f vals.toArray W (fun e w'=>e = .returned (.bool true)∧Below W.heap.size W w'):=by
 obtain⟨_,hc⟩:=hF α W vals hW hv
 refine hc.mono ?_
 rintro e w' ⟨v,α',r,hr,rfl,rv,_,x⟩
 rw[hb]at hr
 have hr:r=true:=hr.symm
 subst hr
 rw[hs]at rv
 simp only[if_true,SV.R,B.den]at rv
 subst rv
 exact⟨rfl,x.os,x.tape,x.output,x.size,fun k hk=>x.hid k hk (fun id b _ _ _=>hvis id)⟩
theorem aBl (l:List (List SV)):∀ id,¬jI (l.map fun q=>(some (q,aF):jC)) id:=by
 rintro id ⟨q,hq,hv⟩
 rw[List.getElem?_map]at hq
 cases e:l[id]? with
 |none=>rw[e]at hq;cases hq
 |some p=>
  rw[e]at hq
  have:q=(p,aF):=by cases hq;rfl
  rw[this]at hv
  exact absurd hv (show ¬vw aF=false by decide)
end Go.Proofs.Ytdldallkeheciaa
namespace Go.Proofs.Ytdldallkeheciaa
open Go Go.RowKit Sx
theorem aEl {H:Type} {enc:TypeId × Value→H} {P:Program} {W:World} {base base':Nat} {spare:Nat→Bool} {held:Bool} {t:TypeId} {v:Value} {d:DataW H} {p:List MemPlace} {fs:Array Field} (ts:List TypeId)
  (hu:P.underlying t=some (.struct fs)) (hc:P.cellsOf t=ts.length) (hct:P.cellTypes P.depth t=some ts)
  (hfs:fs.toList.map (fun f=>(f.type,f.offset))=ts.zipIdx) (hone:∀ u,u ∈ ts→P.cellsOf u=1∧(match P.underlying u with|some (.struct _)|some (.array _ _)=>false|_=>true)=true)
  (hok:Value.okWide P W .any base t v) (htr:DataW.Trod enc P W base' spare held t v d p):
  ∃ cs:List Value,v = .agg cs.toArray∧cs.length=ts.length∧∀ (i:Nat) (u:TypeId),ts[i]?=some u→∃ c,cs[i]?=some c∧Value.okWide P W .any base u c∧(c.cells=#[c]→∃ d p,DataW.Trod enc P W base' spare held u c d p):=by
 have h':∃ cs,v = .agg cs∧cs.size=P.cellsOf t∧Row.okWide P W .any base t cs:=by
  unfold Value.okWide at hok
  rw[hu]at hok
  exact hok
 obtain⟨cs,rfl,hsz,ts',hts',_,hcell⟩:=h'
 rw[hct]at hts';cases hts'
 obtain⟨fuel,htr⟩:=htr
 obtain⟨xs,n,rfl,_,hcl,hxl,hf⟩:=DataW.trod_struct hu htr
 refine⟨cs.toList,by simp,by simp [hsz,hc],fun i u hi=>?_⟩
 have hlt:i<ts.length:=(List.getElem?_eq_some_iff.1 hi).1
 have hi':i<cs.size:=by rw[hsz,hc];exact hlt
 obtain⟨u',hu',ho⟩:=hcell i cs[i] (by simp [hi'])
 rw[Nat.mod_eq_of_lt hlt,hi]at hu'
 cases hu'
 have hm:=hone u (List.mem_of_getElem? hi)
 refine⟨cs[i],by simp [hi'],?_,fun hcs=>?_⟩
 ·unfold Value.okWide
  split
  ·rename_i hq;rw[hq]at hm;simp at hm
  ·rename_i hq;rw[hq]at hm;simp at hm
  ·exact ho
 ·have hz:(fs.toList.map (fun f=>(f.type,f.offset)))[i]?=some (u,i):=by
   rw[hfs,List.getElem?_zipIdx,hi];simp
  rw[List.getElem?_map,Option.map_eq_some_iff]at hz
  obtain⟨f,hfi,hfe⟩:=hz
  have h1:f.type=u:=congrArg Prod.fst hfe
  have h2:f.offset=i:=congrArg Prod.snd hfe
  have e:=hf i f (by simpa using hfi)
  rw[h1,h2,hm.1]at e
  have hlx:i<xs.length:=by
   rw[hxl];have:=(List.getElem?_eq_some_iff.1 hfi).1;simpa using this
  have e2:(List.drop i (Value.cells (.agg cs)).toList).take 1=[cs[i]]:=by
   show (List.drop i cs.toList).take 1=[cs[i]]
   rw[List.drop_eq_getElem_cons (by simpa using hi')]
   simp
  rw[e2]at e
  refine⟨(xs[i]).1,(xs[i]).2,n,?_⟩
  rw[hcs]
  show DataW.trod enc P W base' spare held n u [cs[i]]=_
  rw[e]
  simp [hlx]
theorem aHP {H:Type} {enc:TypeId × Value→H} {P:Program} {W:World} {base base':Nat} {spare:Nat→Bool} {held:Bool} {t:TypeId} {v:Value}
  (hu:P.underlying t=some .string) (hok:Value.okWide P W .any base t v) (htr:v.cells=#[v]→∃ d p,DataW.Trod enc P W base' spare held t v d p):∃ s:ByteArray,v = .string s∧s.size≤9223372036854775807:=by
 have hv:v.cells=#[v]:=by
  unfold Value.okWide at hok
  rw[hu]at hok
  simp only at hok
  unfold Cell.okWide at hok
  rw[hu]at hok
  simp only at hok
  unfold Cell.ok at hok
  rw[hu]at hok
  cases v<;>first|rfl|exact hok.elim
 obtain⟨d,p,fuel,h⟩:=htr hv
 rw[hv]at h
 obtain⟨s,h1,_,h2⟩:=DataW.trod_string hu h
 have h1:v = .string s:=by simpa using h1
 exact⟨s,h1,by unfold maxLen at h2;omega⟩
end Go.Proofs.Ytdldallkeheciaa
