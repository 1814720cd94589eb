/- What is proved: the nodes of a patch's triangles are the patch's places,in plain Lean. No condition but those that are stated. -/
import Derived.Test.YtkpdiehbaiepaaaQg6
import Derived.Test.YtkpdiehbaiepaaaQa6
import Derived.Test.YtkpdiehbaiepaaaQNn
set_option linter.unusedSimpArgs false
set_option linter.unusedVariables false
namespace Go.Proofs.Ytkpdiehbaiepaaa
open Go Go.RowKit Sx Wi
section
variable {n:Nat→Int} {a k:Int}
end
theorem uO (xs:List Int) (k i:Int):∀ c,(ofJ xs k i c).length=2*c
 |0=>rfl
 |c+1=>by simp only[ofJ,List.length_append,uO xs k i c,sqR,List.length_cons,List.length_nil];omega
theorem nH (xs:List Int) (k:Int):∀ c,(uP xs k c).length=c*(2*(p2 k-2).toNat)
 |0=>by simp [uP]
 |c+1=>by simp only[uP,List.length_append,nH xs k c,uO,Nat.succ_mul]
def pY (xs:List Int) (k i:Int) (a:Nat):List (List Int):=uP xs k (i-1).toNat++ofJ xs k i a
theorem aLB (xs:List Int) (k i:Int) (a:Nat):pY xs k i (a+1)=pY xs k i a++sqR xs k i ((a:Int)+1):=by
 unfold pY;rw[List.append_assoc];rfl
theorem aBC (xs:List Int) (k i:Int):pY xs k i 0=uP xs k (i-1).toNat:=by simp [pY,ofJ]
theorem aQl (xs:List Int) (k i:Int) (h:1≤i):pY xs k i (p2 k-2).toNat=uP xs k i.toNat:=by
 have e:i.toNat=(i-1).toNat+1:=by omega
 have e2:(((i-1).toNat:Nat):Int)+1=i:=by omega
 rw[e]
 show uP xs k (i-1).toNat++ofJ xs k i _=uP xs k (i-1).toNat++ofJ xs k ((((i-1).toNat:Nat):Int)+1) _
 rw[e2]
theorem nW (xs:List Int) (k i:Int) (a:Nat):(pY xs k i a).length=(i-1).toNat*(2*(p2 k-2).toNat)+2*a:=by
 unfold pY;rw[List.length_append,nH,uO]
theorem aKh (xs:List Int) (k i:Int) (a:Nat) (hk:1≤k∧k≤6) (hi:1≤i∧i≤63) (ha:(a:Int)≤p2 k-2):(pY xs k i a).length≤10000:=by
 rw[nW]
 have hp:=aI k (by omega) hk.2
 have h1:(i-1).toNat*(2*(p2 k-2).toNat)≤62*124:=Nat.mul_le_mul (by omega) (by omega)
 omega
section
variable {xs:List Int} {k edge:Int} {s:Nat}
theorem aCm {a b:Int} (f:Nat) (h1:a<p2 edge) (h2:b=p2 k-1∨(2*a+1)*p2 k≤(2*b+1)*p2 edge):
  oX xs k edge s (f+1) a b=mS (gE xs edge s a) (gE xs edge s (a+1)) (gF xs k s b)::oX xs k edge s f (a+1) b:=by
 rw[oX,if_pos (Or.inl h1),if_pos ⟨h1,h2⟩]
theorem aFC {a b:Int} (f:Nat) (h1:b<p2 k-1) (h2:¬(a<p2 edge∧(b=p2 k-1∨(2*a+1)*p2 k≤(2*b+1)*p2 edge))):
  oX xs k edge s (f+1) a b=mS (gE xs edge s a) (gF xs k s (b+1)) (gF xs k s b)::oX xs k edge s f a (b+1):=by
 rw[oX,if_pos (Or.inr h1),if_neg h2]
theorem aCc {a b:Int} (h1:¬a<p2 edge) (h2:¬b<p2 k-1):∀ f,oX xs k edge s f a b=[]
 |0=>rfl
 |f+1=>by rw[oX,if_neg (by omega)]
theorem pO:∀ (f:Nat) (a b:Int),a≤p2 edge→b≤p2 k-1→p2 edge-a+(p2 k-1-b)≤f→((oX xs k edge s f a b).length:Int)=p2 edge-a+(p2 k-1-b)
 |0,a,b,ha,hb,h=>by show ((0:Nat):Int)=_;omega
 |f+1,a,b,ha,hb,h=>by
  by_cases h1:a<p2 edge∧(b=p2 k-1∨(2*a+1)*p2 k≤(2*b+1)*p2 edge)
  ·rw[aCm f h1.1 h1.2,List.length_cons,Int.natCast_add,pO f (a+1) b (by omega) hb (by omega)];omega
  ·by_cases h2:b<p2 k-1
   ·rw[aFC f h2 h1,List.length_cons,Int.natCast_add,pO f a (b+1) ha (by omega) (by omega)];omega
   ·have h3:¬a<p2 edge:=fun h3=>h1 ⟨h3,.inl (by omega)⟩
    rw[aCc h3 h2]
    show ((0:Nat):Int)=_
    omega
theorem aC2 (hk:1≤k∧k≤6) (he:1≤edge∧edge≤6):((aBz xs k edge s).length:Int)=p2 edge+p2 k-2:=by
 have hp:=aI k (by omega) hk.2
 have hq:=aI edge (by omega) he.2
 unfold aBz
 rw[pO _ 0 1 (by omega) (by omega) (by omega)];omega
theorem fG (hk:1≤k∧k≤6) (he:1≤edge∧edge≤6):∀ s,((kG xs k edge s).length:Int)=2*(p2 k-2)*(p2 k-2)+(s:Int)*(p2 edge+p2 k-2)
 |0=>by
  have hp:=aI k (by omega) hk.2
  show ((uP xs k (p2 k-2).toNat).length:Int)=_
  rw[nH,Int.natCast_mul,Int.natCast_mul,Int.toNat_of_nonneg (by omega)];push_cast;grind
 |s+1=>by
  show ((kG xs k edge s++aBz xs k edge s).length:Int)=_
  rw[List.length_append,Int.natCast_add,fG hk he s,aC2 hk he];push_cast;grind
def bL (xs:List Int) (k edge:Int) (s:Nat) (acc:List (List Int)):List (List Int):=kG xs k edge s++acc
def eD (xs:List Int) (k edge:Int) (s:Nat) (p:Nat × Nat × List (List Int)):Prop:=
 (p.1:Int)≤p2 edge∧1≤(p.2.1:Int)∧(p.2.1:Int)≤p2 k-1∧p.2.2.length+1=p.1+p.2.1∧∃ f:Nat,p2 edge+p2 k≤f+p.1+p.2.1+1∧p.2.2++oX xs k edge s f p.1 p.2.1=aBz xs k edge s
theorem mT (hk:1≤k∧k≤6) (he:1≤edge∧edge≤6):eD xs k edge s (0,1,[]):=by
 have hp:=aI k (by omega) hk.2
 have hq:=aI edge (by omega) he.2
 exact⟨by show ((0:Nat):Int)≤_;omega,by show (1:Int)≤((1:Nat):Int);omega,by show ((1:Nat):Int)≤_;omega,rfl,(p2 edge+p2 k).toNat,by show _≤_+((0:Nat):Int)+((1:Nat):Int)+1;omega,rfl⟩
theorem qI {a b:Nat} {acc:List (List Int)} (h:eD xs k edge s (a,b,acc)) (h1:(a:Int)<p2 edge) (h2:(b:Int)=p2 k-1∨(2*(a:Int)+1)*p2 k≤(2*(b:Int)+1)*p2 edge):
  eD xs k edge s (a+1,b,acc++[mS (gE xs edge s a) (gE xs edge s ((a:Int)+1)) (gF xs k s b)]):=by
 obtain⟨g1,g2,g3,g4,f,g5,g6⟩:=h
 simp only at g1 g2 g3 g4 g5 g6
 cases f with
 |zero=>simp only[Int.natCast_zero]at g5;omega
 |succ f=>
  rw[aCm f h1 h2]at g6
  refine⟨by simp only[Int.natCast_add];omega,g2,g3,by simp only[List.length_append,List.length_cons,List.length_nil];omega,f,by simp only[Int.natCast_add]at g5 ⊢;omega,?_⟩
  simp only[List.append_assoc,List.cons_append,List.nil_append,Int.natCast_add]
  exact g6
theorem sT {a b:Nat} {acc:List (List Int)} (h:eD xs k edge s (a,b,acc)) (h1:(b:Int)<p2 k-1) (h2:¬((a:Int)<p2 edge∧((b:Int)=p2 k-1∨(2*(a:Int)+1)*p2 k≤(2*(b:Int)+1)*p2 edge))):
  eD xs k edge s (a,b+1,acc++[mS (gE xs edge s a) (gF xs k s ((b:Int)+1)) (gF xs k s b)]):=by
 obtain⟨g1,g2,g3,g4,f,g5,g6⟩:=h
 simp only at g1 g2 g3 g4 g5 g6
 cases f with
 |zero=>simp only[Int.natCast_zero]at g5;omega
 |succ f=>
  rw[aFC f h1 h2]at g6
  refine⟨g1,by simp only[Int.natCast_add];omega,by simp only[Int.natCast_add];omega,by simp only[List.length_append,List.length_cons,List.length_nil];omega,f,by simp only[Int.natCast_add]at g5 ⊢;omega,?_⟩
  simp only[List.append_assoc,List.cons_append,List.nil_append,Int.natCast_add]
  exact g6
theorem pR {a b:Nat} {acc:List (List Int)} (h:eD xs k edge s (a,b,acc)) (h1:¬(a:Int)<p2 edge) (h2:¬(b:Int)<p2 k-1):bL xs k edge s acc=kG xs k edge (s+1):=by
 obtain⟨g1,g2,g3,g4,f,g5,g6⟩:=h
 simp only at g1 g2 g3 g4 g5 g6
 rw[aCc h1 h2,List.append_nil]at g6
 show kG xs k edge s++acc=kG xs k edge s++aBz xs k edge s
 rw[g6]
theorem aBx {a b:Nat} {acc:List (List Int)} (hk:1≤k∧k≤6) (he:1≤edge∧edge≤6) (h:eD xs k edge s (a,b,acc)):((bL xs k edge s acc).length:Int)=2*(p2 k-2)*(p2 k-2)+(s:Int)*(p2 edge+p2 k-2)+(a+b-1):=by
 obtain⟨g1,g2,g3,g4,f,g5,g6⟩:=h
 simp only at g4
 unfold bL
 rw[List.length_append,Int.natCast_add,fG hk he];omega
theorem dZ (acc:List (List Int)) (r:List Int):bL xs k edge s acc++[r]=bL xs k edge s (acc++[r]):=by
 unfold bL;rw[List.append_assoc]
theorem aSG (hk:1≤k∧k≤6) (he:1≤edge∧edge≤6) (hs:s≤4):0≤2*(p2 k-2)*(p2 k-2)+(s:Int)*(p2 edge+p2 k-2)∧2*(p2 k-2)*(p2 k-2)+(s:Int)*(p2 edge+p2 k-2)≤8200:=by
 have hp:=aI k (by omega) hk.2
 have hq:=aI edge (by omega) he.2
 have hs':s=0∨s=1∨s=2∨s=3∨s=4:=by omega
 rcases hp with⟨_,hp⟩|⟨_,hp⟩|⟨_,hp⟩|⟨_,hp⟩|⟨_,hp⟩|⟨_,hp⟩|⟨_,hp⟩<;>rw[hp]<;>rcases hs' with rfl|rfl|rfl|rfl|rfl<;>omega
end
open Go Go.RowKit Sx Wi
theorem cW (e:Int):1*2 ^ e.toNat=p2 e:=rfl
def aP (s:Nat) (x0 x1 x2 x3 x4 x5 x6 x7 x8 x9 x10 x11 x12 x13 x14 x15 x16 x17 x18 x19 x20 x21 x22 x23 x24 x25 x26 x27 x28 x29 x30 x31 x32 x33:Int) (p:Nat × Nat × List (List Int)):Nat→Int:=dJ (([x0,x1,x2,x3,x4,x5,x6,x7,x8,x9,x10,x11,x12,x13,x14,x15,x16,x17,x18,x19,x20,x21,x22,x23,x24,x25,x26,x27,x28,x29,x30,x31,x32,x33]:List Int)++[(p.1:Int),(p.2.1:Int),((bL [x0,x1,x2,x3,x4,x5,x6,x7,x8,x9,x10,x11,x12,x13,x14,x15,x16,x17,x18,x19,x20,x21,x22,x23,x24,x25,x26,x27,x28,x29,x30,x31] x32 x33 s p.2.2).length:Int),Lc.enc (bL [x0,x1,x2,x3,x4,x5,x6,x7,x8,x9,x10,x11,x12,x13,x14,x15,x16,x17,x18,x19,x20,x21,x22,x23,x24,x25,x26,x27,x28,x29,x30,x31] x32 x33 s p.2.2)])
def dD (x0 x1 x2 x3 x4 x5 x6 x7 x8 x9 x10 x11 x12 x13 x14 x15 x16 x17 x18 x19 x20 x21 x22 x23 x24 x25 x26 x27 x28 x29 x30 x31 x32 x33:Int) (p:Nat × Nat × List (List Int)):Nat:=(p2 x33+p2 x32-p.1-p.2.1).toNat
theorem sN (s:Nat) (hs:s≤3) (x0 x1 x2 x3 x4 x5 x6 x7 x8 x9 x10 x11 x12 x13 x14 x15 x16 x17 x18 x19 x20 x21 x22 x23 x24 x25 x26 x27 x28 x29 x30 x31 x32 x33:Int) (b0:zzf x0) (b1:zzf x1) (b2:zzf x2) (b3:zzf x3) (b4:zzf x4) (b5:zzf x5) (b6:zzf x6) (b7:zzf x7) (b8:zzf x8) (b9:zzf x9) (b10:zzf x10) (b11:zzf x11) (b12:zzf x12) (b13:zzf x13) (b14:zzf x14) (b15:zzf x15) (b16:zzf x16) (b17:zzf x17) (b18:zzf x18) (b19:zzf x19) (b20:zzf x20) (b21:zzf x21) (b22:zzf x22) (b23:zzf x23) (b24:zzf x24) (b25:zzf x25) (b26:zzf x26) (b27:zzf x27) (b28:zzf x28) (b29:zzf x29) (b30:zzf x30) (b31:zzf x31) (b32:1≤x32∧x32≤6) (b33:1≤x33∧x33≤6) (p:Nat × Nat × List (List Int)) (hp:eD [x0,x1,x2,x3,x4,x5,x6,x7,x8,x9,x10,x11,x12,x13,x14,x15,x16,x17,x18,x19,x20,x21,x22,x23,x24,x25,x26,x27,x28,x29,x30,x31] x32 x33 s p):∀ i q,gW[i]?=some q→q.1≤aP s x0 x1 x2 x3 x4 x5 x6 x7 x8 x9 x10 x11 x12 x13 x14 x15 x16 x17 x18 x19 x20 x21 x22 x23 x24 x25 x26 x27 x28 x29 x30 x31 x32 x33 p i∧aP s x0 x1 x2 x3 x4 x5 x6 x7 x8 x9 x10 x11 x12 x13 x14 x15 x16 x17 x18 x19 x20 x21 x22 x23 x24 x25 x26 x27 x28 x29 x30 x31 x32 x33 p i≤q.2:=by
 obtain⟨a,b,acc⟩:=p
 have hk:=aI x32 (by omega) (by omega)
 have he:=aI x33 (by omega) (by omega)
 have hl:=aBx (xs:=[x0,x1,x2,x3,x4,x5,x6,x7,x8,x9,x10,x11,x12,x13,x14,x15,x16,x17,x18,x19,x20,x21,x22,x23,x24,x25,x26,x27,x28,x29,x30,x31]) b32 b33 hp
 have hb:=aSG (s:=s) b32 b33 (by omega)
 obtain⟨g1,g2,g3,g4,_⟩:=hp
 simp only at g1 g2 g3 g4
 unfold aP gW
 have e:([x0,x1,x2,x3,x4,x5,x6,x7,x8,x9,x10,x11,x12,x13,x14,x15,x16,x17,x18,x19,x20,x21,x22,x23,x24,x25,x26,x27,x28,x29,x30,x31,x32,x33]:List Int)++[(a:Int),(b:Int),((bL [x0,x1,x2,x3,x4,x5,x6,x7,x8,x9,x10,x11,x12,x13,x14,x15,x16,x17,x18,x19,x20,x21,x22,x23,x24,x25,x26,x27,x28,x29,x30,x31] x32 x33 s acc).length:Int),Lc.enc (bL [x0,x1,x2,x3,x4,x5,x6,x7,x8,x9,x10,x11,x12,x13,x14,x15,x16,x17,x18,x19,x20,x21,x22,x23,x24,x25,x26,x27,x28,x29,x30,x31] x32 x33 s acc)]=(([x0,x1,x2,x3,x4,x5,x6,x7,x8,x9,x10,x11,x12,x13,x14,x15,x16,x17,x18,x19,x20,x21,x22,x23,x24,x25,x26,x27,x28,x29,x30,x31,x32,x33]:List Int)++[(a:Int),(b:Int),((bL [x0,x1,x2,x3,x4,x5,x6,x7,x8,x9,x10,x11,x12,x13,x14,x15,x16,x17,x18,x19,x20,x21,x22,x23,x24,x25,x26,x27,x28,x29,x30,x31] x32 x33 s acc).length:Int)])++[Lc.enc (bL [x0,x1,x2,x3,x4,x5,x6,x7,x8,x9,x10,x11,x12,x13,x14,x15,x16,x17,x18,x19,x20,x21,x22,x23,x24,x25,x26,x27,x28,x29,x30,x31] x32 x33 s acc)]:=by simp
 simp only at e ⊢
 rw[e]
 exact eL (by simp only[List.cons_append,List.nil_append];exact⟨b0,b1,b2,b3,b4,b5,b6,b7,b8,b9,b10,b11,b12,b13,b14,b15,b16,b17,b18,b19,b20,b21,b22,b23,b24,b25,b26,b27,b28,b29,b30,b31,b32,b33,by omega,by omega,by omega,trivial⟩)
set_option maxHeartbeats 2000000 in
set_option maxRecDepth 100000 in
theorem zE (x0 x1 x2 x3 x4 x5 x6 x7 x8 x9 x10 x11 x12 x13 x14 x15 x16 x17 x18 x19 x20 x21 x22 x23 x24 x25 x26 x27 x28 x29 x30 x31 x32 x33:Int) (b0:zzf x0) (b1:zzf x1) (b2:zzf x2) (b3:zzf x3) (b4:zzf x4) (b5:zzf x5) (b6:zzf x6) (b7:zzf x7) (b8:zzf x8) (b9:zzf x9) (b10:zzf x10) (b11:zzf x11) (b12:zzf x12) (b13:zzf x13) (b14:zzf x14) (b15:zzf x15) (b16:zzf x16) (b17:zzf x17) (b18:zzf x18) (b19:zzf x19) (b20:zzf x20) (b21:zzf x21) (b22:zzf x22) (b23:zzf x23) (b24:zzf x24) (b25:zzf x25) (b26:zzf x26) (b27:zzf x27) (b28:zzf x28) (b29:zzf x29) (b30:zzf x30) (b31:zzf x31) (b32:1≤x32∧x32≤6) (b33:1≤x33∧x33≤6) (a b:Nat) (acc:List (List Int)) (hp:eD [x0,x1,x2,x3,x4,x5,x6,x7,x8,x9,x10,x11,x12,x13,x14,x15,x16,x17,x18,x19,x20,x21,x22,x23,x24,x25,x26,x27,x28,x29,x30,x31] x32 x33 0 (a,b,acc)) (hlt:(a:Int)<p2 x33) (hor:(b:Int)=p2 x32-1∨(2*(a:Int)+1)*p2 x32≤(2*(b:Int)+1)*p2 x33):aZ G (aP 0 x0 x1 x2 x3 x4 x5 x6 x7 x8 x9 x10 x11 x12 x13 x14 x15 x16 x17 x18 x19 x20 x21 x22 x23 x24 x25 x26 x27 x28 x29 x30 x31 x32 x33) (dJ ([x0,x1,x2,x3,x4,x5,x6,x7,x8,x9,x10,x11,x12,x13,x14,x15,x16,x17,x18,x19,x20,x21,x22,x23,x24,x25,x26,x27,x28,x29,x30,x31,x32,x33]:List Int)) 34 (.lit true) (eD [x0,x1,x2,x3,x4,x5,x6,x7,x8,x9,x10,x11,x12,x13,x14,x15,x16,x17,x18,x19,x20,x21,x22,x23,x24,x25,x26,x27,x28,x29,x30,x31] x32 x33 0) (dD x0 x1 x2 x3 x4 x5 x6 x7 x8 x9 x10 x11 x12 x13 x14 x15 x16 x17 x18 x19 x20 x21 x22 x23 x24 x25 x26 x27 x28 x29 x30 x31 x32 x33) (a,b,acc) aC3:=by
 have hn:=qI hp hlt hor
 obtain⟨g1,g2,g3,g4,g5⟩:=hp
 simp only at g1 g2 g3 g4
 clear g5 hor
 have hk:=aI x32 (by omega) (by omega)
 have he:=aI x33 (by omega) (by omega)
 have er:∃ r,r=mS (gE [x0,x1,x2,x3,x4,x5,x6,x7,x8,x9,x10,x11,x12,x13,x14,x15,x16,x17,x18,x19,x20,x21,x22,x23,x24,x25,x26,x27,x28,x29,x30,x31] x33 0 (a:Int)) (gE [x0,x1,x2,x3,x4,x5,x6,x7,x8,x9,x10,x11,x12,x13,x14,x15,x16,x17,x18,x19,x20,x21,x22,x23,x24,x25,x26,x27,x28,x29,x30,x31] x33 0 ((a:Int)+1)) (gF [x0,x1,x2,x3,x4,x5,x6,x7,x8,x9,x10,x11,x12,x13,x14,x15,x16,x17,x18,x19,x20,x21,x22,x23,x24,x25,x26,x27,x28,x29,x30,x31] x32 0 (b:Int))∧r=[G 10 [x0,x8,x16,x24,(a:Int),x33],G 10 [x1,x9,x17,x25,(a:Int),x33],G 10 [x0,x8,x16,x24,((a:Int)+1),x33],G 10 [x1,x9,x17,x25,((a:Int)+1),x33],G 11 [x0,x2,x4,x6,x8,x10,x12,x14,x16,x18,x20,x22,x24,x26,x28,x30,(b:Int),1,x32],G 11 [x1,x3,x5,x7,x9,x11,x13,x15,x17,x19,x21,x23,x25,x27,x29,x31,(b:Int),1,x32],(Int.fdiv 65536 (1*2 ^ x33.toNat)*(a:Int)),(Int.fdiv 65536 (1*2 ^ x33.toNat)*((a:Int)+1)),(Int.fdiv 65536 (1*2 ^ x32.toNat)*(b:Int)),0,0,Int.fdiv 65536 (1*2 ^ x32.toNat)]:=⟨_,rfl,by
  have e0:mS (gE [x0,x1,x2,x3,x4,x5,x6,x7,x8,x9,x10,x11,x12,x13,x14,x15,x16,x17,x18,x19,x20,x21,x22,x23,x24,x25,x26,x27,x28,x29,x30,x31] x33 0 (a:Int)) (gE [x0,x1,x2,x3,x4,x5,x6,x7,x8,x9,x10,x11,x12,x13,x14,x15,x16,x17,x18,x19,x20,x21,x22,x23,x24,x25,x26,x27,x28,x29,x30,x31] x33 0 ((a:Int)+1)) (gF [x0,x1,x2,x3,x4,x5,x6,x7,x8,x9,x10,x11,x12,x13,x14,x15,x16,x17,x18,x19,x20,x21,x22,x23,x24,x25,x26,x27,x28,x29,x30,x31] x32 0 (b:Int))=[G 10 [x0,x8,x16,x24,(a:Int),x33],G 10 [x1,x9,x17,x25,(a:Int),x33],G 10 [x0,x8,x16,x24,((a:Int)+1),x33],G 10 [x1,x9,x17,x25,((a:Int)+1),x33],G 11 [x0,x2,x4,x6,x8,x10,x12,x14,x16,x18,x20,x22,x24,x26,x28,x30,(b:Int),1,x32],G 11 [x1,x3,x5,x7,x9,x11,x13,x15,x17,x19,x21,x23,x25,x27,x29,x31,(b:Int),1,x32],(Int.fdiv 65536 (1*2 ^ x33.toNat)*(a:Int)),(Int.fdiv 65536 (1*2 ^ x33.toNat)*((a:Int)+1)),(Int.fdiv 65536 (1*2 ^ x32.toNat)*(b:Int)),0,0,Int.fdiv 65536 (1*2 ^ x32.toNat)*1]:=rfl
  (try simp only[Int.mul_one]at e0)
  with_reducible exact e0⟩
 obtain⟨r,er,er'⟩:=er
 rw[←er]at hn
 have hm:dD x0 x1 x2 x3 x4 x5 x6 x7 x8 x9 x10 x11 x12 x13 x14 x15 x16 x17 x18 x19 x20 x21 x22 x23 x24 x25 x26 x27 x28 x29 x30 x31 x32 x33 (a+1,b,acc++[r])<dD x0 x1 x2 x3 x4 x5 x6 x7 x8 x9 x10 x11 x12 x13 x14 x15 x16 x17 x18 x19 x20 x21 x22 x23 x24 x25 x26 x27 x28 x29 x30 x31 x32 x33 (a,b,acc):=by
  unfold dD;simp only;omega
 have ec:G 91 [Lc.enc (bL [x0,x1,x2,x3,x4,x5,x6,x7,x8,x9,x10,x11,x12,x13,x14,x15,x16,x17,x18,x19,x20,x21,x22,x23,x24,x25,x26,x27,x28,x29,x30,x31] x32 x33 0 acc),G 10 [x0,x8,x16,x24,(a:Int),x33],G 10 [x1,x9,x17,x25,(a:Int),x33],G 10 [x0,x8,x16,x24,((a:Int)+1),x33],G 10 [x1,x9,x17,x25,((a:Int)+1),x33],G 11 [x0,x2,x4,x6,x8,x10,x12,x14,x16,x18,x20,x22,x24,x26,x28,x30,(b:Int),1,x32],G 11 [x1,x3,x5,x7,x9,x11,x13,x15,x17,x19,x21,x23,x25,x27,x29,x31,(b:Int),1,x32],(Int.fdiv 65536 (1*2 ^ x33.toNat)*(a:Int)),(Int.fdiv 65536 (1*2 ^ x33.toNat)*((a:Int)+1)),(Int.fdiv 65536 (1*2 ^ x32.toNat)*(b:Int)),0,0,Int.fdiv 65536 (1*2 ^ x32.toNat)]=Lc.enc (bL [x0,x1,x2,x3,x4,x5,x6,x7,x8,x9,x10,x11,x12,x13,x14,x15,x16,x17,x18,x19,x20,x21,x22,x23,x24,x25,x26,x27,x28,x29,x30,x31] x32 x33 0 (acc++[r])):=by
  rw[←dZ,←gU kC,er']
 have el:((bL [x0,x1,x2,x3,x4,x5,x6,x7,x8,x9,x10,x11,x12,x13,x14,x15,x16,x17,x18,x19,x20,x21,x22,x23,x24,x25,x26,x27,x28,x29,x30,x31] x32 x33 0 acc).length:Int)+1=((bL [x0,x1,x2,x3,x4,x5,x6,x7,x8,x9,x10,x11,x12,x13,x14,x15,x16,x17,x18,x19,x20,x21,x22,x23,x24,x25,x26,x27,x28,x29,x30,x31] x32 x33 0 (acc++[r])).length:Int):=by
  rw[←dZ,List.length_append];rfl
 unfold aC3
 simp only[aZ]
 refine⟨(a+1,b,acc++[r]),hn,hm,cP (by simp),?_⟩
 clear hn hm er er'
 simp only[aU]
 simp only[nn,aP,List.cons_append,List.nil_append,aV]at ec el ⊢
 (repeat' refine And.intro ?_ ?_)<;>first|with_reducible exact ec|with_reducible exact el|with_reducible rfl|with_reducible trivial|omega
set_option maxHeartbeats 2000000 in
set_option maxRecDepth 100000 in
theorem xX (x0 x1 x2 x3 x4 x5 x6 x7 x8 x9 x10 x11 x12 x13 x14 x15 x16 x17 x18 x19 x20 x21 x22 x23 x24 x25 x26 x27 x28 x29 x30 x31 x32 x33:Int) (b0:zzf x0) (b1:zzf x1) (b2:zzf x2) (b3:zzf x3) (b4:zzf x4) (b5:zzf x5) (b6:zzf x6) (b7:zzf x7) (b8:zzf x8) (b9:zzf x9) (b10:zzf x10) (b11:zzf x11) (b12:zzf x12) (b13:zzf x13) (b14:zzf x14) (b15:zzf x15) (b16:zzf x16) (b17:zzf x17) (b18:zzf x18) (b19:zzf x19) (b20:zzf x20) (b21:zzf x21) (b22:zzf x22) (b23:zzf x23) (b24:zzf x24) (b25:zzf x25) (b26:zzf x26) (b27:zzf x27) (b28:zzf x28) (b29:zzf x29) (b30:zzf x30) (b31:zzf x31) (b32:1≤x32∧x32≤6) (b33:1≤x33∧x33≤6) (a b:Nat) (acc:List (List Int)) (hp:eD [x0,x1,x2,x3,x4,x5,x6,x7,x8,x9,x10,x11,x12,x13,x14,x15,x16,x17,x18,x19,x20,x21,x22,x23,x24,x25,x26,x27,x28,x29,x30,x31] x32 x33 0 (a,b,acc)) (hlt:(b:Int)<p2 x32-1) (hor:¬((a:Int)<p2 x33∧((b:Int)=p2 x32-1∨(2*(a:Int)+1)*p2 x32≤(2*(b:Int)+1)*p2 x33))):aZ G (aP 0 x0 x1 x2 x3 x4 x5 x6 x7 x8 x9 x10 x11 x12 x13 x14 x15 x16 x17 x18 x19 x20 x21 x22 x23 x24 x25 x26 x27 x28 x29 x30 x31 x32 x33) (dJ ([x0,x1,x2,x3,x4,x5,x6,x7,x8,x9,x10,x11,x12,x13,x14,x15,x16,x17,x18,x19,x20,x21,x22,x23,x24,x25,x26,x27,x28,x29,x30,x31,x32,x33]:List Int)) 34 (.lit true) (eD [x0,x1,x2,x3,x4,x5,x6,x7,x8,x9,x10,x11,x12,x13,x14,x15,x16,x17,x18,x19,x20,x21,x22,x23,x24,x25,x26,x27,x28,x29,x30,x31] x32 x33 0) (dD x0 x1 x2 x3 x4 x5 x6 x7 x8 x9 x10 x11 x12 x13 x14 x15 x16 x17 x18 x19 x20 x21 x22 x23 x24 x25 x26 x27 x28 x29 x30 x31 x32 x33) (a,b,acc) aD2:=by
 have hn:=sT hp hlt hor
 obtain⟨g1,g2,g3,g4,g5⟩:=hp
 simp only at g1 g2 g3 g4
 clear g5 hor
 have hk:=aI x32 (by omega) (by omega)
 have he:=aI x33 (by omega) (by omega)
 have er:∃ r,r=mS (gE [x0,x1,x2,x3,x4,x5,x6,x7,x8,x9,x10,x11,x12,x13,x14,x15,x16,x17,x18,x19,x20,x21,x22,x23,x24,x25,x26,x27,x28,x29,x30,x31] x33 0 (a:Int)) (gF [x0,x1,x2,x3,x4,x5,x6,x7,x8,x9,x10,x11,x12,x13,x14,x15,x16,x17,x18,x19,x20,x21,x22,x23,x24,x25,x26,x27,x28,x29,x30,x31] x32 0 ((b:Int)+1)) (gF [x0,x1,x2,x3,x4,x5,x6,x7,x8,x9,x10,x11,x12,x13,x14,x15,x16,x17,x18,x19,x20,x21,x22,x23,x24,x25,x26,x27,x28,x29,x30,x31] x32 0 (b:Int))∧r=[G 10 [x0,x8,x16,x24,(a:Int),x33],G 10 [x1,x9,x17,x25,(a:Int),x33],G 11 [x0,x2,x4,x6,x8,x10,x12,x14,x16,x18,x20,x22,x24,x26,x28,x30,((b:Int)+1),1,x32],G 11 [x1,x3,x5,x7,x9,x11,x13,x15,x17,x19,x21,x23,x25,x27,x29,x31,((b:Int)+1),1,x32],G 11 [x0,x2,x4,x6,x8,x10,x12,x14,x16,x18,x20,x22,x24,x26,x28,x30,(b:Int),1,x32],G 11 [x1,x3,x5,x7,x9,x11,x13,x15,x17,x19,x21,x23,x25,x27,x29,x31,(b:Int),1,x32],(Int.fdiv 65536 (1*2 ^ x33.toNat)*(a:Int)),(Int.fdiv 65536 (1*2 ^ x32.toNat)*((b:Int)+1)),(Int.fdiv 65536 (1*2 ^ x32.toNat)*(b:Int)),0,Int.fdiv 65536 (1*2 ^ x32.toNat),Int.fdiv 65536 (1*2 ^ x32.toNat)]:=⟨_,rfl,by
  have e0:mS (gE [x0,x1,x2,x3,x4,x5,x6,x7,x8,x9,x10,x11,x12,x13,x14,x15,x16,x17,x18,x19,x20,x21,x22,x23,x24,x25,x26,x27,x28,x29,x30,x31] x33 0 (a:Int)) (gF [x0,x1,x2,x3,x4,x5,x6,x7,x8,x9,x10,x11,x12,x13,x14,x15,x16,x17,x18,x19,x20,x21,x22,x23,x24,x25,x26,x27,x28,x29,x30,x31] x32 0 ((b:Int)+1)) (gF [x0,x1,x2,x3,x4,x5,x6,x7,x8,x9,x10,x11,x12,x13,x14,x15,x16,x17,x18,x19,x20,x21,x22,x23,x24,x25,x26,x27,x28,x29,x30,x31] x32 0 (b:Int))=[G 10 [x0,x8,x16,x24,(a:Int),x33],G 10 [x1,x9,x17,x25,(a:Int),x33],G 11 [x0,x2,x4,x6,x8,x10,x12,x14,x16,x18,x20,x22,x24,x26,x28,x30,((b:Int)+1),1,x32],G 11 [x1,x3,x5,x7,x9,x11,x13,x15,x17,x19,x21,x23,x25,x27,x29,x31,((b:Int)+1),1,x32],G 11 [x0,x2,x4,x6,x8,x10,x12,x14,x16,x18,x20,x22,x24,x26,x28,x30,(b:Int),1,x32],G 11 [x1,x3,x5,x7,x9,x11,x13,x15,x17,x19,x21,x23,x25,x27,x29,x31,(b:Int),1,x32],(Int.fdiv 65536 (1*2 ^ x33.toNat)*(a:Int)),(Int.fdiv 65536 (1*2 ^ x32.toNat)*((b:Int)+1)),(Int.fdiv 65536 (1*2 ^ x32.toNat)*(b:Int)),0,Int.fdiv 65536 (1*2 ^ x32.toNat)*1,Int.fdiv 65536 (1*2 ^ x32.toNat)*1]:=rfl
  (try simp only[Int.mul_one]at e0)
  with_reducible exact e0⟩
 obtain⟨r,er,er'⟩:=er
 rw[←er]at hn
 have hm:dD x0 x1 x2 x3 x4 x5 x6 x7 x8 x9 x10 x11 x12 x13 x14 x15 x16 x17 x18 x19 x20 x21 x22 x23 x24 x25 x26 x27 x28 x29 x30 x31 x32 x33 (a,b+1,acc++[r])<dD x0 x1 x2 x3 x4 x5 x6 x7 x8 x9 x10 x11 x12 x13 x14 x15 x16 x17 x18 x19 x20 x21 x22 x23 x24 x25 x26 x27 x28 x29 x30 x31 x32 x33 (a,b,acc):=by
  unfold dD;simp only;omega
 have ec:G 91 [Lc.enc (bL [x0,x1,x2,x3,x4,x5,x6,x7,x8,x9,x10,x11,x12,x13,x14,x15,x16,x17,x18,x19,x20,x21,x22,x23,x24,x25,x26,x27,x28,x29,x30,x31] x32 x33 0 acc),G 10 [x0,x8,x16,x24,(a:Int),x33],G 10 [x1,x9,x17,x25,(a:Int),x33],G 11 [x0,x2,x4,x6,x8,x10,x12,x14,x16,x18,x20,x22,x24,x26,x28,x30,((b:Int)+1),1,x32],G 11 [x1,x3,x5,x7,x9,x11,x13,x15,x17,x19,x21,x23,x25,x27,x29,x31,((b:Int)+1),1,x32],G 11 [x0,x2,x4,x6,x8,x10,x12,x14,x16,x18,x20,x22,x24,x26,x28,x30,(b:Int),1,x32],G 11 [x1,x3,x5,x7,x9,x11,x13,x15,x17,x19,x21,x23,x25,x27,x29,x31,(b:Int),1,x32],(Int.fdiv 65536 (1*2 ^ x33.toNat)*(a:Int)),(Int.fdiv 65536 (1*2 ^ x32.toNat)*((b:Int)+1)),(Int.fdiv 65536 (1*2 ^ x32.toNat)*(b:Int)),0,Int.fdiv 65536 (1*2 ^ x32.toNat),Int.fdiv 65536 (1*2 ^ x32.toNat)]=Lc.enc (bL [x0,x1,x2,x3,x4,x5,x6,x7,x8,x9,x10,x11,x12,x13,x14,x15,x16,x17,x18,x19,x20,x21,x22,x23,x24,x25,x26,x27,x28,x29,x30,x31] x32 x33 0 (acc++[r])):=by
  rw[←dZ,←gU kC,er']
 have el:((bL [x0,x1,x2,x3,x4,x5,x6,x7,x8,x9,x10,x11,x12,x13,x14,x15,x16,x17,x18,x19,x20,x21,x22,x23,x24,x25,x26,x27,x28,x29,x30,x31] x32 x33 0 acc).length:Int)+1=((bL [x0,x1,x2,x3,x4,x5,x6,x7,x8,x9,x10,x11,x12,x13,x14,x15,x16,x17,x18,x19,x20,x21,x22,x23,x24,x25,x26,x27,x28,x29,x30,x31] x32 x33 0 (acc++[r])).length:Int):=by
  rw[←dZ,List.length_append];rfl
 unfold aD2
 simp only[aZ]
 refine⟨(a,b+1,acc++[r]),hn,hm,cP (by simp),?_⟩
 clear hn hm er er'
 simp only[aU]
 simp only[nn,aP,List.cons_append,List.nil_append,aV]at ec el ⊢
 (repeat' refine And.intro ?_ ?_)<;>first|with_reducible exact ec|with_reducible exact el|with_reducible rfl|with_reducible trivial|omega
set_option maxHeartbeats 2000000 in
set_option maxRecDepth 100000 in
theorem aLK (x0 x1 x2 x3 x4 x5 x6 x7 x8 x9 x10 x11 x12 x13 x14 x15 x16 x17 x18 x19 x20 x21 x22 x23 x24 x25 x26 x27 x28 x29 x30 x31 x32 x33:Int) (b0:zzf x0) (b1:zzf x1) (b2:zzf x2) (b3:zzf x3) (b4:zzf x4) (b5:zzf x5) (b6:zzf x6) (b7:zzf x7) (b8:zzf x8) (b9:zzf x9) (b10:zzf x10) (b11:zzf x11) (b12:zzf x12) (b13:zzf x13) (b14:zzf x14) (b15:zzf x15) (b16:zzf x16) (b17:zzf x17) (b18:zzf x18) (b19:zzf x19) (b20:zzf x20) (b21:zzf x21) (b22:zzf x22) (b23:zzf x23) (b24:zzf x24) (b25:zzf x25) (b26:zzf x26) (b27:zzf x27) (b28:zzf x28) (b29:zzf x29) (b30:zzf x30) (b31:zzf x31) (b32:1≤x32∧x32≤6) (b33:1≤x33∧x33≤6) (p:Nat × Nat × List (List Int)) (hp:eD [x0,x1,x2,x3,x4,x5,x6,x7,x8,x9,x10,x11,x12,x13,x14,x15,x16,x17,x18,x19,x20,x21,x22,x23,x24,x25,x26,x27,x28,x29,x30,x31] x32 x33 0 p):Sx.sC (rM Try.prog) G (aP 0 x0 x1 x2 x3 x4 x5 x6 x7 x8 x9 x10 x11 x12 x13 x14 x15 x16 x17 x18 x19 x20 x21 x22 x23 x24 x25 x26 x27 x28 x29 x30 x31 x32 x33 p) (aZ G (aP 0 x0 x1 x2 x3 x4 x5 x6 x7 x8 x9 x10 x11 x12 x13 x14 x15 x16 x17 x18 x19 x20 x21 x22 x23 x24 x25 x26 x27 x28 x29 x30 x31 x32 x33) (dJ ([x0,x1,x2,x3,x4,x5,x6,x7,x8,x9,x10,x11,x12,x13,x14,x15,x16,x17,x18,x19,x20,x21,x22,x23,x24,x25,x26,x27,x28,x29,x30,x31,x32,x33]:List Int)) 34 (.lit true) (eD [x0,x1,x2,x3,x4,x5,x6,x7,x8,x9,x10,x11,x12,x13,x14,x15,x16,x17,x18,x19,x20,x21,x22,x23,x24,x25,x26,x27,x28,x29,x30,x31] x32 x33 0) (dD x0 x1 x2 x3 x4 x5 x6 x7 x8 x9 x10 x11 x12 x13 x14 x15 x16 x17 x18 x19 x20 x21 x22 x23 x24 x25 x26 x27 x28 x29 x30 x31 x32 x33) p) []:=by
 obtain⟨a,b,acc⟩:=p
 refine aG jR (fun h0=>?_) (fun h0=>?_)
 rotate_left
 ·skip
  refine aG qZ (fun h1=>?_) (fun h1=>?_)
  rotate_left
  ·skip
   refine aH aSs ?_
   unfold jR at h0;unfold qZ at h1;unfold aM8;have hg:=hp;obtain⟨g1,g2,g3,g4,g5⟩:=hp;simp only at g1 g2 g3 g4;clear g5;have hk:=aI x32 (by omega) (by omega);have he:=aI x33 (by omega) (by omega);simp only[nn,aP,List.cons_append,List.nil_append,aV]at h0 h1;simp only[cW]at h0 h1;have e1:¬(a:Int)<p2 x33:=(by omega);have e2:¬(b:Int)<p2 x32-1:=(by omega);have ee:=pR hg e1 e2;have hl:=fG (xs:=[x0,x1,x2,x3,x4,x5,x6,x7,x8,x9,x10,x11,x12,x13,x14,x15,x16,x17,x18,x19,x20,x21,x22,x23,x24,x25,x26,x27,x28,x29,x30,x31]) b32 b33 1;clear h0 h1 hg;simp only[aZ];refine⟨rfl,gA (by simp),?_⟩;have ec:Lc.enc (bL [x0,x1,x2,x3,x4,x5,x6,x7,x8,x9,x10,x11,x12,x13,x14,x15,x16,x17,x18,x19,x20,x21,x22,x23,x24,x25,x26,x27,x28,x29,x30,x31] x32 x33 0 acc)=G 42 [x0,x1,x2,x3,x4,x5,x6,x7,x8,x9,x10,x11,x12,x13,x14,x15,x16,x17,x18,x19,x20,x21,x22,x23,x24,x25,x26,x27,x28,x29,x30,x31,x32,x33,1]:=(by rw[ee];rfl);have el:((bL [x0,x1,x2,x3,x4,x5,x6,x7,x8,x9,x10,x11,x12,x13,x14,x15,x16,x17,x18,x19,x20,x21,x22,x23,x24,x25,x26,x27,x28,x29,x30,x31] x32 x33 0 acc).length:Int)=(((2*((1*2 ^ x32.toNat)-2))*((1*2 ^ x32.toNat)-2))+(((1*2 ^ x33.toNat)+(1*2 ^ x32.toNat))-2)):=(by rw[ee,hl];simp only[cW];push_cast;omega);simp only[aU];simp only[nn,aP,List.cons_append,List.nil_append,aV]at ec el ⊢;(repeat' refine And.intro ?_ ?_)<;>first|with_reducible exact ec|with_reducible exact el|with_reducible rfl|with_reducible trivial
  refine aG xJ (fun h2=>?_) (fun h2=>?_)
  rotate_left
  ·skip
   refine aM ?_
   unfold jR at h0;unfold qZ at h1;unfold xJ at h2;obtain⟨g1,g2,g3,g4,g5⟩:=hp;simp only at g1 g2 g3 g4;clear g5;have hk:=aI x32 (by omega) (by omega);have he:=aI x33 (by omega) (by omega);simp only[nn,aP,List.cons_append,List.nil_append,aV]at *;(try simp only[Bool.eq_false_iff,ne_eq,Bool.and_eq_true,decide_eq_true_eq]at *);(try simp only[cW]at *);omega
  refine aG oI (fun h3=>?_) (fun h3=>?_)
  rotate_left
  ·skip
   refine aM ?_
   unfold jR at h0;unfold qZ at h1;unfold xJ at h2;unfold oI at h3;clear h2;obtain⟨g1,g2,g3,g4,g5⟩:=hp;simp only at g1 g2 g3 g4;clear g5;have hk:=aI x32 (by omega) (by omega);have he:=aI x33 (by omega) (by omega);simp only[nn,aP,List.cons_append,List.nil_append,aV]at *;(try simp only[Bool.eq_false_iff,ne_eq,Bool.and_eq_true,decide_eq_true_eq]at *);(try simp only[cW]at *);omega
  refine aG kJ (fun h4=>?_) (fun h4=>?_)
  ·skip
   refine aH aTu ?_
   unfold jR at h0;unfold qZ at h1;unfold xJ at h2;unfold oI at h3;unfold kJ at h4;clear h3 h4;have hg:=hp;obtain⟨g1,g2,g3,g4,g5⟩:=hp;simp only at g1 g2 g3 g4;clear g5;have hk:=aI x32 (by omega) (by omega);have he:=aI x33 (by omega) (by omega);simp only[nn,aP,List.cons_append,List.nil_append,aV]at h0 h1 h2;(try simp only[cW]at h0 h1 h2);exact xX x0 x1 x2 x3 x4 x5 x6 x7 x8 x9 x10 x11 x12 x13 x14 x15 x16 x17 x18 x19 x20 x21 x22 x23 x24 x25 x26 x27 x28 x29 x30 x31 x32 x33 b0 b1 b2 b3 b4 b5 b6 b7 b8 b9 b10 b11 b12 b13 b14 b15 b16 b17 b18 b19 b20 b21 b22 b23 b24 b25 b26 b27 b28 b29 b30 b31 b32 b33 a b acc hg (by omega) (by omega)
  refine aM ?_
  unfold jR at h0;unfold qZ at h1;unfold xJ at h2;unfold oI at h3;unfold kJ at h4;clear h2 h3;obtain⟨g1,g2,g3,g4,g5⟩:=hp;simp only at g1 g2 g3 g4;clear g5;have hk:=aI x32 (by omega) (by omega);have he:=aI x33 (by omega) (by omega);simp only[nn,aP,List.cons_append,List.nil_append,aV]at *;(try simp only[Bool.eq_false_iff,ne_eq,Bool.and_eq_true,decide_eq_true_eq]at *);(try simp only[cW]at *);omega
 refine aG mM (fun h1=>?_) (fun h1=>?_)
 ·skip
  refine aG oG (fun h2=>?_) (fun h2=>?_)
  rotate_left
  ·skip
   refine aM ?_
   unfold jR at h0;unfold mM at h1;unfold oG at h2;obtain⟨g1,g2,g3,g4,g5⟩:=hp;simp only at g1 g2 g3 g4;clear g5;have hk:=aI x32 (by omega) (by omega);have he:=aI x33 (by omega) (by omega);simp only[nn,aP,List.cons_append,List.nil_append,aV]at *;(try simp only[Bool.eq_false_iff,ne_eq,Bool.and_eq_true,decide_eq_true_eq]at *);(try simp only[cW]at *);omega
  refine aG kJ (fun h3=>?_) (fun h3=>?_)
  ·skip
   refine aH aVK ?_
   unfold jR at h0;unfold mM at h1;unfold oG at h2;unfold kJ at h3;clear h2 h3;have hg:=hp;obtain⟨g1,g2,g3,g4,g5⟩:=hp;simp only at g1 g2 g3 g4;clear g5;have hk:=aI x32 (by omega) (by omega);have he:=aI x33 (by omega) (by omega);simp only[nn,aP,List.cons_append,List.nil_append,aV]at h0 h1;(try simp only[cW]at h0 h1);exact zE x0 x1 x2 x3 x4 x5 x6 x7 x8 x9 x10 x11 x12 x13 x14 x15 x16 x17 x18 x19 x20 x21 x22 x23 x24 x25 x26 x27 x28 x29 x30 x31 x32 x33 b0 b1 b2 b3 b4 b5 b6 b7 b8 b9 b10 b11 b12 b13 b14 b15 b16 b17 b18 b19 b20 b21 b22 b23 b24 b25 b26 b27 b28 b29 b30 b31 b32 b33 a b acc hg (by omega) (by omega)
  refine aM ?_
  unfold jR at h0;unfold mM at h1;unfold oG at h2;unfold kJ at h3;clear h2;obtain⟨g1,g2,g3,g4,g5⟩:=hp;simp only at g1 g2 g3 g4;clear g5;have hk:=aI x32 (by omega) (by omega);have he:=aI x33 (by omega) (by omega);simp only[nn,aP,List.cons_append,List.nil_append,aV]at *;(try simp only[Bool.eq_false_iff,ne_eq,Bool.and_eq_true,decide_eq_true_eq]at *);(try simp only[cW]at *);omega
 refine aG qG (fun h2=>?_) (fun h2=>?_)
 ·skip
  refine aG oG (fun h3=>?_) (fun h3=>?_)
  rotate_left
  ·skip
   refine aM ?_
   unfold jR at h0;unfold mM at h1;unfold qG at h2;unfold oG at h3;clear h2;obtain⟨g1,g2,g3,g4,g5⟩:=hp;simp only at g1 g2 g3 g4;clear g5;have hk:=aI x32 (by omega) (by omega);have he:=aI x33 (by omega) (by omega);simp only[nn,aP,List.cons_append,List.nil_append,aV]at *;(try simp only[Bool.eq_false_iff,ne_eq,Bool.and_eq_true,decide_eq_true_eq]at *);(try simp only[cW]at *);omega
  refine aG kJ (fun h4=>?_) (fun h4=>?_)
  ·skip
   refine aH aRr ?_
   unfold jR at h0;unfold mM at h1;unfold qG at h2;unfold oG at h3;unfold kJ at h4;clear h3 h4;have hg:=hp;obtain⟨g1,g2,g3,g4,g5⟩:=hp;simp only at g1 g2 g3 g4;clear g5;have hk:=aI x32 (by omega) (by omega);have he:=aI x33 (by omega) (by omega);simp only[nn,aP,List.cons_append,List.nil_append,aV]at h0 h1 h2;(try simp only[cW]at h0 h1 h2);exact zE x0 x1 x2 x3 x4 x5 x6 x7 x8 x9 x10 x11 x12 x13 x14 x15 x16 x17 x18 x19 x20 x21 x22 x23 x24 x25 x26 x27 x28 x29 x30 x31 x32 x33 b0 b1 b2 b3 b4 b5 b6 b7 b8 b9 b10 b11 b12 b13 b14 b15 b16 b17 b18 b19 b20 b21 b22 b23 b24 b25 b26 b27 b28 b29 b30 b31 b32 b33 a b acc hg (by omega) (by omega)
  refine aM ?_
  unfold jR at h0;unfold mM at h1;unfold qG at h2;unfold oG at h3;unfold kJ at h4;clear h2 h3;obtain⟨g1,g2,g3,g4,g5⟩:=hp;simp only at g1 g2 g3 g4;clear g5;have hk:=aI x32 (by omega) (by omega);have he:=aI x33 (by omega) (by omega);simp only[nn,aP,List.cons_append,List.nil_append,aV]at *;(try simp only[Bool.eq_false_iff,ne_eq,Bool.and_eq_true,decide_eq_true_eq]at *);(try simp only[cW]at *);omega
 refine aG oI (fun h3=>?_) (fun h3=>?_)
 rotate_left
 ·skip
  refine aM ?_
  unfold jR at h0;unfold mM at h1;unfold qG at h2;unfold oI at h3;clear h2;obtain⟨g1,g2,g3,g4,g5⟩:=hp;simp only at g1 g2 g3 g4;clear g5;have hk:=aI x32 (by omega) (by omega);have he:=aI x33 (by omega) (by omega);simp only[nn,aP,List.cons_append,List.nil_append,aV]at *;(try simp only[Bool.eq_false_iff,ne_eq,Bool.and_eq_true,decide_eq_true_eq]at *);(try simp only[cW]at *);omega
 refine aG kJ (fun h4=>?_) (fun h4=>?_)
 ·skip
  refine aH aRp ?_
  unfold jR at h0;unfold mM at h1;unfold qG at h2;unfold oI at h3;unfold kJ at h4;clear h3 h4;have hg:=hp;obtain⟨g1,g2,g3,g4,g5⟩:=hp;simp only at g1 g2 g3 g4;clear g5;have hk:=aI x32 (by omega) (by omega);have he:=aI x33 (by omega) (by omega);simp only[nn,aP,List.cons_append,List.nil_append,aV]at h0 h1 h2;(try simp only[cW]at h0 h1 h2);exact xX x0 x1 x2 x3 x4 x5 x6 x7 x8 x9 x10 x11 x12 x13 x14 x15 x16 x17 x18 x19 x20 x21 x22 x23 x24 x25 x26 x27 x28 x29 x30 x31 x32 x33 b0 b1 b2 b3 b4 b5 b6 b7 b8 b9 b10 b11 b12 b13 b14 b15 b16 b17 b18 b19 b20 b21 b22 b23 b24 b25 b26 b27 b28 b29 b30 b31 b32 b33 a b acc hg (by omega) (by omega)
 refine aM ?_
 unfold jR at h0;unfold mM at h1;unfold qG at h2;unfold oI at h3;unfold kJ at h4;clear h2 h3;obtain⟨g1,g2,g3,g4,g5⟩:=hp;simp only at g1 g2 g3 g4;clear g5;have hk:=aI x32 (by omega) (by omega);have he:=aI x33 (by omega) (by omega);simp only[nn,aP,List.cons_append,List.nil_append,aV]at *;(try simp only[Bool.eq_false_iff,ne_eq,Bool.and_eq_true,decide_eq_true_eq]at *);(try simp only[cW]at *);omega
set_option maxRecDepth 100000
open Go Go.RowKit Sx Wi
def aE8 (P:Program) (fs:List B):Res SV:=rA P fs
def aNE:List B:=[]
def jM:B:=(.cmp .lt (.var 34) (.op .shl (.lit 1) (.var 33)))
def aQW:List B:=aK jM++aNE
def mJ:B:=(.cmp .eq (.var 35) (.op .sub (.op .shl (.lit 1) (.var 32)) (.lit 1)))
def aUW:List B:=aK mJ++aQW
def oE:B:=(.and (.cmp .le (.lit 0) (.var 33)) (.and (.cmp .le (.var 33) (.lit 6)) (.and (.cmp .le (.lit 0) (.op .add (.var 34) (.lit 1))) (.and (.cmp .le (.op .add (.var 34) (.lit 1)) (.op .shl (.lit 1) (.var 33))) (.and (.cmp .le (.lit (-1099511627776)) (.var 24)) (.and (.cmp .le (.var 24) (.lit 1099511627776)) (.and (.cmp .le (.lit (-1099511627776)) (.var 25)) (.and (.cmp .le (.var 25) (.lit 1099511627776)) (.and (.cmp .le (.lit (-1099511627776)) (.var 26)) (.and (.cmp .le (.var 26) (.lit 1099511627776)) (.and (.cmp .le (.lit (-1099511627776)) (.var 27)) (.and (.cmp .le (.var 27) (.lit 1099511627776)) (.and (.cmp .le (.lit (-1099511627776)) (.var 28)) (.and (.cmp .le (.var 28) (.lit 1099511627776)) (.and (.cmp .le (.lit (-1099511627776)) (.var 29)) (.and (.cmp .le (.var 29) (.lit 1099511627776)) (.and (.cmp .le (.lit (-1099511627776)) (.var 30)) (.and (.cmp .le (.var 30) (.lit 1099511627776)) (.and (.cmp .le (.lit (-1099511627776)) (.var 31)) (.cmp .le (.var 31) (.lit 1099511627776)))))))))))))))))))))
def aVA:List B:=aK oE++aUW
def kI:B:=(.and (.cmp .le (.lit 0) (.var 32)) (.and (.cmp .le (.var 32) (.lit 6)) (.and (.cmp .le (.lit 0) (.op .sub (.op .shl (.lit 1) (.var 32)) (.lit 1))) (.and (.cmp .le (.op .sub (.op .shl (.lit 1) (.var 32)) (.lit 1)) (.op .shl (.lit 1) (.var 32))) (.and (.cmp .le (.lit 0) (.var 35)) (.and (.cmp .le (.var 35) (.op .shl (.lit 1) (.var 32))) zzG))))))
def aUG:List B:=aK kI++aVA
def aDz:SV:=(.agg [(.int .i64 (.op .add (.var 34) (.lit 1))),(.int .i64 (.var 34)),(.int .i64 (.var 35)),(.int .i64 (.var 35)),(.int .i64 (.op .add (.var 36) (.lit 1))),(.int .i64 (.var 36)),(.int .i64 (.app 91 (.cons (.var 37) (.cons (.app 10 (.cons (.var 24) (.cons (.var 26) (.cons (.var 28) (.cons (.var 30) (.cons (.var 34) (.cons (.var 33) .nil))))))) (.cons (.app 10 (.cons (.var 25) (.cons (.var 27) (.cons (.var 29) (.cons (.var 31) (.cons (.var 34) (.cons (.var 33) .nil))))))) (.cons (.app 10 (.cons (.var 24) (.cons (.var 26) (.cons (.var 28) (.cons (.var 30) (.cons (.op .add (.var 34) (.lit 1)) (.cons (.var 33) .nil))))))) (.cons (.app 10 (.cons (.var 25) (.cons (.var 27) (.cons (.var 29) (.cons (.var 31) (.cons (.op .add (.var 34) (.lit 1)) (.cons (.var 33) .nil))))))) (.cons (.app 11 (.cons (.var 0) (.cons (.var 2) (.cons (.var 4) (.cons (.var 6) (.cons (.var 8) (.cons (.var 10) (.cons (.var 12) (.cons (.var 14) (.cons (.var 16) (.cons (.var 18) (.cons (.var 20) (.cons (.var 22) (.cons (.var 24) (.cons (.var 26) (.cons (.var 28) (.cons (.var 30) (.cons (.op .sub (.op .shl (.lit 1) (.var 32)) (.lit 1)) (.cons (.var 35) (.cons (.var 32) .nil)))))))))))))))))))) (.cons (.app 11 (.cons (.var 1) (.cons (.var 3) (.cons (.var 5) (.cons (.var 7) (.cons (.var 9) (.cons (.var 11) (.cons (.var 13) (.cons (.var 15) (.cons (.var 17) (.cons (.var 19) (.cons (.var 21) (.cons (.var 23) (.cons (.var 25) (.cons (.var 27) (.cons (.var 29) (.cons (.var 31) (.cons (.op .sub (.op .shl (.lit 1) (.var 32)) (.lit 1)) (.cons (.var 35) (.cons (.var 32) .nil)))))))))))))))))))) (.cons (.lit 65536) (.cons (.lit 65536) (.cons (.op .mul (.op .fdiv (.lit 65536) (.op .shl (.lit 1) (.var 32))) (.op .sub (.op .shl (.lit 1) (.var 32)) (.lit 1))) (.cons (.op .mul (.op .fdiv (.lit 65536) (.op .shl (.lit 1) (.var 33))) (.var 34)) (.cons (.op .mul (.op .fdiv (.lit 65536) (.op .shl (.lit 1) (.var 33))) (.op .add (.var 34) (.lit 1))) (.cons (.op .mul (.op .fdiv (.lit 65536) (.op .shl (.lit 1) (.var 32))) (.var 35)) .nil))))))))))))))),(.int .i64 (.var 37)),(.int .i64 (.op .add (.var 36) (.lit 1))),(.int .i64 (.var 36))])
def aNi:List B:=aK (B.neg mJ)++aQW
def qF:B:=(.cmp .le (.op .mul (.op .add (.op .mul (.lit 2) (.var 34)) (.lit 1)) (.op .shl (.lit 1) (.var 32))) (.op .mul (.op .add (.op .mul (.lit 2) (.var 35)) (.lit 1)) (.op .shl (.lit 1) (.var 33))))
def aWx:List B:=aK qF++aNi
def aUq:List B:=aK oE++aWx
def aTf:List B:=aK kI++aUq
def aS0:List B:=aK (B.neg qF)++aNi
def oS:B:=(.and (.cmp .le (.lit 0) (.var 32)) (.and (.cmp .le (.var 32) (.lit 6)) (.and (.cmp .le (.lit 0) (.op .sub (.op .shl (.lit 1) (.var 32)) (.lit 1))) (.and (.cmp .le (.op .sub (.op .shl (.lit 1) (.var 32)) (.lit 1)) (.op .shl (.lit 1) (.var 32))) (.and (.cmp .le (.lit 0) (.op .add (.var 35) (.lit 1))) (.and (.cmp .le (.op .add (.var 35) (.lit 1)) (.op .shl (.lit 1) (.var 32))) zzG))))))
def aRf:List B:=aK oS++aS0
def aRd:List B:=aK kI++aRf
def aEB:SV:=(.agg [(.int .i64 (.var 34)),(.int .i64 (.var 34)),(.int .i64 (.op .add (.var 35) (.lit 1))),(.int .i64 (.var 35)),(.int .i64 (.op .add (.var 36) (.lit 1))),(.int .i64 (.var 36)),(.int .i64 (.app 91 (.cons (.var 37) (.cons (.app 10 (.cons (.var 24) (.cons (.var 26) (.cons (.var 28) (.cons (.var 30) (.cons (.var 34) (.cons (.var 33) .nil))))))) (.cons (.app 10 (.cons (.var 25) (.cons (.var 27) (.cons (.var 29) (.cons (.var 31) (.cons (.var 34) (.cons (.var 33) .nil))))))) (.cons (.app 11 (.cons (.var 0) (.cons (.var 2) (.cons (.var 4) (.cons (.var 6) (.cons (.var 8) (.cons (.var 10) (.cons (.var 12) (.cons (.var 14) (.cons (.var 16) (.cons (.var 18) (.cons (.var 20) (.cons (.var 22) (.cons (.var 24) (.cons (.var 26) (.cons (.var 28) (.cons (.var 30) (.cons (.op .sub (.op .shl (.lit 1) (.var 32)) (.lit 1)) (.cons (.op .add (.var 35) (.lit 1)) (.cons (.var 32) .nil)))))))))))))))))))) (.cons (.app 11 (.cons (.var 1) (.cons (.var 3) (.cons (.var 5) (.cons (.var 7) (.cons (.var 9) (.cons (.var 11) (.cons (.var 13) (.cons (.var 15) (.cons (.var 17) (.cons (.var 19) (.cons (.var 21) (.cons (.var 23) (.cons (.var 25) (.cons (.var 27) (.cons (.var 29) (.cons (.var 31) (.cons (.op .sub (.op .shl (.lit 1) (.var 32)) (.lit 1)) (.cons (.op .add (.var 35) (.lit 1)) (.cons (.var 32) .nil)))))))))))))))))))) (.cons (.app 11 (.cons (.var 0) (.cons (.var 2) (.cons (.var 4) (.cons (.var 6) (.cons (.var 8) (.cons (.var 10) (.cons (.var 12) (.cons (.var 14) (.cons (.var 16) (.cons (.var 18) (.cons (.var 20) (.cons (.var 22) (.cons (.var 24) (.cons (.var 26) (.cons (.var 28) (.cons (.var 30) (.cons (.op .sub (.op .shl (.lit 1) (.var 32)) (.lit 1)) (.cons (.var 35) (.cons (.var 32) .nil)))))))))))))))))))) (.cons (.app 11 (.cons (.var 1) (.cons (.var 3) (.cons (.var 5) (.cons (.var 7) (.cons (.var 9) (.cons (.var 11) (.cons (.var 13) (.cons (.var 15) (.cons (.var 17) (.cons (.var 19) (.cons (.var 21) (.cons (.var 23) (.cons (.var 25) (.cons (.var 27) (.cons (.var 29) (.cons (.var 31) (.cons (.op .sub (.op .shl (.lit 1) (.var 32)) (.lit 1)) (.cons (.var 35) (.cons (.var 32) .nil)))))))))))))))))))) (.cons (.lit 65536) (.cons (.op .mul (.op .fdiv (.lit 65536) (.op .shl (.lit 1) (.var 32))) (.op .sub (.op .shl (.lit 1) (.var 32)) (.lit 1))) (.cons (.op .mul (.op .fdiv (.lit 65536) (.op .shl (.lit 1) (.var 32))) (.op .sub (.op .shl (.lit 1) (.var 32)) (.lit 1))) (.cons (.op .mul (.op .fdiv (.lit 65536) (.op .shl (.lit 1) (.var 33))) (.var 34)) (.cons (.op .mul (.op .fdiv (.lit 65536) (.op .shl (.lit 1) (.var 32))) (.op .add (.var 35) (.lit 1))) (.cons (.op .mul (.op .fdiv (.lit 65536) (.op .shl (.lit 1) (.var 32))) (.var 35)) .nil))))))))))))))),(.int .i64 (.var 37)),(.int .i64 (.op .add (.var 36) (.lit 1))),(.int .i64 (.var 36))])
def aJC:List B:=aK (B.neg jM)++aNE
def rD:B:=(.cmp .lt (.var 35) (.op .sub (.op .shl (.lit 1) (.var 32)) (.lit 1)))
def aRy:List B:=aK rD++aJC
def xG:B:=(.and (.cmp .le (.lit 0) (.var 33)) (.and (.cmp .le (.var 33) (.lit 6)) (.and (.cmp .le (.lit 0) (.var 34)) (.and (.cmp .le (.var 34) (.op .shl (.lit 1) (.var 33))) (.and (.cmp .le (.lit (-1099511627776)) (.var 24)) (.and (.cmp .le (.var 24) (.lit 1099511627776)) (.and (.cmp .le (.lit (-1099511627776)) (.var 25)) (.and (.cmp .le (.var 25) (.lit 1099511627776)) (.and (.cmp .le (.lit (-1099511627776)) (.var 26)) (.and (.cmp .le (.var 26) (.lit 1099511627776)) (.and (.cmp .le (.lit (-1099511627776)) (.var 27)) (.and (.cmp .le (.var 27) (.lit 1099511627776)) (.and (.cmp .le (.lit (-1099511627776)) (.var 28)) (.and (.cmp .le (.var 28) (.lit 1099511627776)) (.and (.cmp .le (.lit (-1099511627776)) (.var 29)) (.and (.cmp .le (.var 29) (.lit 1099511627776)) (.and (.cmp .le (.lit (-1099511627776)) (.var 30)) (.and (.cmp .le (.var 30) (.lit 1099511627776)) (.and (.cmp .le (.lit (-1099511627776)) (.var 31)) (.cmp .le (.var 31) (.lit 1099511627776)))))))))))))))))))))
def aSH:List B:=aK xG++aRy
def aRU:List B:=aK oS++aSH
def aSS:List B:=aK kI++aRU
def aSZ:List B:=aK (B.neg rD)++aJC
def aQk:SV:=(.tuple [(.agg [(.int .i64 (.var 36)),(.int .i64 (.op .add (.op .mul (.op .mul (.lit 2) (.op .sub (.op .shl (.lit 1) (.var 32)) (.lit 2))) (.op .sub (.op .shl (.lit 1) (.var 32)) (.lit 2))) (.op .mul (.lit 2) (.op .sub (.op .add (.op .shl (.lit 1) (.var 33)) (.op .shl (.lit 1) (.var 32))) (.lit 2))))),(.int .i64 (.var 37)),(.int .i64 (.app 42 (.cons (.var 0) (.cons (.var 1) (.cons (.var 2) (.cons (.var 3) (.cons (.var 4) (.cons (.var 5) (.cons (.var 6) (.cons (.var 7) (.cons (.var 8) (.cons (.var 9) (.cons (.var 10) (.cons (.var 11) (.cons (.var 12) (.cons (.var 13) (.cons (.var 14) (.cons (.var 15) (.cons (.var 16) (.cons (.var 17) (.cons (.var 18) (.cons (.var 19) (.cons (.var 20) (.cons (.var 21) (.cons (.var 22) (.cons (.var 23) (.cons (.var 24) (.cons (.var 25) (.cons (.var 26) (.cons (.var 27) (.cons (.var 28) (.cons (.var 29) (.cons (.var 30) (.cons (.var 31) (.cons (.var 32) (.cons (.var 33) (.cons (.lit 2) .nil))))))))))))))))))))))))))))))))))))),(.int .i64 (.var 36)),(.int .i64 (.op .add (.op .mul (.op .mul (.lit 2) (.op .sub (.op .shl (.lit 1) (.var 32)) (.lit 2))) (.op .sub (.op .shl (.lit 1) (.var 32)) (.lit 2))) (.op .mul (.lit 2) (.op .sub (.op .add (.op .shl (.lit 1) (.var 33)) (.op .shl (.lit 1) (.var 32))) (.lit 2)))))]),(.bool (.lit true))])
theorem aVQ:aE8 Try.prog aUG = .ok aDz:=by kernel_rfl
theorem aR1:aE8 Try.prog aTf = .ok aDz:=by kernel_rfl
theorem aTr:aE8 Try.prog aRd = .ok aEB:=by kernel_rfl
theorem aTt:aE8 Try.prog aSS = .ok aEB:=by kernel_rfl
theorem aS9:aE8 Try.prog aSZ = .ok aQk:=by kernel_rfl
end Go.Proofs.Ytkpdiehbaiepaaa
