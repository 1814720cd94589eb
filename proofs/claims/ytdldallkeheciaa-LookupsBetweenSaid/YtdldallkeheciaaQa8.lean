/- What is proved: a table whose inputs are the numbers of its samples,as it is made. No condition but the numbers' own bounds. -/
import Derived.Test.YtdldallkeheciaaQNn
import Derived.Test.YtdldallkeheciaaQa7
import Derived.Test.YtdldallkeheciaaQa1
import Derived.Test.YtdldallkeheciaaQg4
import Derived.Test.YtdldallkeheciaaProg
set_option linter.unusedSimpArgs false
set_option linter.unusedVariables false
namespace Go.Proofs.Ytdldallkeheciaa
open Go Go.RowKit Sx Wi Lk
def iI (x0 x1 x2 x3 x4 x5 x6 x7 x8 x9 x10 x11 l0 l1 l2 l3:Int) (i:Nat):Nat→Int:=dM ([x0,x1,x2,x3,x4,x5,x6,x7,x8,x9,x10,x11,(i:Int)]++[l0,l1,l2,l3,G 74 [l1,(i:Int)]])
theorem aMA (x0 x1 x2 x3 x4 x5 x6 x7 x8 x9 x10 x11 l0 l1 l2 l3:Int) (b0:0≤x0∧x0≤255) (b1:0≤x1∧x1≤9223372036854775807) (b2:0≤x2∧x2≤17592186043904) (b3:(-9223372036854775808)≤x3∧x3≤9223372036854775807) (b4:0≤x4∧x4≤9223372036854775807) (b5:0≤x5∧x5≤9223372036854775807) (b6:0≤x6∧x6≤9223372036854775807) (b7:0≤x7∧x7≤9223372036854775807) (b8:(-2147483648)≤x8∧x8≤2147483647) (b9:0≤x9∧x9≤9223372036854775807) (b10:0≤x10∧x10≤9223372036854775807) (b11:0≤x11∧x11≤9223372036854775807) (i:Nat) (hi:(i:Int)≤x2):∀ k q,aAz[k]?=some q→q.1≤iI x0 x1 x2 x3 x4 x5 x6 x7 x8 x9 x10 x11 l0 l1 l2 l3 i k∧iI x0 x1 x2 x3 x4 x5 x6 x7 x8 x9 x10 x11 l0 l1 l2 l3 i k≤q.2:=by
 unfold iI aAz
 exact cM (xs:=[x0,x1,x2,x3,x4,x5,x6,x7,x8,x9,x10,x11,(i:Int)]) (by exact⟨b0,b1,b2,b3,b4,b5,b6,b7,b8,b9,b10,b11,by omega,trivial⟩)
set_option maxHeartbeats 4000000 in
set_option maxRecDepth 100000 in
theorem aSB (x0 x1 x2 x3 x4 x5 x6 x7 x8 x9 x10 x11 l0 l1 l2 l3:Int) (b0:0≤x0∧x0≤255) (b1:0≤x1∧x1≤9223372036854775807) (b2:0≤x2∧x2≤17592186043904) (b3:(-9223372036854775808)≤x3∧x3≤9223372036854775807) (b4:0≤x4∧x4≤9223372036854775807) (b5:0≤x5∧x5≤9223372036854775807) (b6:0≤x6∧x6≤9223372036854775807) (b7:0≤x7∧x7≤9223372036854775807) (b8:(-2147483648)≤x8∧x8≤2147483647) (b9:0≤x9∧x9≤9223372036854775807) (b10:0≤x10∧x10≤9223372036854775807) (b11:0≤x11∧x11≤9223372036854775807) (i:Nat) (hi:(i:Int)≤x2):Sx.Way (yF Try.prog) G (iI x0 x1 x2 x3 x4 x5 x6 x7 x8 x9 x10 x11 l0 l1 l2 l3 i) (fB G (iI x0 x1 x2 x3 x4 x5 x6 x7 x8 x9 x10 x11 l0 l1 l2 l3) (dM ([x0,x1,x2,x3,x4,x5,x6,x7,x8,x9,x10,x11]++[l0,l1,l2,l3])) 12 (.lit true) (fun i=>(i:Int)≤x2) (fun i=>x2.toNat-i) i) []:=by
 refine aF mU (fun h0=>?_) (fun h0=>?_)
 rotate_left
 ·skip
  refine aH aKx ?_
  unfold mU at h0;unfold aCt;simp only[nn,iI,List.cons_append,List.nil_append,Bool.or_eq_true,aR,ne_eq]at h0;have he:(i:Int)=x2:=(by omega);clear h0;simp only[fB];refine⟨rfl,(fun k hk=>by (match k,hk with|0,_=>rfl|1,_=>rfl|2,_=>rfl|3,_=>rfl|4,_=>rfl|5,_=>rfl|6,_=>rfl|7,_=>rfl|8,_=>rfl|9,_=>rfl|10,_=>rfl|11,_=>rfl)),?_⟩;simp only[aJ];simp only[nn,iI,List.cons_append,List.nil_append,Bool.or_eq_true,aR,ne_eq];rw[he];(repeat' refine And.intro ?_ ?_)<;>first|with_reducible rfl|trivial
 refine aF pF (fun h1=>?_) (fun h1=>?_)
 ·skip
  refine aH aIA ?_
  unfold mU at h0;unfold pF at h1;unfold aCR;simp only[nn,iI,List.cons_append,List.nil_append,Bool.or_eq_true,aR,ne_eq]at h0 h1;have hm:x2.toNat-(i+1)<x2.toNat-i:=(by omega);have hg:((i+1:Nat):Int)≤x2:=(by omega);have key:=aC9 l1 i (aDk l1 i h1);clear h0 h1;simp only[fB];refine⟨i+1,hg,hm,(fun k hk=>by (match k,hk with|0,_=>rfl|1,_=>rfl|2,_=>rfl|3,_=>rfl|4,_=>rfl|5,_=>rfl|6,_=>rfl|7,_=>rfl|8,_=>rfl|9,_=>rfl|10,_=>rfl|11,_=>rfl)),?_⟩;simp only[aJ];simp only[nn,iI,List.cons_append,List.nil_append,Bool.or_eq_true,aR,ne_eq];(repeat' refine And.intro ?_ ?_)<;>first|with_reducible rfl|with_reducible exact key|trivial|omega
 refine aH aJ1 ?_
 unfold mU at h0;unfold pF at h1;unfold aDo;simp only[nn,iI,List.cons_append,List.nil_append,Bool.or_eq_true,aR,ne_eq]at h0 h1;have hm:x2.toNat-(i+1)<x2.toNat-i:=(by omega);have hg:((i+1:Nat):Int)≤x2:=(by omega);have key:=aC9 l1 i rfl;clear h0 h1;simp only[fB];refine⟨i+1,hg,hm,(fun k hk=>by (match k,hk with|0,_=>rfl|1,_=>rfl|2,_=>rfl|3,_=>rfl|4,_=>rfl|5,_=>rfl|6,_=>rfl|7,_=>rfl|8,_=>rfl|9,_=>rfl|10,_=>rfl|11,_=>rfl)),?_⟩;simp only[aJ];simp only[nn,iI,List.cons_append,List.nil_append,Bool.or_eq_true,aR,ne_eq];(repeat' refine And.intro ?_ ?_)<;>first|with_reducible rfl|with_reducible exact key|trivial|omega
set_option maxHeartbeats 4000000 in
set_option maxRecDepth 100000 in
theorem aRs (x0 x1 x2 x3 x4 x5 x6 x7 x8 x9 x10 x11 l0 l1 l2 l3:Int):qD Try.prog G (bU GB) (iU (fF Try.prog 19) 0) aS9 (dM ([x0,x1,x2,x3,x4,x5,x6,x7,x8,x9,x10,x11]++[l0,l1,l2,l3])):=by
 intro hw _
 have hb:fQ aAz ([x0,x1,x2,x3,x4,x5,x6,x7,x8,x9,x10,x11]++[0]):=hw
 unfold aAz at hb
 simp only[List.cons_append,List.nil_append]at hb
 obtain⟨b0,b1,b2,b3,b4,b5,b6,b7,b8,b9,b10,b11,_⟩:=hb
 have e:kJ G (dM ([x0,x1,x2,x3,x4,x5,x6,x7,x8,x9,x10,x11]++[l0,l1,l2,l3])) aS9.es=iI x0 x1 x2 x3 x4 x5 x6 x7 x8 x9 x10 x11 l0 l1 l2 l3 0:=by
  rw[mQ]
  unfold iI
  rw[show ((0:Nat):Int)=0 from rfl,←aKY]
  rfl
 rw[e]
 exact⟨x2.toNat+1,wI (ι:=Nat) (ρ:=iI x0 x1 x2 x3 x4 x5 x6 x7 x8 x9 x10 x11 l0 l1 l2 l3) (ρT:=(dM ([x0,x1,x2,x3,x4,x5,x6,x7,x8,x9,x10,x11]++[l0,l1,l2,l3]))) (m:=fun i=>x2.toNat-i) (Good:=fun i=>(i:Int)≤x2) (run:=yF Try.prog) (fun _=>rfl) fits rfl iJ (fun i hi=>aMA x0 x1 x2 x3 x4 x5 x6 x7 x8 x9 x10 x11 l0 l1 l2 l3 b0 b1 b2 b3 b4 b5 b6 b7 b8 b9 b10 b11 i hi) (fun _ _ X hX hG=>eL hX hG) (fun _ _ X hX hG=>dD) (fun i hi=>aSB x0 x1 x2 x3 x4 x5 x6 x7 x8 x9 x10 x11 l0 l1 l2 l3 b0 b1 b2 b3 b4 b5 b6 b7 b8 b9 b10 b11 i hi) (by decide) _ 0 (by show ((0:Nat):Int)≤x2;omega) (by show x2.toNat-0<x2.toNat+1;omega)⟩
set_option maxHeartbeats 4000000 in
set_option maxRecDepth 100000 in
theorem aRN (x0 x1 x2 x3 x4 x5 x6 x7 x8 x9 x10 x11 l0 l1 l2 l3:Int) (b0:0≤x0∧x0≤255) (b1:0≤x1∧x1≤9223372036854775807) (b2:0≤x2∧x2≤17592186043904) (b3:(-9223372036854775808)≤x3∧x3≤9223372036854775807) (b4:0≤x4∧x4≤9223372036854775807) (b5:0≤x5∧x5≤9223372036854775807) (b6:0≤x6∧x6≤9223372036854775807) (b7:0≤x7∧x7≤9223372036854775807) (b8:(-2147483648)≤x8∧x8≤2147483647) (b9:0≤x9∧x9≤9223372036854775807) (b10:0≤x10∧x10≤9223372036854775807) (b11:0≤x11∧x11≤9223372036854775807):fX Try.prog G GB 19 aTd (dM ([x0,x1,x2,x3,x4,x5,x6,x7,x8,x9,x10,x11]++[l0,l1,l2,l3])):=by
 refine dB (lp:=aQZ) (run:=aJt Try.prog) (fun _=>rfl) fits (cM (xs:=[x0,x1,x2,x3,x4,x5,x6,x7,x8,x9,x10,x11]) (ls:=[l0,l1,l2,l3]) (by exact⟨b0,b1,b2,b3,b4,b5,b6,b7,b8,b9,b10,b11,trivial⟩)) iJ (fun X hX hG=>eL hX hG) (fun X hX hG fn c hf hc=>?_) rfl ?_
 ·refine uY ((congrArg bM (uP hf hc)).symm.trans aKh) ?_
  intro b hb
  simp only[List.mem_cons,List.mem_nil_iff,or_false]at hb
  subst hb
  refine yT hX hG (by kernel_rfl) ?_
  intro p hp'
  simp only[List.mem_cons,List.mem_nil_iff,or_false]at hp'
  subst hp'
  exact aRs x0 x1 x2 x3 x4 x5 x6 x7 x8 x9 x10 x11 l0 l1 l2 l3
 ·skip
  refine aH aK5 ?_
  exact⟨rfl,trivial⟩
def aC5:Ctx→List SV→aM→Res (SV × aM):=eA GB [(0,255),(0,9223372036854775807),(0,17592186043904),((-9223372036854775808),9223372036854775807),(0,9223372036854775807),(0,9223372036854775807),(0,9223372036854775807),(0,9223372036854775807),((-2147483648),2147483647),(0,9223372036854775807),(0,9223372036854775807),(0,9223372036854775807)] 4 (.lit true) aTd
theorem aTQ {X:Ctx} {ρ:Nat→Int} (hX:X.Ok ρ) (hG:X.G=G):eT Try.prog X ρ GB 19 aC5:=by
 obtain⟨XG,XI,XV,XF⟩:=X
 simp only at hG
 subst hG
 refine cU hX ?_
 intro xs ls hw hl hp
 obtain⟨x0,y0,e0,b0,h0⟩:=aY hw
 obtain⟨x1,y1,e1,b1,h1⟩:=aY h0
 obtain⟨x2,y2,e2,b2,h2⟩:=aY h1
 obtain⟨x3,y3,e3,b3,h3⟩:=aY h2
 obtain⟨x4,y4,e4,b4,h4⟩:=aY h3
 obtain⟨x5,y5,e5,b5,h5⟩:=aY h4
 obtain⟨x6,y6,e6,b6,h6⟩:=aY h5
 obtain⟨x7,y7,e7,b7,h7⟩:=aY h6
 obtain⟨x8,y8,e8,b8,h8⟩:=aY h7
 obtain⟨x9,y9,e9,b9,h9⟩:=aY h8
 obtain⟨x10,y10,e10,b10,h10⟩:=aY h9
 obtain⟨x11,y11,e11,b11,h11⟩:=aY h10
 have e12:=kG h11
 subst e12 e11 e10 e9 e8 e7 e6 e5 e4 e3 e2 e1 e0
 obtain⟨l0,z0,q0,hl0⟩:=bL hl
 obtain⟨l1,z1,q1,hl1⟩:=bL hl0
 obtain⟨l2,z2,q2,hl2⟩:=bL hl1
 obtain⟨l3,z3,q3,hl3⟩:=bL hl2
 have q4:=List.length_eq_zero_iff.1 hl3
 subst q4 q3 q2 q1 q0
 exact aRN x0 x1 x2 x3 x4 x5 x6 x7 x8 x9 x10 x11 l0 l1 l2 l3 b0 b1 b2 b3 b4 b5 b6 b7 b8 b9 b10 b11
section
variable {S B nB bits C R nR:Int} {ps:List Int}
theorem aCp:G 96 [nR,0]=G 70 (S::B::nB::bits::C::R::nR::0::ps):=by
 show Lc.enc (List.replicate nR.toNat [0])=Lc.enc (nD 1 _ nR.toNat (0:Int).toNat)
 rw[show (0:Int).toNat=0 from rfl,aDO];rfl
theorem aCE {j:Nat} (hj:(j:Int)<nR) {v:Int} (hv:v=jV S B nB bits C R nR ps j):G 92 [G 70 (S::B::nB::bits::C::R::nR::(j:Int)::ps),(j:Int),v]=G 70 (S::B::nB::bits::C::R::nR::((j+1:Nat):Int)::ps):=by
 subst hv
 show Lc.enc ((Lc.dec (Lc.enc (nD 1 (fun (i:Nat)=>[jV S B nB bits C R nR ps i]) nR.toNat (j:Int).toNat))).set (j:Int).toNat [jV S B nB bits C R nR ps j])=Lc.enc (nD 1 (fun (i:Nat)=>[jV S B nB bits C R nR ps i]) nR.toNat ((j+1:Nat):Int).toNat)
 rw[Lc.dec_enc,Int.toNat_natCast,Int.toNat_natCast]
 congr 1
 exact aHb 1 (fun (i:Nat)=>[jV S B nB bits C R nR ps i]) nR.toNat j (by omega)
theorem aNj:G 70 (S::B::nB::bits::C::R::nR::nR::ps)=Lc.enc ((List.range nR.toNat).map fun (i:Nat)=>[jV S B nB bits C R nR ps i]):=by
 show Lc.enc (nD 1 _ nR.toNat nR.toNat)=_
 rw[aHp]
theorem aBu {m:Nat} {M:Int} (h:ps.length=3*m) (hM:M=m) (j:Int):jV S B nB bits C R nR ps j=min (max (G 68 [M,bits,G 82 [C,j,0],G 82 [C,j,1],aHH S B nB bits nR ps m j]) (G 82 [R,j,0])) (G 82 [R,j,1]):=by
 subst hM
 unfold jV
 rw[show ps.length / 3=m by omega]
 rfl
end
theorem aTf {B nB a n:Int} (hn:1≤n∧n≤16):sV B nB a n≤1*2 ^ n.toNat-1:=by
 have p:(0:Int)<2 ^ n.toNat:=Int.pow_pos (by decide)
 have q1:(2:Int) ^ n.toNat≤65536:=by
  have:2 ^ n.toNat≤2 ^ 16:=Nat.pow_le_pow_right (by decide) (by omega)
  have c:((2 ^ n.toNat:Nat):Int)=2 ^ n.toNat:=by rw[Int.natCast_pow];rfl
  omega
 unfold sV
 split
 ·omega
 ·generalize aA5 B (a / 8) ((a+n+7) / 8-a / 8).toNat / 2 ^ ((0-(a+n)) % 8).toNat=w
  have r0:=Int.emod_nonneg w (show (2:Int) ^ n.toNat≠0 by omega)
  have r1:=Int.emod_lt_of_pos w p
  unfold jZ;omega
theorem aJe {S B nB bits nR j:Int} {ps:List Int} {m:Nat} (hb:1≤bits∧bits≤16) (hw:∀ i,i<m→0≤ps.getD (3*i+2) 0∧ps.getD (3*i+2) 0≤65536):
  0≤aHH S B nB bits nR ps m j∧aHH S B nB bits nR ps m j≤(1*2 ^ bits.toNat-1)*65536 ^ m:=by
 have a:=aGp (aPX S ps) (m:=m) hw (r:=fun _=>0) (s:=fun a=>sV B nB ((a*nR+j)*bits) bits) (fun a=>(aFZ _ _ _ _).1) (2 ^ m)
 have b:=aGp (aPX S ps) (m:=m) hw (r:=fun a=>sV B nB ((a*nR+j)*bits) bits) (s:=fun _=>1*2 ^ bits.toNat-1) (fun a=>aTf hb) (2 ^ m)
 rw[aCu]at a b
 rw[Int.mul_zero]at a
 rw[Int.mul_comm]at b
 exact⟨a,b⟩
set_option maxHeartbeats 4000000 in
theorem aCA (S B nB bits nR p0 p1 p2 j:Int):aHH S B nB bits nR [p0,p1,p2] 1 j=
  ((0+1*(65536-p2)*G 67 [B,nB,(p0*nR+j)*bits,bits])+1*p2*G 67 [B,nB,(p1*nR+j)*bits,bits]):=by
 unfold aHH yO
 have e1:∀ a b c d,sV a b c d=G 67 [a,b,c,d]:=fun _ _ _ _=>rfl
 have e2:∀ i:Int,r64 S i 0=G 83 [S,i,0]:=fun _=>rfl
 simp [mT,wtF,atF,aCY,aPX,Lk.bit,e1,e2]
end Go.Proofs.Ytdldallkeheciaa
namespace Go.Proofs.Ytdldallkeheciaa
namespace Sx
open Go Go.RowKit
def uB (P:Program) (X:Ctx) (gb:cZ) (ct:bA) (lp:fU) (n:Nat) (f:FuncId) (b:Code) (l:LoopS):Res SV:=
 (bP P X gb ct lp n f b l.S).bind (aMg (bU gb) l l.S)
theorem nT {ι:Type} {P:Program} {G:Nat→List Int→Int} {GI:Nat→List fK→fK} {gb:cZ} {ct:bA} {lp:fU} {n:Nat} {f:FuncId} {b:Code} {l:LoopS} {vars:List (Int × Int)} {ρ:ι→Nat→Int} {ρT:Nat→Int} {m:ι→Nat} {Good:ι→Prop} {run:List B→Res SV}
  (hrun:∀ fs,run fs=cO G GI vars fs fun X=>uB P X gb ct lp n f b l) (hm:kL P) (hfl:iY gb=true) (hg:GiOk G GI)
  (hv:∀ x,Good x→∀ i q,vars[i]?=some q→q.1≤ρ x i∧ρ x i≤q.2)
  (hct:∀ x,Good x→∀ X:Ctx,X.Ok (ρ x)→X.G=G→fL P X (ρ x) gb ct)
  (hlp:∀ x,Good x→∀ X:Ctx,X.Ok (ρ x)→X.G=G→oV P X (ρ x) (bU gb) lp b)
  (way:∀ x,Good x→Way run G (ρ x) (fB G ρ ρT l.n0 l.b Good m x) []) (hbase:l.base≤l.S.heap.length) (hrg:∀ x,x ∈ bF b→bR P f=some x):
  ∀ k x,Good x→m x<k→aEI P G (bU gb) b l (ρ x) ρT k
 |0,x,_,hk=>by omega
 |k+1,x,hx,hk=>by
  intro X hXG m0 σ0 α0 w0 hd hs hm0 mm α a w Q hr x0 hQ
  have ih:=nT hrun hm hfl hg hv hct hlp way hbase hrg k
  obtain⟨fs,s,h1,h2,h3⟩:=way x hx (fun b hb=>by cases hb)
  rw[hrun,oB]at h2
  have hX1:=nU (show Ctx.Ok ⟨G,GI,vars,fs⟩ (ρ x)from⟨hv x hx,h1,hg⟩)
  unfold uB at h2
  obtain⟨r,q1,q2⟩:=Res.bind_ok h2
  obtain⟨e,st'⟩:=r
  rw[rounds_succ]
  refine rQ hX1 (hct x hx _ hX1 rfl) hfl hm n b l.S e st' (hlp x hx _ hX1 rfl) hrg q1 α a w _ (RelSt.ctx hXG hr) ?_
  intro a1 w1 α1 r1 x1
  have x2:=x0.trans x1 (Nat.le_trans hm0 hbase)
  unfold aMg at q2
  split at q2
  ·rename_i he
   simp only at he
   subst he
   split at q2
   ·rename_i L hL
    cases q2
    simp only[fB]at h3
    obtain⟨y,hy,hmy,hlow,hag⟩:=h3
    obtain⟨α2,r2,sn⟩:=St.diffG_rel (X':=X) (G:=G) rfl hXG hlow hL hag r1
    simp only[Ex.toExit,Exit.then]
    exact ih y hy (by omega) X hXG m0 σ0 α0 w0 hd hs hm0 mm α2 a1 w1 Q r2 (sn _ _ _ _ hd hs hm0 x2) hQ
   ·cases q2
  ·rename_i he
   have fin:∀ (r:Bool) (L:List SV),e=(if r then l.e1 else l.e2)→St.diffG l.n0 l.base (bU gb) st' (if r then l.T1 else l.T2)=some L→l.b.den G ρT=r∧eC l.n0 (ρ x) ρT∧aJ G (ρ x) ρT L→Exit.then (fun a w=>Code.rounds P b Q k a w) Q e.toExit a1 w1:=by
    intro r L he1 hL ⟨g1,g2,g3⟩
    obtain⟨α2,r2,sn⟩:=St.diffG_rel (X':=X) (G:=G) rfl hXG g2 hL g3 r1
    have:=hQ r a1 w1 α2 g1 r2 (sn _ _ _ _ hd hs hm0 x2)
    rw[←he1]at this
    cases e with
    |normal=>exact absurd rfl he
    |exit id=>exact this
    |ret=>exact this
   split at q2
   ·rename_i L hL
    cases q2
    simp only[fB]at h3
    split at hL
    ·rename_i hs1
     exact fin true L (Ex.same_eq hs1) hL h3
    ·cases hL
   ·split at q2
    ·rename_i L hL
     cases q2
     simp only[fB]at h3
     split at hL
     ·rename_i hs1
      exact fin false L (Ex.same_eq hs1) hL h3
     ·cases hL
    ·cases q2
end Sx
end Go.Proofs.Ytdldallkeheciaa
namespace Go.Proofs.Ytdldallkeheciaa
open Go Go.RowKit Sx Wi Lk
def qO:List (Int × Int):=[(0,255),(0,8),(1,4),(1,1),(1,16),(0,8),(0,8),(0,70000),((-2147483648),2147483647),(0,255),(0,255),(0,65536),(0,4)]
def aSH:St:=⟨[.any,.any,(.ptr 7 0),.any,.any,.any,.any,(.slice 8 0 1 1),.any,.any,(.own 1 (.var 2) none),(.ptr 10 0),.any,.any,.any,.any,.any,.any,.any,.any,.any,.any,.any,.any,.any,.any,.any,.any,.any,.any,.any,.any,.any,.any,.any,.any,.any,.any,.any,.any,.any,.any,.any,.any,.any,.any,.any,.any,.any,.any,.any,.any,.any,.any,.any,.any,.any,.any,.any,.any,(.own 1 (.var 2) none),(.int .i64 (.var 2)),(.int .i64 (.var 12)),.any,.any,.any,.any,.any,.any,.any,.any,.any,.any,.any,.any,.any,.any,.any,.any,.any,.any,.any,.any,.any,.any,.any,.any,.any,.any,.any,.any,.any,.any,.any,.any,.any,.any,.any,.any,.any,.any,.any,.any,.any,.any,.any,.any,.any,.any,.any,.any,.any,.any,.any,.any,.any,.any],[some ([.vec [.int .i32,.int .i32] (.var 13) (.var 1) true],aG),some ([.vec [.int .i32,.int .i32] (.var 14) (.var 2) true],aG),some ([.vec [.int .i64] (.var 15) (.var 3) true],aG),some ([.vec [.int .i32,.int .i32] (.var 16) (.var 5) true],aG),some ([.vec [.int .i32,.int .i32] (.var 17) (.var 6) true],aG),some ([.vec [.int .u8] (.var 18) (.var 7) true],aG),some ([(.int .i32 (.var 8))],27),some ([.any,.any,(.own 1 (.var 2) none),(.own 2 (.var 3) none),(.int .i64 (.var 4)),.any,.any,(.own 5 (.var 7) none),.any,.any,.any,.any,.any,.any],30),some ([(.int .i64 (.var 9)),(.int .i64 (.var 10)),(.int .i64 (.var 11))],65),some ([.vec [.int .i32] (.var 19) (.var 2) true],aZ+27),some ([(.own 9 (.var 2) (some (.var 2)))],26)]⟩
def aKC:St:=⟨[.any,.any,(.ptr 7 0),.any,.any,.any,.any,.any,.any,.any,.any,(.ptr 10 0),.any,.any,.any,.any,.any,.any,.any,.any,.any,.any,.any,.any,.any,.any,.any,.any,.any,.any,.any,.any,.any,.any,.any,.any,.any,.any,.any,.any,.any,.any,.any,.any,.any,.any,.any,.any,.any,.any,.any,.any,.any,.any,.any,.any,.any,.any,.any,.any,.any,.any,.any,.any,.any,.any,.any,.any,.any,.any,.any,.any,.any,.any,.any,.any,.any,.any,.any,.any,.any,.any,.any,.any,.any,.any,.any,.any,.any,.any,.any,.any,.any,.any,.any,.any,.any,.any,.any,.any,.any,.any,.any,.any,.any,.any,.any,.any,.any,.any,.any,.any,.any,.any,.any,.any,.any],[some ([.vec [.int .i32,.int .i32] (.var 9) (.var 1) true],aG),some ([.vec [.int .i32,.int .i32] (.var 10) (.var 2) true],aG),some ([.vec [.int .i64] (.var 11) (.var 3) true],aG),some ([.vec [.int .i32,.int .i32] (.var 12) (.var 5) true],aG),some ([.vec [.int .i32,.int .i32] (.var 13) (.var 6) true],aG),some ([.vec [.int .u8] (.var 14) (.var 7) true],aG),some ([(.int .i32 (.var 8))],27),some ([.any,.any,(.own 1 (.var 2) none),(.own 2 (.var 3) none),(.int .i64 (.var 4)),.any,.any,(.own 5 (.var 7) none),.any,.any,.any,.any,.any,.any],30),none,some ([.vec [.int .i32] (.app 70 (.cons (.var 11) (.cons (.var 14) (.cons (.var 7) (.cons (.var 4) (.cons (.var 10) (.cons (.var 10) (.cons (.var 2) (.cons (.var 2) (.cons (.app 60 (.cons (.app 82 (.cons (.var 9) (.cons (.lit 0) (.cons (.lit 0) .nil)))) (.cons (.app 82 (.cons (.var 9) (.cons (.lit 0) (.cons (.lit 1) .nil)))) (.cons (.app 83 (.cons (.var 11) (.cons (.lit 0) (.cons (.lit 0) .nil)))) (.cons (.var 5) (.cons (.app 82 (.cons (.var 12) (.cons (.lit 0) (.cons (.lit 0) .nil)))) (.cons (.app 82 (.cons (.var 12) (.cons (.lit 0) (.cons (.lit 1) .nil)))) (.cons (.var 8) .nil)))))))) (.cons (.app 61 (.cons (.app 82 (.cons (.var 9) (.cons (.lit 0) (.cons (.lit 0) .nil)))) (.cons (.app 82 (.cons (.var 9) (.cons (.lit 0) (.cons (.lit 1) .nil)))) (.cons (.app 83 (.cons (.var 11) (.cons (.lit 0) (.cons (.lit 0) .nil)))) (.cons (.var 5) (.cons (.app 82 (.cons (.var 12) (.cons (.lit 0) (.cons (.lit 0) .nil)))) (.cons (.app 82 (.cons (.var 12) (.cons (.lit 0) (.cons (.lit 1) .nil)))) (.cons (.var 8) .nil)))))))) (.cons (.app 62 (.cons (.app 82 (.cons (.var 9) (.cons (.lit 0) (.cons (.lit 0) .nil)))) (.cons (.app 82 (.cons (.var 9) (.cons (.lit 0) (.cons (.lit 1) .nil)))) (.cons (.app 83 (.cons (.var 11) (.cons (.lit 0) (.cons (.lit 0) .nil)))) (.cons (.var 5) (.cons (.app 82 (.cons (.var 12) (.cons (.lit 0) (.cons (.lit 0) .nil)))) (.cons (.app 82 (.cons (.var 12) (.cons (.lit 0) (.cons (.lit 1) .nil)))) (.cons (.var 8) .nil)))))))) .nil)))))))))))) (.var 2) true],aZ+27),some ([(.own 9 (.var 2) (some (.var 2)))],26)]⟩
def aK2:LoopS:=⟨9,11,aSH,.lit true,.exit 2,aKC,.exit 2,aKC⟩
def rS (P:Program) (fs:List B):Res SV:=cO G GI qO fs fun X=>uB P X GB aAF eG 4000 11 (iU (fF P 11) 1) aK2
end Go.Proofs.Ytdldallkeheciaa
set_option maxRecDepth 100000
namespace Go.Proofs.Ytdldallkeheciaa
open Go Go.RowKit Sx Wi Lk
def aEW (P:Program) (fs:List B):Res SV:=rS P fs
def aKl:List B:=[]
def lH:B:=(.cmp .le (.lit 1) (.app 83 (.cons (.var 15) (.cons (.lit 0) (.cons (.lit 0) .nil)))))
def aJM:List B:=aI lH++aKl
def nF:B:=(.cmp .le (.app 83 (.cons (.var 15) (.cons (.lit 0) (.cons (.lit 0) .nil)))) (.lit 256))
def aC7:List B:=aI nF++aJM
def mR:B:=(.cmp .lt (.var 12) (.var 2))
def aIu:List B:=aI mR++aC7
def tM:B:=(.and (.cmp .le (.op .add (.op .add (.lit 0) (.op .mul (.op .mul (.lit 1) (.op .sub (.lit 65536) (.var 11))) (.app 67 (.cons (.var 18) (.cons (.var 7) (.cons (.op .mul (.op .add (.op .mul (.var 9) (.var 2)) (.var 12)) (.var 4)) (.cons (.var 4) .nil))))))) (.op .mul (.op .mul (.lit 1) (.var 11)) (.app 67 (.cons (.var 18) (.cons (.var 7) (.cons (.op .mul (.op .add (.op .mul (.var 10) (.var 2)) (.var 12)) (.var 4)) (.cons (.var 4) .nil))))))) (.op .mul (.op .sub (.op .shl (.lit 1) (.var 4)) (.lit 1)) (.op .shl (.lit 1) (.op .mul (.lit 16) (.var 3))))) (.cmp .le (.lit 0) (.op .add (.op .add (.lit 0) (.op .mul (.op .mul (.lit 1) (.op .sub (.lit 65536) (.var 11))) (.app 67 (.cons (.var 18) (.cons (.var 7) (.cons (.op .mul (.op .add (.op .mul (.var 9) (.var 2)) (.var 12)) (.var 4)) (.cons (.var 4) .nil))))))) (.op .mul (.op .mul (.lit 1) (.var 11)) (.app 67 (.cons (.var 18) (.cons (.var 7) (.cons (.op .mul (.op .add (.op .mul (.var 10) (.var 2)) (.var 12)) (.var 4)) (.cons (.var 4) .nil)))))))))
def aIE:List B:=aI tM++aIu
def aCs:SV:=(.agg [(.int .i64 (.op .add (.var 12) (.lit 1))),(.int .i64 (.var 12)),(.int .i64 (.var 13)),(.int .i64 (.var 13)),(.int .i64 (.var 14)),(.int .i64 (.var 14)),(.int .i64 (.var 15)),(.int .i64 (.var 15)),(.int .i64 (.var 16)),(.int .i64 (.var 16)),(.int .i64 (.var 17)),(.int .i64 (.var 17)),(.int .i64 (.var 18)),(.int .i64 (.var 18)),(.int .i64 (.var 9)),(.int .i64 (.var 9)),(.int .i64 (.var 10)),(.int .i64 (.var 10)),(.int .i64 (.var 11)),(.int .i64 (.var 11)),(.int .i64 (.app 92 (.cons (.var 19) (.cons (.var 12) (.cons (.op .min (.op .max (.app 68 (.cons (.var 3) (.cons (.var 4) (.cons (.app 82 (.cons (.var 14) (.cons (.var 12) (.cons (.lit 0) .nil)))) (.cons (.app 82 (.cons (.var 14) (.cons (.var 12) (.cons (.lit 1) .nil)))) (.cons (.op .add (.op .add (.lit 0) (.op .mul (.op .mul (.lit 1) (.op .sub (.lit 65536) (.var 11))) (.app 67 (.cons (.var 18) (.cons (.var 7) (.cons (.op .mul (.op .add (.op .mul (.var 9) (.var 2)) (.var 12)) (.var 4)) (.cons (.var 4) .nil))))))) (.op .mul (.op .mul (.lit 1) (.var 11)) (.app 67 (.cons (.var 18) (.cons (.var 7) (.cons (.op .mul (.op .add (.op .mul (.var 10) (.var 2)) (.var 12)) (.var 4)) (.cons (.var 4) .nil))))))) .nil)))))) (.app 82 (.cons (.var 14) (.cons (.var 12) (.cons (.lit 0) .nil))))) (.app 82 (.cons (.var 14) (.cons (.var 12) (.cons (.lit 1) .nil))))) .nil))))),(.int .i64 (.var 19))])
def aJA:List B:=aI (B.neg mR)++aC7
def aC8:SV:=(.tuple [(.agg [(.int .i64 (.var 13)),(.int .i64 (.var 9)),(.int .i64 (.var 14)),(.int .i64 (.var 10)),(.int .i64 (.var 15)),(.int .i64 (.var 11)),(.int .i64 (.var 16)),(.int .i64 (.var 12)),(.int .i64 (.var 17)),(.int .i64 (.var 13)),(.int .i64 (.var 18)),(.int .i64 (.var 14)),(.int .i64 (.var 19)),(.int .i64 (.app 70 (.cons (.var 11) (.cons (.var 14) (.cons (.var 7) (.cons (.var 4) (.cons (.var 10) (.cons (.var 10) (.cons (.var 2) (.cons (.var 2) (.cons (.app 60 (.cons (.app 82 (.cons (.var 9) (.cons (.lit 0) (.cons (.lit 0) .nil)))) (.cons (.app 82 (.cons (.var 9) (.cons (.lit 0) (.cons (.lit 1) .nil)))) (.cons (.app 83 (.cons (.var 11) (.cons (.lit 0) (.cons (.lit 0) .nil)))) (.cons (.var 5) (.cons (.app 82 (.cons (.var 12) (.cons (.lit 0) (.cons (.lit 0) .nil)))) (.cons (.app 82 (.cons (.var 12) (.cons (.lit 0) (.cons (.lit 1) .nil)))) (.cons (.var 8) .nil)))))))) (.cons (.app 61 (.cons (.app 82 (.cons (.var 9) (.cons (.lit 0) (.cons (.lit 0) .nil)))) (.cons (.app 82 (.cons (.var 9) (.cons (.lit 0) (.cons (.lit 1) .nil)))) (.cons (.app 83 (.cons (.var 11) (.cons (.lit 0) (.cons (.lit 0) .nil)))) (.cons (.var 5) (.cons (.app 82 (.cons (.var 12) (.cons (.lit 0) (.cons (.lit 0) .nil)))) (.cons (.app 82 (.cons (.var 12) (.cons (.lit 0) (.cons (.lit 1) .nil)))) (.cons (.var 8) .nil)))))))) (.cons (.app 62 (.cons (.app 82 (.cons (.var 9) (.cons (.lit 0) (.cons (.lit 0) .nil)))) (.cons (.app 82 (.cons (.var 9) (.cons (.lit 0) (.cons (.lit 1) .nil)))) (.cons (.app 83 (.cons (.var 11) (.cons (.lit 0) (.cons (.lit 0) .nil)))) (.cons (.var 5) (.cons (.app 82 (.cons (.var 12) (.cons (.lit 0) (.cons (.lit 0) .nil)))) (.cons (.app 82 (.cons (.var 12) (.cons (.lit 0) (.cons (.lit 1) .nil)))) (.cons (.var 8) .nil)))))))) .nil)))))))))))))]),(.bool (.lit true))])
theorem aKL:aEW Try.prog aIE = .ok aCs:=by kernel_rfl
theorem aJh:aEW Try.prog aJA = .ok aC8:=by kernel_rfl
end Go.Proofs.Ytdldallkeheciaa
namespace Go.Proofs.Ytdldallkeheciaa
open Go Go.RowKit Sx Wi Lk
def dL (x0 x1 x2 x3 x4 x5 x6 x7 x8 x9 x10 x11 l0 l1 l2 l3 l4 l5:Int) (j:Nat):Nat→Int:=dM ([x0,x1,x2,x3,x4,x5,x6,x7,x8,x9,x10,x11]++[(j:Int),l0,l1,l2,l3,l4,l5,G 70 (l2::l5::x7::x4::l1::l1::x2::(j:Int)::[x9,x10,x11])])
theorem aHB (x0 x1 x2 x3 x4 x5 x6 x7 x8 x9 x10 x11 l0 l1 l2 l3 l4 l5:Int) (b0:0≤x0∧x0≤255) (b1:0≤x1∧x1≤8) (b2:1≤x2∧x2≤4) (b3:1≤x3∧x3≤1) (b4:1≤x4∧x4≤16) (b5:0≤x5∧x5≤8) (b6:0≤x6∧x6≤8) (b7:0≤x7∧x7≤70000) (b8:(-2147483648)≤x8∧x8≤2147483647) (b9:0≤x9∧x9≤255) (b10:0≤x10∧x10≤255) (b11:0≤x11∧x11≤65536) (j:Nat) (hj:(j:Int)≤x2):∀ i q,qO[i]?=some q→q.1≤dL x0 x1 x2 x3 x4 x5 x6 x7 x8 x9 x10 x11 l0 l1 l2 l3 l4 l5 j i∧dL x0 x1 x2 x3 x4 x5 x6 x7 x8 x9 x10 x11 l0 l1 l2 l3 l4 l5 j i≤q.2:=by
 unfold dL qO
 exact cM (xs:=[x0,x1,x2,x3,x4,x5,x6,x7,x8,x9,x10,x11]++[(j:Int)]) (ls:=[l0,l1,l2,l3,l4,l5,G 70 (l2::l5::x7::x4::l1::l1::x2::(j:Int)::[x9,x10,x11])]) (by exact⟨b0,b1,b2,b3,b4,b5,b6,b7,b8,b9,b10,b11,by omega,trivial⟩)
set_option maxHeartbeats 8000000 in
set_option maxRecDepth 100000 in
theorem aIs (x0 x1 x2 x3 x4 x5 x6 x7 x8 x9 x10 x11 l0 l1 l2 l3 l4 l5:Int) (b0:0≤x0∧x0≤255) (b1:0≤x1∧x1≤8) (b2:1≤x2∧x2≤4) (b3:1≤x3∧x3≤1) (b4:1≤x4∧x4≤16) (b5:0≤x5∧x5≤8) (b6:0≤x6∧x6≤8) (b7:0≤x7∧x7≤70000) (b8:(-2147483648)≤x8∧x8≤2147483647) (b9:0≤x9∧x9≤255) (b10:0≤x10∧x10≤255) (b11:0≤x11∧x11≤65536) (s0:1≤G 83 [l2,0,0]∧G 83 [l2,0,0]≤256) (hp9:x9=G 60 [G 82 [l0,0,0],G 82 [l0,0,1],G 83 [l2,0,0],x5,G 82 [l3,0,0],G 82 [l3,0,1],x8]) (hp10:x10=G 61 [G 82 [l0,0,0],G 82 [l0,0,1],G 83 [l2,0,0],x5,G 82 [l3,0,0],G 82 [l3,0,1],x8]) (hp11:x11=G 62 [G 82 [l0,0,0],G 82 [l0,0,1],G 83 [l2,0,0],x5,G 82 [l3,0,0],G 82 [l3,0,1],x8]) (j:Nat) (hj:(j:Int)≤x2):Sx.Way (rS Try.prog) G (dL x0 x1 x2 x3 x4 x5 x6 x7 x8 x9 x10 x11 l0 l1 l2 l3 l4 l5 j) (fB G (dL x0 x1 x2 x3 x4 x5 x6 x7 x8 x9 x10 x11 l0 l1 l2 l3 l4 l5) (dM ([x0,x1,x2,x3,x4,x5,x6,x7,x8]++[l0,l1,l2,l3,l4,l5])) 9 (.lit true) (fun j=>(j:Int)≤x2) (fun j=>x2.toNat-j) j) []:=by
 have hx1:x3=1:=by omega
 subst hx1
 refine aF lH (fun h0=>?_) (fun h0=>?_)
 rotate_left
 ·skip
  refine aU ?_
  unfold lH at h0;exfalso;simp only[nn,dL,List.cons_append,List.nil_append,Bool.or_eq_true,aR,ne_eq]at h0;omega
 refine aF nF (fun h1=>?_) (fun h1=>?_)
 rotate_left
 ·skip
  refine aU ?_
  unfold lH at h0;unfold nF at h1;exfalso;clear h0;simp only[nn,dL,List.cons_append,List.nil_append,Bool.or_eq_true,aR,ne_eq]at h1;omega
 refine aF mR (fun h2=>?_) (fun h2=>?_)
 rotate_left
 ·skip
  refine aH aJh ?_
  unfold lH at h0;unfold nF at h1;unfold mR at h2;unfold aC8;simp only[nn,dL,List.cons_append,List.nil_append,Bool.or_eq_true,aR,ne_eq]at h2;have he:(j:Int)=x2:=(by omega);clear h0 h1 h2;simp only[fB];refine⟨rfl,(fun i hi=>by (match i,hi with|0,_=>rfl|1,_=>rfl|2,_=>rfl|3,_=>rfl|4,_=>rfl|5,_=>rfl|6,_=>rfl|7,_=>rfl|8,_=>rfl)),?_⟩;simp only[aJ];simp only[nn,dL,List.cons_append,List.nil_append,Bool.or_eq_true,aR,ne_eq];rw[he,hp9,hp10,hp11];(repeat' refine And.intro ?_ ?_)<;>first|with_reducible rfl|trivial|rfl
 refine aF tM (fun h3=>?_) (fun h3=>?_)
 ·skip
  refine aH aKL ?_
  unfold lH at h0;unfold nF at h1;unfold mR at h2;unfold tM at h3;unfold aCs;simp only[nn,dL,List.cons_append,List.nil_append,Bool.or_eq_true,aR,ne_eq]at h2;have hm:x2.toNat-(j+1)<x2.toNat-j:=(by omega);have hg:((j+1:Nat):Int)≤x2:=(by omega);have hlt:(j:Int)<x2:=(by omega);clear h0 h1 h2 h3;have ht:=aCA l2 l5 x7 x4 x2 x9 x10 x11 j;simp only[fB];refine⟨j+1,hg,hm,aFk (by simp),?_⟩;simp only[aJ];simp only[nn,dL,List.cons_append,List.nil_append,Bool.or_eq_true,aR,ne_eq];refine⟨by omega,?_,trivial⟩;refine aCE hlt ?_;rw[←ht];exact(aBu (m:=1) (M:=1) rfl rfl _).symm
 refine aU ?_
 unfold lH at h0;unfold nF at h1;unfold mR at h2;unfold tM at h3;exfalso;have ht:=aCA l2 l5 x7 x4 x2 x9 x10 x11 j;obtain⟨t0,t1⟩:=aJe (S:=l2) (B:=l5) (nB:=x7) (nR:=x2) (j:=j) (ps:=[x9,x10,x11]) (m:=1) b4 (fun i hi=>by (match i,hi with|0,_=>exact b11));rw[ht]at t0 t1;have e0:(65536:Int) ^ 1=1*2 ^ (16*1:Int).toNat:=rfl;rw[e0]at t1;clear h0 h1 h2;(try simp only[Bool.and_eq_false_iff]at h3);apply absurd h3;rw[Bool.not_eq_false];simp only[nn,dL,List.cons_append,List.nil_append,Bool.or_eq_true,aR,ne_eq];exact⟨t1,t0⟩
def aP1:List E:=[(.var 0),(.var 1),(.var 2),(.var 3),(.var 4),(.var 5),(.var 6),(.var 7),(.var 8),(.app 60 (.cons (.app 82 (.cons (.var 9) (.cons (.lit 0) (.cons (.lit 0) .nil)))) (.cons (.app 82 (.cons (.var 9) (.cons (.lit 0) (.cons (.lit 1) .nil)))) (.cons (.app 83 (.cons (.var 11) (.cons (.lit 0) (.cons (.lit 0) .nil)))) (.cons (.var 5) (.cons (.app 82 (.cons (.var 12) (.cons (.lit 0) (.cons (.lit 0) .nil)))) (.cons (.app 82 (.cons (.var 12) (.cons (.lit 0) (.cons (.lit 1) .nil)))) (.cons (.var 8) .nil)))))))),(.app 61 (.cons (.app 82 (.cons (.var 9) (.cons (.lit 0) (.cons (.lit 0) .nil)))) (.cons (.app 82 (.cons (.var 9) (.cons (.lit 0) (.cons (.lit 1) .nil)))) (.cons (.app 83 (.cons (.var 11) (.cons (.lit 0) (.cons (.lit 0) .nil)))) (.cons (.var 5) (.cons (.app 82 (.cons (.var 12) (.cons (.lit 0) (.cons (.lit 0) .nil)))) (.cons (.app 82 (.cons (.var 12) (.cons (.lit 0) (.cons (.lit 1) .nil)))) (.cons (.var 8) .nil)))))))),(.app 62 (.cons (.app 82 (.cons (.var 9) (.cons (.lit 0) (.cons (.lit 0) .nil)))) (.cons (.app 82 (.cons (.var 9) (.cons (.lit 0) (.cons (.lit 1) .nil)))) (.cons (.app 83 (.cons (.var 11) (.cons (.lit 0) (.cons (.lit 0) .nil)))) (.cons (.var 5) (.cons (.app 82 (.cons (.var 12) (.cons (.lit 0) (.cons (.lit 0) .nil)))) (.cons (.app 82 (.cons (.var 12) (.cons (.lit 0) (.cons (.lit 1) .nil)))) (.cons (.var 8) .nil)))))))),(.lit 0),(.var 9),(.var 10),(.var 11),(.var 12),(.var 13),(.var 14),(.app 96 (.cons (.var 2) (.cons (.lit 0) .nil)))]
def aB4:LoopU:=⟨aK2,aP1,qO,(.and (.cmp .le (.lit 1) (.app 83 (.cons (.var 15) (.cons (.lit 0) (.cons (.lit 0) .nil))))) (.cmp .le (.app 83 (.cons (.var 15) (.cons (.lit 0) (.cons (.lit 0) .nil)))) (.lit 256)))⟩
def aFc:fU:=rX 17 (lW (bU GB) [aB4]) eG
def iH:B:=(.and (.and (.and (.cmp .eq (.var 0) (.lit 1)) (.and (.cmp .lt (.lit 0) (.var 1)) (.and (.cmp .le (.var 1) (.lit 4)) (.and (B.neg (.or (.and (.cmp .lt (.lit 0) (.var 1)) (.cmp .le (.app 82 (.cons (.var 9) (.cons (.lit 0) (.cons (.lit 1) .nil)))) (.app 82 (.cons (.var 9) (.cons (.lit 0) (.cons (.lit 0) .nil)))))) (.or (.and (.cmp .lt (.lit 1) (.var 1)) (.cmp .le (.app 82 (.cons (.var 9) (.cons (.lit 1) (.cons (.lit 1) .nil)))) (.app 82 (.cons (.var 9) (.cons (.lit 1) (.cons (.lit 0) .nil)))))) (.or (.and (.cmp .lt (.lit 2) (.var 1)) (.cmp .le (.app 82 (.cons (.var 9) (.cons (.lit 2) (.cons (.lit 1) .nil)))) (.app 82 (.cons (.var 9) (.cons (.lit 2) (.cons (.lit 0) .nil)))))) (.and (.cmp .lt (.lit 3) (.var 1)) (.cmp .le (.app 82 (.cons (.var 9) (.cons (.lit 3) (.cons (.lit 1) .nil)))) (.app 82 (.cons (.var 9) (.cons (.lit 3) (.cons (.lit 0) .nil)))))))))) (.and (.cmp .lt (.lit 0) (.var 2)) (.and (.cmp .le (.var 2) (.lit 4)) (.and (B.neg (.or (.and (.cmp .lt (.lit 0) (.var 2)) (.cmp .lt (.app 82 (.cons (.var 10) (.cons (.lit 0) (.cons (.lit 1) .nil)))) (.app 82 (.cons (.var 10) (.cons (.lit 0) (.cons (.lit 0) .nil)))))) (.or (.and (.cmp .lt (.lit 1) (.var 2)) (.cmp .lt (.app 82 (.cons (.var 10) (.cons (.lit 1) (.cons (.lit 1) .nil)))) (.app 82 (.cons (.var 10) (.cons (.lit 1) (.cons (.lit 0) .nil)))))) (.or (.and (.cmp .lt (.lit 2) (.var 2)) (.cmp .lt (.app 82 (.cons (.var 10) (.cons (.lit 2) (.cons (.lit 1) .nil)))) (.app 82 (.cons (.var 10) (.cons (.lit 2) (.cons (.lit 0) .nil)))))) (.and (.cmp .lt (.lit 3) (.var 2)) (.cmp .lt (.app 82 (.cons (.var 10) (.cons (.lit 3) (.cons (.lit 1) .nil)))) (.app 82 (.cons (.var 10) (.cons (.lit 3) (.cons (.lit 0) .nil)))))))))) (.and (.cmp .eq (.var 3) (.var 1)) (.and (B.neg (.or (.and (.cmp .lt (.lit 0) (.var 3)) (.or (.cmp .lt (.app 83 (.cons (.var 11) (.cons (.lit 0) (.cons (.lit 0) .nil)))) (.lit 1)) (.cmp .lt (.lit 256) (.app 83 (.cons (.var 11) (.cons (.lit 0) (.cons (.lit 0) .nil))))))) (.or (.and (.cmp .lt (.lit 1) (.var 3)) (.or (.cmp .lt (.app 83 (.cons (.var 11) (.cons (.lit 1) (.cons (.lit 0) .nil)))) (.lit 1)) (.cmp .lt (.lit 256) (.app 83 (.cons (.var 11) (.cons (.lit 1) (.cons (.lit 0) .nil))))))) (.or (.and (.cmp .lt (.lit 2) (.var 3)) (.or (.cmp .lt (.app 83 (.cons (.var 11) (.cons (.lit 2) (.cons (.lit 0) .nil)))) (.lit 1)) (.cmp .lt (.lit 256) (.app 83 (.cons (.var 11) (.cons (.lit 2) (.cons (.lit 0) .nil))))))) (.or (.and (.cmp .lt (.lit 3) (.var 3)) (.or (.cmp .lt (.app 83 (.cons (.var 11) (.cons (.lit 3) (.cons (.lit 0) .nil)))) (.lit 1)) (.cmp .lt (.lit 256) (.app 83 (.cons (.var 11) (.cons (.lit 3) (.cons (.lit 0) .nil))))))) (.or (.and (.cmp .lt (.lit 4) (.var 3)) (.or (.cmp .lt (.app 83 (.cons (.var 11) (.cons (.lit 4) (.cons (.lit 0) .nil)))) (.lit 1)) (.cmp .lt (.lit 256) (.app 83 (.cons (.var 11) (.cons (.lit 4) (.cons (.lit 0) .nil))))))) (.or (.and (.cmp .lt (.lit 5) (.var 3)) (.or (.cmp .lt (.app 83 (.cons (.var 11) (.cons (.lit 5) (.cons (.lit 0) .nil)))) (.lit 1)) (.cmp .lt (.lit 256) (.app 83 (.cons (.var 11) (.cons (.lit 5) (.cons (.lit 0) .nil))))))) (.or (.and (.cmp .lt (.lit 6) (.var 3)) (.or (.cmp .lt (.app 83 (.cons (.var 11) (.cons (.lit 6) (.cons (.lit 0) .nil)))) (.lit 1)) (.cmp .lt (.lit 256) (.app 83 (.cons (.var 11) (.cons (.lit 6) (.cons (.lit 0) .nil))))))) (.and (.cmp .lt (.lit 7) (.var 3)) (.or (.cmp .lt (.app 83 (.cons (.var 11) (.cons (.lit 7) (.cons (.lit 0) .nil)))) (.lit 1)) (.cmp .lt (.lit 256) (.app 83 (.cons (.var 11) (.cons (.lit 7) (.cons (.lit 0) .nil))))))))))))))) (.and (.or (.cmp .eq (.var 4) (.lit 1)) (.or (.cmp .eq (.var 4) (.lit 2)) (.or (.cmp .eq (.var 4) (.lit 4)) (.or (.cmp .eq (.var 4) (.lit 8)) (.or (.cmp .eq (.var 4) (.lit 12)) (.cmp .eq (.var 4) (.lit 16))))))) (.and (.or (.cmp .eq (.var 5) (.lit 0)) (.cmp .eq (.var 5) (.var 1))) (.or (.cmp .eq (.var 6) (.lit 0)) (.cmp .eq (.var 6) (.var 2)))))))))))))) (.and (.cmp .le (.app 63 (.cons (.var 2) (.cons (.var 4) (.cons (.var 11) (.cons (.var 3) .nil))))) (.lit 524288)) (.cmp .le (.app 63 (.cons (.var 2) (.cons (.var 4) (.cons (.var 11) (.cons (.var 3) .nil))))) (.op .mul (.lit 8) (.var 7))))) (.cmp .eq (.var 6) (.lit 0)))
def aEH:FunS:=⟨[(.agg [(.int .u8 (.var 0)),(.own 0 (.var 1) none),(.own 1 (.var 2) none),(.own 2 (.var 3) none),(.int .i64 (.var 4)),(.own 3 (.var 5) none),(.own 4 (.var 6) none),(.own 5 (.var 7) none),.any,.any,.any,.any,.any,.any]),(.slice 6 0 1 1)],[some ([.vec [.int .i32,.int .i32] (.var 9) (.var 1) true],aG),some ([.vec [.int .i32,.int .i32] (.var 10) (.var 2) true],aG),some ([.vec [.int .i64] (.var 11) (.var 3) true],aG),some ([.vec [.int .i32,.int .i32] (.var 12) (.var 5) true],aG),some ([.vec [.int .i32,.int .i32] (.var 13) (.var 6) true],aG),some ([.vec [.int .u8] (.var 14) (.var 7) true],aG),some ([(.int .i32 (.var 8))],27)],.lit true,(.tuple [(.own 7 (.var 2) (some (.var 2))),(.int .i64 (.lit 0))]),[some ([.vec [.int .i32,.int .i32] (.var 9) (.var 1) true],aG),some ([.vec [.int .i32,.int .i32] (.var 10) (.var 2) true],aG),some ([.vec [.int .i64] (.var 11) (.var 3) true],aG),some ([.vec [.int .i32,.int .i32] (.var 12) (.var 5) true],aG),some ([.vec [.int .i32,.int .i32] (.var 13) (.var 6) true],aG),some ([.vec [.int .u8] (.var 14) (.var 7) true],aG),some ([(.int .i32 (.var 8))],27),some ([.vec [.int .i32] (.app 70 (.cons (.var 11) (.cons (.var 14) (.cons (.var 7) (.cons (.var 4) (.cons (.var 10) (.cons (.var 10) (.cons (.var 2) (.cons (.var 2) (.cons (.app 60 (.cons (.app 82 (.cons (.var 9) (.cons (.lit 0) (.cons (.lit 0) .nil)))) (.cons (.app 82 (.cons (.var 9) (.cons (.lit 0) (.cons (.lit 1) .nil)))) (.cons (.app 83 (.cons (.var 11) (.cons (.lit 0) (.cons (.lit 0) .nil)))) (.cons (.var 5) (.cons (.app 82 (.cons (.var 12) (.cons (.lit 0) (.cons (.lit 0) .nil)))) (.cons (.app 82 (.cons (.var 12) (.cons (.lit 0) (.cons (.lit 1) .nil)))) (.cons (.var 8) .nil)))))))) (.cons (.app 61 (.cons (.app 82 (.cons (.var 9) (.cons (.lit 0) (.cons (.lit 0) .nil)))) (.cons (.app 82 (.cons (.var 9) (.cons (.lit 0) (.cons (.lit 1) .nil)))) (.cons (.app 83 (.cons (.var 11) (.cons (.lit 0) (.cons (.lit 0) .nil)))) (.cons (.var 5) (.cons (.app 82 (.cons (.var 12) (.cons (.lit 0) (.cons (.lit 0) .nil)))) (.cons (.app 82 (.cons (.var 12) (.cons (.lit 0) (.cons (.lit 1) .nil)))) (.cons (.var 8) .nil)))))))) (.cons (.app 62 (.cons (.app 82 (.cons (.var 9) (.cons (.lit 0) (.cons (.lit 0) .nil)))) (.cons (.app 82 (.cons (.var 9) (.cons (.lit 0) (.cons (.lit 1) .nil)))) (.cons (.app 83 (.cons (.var 11) (.cons (.lit 0) (.cons (.lit 0) .nil)))) (.cons (.var 5) (.cons (.app 82 (.cons (.var 12) (.cons (.lit 0) (.cons (.lit 0) .nil)))) (.cons (.app 82 (.cons (.var 12) (.cons (.lit 0) (.cons (.lit 1) .nil)))) (.cons (.var 8) .nil)))))))) .nil)))))))))))) (.var 2) true],aZ+27)],(.tuple [(.own 7 (.var 2) (some (.var 2))),(.int .i64 (.lit 0))]),[some ([.vec [.int .i32,.int .i32] (.var 9) (.var 1) true],aG),some ([.vec [.int .i32,.int .i32] (.var 10) (.var 2) true],aG),some ([.vec [.int .i64] (.var 11) (.var 3) true],aG),some ([.vec [.int .i32,.int .i32] (.var 12) (.var 5) true],aG),some ([.vec [.int .i32,.int .i32] (.var 13) (.var 6) true],aG),some ([.vec [.int .u8] (.var 14) (.var 7) true],aG),some ([(.int .i32 (.var 8))],27),some ([.vec [.int .i32] (.app 70 (.cons (.var 11) (.cons (.var 14) (.cons (.var 7) (.cons (.var 4) (.cons (.var 10) (.cons (.var 10) (.cons (.var 2) (.cons (.var 2) (.cons (.app 60 (.cons (.app 82 (.cons (.var 9) (.cons (.lit 0) (.cons (.lit 0) .nil)))) (.cons (.app 82 (.cons (.var 9) (.cons (.lit 0) (.cons (.lit 1) .nil)))) (.cons (.app 83 (.cons (.var 11) (.cons (.lit 0) (.cons (.lit 0) .nil)))) (.cons (.var 5) (.cons (.app 82 (.cons (.var 12) (.cons (.lit 0) (.cons (.lit 0) .nil)))) (.cons (.app 82 (.cons (.var 12) (.cons (.lit 0) (.cons (.lit 1) .nil)))) (.cons (.var 8) .nil)))))))) (.cons (.app 61 (.cons (.app 82 (.cons (.var 9) (.cons (.lit 0) (.cons (.lit 0) .nil)))) (.cons (.app 82 (.cons (.var 9) (.cons (.lit 0) (.cons (.lit 1) .nil)))) (.cons (.app 83 (.cons (.var 11) (.cons (.lit 0) (.cons (.lit 0) .nil)))) (.cons (.var 5) (.cons (.app 82 (.cons (.var 12) (.cons (.lit 0) (.cons (.lit 0) .nil)))) (.cons (.app 82 (.cons (.var 12) (.cons (.lit 0) (.cons (.lit 1) .nil)))) (.cons (.var 8) .nil)))))))) (.cons (.app 62 (.cons (.app 82 (.cons (.var 9) (.cons (.lit 0) (.cons (.lit 0) .nil)))) (.cons (.app 82 (.cons (.var 9) (.cons (.lit 0) (.cons (.lit 1) .nil)))) (.cons (.app 83 (.cons (.var 11) (.cons (.lit 0) (.cons (.lit 0) .nil)))) (.cons (.var 5) (.cons (.app 82 (.cons (.var 12) (.cons (.lit 0) (.cons (.lit 0) .nil)))) (.cons (.app 82 (.cons (.var 12) (.cons (.lit 0) (.cons (.lit 1) .nil)))) (.cons (.var 8) .nil)))))))) .nil)))))))))))) (.var 2) true],aZ+27)]⟩
def aCT (P:Program) (fs:List B):Res SV:=cO G GI [(0,255),(1,1),(0,8),(1,1),((-9223372036854775808),9223372036854775807),(0,8),(0,8),(0,70000),((-2147483648),2147483647)] fs fun X=>gQ P X GB aAF aFc 4000 11 aEH
theorem aEj:bM (fF Try.prog 11)=[iU (fF Try.prog 11) 0,iU (fF Try.prog 11) 1]:=by kernel_rfl
theorem aDi:bF (iU (fF Try.prog 11) 1)=(bR Try.prog 11).toList:=by kernel_rfl
end Go.Proofs.Ytdldallkeheciaa
set_option maxRecDepth 100000
namespace Go.Proofs.Ytdldallkeheciaa
open Go Go.RowKit Sx Wi Lk
def aOY (P:Program) (fs:List B):Res SV:=aCT P fs
def aKS:List B:=[]
def gA:B:=(.and (.and (.cmp .eq (.var 0) (.lit 1)) (.and (.cmp .lt (.lit 0) (.var 1)) (.and (.cmp .le (.var 1) (.lit 4)) (.and (B.neg (.or (.and (.cmp .lt (.lit 0) (.var 1)) (.cmp .le (.app 82 (.cons (.var 9) (.cons (.lit 0) (.cons (.lit 1) .nil)))) (.app 82 (.cons (.var 9) (.cons (.lit 0) (.cons (.lit 0) .nil)))))) (.or (.and (.cmp .lt (.lit 1) (.var 1)) (.cmp .le (.app 82 (.cons (.var 9) (.cons (.lit 1) (.cons (.lit 1) .nil)))) (.app 82 (.cons (.var 9) (.cons (.lit 1) (.cons (.lit 0) .nil)))))) (.or (.and (.cmp .lt (.lit 2) (.var 1)) (.cmp .le (.app 82 (.cons (.var 9) (.cons (.lit 2) (.cons (.lit 1) .nil)))) (.app 82 (.cons (.var 9) (.cons (.lit 2) (.cons (.lit 0) .nil)))))) (.and (.cmp .lt (.lit 3) (.var 1)) (.cmp .le (.app 82 (.cons (.var 9) (.cons (.lit 3) (.cons (.lit 1) .nil)))) (.app 82 (.cons (.var 9) (.cons (.lit 3) (.cons (.lit 0) .nil)))))))))) (.and (.cmp .lt (.lit 0) (.var 2)) (.and (.cmp .le (.var 2) (.lit 4)) (.and (B.neg (.or (.and (.cmp .lt (.lit 0) (.var 2)) (.cmp .lt (.app 82 (.cons (.var 10) (.cons (.lit 0) (.cons (.lit 1) .nil)))) (.app 82 (.cons (.var 10) (.cons (.lit 0) (.cons (.lit 0) .nil)))))) (.or (.and (.cmp .lt (.lit 1) (.var 2)) (.cmp .lt (.app 82 (.cons (.var 10) (.cons (.lit 1) (.cons (.lit 1) .nil)))) (.app 82 (.cons (.var 10) (.cons (.lit 1) (.cons (.lit 0) .nil)))))) (.or (.and (.cmp .lt (.lit 2) (.var 2)) (.cmp .lt (.app 82 (.cons (.var 10) (.cons (.lit 2) (.cons (.lit 1) .nil)))) (.app 82 (.cons (.var 10) (.cons (.lit 2) (.cons (.lit 0) .nil)))))) (.and (.cmp .lt (.lit 3) (.var 2)) (.cmp .lt (.app 82 (.cons (.var 10) (.cons (.lit 3) (.cons (.lit 1) .nil)))) (.app 82 (.cons (.var 10) (.cons (.lit 3) (.cons (.lit 0) .nil)))))))))) (.and (.cmp .eq (.var 3) (.var 1)) (.and (B.neg (.or (.and (.cmp .lt (.lit 0) (.var 3)) (.or (.cmp .lt (.app 83 (.cons (.var 11) (.cons (.lit 0) (.cons (.lit 0) .nil)))) (.lit 1)) (.cmp .lt (.lit 256) (.app 83 (.cons (.var 11) (.cons (.lit 0) (.cons (.lit 0) .nil))))))) (.or (.and (.cmp .lt (.lit 1) (.var 3)) (.or (.cmp .lt (.app 83 (.cons (.var 11) (.cons (.lit 1) (.cons (.lit 0) .nil)))) (.lit 1)) (.cmp .lt (.lit 256) (.app 83 (.cons (.var 11) (.cons (.lit 1) (.cons (.lit 0) .nil))))))) (.or (.and (.cmp .lt (.lit 2) (.var 3)) (.or (.cmp .lt (.app 83 (.cons (.var 11) (.cons (.lit 2) (.cons (.lit 0) .nil)))) (.lit 1)) (.cmp .lt (.lit 256) (.app 83 (.cons (.var 11) (.cons (.lit 2) (.cons (.lit 0) .nil))))))) (.or (.and (.cmp .lt (.lit 3) (.var 3)) (.or (.cmp .lt (.app 83 (.cons (.var 11) (.cons (.lit 3) (.cons (.lit 0) .nil)))) (.lit 1)) (.cmp .lt (.lit 256) (.app 83 (.cons (.var 11) (.cons (.lit 3) (.cons (.lit 0) .nil))))))) (.or (.and (.cmp .lt (.lit 4) (.var 3)) (.or (.cmp .lt (.app 83 (.cons (.var 11) (.cons (.lit 4) (.cons (.lit 0) .nil)))) (.lit 1)) (.cmp .lt (.lit 256) (.app 83 (.cons (.var 11) (.cons (.lit 4) (.cons (.lit 0) .nil))))))) (.or (.and (.cmp .lt (.lit 5) (.var 3)) (.or (.cmp .lt (.app 83 (.cons (.var 11) (.cons (.lit 5) (.cons (.lit 0) .nil)))) (.lit 1)) (.cmp .lt (.lit 256) (.app 83 (.cons (.var 11) (.cons (.lit 5) (.cons (.lit 0) .nil))))))) (.or (.and (.cmp .lt (.lit 6) (.var 3)) (.or (.cmp .lt (.app 83 (.cons (.var 11) (.cons (.lit 6) (.cons (.lit 0) .nil)))) (.lit 1)) (.cmp .lt (.lit 256) (.app 83 (.cons (.var 11) (.cons (.lit 6) (.cons (.lit 0) .nil))))))) (.and (.cmp .lt (.lit 7) (.var 3)) (.or (.cmp .lt (.app 83 (.cons (.var 11) (.cons (.lit 7) (.cons (.lit 0) .nil)))) (.lit 1)) (.cmp .lt (.lit 256) (.app 83 (.cons (.var 11) (.cons (.lit 7) (.cons (.lit 0) .nil))))))))))))))) (.and (.or (.cmp .eq (.var 4) (.lit 1)) (.or (.cmp .eq (.var 4) (.lit 2)) (.or (.cmp .eq (.var 4) (.lit 4)) (.or (.cmp .eq (.var 4) (.lit 8)) (.or (.cmp .eq (.var 4) (.lit 12)) (.cmp .eq (.var 4) (.lit 16))))))) (.and (.or (.cmp .eq (.var 5) (.lit 0)) (.cmp .eq (.var 5) (.var 1))) (.or (.cmp .eq (.var 6) (.lit 0)) (.cmp .eq (.var 6) (.var 2)))))))))))))) (.and (.cmp .le (.app 63 (.cons (.var 2) (.cons (.var 4) (.cons (.var 11) (.cons (.var 3) .nil))))) (.lit 524288)) (.cmp .le (.app 63 (.cons (.var 2) (.cons (.var 4) (.cons (.var 11) (.cons (.var 3) .nil))))) (.op .mul (.lit 8) (.var 7)))))
def aIL:List B:=aI gA++aKS
def hJ:B:=(.cmp .le (.lit 1) (.app 83 (.cons (.var 11) (.cons (.lit 0) (.cons (.lit 0) .nil)))))
def aH2:List B:=aI hJ++aIL
def jO:B:=(.cmp .le (.app 83 (.cons (.var 11) (.cons (.lit 0) (.cons (.lit 0) .nil)))) (.lit 256))
def aI2:List B:=aI jO++aH2
def kV:B:=(.cmp .le (.lit 1) (.var 4))
def aJY:List B:=aI kV++aI2
def mO:B:=(.cmp .le (.var 4) (.lit 16))
def aKa:List B:=aI mO++aJY
def pD:B:=(.cmp .eq (.var 6) (.lit 0))
def aIa:List B:=aI pD++aKa
def tZ:B:=(.and (.cmp .lt (.lit 0) (.var 1)) (.and (.cmp .lt (.lit 0) (.var 3)) (.and (.or (.cmp .eq (.var 5) (.lit 0)) (.cmp .lt (.lit 0) (.var 5))) (.and (.cmp .le (.lit 1) (.app 83 (.cons (.var 11) (.cons (.lit 0) (.cons (.lit 0) .nil))))) (.and (.cmp .le (.app 83 (.cons (.var 11) (.cons (.lit 0) (.cons (.lit 0) .nil)))) (.lit 256)) (.cmp .lt (.app 82 (.cons (.var 9) (.cons (.lit 0) (.cons (.lit 0) .nil)))) (.app 82 (.cons (.var 9) (.cons (.lit 0) (.cons (.lit 1) .nil))))))))))
def aIH:List B:=aI tZ++aIa
theorem aIr:aOY Try.prog aIH = .ok (.tuple [(.agg []),(.bool (.lit true))]):=by kernel_rfl
end Go.Proofs.Ytdldallkeheciaa
namespace Go.Proofs.Ytdldallkeheciaa
open Go Go.RowKit Sx Wi Lk
set_option maxHeartbeats 4000000 in
set_option maxRecDepth 100000 in
theorem aH5 (x0 x1 x2 x3 x4 x5 x6 x7 x8 l0 l1 l2 l3 l4 l5:Int):qD Try.prog G (bU GB) (iU (fF Try.prog 11) 1) aB4 (dM ([x0,x1,x2,x3,x4,x5,x6,x7,x8]++[l0,l1,l2,l3,l4,l5])):=by
 intro hw hpre
 have hb:fQ qO ([x0,x1,x2,x3,x4,x5,x6,x7,x8,(G 60 [G 82 [l0,0,0],G 82 [l0,0,1],G 83 [l2,0,0],x5,G 82 [l3,0,0],G 82 [l3,0,1],x8]),(G 61 [G 82 [l0,0,0],G 82 [l0,0,1],G 83 [l2,0,0],x5,G 82 [l3,0,0],G 82 [l3,0,1],x8]),(G 62 [G 82 [l0,0,0],G 82 [l0,0,1],G 83 [l2,0,0],x5,G 82 [l3,0,0],G 82 [l3,0,1],x8])]++[0]):=hw
 unfold qO at hb
 simp only[List.cons_append,List.nil_append]at hb
 obtain⟨b0,b1,b2,b3,b4,b5,b6,b7,b8,b9,b10,b11,_⟩:=hb
 have e:kJ G (dM ([x0,x1,x2,x3,x4,x5,x6,x7,x8]++[l0,l1,l2,l3,l4,l5])) aB4.es=dL x0 x1 x2 x3 x4 x5 x6 x7 x8 (G 60 [G 82 [l0,0,0],G 82 [l0,0,1],G 83 [l2,0,0],x5,G 82 [l3,0,0],G 82 [l3,0,1],x8]) (G 61 [G 82 [l0,0,0],G 82 [l0,0,1],G 83 [l2,0,0],x5,G 82 [l3,0,0],G 82 [l3,0,1],x8]) (G 62 [G 82 [l0,0,0],G 82 [l0,0,1],G 83 [l2,0,0],x5,G 82 [l3,0,0],G 82 [l3,0,1],x8]) l0 l1 l2 l3 l4 l5 0:=by
  rw[mQ]
  unfold dL
  rw[show ((0:Nat):Int)=0 from rfl,←aCp]
  rfl
 rw[e]at hpre ⊢
 unfold aB4 at hpre
 simp only[nn,dL,List.cons_append,List.nil_append,Bool.or_eq_true,aR,ne_eq]at hpre
 obtain⟨sa0,sb0⟩:=hpre
 exact⟨x2.toNat+1,nT (ι:=Nat) (ρ:=dL x0 x1 x2 x3 x4 x5 x6 x7 x8 (G 60 [G 82 [l0,0,0],G 82 [l0,0,1],G 83 [l2,0,0],x5,G 82 [l3,0,0],G 82 [l3,0,1],x8]) (G 61 [G 82 [l0,0,0],G 82 [l0,0,1],G 83 [l2,0,0],x5,G 82 [l3,0,0],G 82 [l3,0,1],x8]) (G 62 [G 82 [l0,0,0],G 82 [l0,0,1],G 83 [l2,0,0],x5,G 82 [l3,0,0],G 82 [l3,0,1],x8]) l0 l1 l2 l3 l4 l5) (ρT:=(dM ([x0,x1,x2,x3,x4,x5,x6,x7,x8]++[l0,l1,l2,l3,l4,l5]))) (m:=fun j=>x2.toNat-j) (Good:=fun j=>(j:Int)≤x2) (run:=rS Try.prog) (f:=11) (fun _=>rfl) fits rfl iJ (fun j hj=>aHB x0 x1 x2 x3 x4 x5 x6 x7 x8 (G 60 [G 82 [l0,0,0],G 82 [l0,0,1],G 83 [l2,0,0],x5,G 82 [l3,0,0],G 82 [l3,0,1],x8]) (G 61 [G 82 [l0,0,0],G 82 [l0,0,1],G 83 [l2,0,0],x5,G 82 [l3,0,0],G 82 [l3,0,1],x8]) (G 62 [G 82 [l0,0,0],G 82 [l0,0,1],G 83 [l2,0,0],x5,G 82 [l3,0,0],G 82 [l3,0,1],x8]) l0 l1 l2 l3 l4 l5 b0 b1 b2 b3 b4 b5 b6 b7 b8 b9 b10 b11 j hj) (fun _ _ X hX hG=>pU hX hG) (fun _ _ X hX hG=>dD) (fun j hj=>aIs x0 x1 x2 x3 x4 x5 x6 x7 x8 (G 60 [G 82 [l0,0,0],G 82 [l0,0,1],G 83 [l2,0,0],x5,G 82 [l3,0,0],G 82 [l3,0,1],x8]) (G 61 [G 82 [l0,0,0],G 82 [l0,0,1],G 83 [l2,0,0],x5,G 82 [l3,0,0],G 82 [l3,0,1],x8]) (G 62 [G 82 [l0,0,0],G 82 [l0,0,1],G 83 [l2,0,0],x5,G 82 [l3,0,0],G 82 [l3,0,1],x8]) l0 l1 l2 l3 l4 l5 b0 b1 b2 b3 b4 b5 b6 b7 b8 b9 b10 b11 ⟨sa0,sb0⟩ rfl rfl rfl j hj) (by decide) (fun x hx=>by rw[aDi]at hx;exact Option.mem_toList.1 hx) _ 0 (by show ((0:Nat):Int)≤x2;omega) (by show x2.toNat-0<x2.toNat+1;omega)⟩
set_option maxHeartbeats 8000000 in
set_option maxRecDepth 100000 in
theorem aLf (x0 x1 x2 x3 x4 x5 x6 x7 x8 l0 l1 l2 l3 l4 l5:Int) (b0:0≤x0∧x0≤255) (b1:1≤x1∧x1≤1) (b2:0≤x2∧x2≤8) (b3:1≤x3∧x3≤1) (b4:(-9223372036854775808)≤x4∧x4≤9223372036854775807) (b5:0≤x5∧x5≤8) (b6:0≤x6∧x6≤8) (b7:0≤x7∧x7≤70000) (b8:(-2147483648)≤x8∧x8≤2147483647) (hp:iH.den G (dM ([x0,x1,x2,x3,x4,x5,x6,x7,x8]++[l0,l1,l2,l3,l4,l5]))=true):fX Try.prog G GB 11 aEH (dM ([x0,x1,x2,x3,x4,x5,x6,x7,x8]++[l0,l1,l2,l3,l4,l5])):=by
 refine dB (lp:=aFc) (run:=aCT Try.prog) (fun _=>rfl) fits (cM (xs:=[x0,x1,x2,x3,x4,x5,x6,x7,x8]) (ls:=[l0,l1,l2,l3,l4,l5]) (by exact⟨b0,b1,b2,b3,b4,b5,b6,b7,b8,trivial⟩)) iJ (fun X hX hG=>pU hX hG) (fun X hX hG fn c hf hc=>?_) rfl ?_
 ·refine uY ((congrArg bM (uP hf hc)).symm.trans aEj) ?_
  intro b hb
  simp only[List.mem_cons,List.mem_nil_iff,or_false]at hb
  rcases hb with rfl|rfl
  ·exact aAw (j:=8) (by kernel_rfl) (by decide) aCL
  ·refine yT hX hG (by kernel_rfl) ?_
   intro p hp'
   simp only[List.mem_cons,List.mem_nil_iff,or_false]at hp'
   subst hp'
   exact aH5 x0 x1 x2 x3 x4 x5 x6 x7 x8 l0 l1 l2 l3 l4 l5
 ·skip
  refine aF gA (fun h0=>?_) (fun h0=>?_)
  rotate_left
  ·skip
   refine aU ?_
   unfold gA at h0;exfalso;unfold iH at hp;rw[aT,aT,Bool.and_eq_true,Bool.and_eq_true]at hp;rw[aT,hp.1.1,hp.1.2]at h0;cases h0
  refine aF hJ (fun h1=>?_) (fun h1=>?_)
  rotate_left
  ·skip
   refine aU ?_
   unfold gA at h0;unfold hJ at h1;exfalso;unfold iH at hp;rw[aT,aT,Bool.and_eq_true,Bool.and_eq_true]at hp;have tb:=dT (x0:=x0) (x1:=x1) (x2:=x2) (x3:=x3) (x4:=x4) (x5:=x5) (x6:=x6) (x7:=x7) (D:=l0) (R:=l1) (S:=l2) (ls:=[]) hp.1.1;obtain⟨t0,t1,tD,t2,tR,t3,tS,t4,t5,t6⟩:=tb;have u0:=tS 0 (by omega);have u0:1≤G 83 [l2,0,0]∧G 83 [l2,0,0]≤256:=u0;have v0:=tD 0 (by omega);have v0:G 82 [l0,0,0]<G 82 [l0,0,1]:=v0;have hq:=hp.2;clear hp tD tR tS h0;simp only[nn,List.cons_append,List.nil_append,Bool.or_eq_true,aR,ne_eq]at h1 hq;(try simp only[Bool.and_eq_false_iff,Bool.or_eq_false_iff,decide_eq_false_iff_not]at h1);generalize G 83 [l2,0,0]=c0 at *;generalize G 82 [l0,0,0]=c1 at *;generalize G 82 [l0,0,1]=c2 at *;omega
  refine aF jO (fun h2=>?_) (fun h2=>?_)
  rotate_left
  ·skip
   refine aU ?_
   unfold gA at h0;unfold hJ at h1;unfold jO at h2;exfalso;unfold iH at hp;rw[aT,aT,Bool.and_eq_true,Bool.and_eq_true]at hp;have tb:=dT (x0:=x0) (x1:=x1) (x2:=x2) (x3:=x3) (x4:=x4) (x5:=x5) (x6:=x6) (x7:=x7) (D:=l0) (R:=l1) (S:=l2) (ls:=[]) hp.1.1;obtain⟨t0,t1,tD,t2,tR,t3,tS,t4,t5,t6⟩:=tb;have u0:=tS 0 (by omega);have u0:1≤G 83 [l2,0,0]∧G 83 [l2,0,0]≤256:=u0;have v0:=tD 0 (by omega);have v0:G 82 [l0,0,0]<G 82 [l0,0,1]:=v0;have hq:=hp.2;clear hp tD tR tS h0 h1;simp only[nn,List.cons_append,List.nil_append,Bool.or_eq_true,aR,ne_eq]at h2 hq;(try simp only[Bool.and_eq_false_iff,Bool.or_eq_false_iff,decide_eq_false_iff_not]at h2);generalize G 83 [l2,0,0]=c0 at *;generalize G 82 [l0,0,0]=c1 at *;generalize G 82 [l0,0,1]=c2 at *;omega
  refine aF kV (fun h3=>?_) (fun h3=>?_)
  rotate_left
  ·skip
   refine aU ?_
   unfold gA at h0;unfold hJ at h1;unfold jO at h2;unfold kV at h3;exfalso;unfold iH at hp;rw[aT,aT,Bool.and_eq_true,Bool.and_eq_true]at hp;have tb:=dT (x0:=x0) (x1:=x1) (x2:=x2) (x3:=x3) (x4:=x4) (x5:=x5) (x6:=x6) (x7:=x7) (D:=l0) (R:=l1) (S:=l2) (ls:=[]) hp.1.1;obtain⟨t0,t1,tD,t2,tR,t3,tS,t4,t5,t6⟩:=tb;have u0:=tS 0 (by omega);have u0:1≤G 83 [l2,0,0]∧G 83 [l2,0,0]≤256:=u0;have v0:=tD 0 (by omega);have v0:G 82 [l0,0,0]<G 82 [l0,0,1]:=v0;have hq:=hp.2;clear hp tD tR tS h0 h1 h2;simp only[nn,List.cons_append,List.nil_append,Bool.or_eq_true,aR,ne_eq]at h3 hq;(try simp only[Bool.and_eq_false_iff,Bool.or_eq_false_iff,decide_eq_false_iff_not]at h3);generalize G 83 [l2,0,0]=c0 at *;generalize G 82 [l0,0,0]=c1 at *;generalize G 82 [l0,0,1]=c2 at *;omega
  refine aF mO (fun h4=>?_) (fun h4=>?_)
  rotate_left
  ·skip
   refine aU ?_
   unfold gA at h0;unfold hJ at h1;unfold jO at h2;unfold kV at h3;unfold mO at h4;exfalso;unfold iH at hp;rw[aT,aT,Bool.and_eq_true,Bool.and_eq_true]at hp;have tb:=dT (x0:=x0) (x1:=x1) (x2:=x2) (x3:=x3) (x4:=x4) (x5:=x5) (x6:=x6) (x7:=x7) (D:=l0) (R:=l1) (S:=l2) (ls:=[]) hp.1.1;obtain⟨t0,t1,tD,t2,tR,t3,tS,t4,t5,t6⟩:=tb;have u0:=tS 0 (by omega);have u0:1≤G 83 [l2,0,0]∧G 83 [l2,0,0]≤256:=u0;have v0:=tD 0 (by omega);have v0:G 82 [l0,0,0]<G 82 [l0,0,1]:=v0;have hq:=hp.2;clear hp tD tR tS h0 h1 h2 h3;simp only[nn,List.cons_append,List.nil_append,Bool.or_eq_true,aR,ne_eq]at h4 hq;(try simp only[Bool.and_eq_false_iff,Bool.or_eq_false_iff,decide_eq_false_iff_not]at h4);generalize G 83 [l2,0,0]=c0 at *;generalize G 82 [l0,0,0]=c1 at *;generalize G 82 [l0,0,1]=c2 at *;omega
  refine aF pD (fun h5=>?_) (fun h5=>?_)
  rotate_left
  ·skip
   refine aU ?_
   unfold gA at h0;unfold hJ at h1;unfold jO at h2;unfold kV at h3;unfold mO at h4;unfold pD at h5;exfalso;unfold iH at hp;rw[aT,aT,Bool.and_eq_true,Bool.and_eq_true]at hp;have tb:=dT (x0:=x0) (x1:=x1) (x2:=x2) (x3:=x3) (x4:=x4) (x5:=x5) (x6:=x6) (x7:=x7) (D:=l0) (R:=l1) (S:=l2) (ls:=[]) hp.1.1;obtain⟨t0,t1,tD,t2,tR,t3,tS,t4,t5,t6⟩:=tb;have u0:=tS 0 (by omega);have u0:1≤G 83 [l2,0,0]∧G 83 [l2,0,0]≤256:=u0;have v0:=tD 0 (by omega);have v0:G 82 [l0,0,0]<G 82 [l0,0,1]:=v0;have hq:=hp.2;clear hp tD tR tS h0 h1 h2 h3 h4;simp only[nn,List.cons_append,List.nil_append,Bool.or_eq_true,aR,ne_eq]at h5 hq;(try simp only[Bool.and_eq_false_iff,Bool.or_eq_false_iff,decide_eq_false_iff_not]at h5);generalize G 83 [l2,0,0]=c0 at *;generalize G 82 [l0,0,0]=c1 at *;generalize G 82 [l0,0,1]=c2 at *;omega
  refine aF tZ (fun h6=>?_) (fun h6=>?_)
  ·skip
   refine aH aIr ?_
   unfold gA at h0;unfold hJ at h1;unfold jO at h2;unfold kV at h3;unfold mO at h4;unfold pD at h5;unfold tZ at h6;exact⟨rfl,trivial⟩
  refine aU ?_
  unfold gA at h0;unfold hJ at h1;unfold jO at h2;unfold kV at h3;unfold mO at h4;unfold pD at h5;unfold tZ at h6;exfalso;unfold iH at hp;rw[aT,aT,Bool.and_eq_true,Bool.and_eq_true]at hp;have tb:=dT (x0:=x0) (x1:=x1) (x2:=x2) (x3:=x3) (x4:=x4) (x5:=x5) (x6:=x6) (x7:=x7) (D:=l0) (R:=l1) (S:=l2) (ls:=[]) hp.1.1;obtain⟨t0,t1,tD,t2,tR,t3,tS,t4,t5,t6⟩:=tb;have u0:=tS 0 (by omega);have u0:1≤G 83 [l2,0,0]∧G 83 [l2,0,0]≤256:=u0;have v0:=tD 0 (by omega);have v0:G 82 [l0,0,0]<G 82 [l0,0,1]:=v0;have hq:=hp.2;clear hp tD tR tS h0 h1 h2 h3 h4 h5;simp only[nn,List.cons_append,List.nil_append,Bool.or_eq_true,aR,ne_eq]at h6 hq;(try simp only[Bool.and_eq_false_iff,Bool.or_eq_false_iff,decide_eq_false_iff_not]at h6);generalize G 83 [l2,0,0]=c0 at *;generalize G 82 [l0,0,0]=c1 at *;generalize G 82 [l0,0,1]=c2 at *;omega
def qP:List (Int × Int):=[(0,255),(0,8),(1,4),(1,1),(1,16),(0,8),(0,8),(0,70000),((-2147483648),2147483647),(0,255),(0,255),(0,65536),(0,4)]
def aSG:St:=⟨[.any,.any,(.ptr 7 0),.any,.any,.any,.any,(.slice 8 0 1 1),.any,.any,(.own 4 (.var 6) none),(.ptr 10 0),.any,.any,.any,.any,.any,.any,.any,.any,.any,.any,.any,.any,.any,.any,.any,.any,.any,.any,.any,.any,.any,.any,.any,.any,.any,.any,.any,.any,.any,.any,.any,.any,.any,.any,.any,.any,.any,.any,.any,.any,.any,.any,.any,.any,.any,.any,.any,.any,(.own 1 (.var 2) none),(.int .i64 (.var 2)),(.int .i64 (.var 12)),.any,.any,.any,.any,.any,.any,.any,.any,.any,.any,.any,.any,.any,.any,.any,.any,.any,.any,.any,.any,.any,.any,.any,.any,.any,.any,.any,.any,.any,.any,.any,.any,.any,.any,.any,.any,.any,.any,.any,.any,.any,.any,.any,.any,.any,.any,.any,.any,.any,.any,.any,.any,.any,.any],[some ([.vec [.int .i32,.int .i32] (.var 13) (.var 1) true],aG),some ([.vec [.int .i32,.int .i32] (.var 14) (.var 2) true],aG),some ([.vec [.int .i64] (.var 15) (.var 3) true],aG),some ([.vec [.int .i32,.int .i32] (.var 16) (.var 5) true],aG),some ([.vec [.int .i32,.int .i32] (.var 17) (.var 6) true],aG),some ([.vec [.int .u8] (.var 18) (.var 7) true],aG),some ([(.int .i32 (.var 8))],27),some ([.any,.any,(.own 1 (.var 2) none),(.own 2 (.var 3) none),(.int .i64 (.var 4)),.any,.any,(.own 5 (.var 7) none),.any,.any,.any,.any,.any,.any],30),some ([(.int .i64 (.var 9)),(.int .i64 (.var 10)),(.int .i64 (.var 11))],65),some ([.vec [.int .i32] (.var 19) (.var 2) true],aZ+27),some ([(.own 9 (.var 2) (some (.var 2)))],26)]⟩
def aJ0:St:=⟨[.any,.any,(.ptr 7 0),.any,.any,.any,.any,.any,.any,.any,.any,(.ptr 10 0),.any,.any,.any,.any,.any,.any,.any,.any,.any,.any,.any,.any,.any,.any,.any,.any,.any,.any,.any,.any,.any,.any,.any,.any,.any,.any,.any,.any,.any,.any,.any,.any,.any,.any,.any,.any,.any,.any,.any,.any,.any,.any,.any,.any,.any,.any,.any,.any,.any,.any,.any,.any,.any,.any,.any,.any,.any,.any,.any,.any,.any,.any,.any,.any,.any,.any,.any,.any,.any,.any,.any,.any,.any,.any,.any,.any,.any,.any,.any,.any,.any,.any,.any,.any,.any,.any,.any,.any,.any,.any,.any,.any,.any,.any,.any,.any,.any,.any,.any,.any,.any,.any,.any,.any,.any],[some ([.vec [.int .i32,.int .i32] (.var 9) (.var 1) true],aG),some ([.vec [.int .i32,.int .i32] (.var 10) (.var 2) true],aG),some ([.vec [.int .i64] (.var 11) (.var 3) true],aG),some ([.vec [.int .i32,.int .i32] (.var 12) (.var 5) true],aG),some ([.vec [.int .i32,.int .i32] (.var 13) (.var 6) true],aG),some ([.vec [.int .u8] (.var 14) (.var 7) true],aG),some ([(.int .i32 (.var 8))],27),some ([.any,.any,(.own 1 (.var 2) none),(.own 2 (.var 3) none),(.int .i64 (.var 4)),.any,.any,(.own 5 (.var 7) none),.any,.any,.any,.any,.any,.any],30),none,some ([.vec [.int .i32] (.app 70 (.cons (.var 11) (.cons (.var 14) (.cons (.var 7) (.cons (.var 4) (.cons (.var 13) (.cons (.var 10) (.cons (.var 2) (.cons (.var 2) (.cons (.app 60 (.cons (.app 82 (.cons (.var 9) (.cons (.lit 0) (.cons (.lit 0) .nil)))) (.cons (.app 82 (.cons (.var 9) (.cons (.lit 0) (.cons (.lit 1) .nil)))) (.cons (.app 83 (.cons (.var 11) (.cons (.lit 0) (.cons (.lit 0) .nil)))) (.cons (.var 5) (.cons (.app 82 (.cons (.var 12) (.cons (.lit 0) (.cons (.lit 0) .nil)))) (.cons (.app 82 (.cons (.var 12) (.cons (.lit 0) (.cons (.lit 1) .nil)))) (.cons (.var 8) .nil)))))))) (.cons (.app 61 (.cons (.app 82 (.cons (.var 9) (.cons (.lit 0) (.cons (.lit 0) .nil)))) (.cons (.app 82 (.cons (.var 9) (.cons (.lit 0) (.cons (.lit 1) .nil)))) (.cons (.app 83 (.cons (.var 11) (.cons (.lit 0) (.cons (.lit 0) .nil)))) (.cons (.var 5) (.cons (.app 82 (.cons (.var 12) (.cons (.lit 0) (.cons (.lit 0) .nil)))) (.cons (.app 82 (.cons (.var 12) (.cons (.lit 0) (.cons (.lit 1) .nil)))) (.cons (.var 8) .nil)))))))) (.cons (.app 62 (.cons (.app 82 (.cons (.var 9) (.cons (.lit 0) (.cons (.lit 0) .nil)))) (.cons (.app 82 (.cons (.var 9) (.cons (.lit 0) (.cons (.lit 1) .nil)))) (.cons (.app 83 (.cons (.var 11) (.cons (.lit 0) (.cons (.lit 0) .nil)))) (.cons (.var 5) (.cons (.app 82 (.cons (.var 12) (.cons (.lit 0) (.cons (.lit 0) .nil)))) (.cons (.app 82 (.cons (.var 12) (.cons (.lit 0) (.cons (.lit 1) .nil)))) (.cons (.var 8) .nil)))))))) .nil)))))))))))) (.var 2) true],aZ+27),some ([(.own 9 (.var 2) (some (.var 2)))],26)]⟩
def aHU:LoopS:=⟨9,11,aSG,.lit true,.exit 2,aJ0,.exit 2,aJ0⟩
def sJ (P:Program) (fs:List B):Res SV:=cO G GI qP fs fun X=>uB P X GB aAF eG 4000 11 (iU (fF P 11) 1) aHU
end Go.Proofs.Ytdldallkeheciaa
