/- What is proved: what wides.Add,Sub and Int return: sums and differences that are numbers of 128 bits. -/
import Derived.Test.YthiehfhphgkaeaaQa1
import Derived.Lib.ItoaNum
import Derived.Shelf.Bits.Mul64
import Derived.Test.YthiehfhphgkaeaaQg3
import Derived.Test.YthiehfhphgkaeaaProg
set_option linter.unusedSimpArgs false
set_option linter.unusedVariables false
namespace Go.Proofs.Ythiehfhphgkaeaa
open Go.RowKit Wi
set_option maxHeartbeats 800000 in
theorem aLw (a b:Int) (ha:kC a) (hb:kC b) (hr:kC (a+b)) (w:World):Calls Try.prog 34 #[.agg #[.int .i64 (hi (a)),.int .u64 (lo (a))],.agg #[.int .i64 (hi (b)),.int .u64 (lo (b))]] w fun e w'=>e = .returned (.tuple #[.agg #[.int .i64 (hi (a+b)),.int .u64 (lo (a+b))],.int .i64 0])∧Below w.heap.size w w':=by
 obtain⟨l1,l2⟩:=qN a
 obtain⟨l3,l4⟩:=qN b
 have q1:=pB a
 have q2:=pB b
 have q3:=pB (a+b)
 have i0:IntKind.i64.wrap ((lo a+lo b) / 18446744073709551616)=(lo a+lo b) / 18446744073709551616:=IntWalk.i64_in _ (by omega)
 have i1:wrap64 (wrap64 (hi a+hi b)+(lo a+lo b) / 18446744073709551616)=hi (a+b):=by unfold wrap64;unfold kC at hr;unfold hi lo;omega
 have i2:(lo a+lo b) % 18446744073709551616=lo (a+b):=by unfold lo;omega
 clear hr ha hb
 rcases Int.lt_or_le a 0 with ga|ga<;>rcases Int.lt_or_le b 0 with gb|gb
 ·have t1:hi a<0:=q1.2 ga
  have t2:hi b<0:=q2.2 gb
  have t3:hi (a+b)<0:=q3.2 (by omega)
  clear q1 q2 q3 ga gb
  go_enter Try.func34,Try.ntmps34
  go_wp2_with (simp only[uG (lo a) (lo b) l1 l3])
  exact bodyPost_ret (v := .tuple #[.agg #[.int .i64 (hi (a+b)),.int .u64 (lo (a+b))],.int .i64 0]) (by simp [results,Try.results34,go_sem, *]) rfl ⟨rfl,by repeat (with_reducible first|exact aD _|refine bV _ (by omega) ?_|apply aA|apply aC)⟩
 ·have t1:hi a<0:=q1.2 ga
  have t2:¬hi b<0:=fun h=>by have:=q2.1 h;omega
  clear q1 q2 q3 ga gb
  go_enter Try.func34,Try.ntmps34
  go_wp2_with (simp only[uG (lo a) (lo b) l1 l3])
  exact bodyPost_ret (v := .tuple #[.agg #[.int .i64 (hi (a+b)),.int .u64 (lo (a+b))],.int .i64 0]) (by simp [results,Try.results34,go_sem, *]) rfl ⟨rfl,by repeat (with_reducible first|exact aD _|refine bV _ (by omega) ?_|apply aA|apply aC)⟩
 ·have t1:¬hi a<0:=fun h=>by have:=q1.1 h;omega
  have t2:hi b<0:=q2.2 gb
  clear q1 q2 q3 ga gb
  go_enter Try.func34,Try.ntmps34
  go_wp2_with (simp only[uG (lo a) (lo b) l1 l3])
  exact bodyPost_ret (v := .tuple #[.agg #[.int .i64 (hi (a+b)),.int .u64 (lo (a+b))],.int .i64 0]) (by simp [results,Try.results34,go_sem, *]) rfl ⟨rfl,by repeat (with_reducible first|exact aD _|refine bV _ (by omega) ?_|apply aA|apply aC)⟩
 ·have t1:¬hi a<0:=fun h=>by have:=q1.1 h;omega
  have t2:¬hi b<0:=fun h=>by have:=q2.1 h;omega
  have t3:¬hi (a+b)<0:=fun h=>by have:=q3.1 h;omega
  clear q1 q2 q3 ga gb
  go_enter Try.func34,Try.ntmps34
  go_wp2_with (simp only[uG (lo a) (lo b) l1 l3])
  exact bodyPost_ret (v := .tuple #[.agg #[.int .i64 (hi (a+b)),.int .u64 (lo (a+b))],.int .i64 0]) (by simp [results,Try.results34,go_sem, *]) rfl ⟨rfl,by repeat (with_reducible first|exact aD _|refine bV _ (by omega) ?_|apply aA|apply aC)⟩
set_option maxHeartbeats 800000 in
theorem aMg (a b:Int) (ha:kC a) (hb:kC b) (hr:kC (a-b)) (w:World):Calls Try.prog 38 #[.agg #[.int .i64 (hi (a)),.int .u64 (lo (a))],.agg #[.int .i64 (hi (b)),.int .u64 (lo (b))]] w fun e w'=>e = .returned (.tuple #[.agg #[.int .i64 (hi (a-b)),.int .u64 (lo (a-b))],.int .i64 0])∧Below w.heap.size w w':=by
 obtain⟨l1,l2⟩:=qN a
 obtain⟨l3,l4⟩:=qN b
 have q1:=pB a
 have q2:=pB b
 have q3:=pB (a-b)
 have b0:0≤bor (lo a) (lo b)∧bor (lo a) (lo b)≤1:=by unfold bor;split<;>omega
 have i0:IntKind.i64.wrap (bor (lo a) (lo b))=bor (lo a) (lo b):=IntWalk.i64_in _ (by omega)
 have i1:wrap64 (wrap64 (hi a-hi b)-bor (lo a) (lo b))=hi (a-b):=by unfold wrap64 bor;unfold kC at hr;unfold hi lo;split<;>omega
 have i2:(lo a-lo b) % 18446744073709551616=lo (a-b):=by unfold lo;omega
 clear b0
 clear hr ha hb
 rcases Int.lt_or_le a 0 with ga|ga<;>rcases Int.lt_or_le b 0 with gb|gb
 ·have t1:hi a<0:=q1.2 ga
  have t2:hi b<0:=q2.2 gb
  clear q1 q2 q3 ga gb
  go_enter Try.func38,Try.ntmps38
  go_wp2_with (simp only[uI (lo a) (lo b) l1 l3 l4])
  exact bodyPost_ret (v := .tuple #[.agg #[.int .i64 (hi (a-b)),.int .u64 (lo (a-b))],.int .i64 0]) (by simp [results,Try.results38,go_sem, *]) rfl ⟨rfl,by repeat (with_reducible first|exact aD _|refine bV _ (by omega) ?_|apply aA|apply aC)⟩
 ·have t1:hi a<0:=q1.2 ga
  have t2:¬hi b<0:=fun h=>by have:=q2.1 h;omega
  have t3:hi (a-b)<0:=q3.2 (by omega)
  clear q1 q2 q3 ga gb
  go_enter Try.func38,Try.ntmps38
  go_wp2_with (simp only[uI (lo a) (lo b) l1 l3 l4])
  exact bodyPost_ret (v := .tuple #[.agg #[.int .i64 (hi (a-b)),.int .u64 (lo (a-b))],.int .i64 0]) (by simp [results,Try.results38,go_sem, *]) rfl ⟨rfl,by repeat (with_reducible first|exact aD _|refine bV _ (by omega) ?_|apply aA|apply aC)⟩
 ·have t1:¬hi a<0:=fun h=>by have:=q1.1 h;omega
  have t2:hi b<0:=q2.2 gb
  have t3:¬hi (a-b)<0:=fun h=>by have:=q3.1 h;omega
  clear q1 q2 q3 ga gb
  go_enter Try.func38,Try.ntmps38
  go_wp2_with (simp only[uI (lo a) (lo b) l1 l3 l4])
  exact bodyPost_ret (v := .tuple #[.agg #[.int .i64 (hi (a-b)),.int .u64 (lo (a-b))],.int .i64 0]) (by simp [results,Try.results38,go_sem, *]) rfl ⟨rfl,by repeat (with_reducible first|exact aD _|refine bV _ (by omega) ?_|apply aA|apply aC)⟩
 ·have t1:¬hi a<0:=fun h=>by have:=q1.1 h;omega
  have t2:¬hi b<0:=fun h=>by have:=q2.1 h;omega
  clear q1 q2 q3 ga gb
  go_enter Try.func38,Try.ntmps38
  go_wp2_with (simp only[uI (lo a) (lo b) l1 l3 l4])
  exact bodyPost_ret (v := .tuple #[.agg #[.int .i64 (hi (a-b)),.int .u64 (lo (a-b))],.int .i64 0]) (by simp [results,Try.results38,go_sem, *]) rfl ⟨rfl,by repeat (with_reducible first|exact aD _|refine bV _ (by omega) ?_|apply aA|apply aC)⟩
theorem aL3 (n:Int) (h:I64 n) (w:World):Calls Try.prog 32 #[.agg #[.int .i64 (hi (n)),.int .u64 (lo (n))]] w fun e w'=>e = .returned (.tuple #[.int .i64 n,.bool true])∧Below w.heap.size w w':=by
 have i1:IntKind.i64.wrap (lo n)=n:=by rw[IntKind.wrap_i64];unfold I64 at h;unfold lo;omega
 go_enter Try.func32,Try.ntmps32
 go_wp2
 obtain⟨w0,hw0⟩:∃ x:World,x=(w.alloc (.cells #[.int .i64 (hi (n)),.int .u64 (lo (n))] 71)):=⟨_,rfl⟩
 have k0:w0.cell? ⟨w.heap.size,0,none⟩=some (.int .i64 (hi (n))):=by rw[hw0];repeat (first|(refine aJ ?_ rfl;(simp;done))|refine aK ?_)
 have k1:w0.cell? ⟨w.heap.size,1,none⟩=some (.int .u64 (lo (n))):=by rw[hw0];repeat (first|(refine aJ ?_ rfl;(simp;done))|refine aK ?_)
 have z0:w.heap.size<w0.heap.size:=World.block_lt_of_cell? _ _ k0
 have hB:Below w.heap.size w w0:=by rw[hw0];repeat (with_reducible first|exact aD _|apply aA)
 rw[←hw0]
 clear hw0
 go_region_held3 (fun w'=>Below w.heap.size w w'∧(w.heap.size<w'.heap.size)∧w'.cell? ⟨w.heap.size,0,none⟩=some (.int .i64 (hi (n)))∧w'.cell? ⟨w.heap.size,1,none⟩=some (.int .u64 (lo (n))))
  ((exact⟨by repeat (with_reducible first|exact aD _|exact hB|(simp only[*];done)|apply aC|apply aA|apply hx),by first|omega|(simp only[World.size_alloc,World.size_drew];omega)|(simp;omega),by first|(simp;done)|(simp [*];done)|(simp [*,World.cell?_setCell_far];done)|(simp (disch:=omega) [World.cell?_alloc_past, *];done)⟩))
  (first
   |(go_at_call 31;refine(xT _ h _).mono ?_;rintro e w1 ⟨rfl,hb⟩;have hx:=fun h=>aE hb h (w:=w);obtain⟨hc,hf⟩:=aMD hb;have hz:=hb.size))
 go_wp2
 exact bodyPost_ret (v := .tuple #[.int .i64 n,.bool true]) (by simp [results,Try.results32,go_sem]) rfl ⟨rfl,by simp [*]⟩
theorem aNA (n:Int) (h:¬I64 n) (hb:kC n) (w:World):Calls Try.prog 32 #[.agg #[.int .i64 (hi (n)),.int .u64 (lo (n))]] w fun e w'=>e = .returned (.tuple #[.int .i64 0,.bool false])∧Below w.heap.size w w':=by
 obtain⟨m,hm⟩:∃ m,m=IntKind.i64.wrap (lo n):=⟨_,rfl⟩
 have i1:IntKind.i64.wrap (lo n)=m:=hm.symm
 have hI:I64 m:=by rw[hm,IntKind.wrap_i64];unfold I64 lo;omega
 have i2:lo m=lo n:=by rw[hm,IntKind.wrap_i64];unfold lo;omega
 have i3:¬hi n=hi m:=by
  intro e
  have:=aMB n
  have:=aMB m
  have:n=m:=by omega
  rw[this]at h;exact h hI
 clear hm h hb
 go_enter Try.func32,Try.ntmps32
 go_wp2
 obtain⟨w0,hw0⟩:∃ x:World,x=(w.alloc (.cells #[.int .i64 (hi (n)),.int .u64 (lo (n))] 71)):=⟨_,rfl⟩
 have k0:w0.cell? ⟨w.heap.size,0,none⟩=some (.int .i64 (hi (n))):=by rw[hw0];repeat (first|(refine aJ ?_ rfl;(simp;done))|refine aK ?_)
 have k1:w0.cell? ⟨w.heap.size,1,none⟩=some (.int .u64 (lo (n))):=by rw[hw0];repeat (first|(refine aJ ?_ rfl;(simp;done))|refine aK ?_)
 have z0:w.heap.size<w0.heap.size:=World.block_lt_of_cell? _ _ k0
 have hB:Below w.heap.size w w0:=by rw[hw0];repeat (with_reducible first|exact aD _|apply aA)
 rw[←hw0]
 clear hw0
 go_region_held3 (fun w'=>Below w.heap.size w w'∧(w.heap.size<w'.heap.size)∧w'.cell? ⟨w.heap.size,0,none⟩=some (.int .i64 (hi (n)))∧w'.cell? ⟨w.heap.size,1,none⟩=some (.int .u64 (lo (n))))
  ((exact⟨by repeat (with_reducible first|exact aD _|exact hB|(simp only[*];done)|apply aC|apply aA|apply hx),by first|omega|(simp only[World.size_alloc,World.size_drew];omega)|(simp;omega),by first|(simp;done)|(simp [*];done)|(simp [*,World.cell?_setCell_far];done)|(simp (disch:=omega) [World.cell?_alloc_past, *];done)⟩))
  (first
   |(go_at_call 31;refine(xT _ hI _).mono ?_;rintro e w1 ⟨rfl,hb⟩;have hx:=fun h=>aE hb h (w:=w);obtain⟨hc,hf⟩:=aMD hb;have hz:=hb.size))
 go_wp2
 exact bodyPost_ret (v := .tuple #[.int .i64 0,.bool false]) (by simp [results,Try.results32,go_sem]) rfl ⟨rfl,by simp [*]⟩
end Go.Proofs.Ythiehfhphgkaeaa
namespace Go.Proofs.Ythiehfhphgkaeaa
open Go.RowKit Wi Dv
theorem zA (lo y:Int) (hl:gB lo) (hy:0<y∧y<18446744073709551616) (w:World):Calls Try.prog 41 #[.int .u64 0,.int .u64 lo,.int .u64 y] w fun e w'=>e = .returned (.tuple #[.int .u64 (lo / y),.int .u64 (lo % y)])∧Below w.heap.size w w':=by
 obtain⟨l1,l2⟩:=hl
 obtain⟨y1,y2⟩:=hy
 have n0:¬y=0:=by omega
 have n1:¬y≤0:=by omega
 have d0:0≤lo / y:=Int.ediv_nonneg l1 (by omega)
 have d1:lo / y≤lo:=Int.ediv_le_self _ l1
 have d2:=Int.emod_nonneg lo n0
 have d3:=Int.emod_lt_of_pos lo y1
 have td:lo.tdiv y=lo / y:=Int.tdiv_eq_ediv_of_nonneg l1
 have tm:lo.tmod y=lo % y:=Int.tmod_eq_emod_of_nonneg l1
 go_enter Try.func41,Try.ntmps41
 go_wp2
 go_quiet (fail)
 go_wp2
 exact bodyPost_ret (v := .tuple #[.int .u64 (lo / y),.int .u64 (lo % y)]) (by simp [results,Try.results41,go_sem]) rfl ⟨rfl,below_drewN (aD _) _⟩
theorem aLc (y:Int) (y1:0<y) (y2:y<18446744073709551616):∃ s:Nat,(64-(Lib.bitLen y.toNat:Int))=s∧s≤64∧9223372036854775808≤y*2 ^ s∧y*2 ^ s<18446744073709551616:=by
 obtain⟨n,rfl⟩:=Int.eq_ofNat_of_zero_le (Int.le_of_lt y1)
 have h:=Lib.bitLenAux_bounds 64 n (by omega) (by omega)
 have hb:Lib.bitLen n≤64:=Lib.bitLen_le n 64 (by omega) (by omega)
 have e:Lib.bitLen n=Lib.bitLenAux 64 n:=rfl
 rw[←e]at h
 obtain⟨h1,h2,h3⟩:=h
 rw[Int.toNat_natCast]
 generalize Lib.bitLen n=L at *
 refine⟨64-L,by omega,by omega,?_⟩
 have k1:2 ^ (L-1)*2 ^ (64-L)≤n*2 ^ (64-L):=Nat.mul_le_mul_right _ h2
 have k2:n*2 ^ (64-L)<2 ^ L*2 ^ (64-L):=Nat.mul_lt_mul_of_pos_right h3 (Nat.two_pow_pos _)
 rw[←Nat.pow_add]at k1 k2
 rw[show L-1+(64-L)=63 by omega]at k1
 rw[show L+(64-L)=64 by omega]at k2
 have c:((n*2 ^ (64-L):Nat):Int)=(n:Int)*2 ^ (64-L):=by rw[Int.natCast_mul,Int.natCast_pow];rfl
 rw[←c]
 omega
theorem aHW (x:Int) (h0:0≤x) (h1:x<18446744073709551616):bits .and .u64 x 4294967295=x % 4294967296:=by
 obtain⟨n,rfl⟩:=Int.eq_ofNat_of_zero_le h0
 rw[Mul64.maskN n (by omega)];omega
theorem aH7 (h lo:Int) (s:Nat) (h0:0≤h) (l0:0≤lo) (g1:h*2 ^ s<18446744073709551616) (g2:lo / 2 ^ (64-s)<2 ^ s) (hs:s≤64):
  bits .or .u64 (IntKind.u64.wrap (h*2 ^ s)) (lo / 2 ^ (64-s))=h*2 ^ s+lo / 2 ^ (64-s):=by
 obtain⟨a,rfl⟩:=Int.eq_ofNat_of_zero_le h0
 obtain⟨b,rfl⟩:=Int.eq_ofNat_of_zero_le l0
 have c1:((a*2 ^ s:Nat):Int)=(a:Int)*2 ^ s:=by rw[Int.natCast_mul,Int.natCast_pow];rfl
 have c2:((b / 2 ^ (64-s):Nat):Int)=(b:Int) / 2 ^ (64-s):=by rw[Int.natCast_ediv,Int.natCast_pow];rfl
 have c3:((2 ^ s:Nat):Int)=2 ^ s:=by rw[Int.natCast_pow];rfl
 have p:(2:Nat) ^ s≤2 ^ 64:=Nat.pow_le_pow_right (by decide) hs
 rw[IntKind.wrap_u64,←c1,←c2]
 rw[←c1]at g1
 rw[←c2,←c3]at g2
 rw[Int.emod_eq_of_lt (by omega) g1,bits_or_u64_nat _ _ (by omega) (by omega)]
 have k:=Nat.shiftLeft_add_eq_or_of_lt (b:=b / 2 ^ (64-s)) (i:=s) (by omega) a
 rw[Nat.shiftLeft_eq]at k
 rw[←k,Int.natCast_add]
set_option maxHeartbeats 1600000 in
theorem aDd (h lo y:Int) (hh:0<h∧h<y) (hl:gB lo) (hy:0<y∧y<18446744073709551616) (w:World):Calls Try.prog 41 #[.int .u64 h,.int .u64 lo,.int .u64 y] w fun e w'=>e = .returned (.tuple #[.int .u64 ((h*18446744073709551616+lo) / y),.int .u64 ((h*18446744073709551616+lo) % y)])∧Below w.heap.size w w':=by
 obtain⟨l1,l2⟩:=hl
 obtain⟨y1,y2⟩:=hy
 obtain⟨h1,h2⟩:=hh
 have n0:¬y=0:=by omega
 have n1:¬y≤h:=by omega
 have n2:¬h=0:=by omega
 obtain⟨s,hs',s64,ys1,ys2⟩:=aLc y y1 y2
 obtain⟨p1,p2,p3,p4,p5,p6,p7⟩:=aOY h lo y s s64 ys1 ys2 (by omega) h2 l1 l2
 have f4:=aH7 h lo s (by omega) l1 p3 p5 s64
 have bk:=yA (h*18446744073709551616+lo) y (2 ^ s) p7
 have f1:IntKind.u64.wrap (y*2 ^ s)=y*2 ^ s:=by rw[IntKind.wrap_u64];omega
 have f5:IntKind.u64.wrap (lo*2 ^ s)=lo*2 ^ s % 18446744073709551616:=IntKind.wrap_u64 _
 have hV:0≤lo*2 ^ s % 18446744073709551616∧lo*2 ^ s % 18446744073709551616<18446744073709551616:=by omega
 rw[←p1]at bk
 generalize hYe:y*2 ^ s=Y at *
 generalize hVe:lo*2 ^ s % 18446744073709551616=V at *
 have hU0:0≤h*2 ^ s+lo / 2 ^ (64-s):=by omega
 generalize h*2 ^ s+lo / 2 ^ (64-s)=U at *
 have kn1:Kn (Y / 4294967296) (Y % 4294967296) U (V / 4294967296):=aMl Y U _ ys1 ys2 hU0 p6 (by omega) (by omega)
 have f2:=aHW Y (by omega) ys2
 have f3:=aHW V hV.1 hV.2
 have kY:Y / 4294967296*4294967296+Y % 4294967296=Y:=by omega
 have rb1:=aEQ Y U (V / 4294967296) (by omega)
 have re1:=aEH Y U (V / 4294967296)
 have tq1:=aOv Y U (V / 4294967296)
 have ts:=aGH Y U (V / 4294967296) (V % 4294967296) (by omega)
 have hVV:V / 4294967296*4294967296+V % 4294967296=V:=by omega
 rw[Int.add_assoc,hVV]at ts
 generalize (U*4294967296+V / 4294967296) % Y=R at *
 have kn2:Kn (Y / 4294967296) (Y % 4294967296) R (V % 4294967296):=aMl Y R _ ys1 ys2 rb1.1 rb1.2 (by omega) (by omega)
 have rb2:=aEQ Y R (V % 4294967296) (by omega)
 have re2:=aEH Y R (V % 4294967296)
 have tq2:=aOv Y R (V % 4294967296)
 have tb1:=aKF kn1
 have tb2:=aKF kn2
 rw[tq1]at tb1
 rw[tq2]at tb2
 generalize hT1:(U*4294967296+V / 4294967296) / Y=T1 at *
 generalize hT2:(R*4294967296+V % 4294967296) / Y=T2 at *
 generalize (R*4294967296+V % 4294967296) % Y=R2 at *
 have st1:=Inv.start kn1
 have st2:=Inv.start kn2
 have hV1:0≤V / 4294967296∧V / 4294967296<4294967296:=by omega
 have hV0:0≤V % 4294967296∧V % 4294967296<4294967296:=by omega
 generalize fV1:V / 4294967296=V1 at *
 generalize V % 4294967296=V0 at *
 have hY1:2147483648≤Y / 4294967296:=by omega
 generalize fY1:Y / 4294967296=Y1 at *
 generalize Y % 4294967296=Y0 at *
 have nY:¬Y1=0:=by omega
 have q1:IntKind.u64.wrap (U.tdiv Y1)=U / Y1:=by
  rw[IntKind.wrap_u64,Int.tdiv_eq_ediv_of_nonneg hU0]
  have:=(Inv.bd kn1 st1).2.2.2.2.2.2;exact Int.emod_eq_of_lt this.1 this.2.1
 have r1:IntKind.u64.wrap (U-IntKind.u64.wrap (U / Y1*Y1))=U % Y1:=by
  have e:=st1.e
  have l1:=st1.r0
  have l2:=st1.r1
  rw[IntKind.wrap_u64,IntKind.wrap_u64]
  generalize U / Y1*Y1=P at *
  omega
 have q2:IntKind.u64.wrap (R.tdiv Y1)=R / Y1:=by
  rw[IntKind.wrap_u64,Int.tdiv_eq_ediv_of_nonneg rb1.1]
  have:=(Inv.bd kn2 st2).2.2.2.2.2.2;exact Int.emod_eq_of_lt this.1 this.2.1
 have r2:IntKind.u64.wrap (R-IntKind.u64.wrap (R / Y1*Y1))=R % Y1:=by
  have e:=st2.e
  have l1:=st2.r0
  have l2:=st2.r1
  rw[IntKind.wrap_u64,IntKind.wrap_u64]
  generalize R / Y1*Y1=P at *
  omega
 have u1:IntKind.u64.wrap (IntKind.u64.wrap (IntKind.u64.wrap (U*4294967296)+V1)-IntKind.u64.wrap (T1*Y))=R:=by
  rw[IntKind.wrap_u64,IntKind.wrap_u64,IntKind.wrap_u64,IntKind.wrap_u64]
  generalize T1*Y=P at *
  omega
 have u2:IntKind.u64.wrap (IntKind.u64.wrap (IntKind.u64.wrap (R*4294967296)+V0)-IntKind.u64.wrap (T2*Y))=R2:=by
  rw[IntKind.wrap_u64,IntKind.wrap_u64,IntKind.wrap_u64,IntKind.wrap_u64]
  generalize T2*Y=P at *
  omega
 have qq:IntKind.u64.wrap (IntKind.u64.wrap (T1*4294967296)+T2)=(h*18446744073709551616+lo) / y:=by
  rw[IntKind.wrap_u64,IntKind.wrap_u64,←bk.1,ts.1];omega
 have rr:R2 / 2 ^ s=(h*18446744073709551616+lo) % y:=by rw[←bk.2,ts.2]
 replace f1:IntKind.u64.wrap (y*2 ^ s)=Y:=by rw[hYe];exact f1
 have Hk1:=Lib.hid kn1
 have Hk2:=Lib.hid kn2
 have Hs1:=Lib.hid st1
 have Hs2:=Lib.hid st2
 have HT1:=Lib.hid tq1
 have HT2:=Lib.hid tq2
 clear kn1 kn2 st1 st2 tq1 tq2 tb1 tb2 ts bk hT1 hT2 re1 re2 rb1 rb2 kY hVV hYe hVe p1 p2 p3 p4 p5 p6 p7 hU0 ys1
 generalize (h*18446744073709551616+lo) / y=QQ at *
 generalize (h*18446744073709551616+lo) % y=RR at *
 go_enter Try.func41,Try.ntmps41
 go_wp2_with (go_at_call 43;refine(Try.bits_LeadingZeros64 y _ (by omega) (by omega)).mono ?_;rintro e w1 ⟨rfl,rfl⟩;rw[hs'])
 go_loopw [15,16] (fun qv rv wl=>∃ q r:Int,qv = .int .u64 q∧rv = .int .u64 r∧wl=w1∧Hid (Inv Y1 Y0 U V1 q r)) (fun qv _ _=>(intOf qv).toNat)
 case atStart=>exact⟨_,_,rfl,rfl,rfl,Hs1⟩
 case round=>
  obtain⟨q,r,rfl,rfl,rfl,hI⟩:=hrel
  have hI':=hI.out
  have ⟨m1,m2,m3,m4,m5,m6,m7,m8,m9,m10⟩:=Inv.bd Hk1.out hI'
  have i1:IntKind.u64.wrap (q*Y0)=q*Y0:=by rw[IntKind.wrap_u64];exact Int.emod_eq_of_lt m1 m2
  have i2:IntKind.u64.wrap (4294967296*r)=4294967296*r:=by rw[IntKind.wrap_u64];exact Int.emod_eq_of_lt m3 m4
  have i3:IntKind.u64.wrap (4294967296*r+V1)=4294967296*r+V1:=by rw[IntKind.wrap_u64];exact Int.emod_eq_of_lt m5 m6
  have i4:IntKind.u64.wrap (r+Y1)=r+Y1:=by rw[IntKind.wrap_u64];exact Int.emod_eq_of_lt m9 m10
  by_cases hd:Due Y0 V1 q r
  ·by_cases hl:r+Y1<4294967296
   ·have ⟨hN,hp⟩:=Inv.more Hk1.out hI' hd hl
    have i5:IntKind.u64.wrap (q-1)=q-1:=by rw[IntKind.wrap_u64];omega
    have HN:=Lib.hid hN
    have hn1:¬4294967296≤r+Y1:=by omega
    clear hN hI' m1 m2 m3 m4 m5 m6 m9 m10
    rcases hd with g|g
    ·go_wp2
     go_roundw
     case rel=>exact⟨_,_,rfl,rfl,by trivial,HN⟩
     case measure=>simp [intOf];omega
    ·by_cases g2:4294967296≤q
     ·go_wp2
      go_roundw
      case rel=>exact⟨_,_,rfl,rfl,by trivial,HN⟩
      case measure=>simp [intOf];omega
     ·go_wp2
      go_roundw
      case rel=>exact⟨_,_,rfl,rfl,by trivial,HN⟩
      case measure=>simp [intOf];omega
   ·have ⟨hT,hp⟩:=Inv.broke Hk1.out hI' hd (by omega)
    have i5:IntKind.u64.wrap (q-1)=T1:=by rw[IntKind.wrap_u64,←HT1.out,←hT];omega
    have hn1:4294967296≤r+Y1:=by omega
    clear hT hI' m1 m2 m3 m4 m5 m6 m9 m10
    by_cases g2:4294967296≤q
    ·clear hd
     go_wp2
     try clear i5
     try clear i4
     try clear i3
     try clear i2
     try clear i1
     try clear hn1
     try clear g1
     try clear g2
     try clear g3
     try clear hl
     try clear hp
     try clear hI
     try clear m7
     try clear m8
     go_loopw [18,16] (fun qv rv wl=>∃ q r:Int,qv = .int .u64 q∧rv = .int .u64 r∧wl=wr∧Hid (Inv Y1 Y0 R V0 q r)) (fun qv _ _=>(intOf qv).toNat)
     case atStart=>exact⟨_,_,rfl,rfl,rfl,Hs2⟩
     case round=>
      obtain⟨q,r,rfl,rfl,rfl,hI⟩:=hrel
      have hI':=hI.out
      have ⟨m1,m2,m3,m4,m5,m6,m7,m8,m9,m10⟩:=Inv.bd Hk2.out hI'
      have i1:IntKind.u64.wrap (q*Y0)=q*Y0:=by rw[IntKind.wrap_u64];exact Int.emod_eq_of_lt m1 m2
      have i2:IntKind.u64.wrap (4294967296*r)=4294967296*r:=by rw[IntKind.wrap_u64];exact Int.emod_eq_of_lt m3 m4
      have i3:IntKind.u64.wrap (4294967296*r+V0)=4294967296*r+V0:=by rw[IntKind.wrap_u64];exact Int.emod_eq_of_lt m5 m6
      have i4:IntKind.u64.wrap (r+Y1)=r+Y1:=by rw[IntKind.wrap_u64];exact Int.emod_eq_of_lt m9 m10
      by_cases hd:Due Y0 V0 q r
      ·by_cases hl:r+Y1<4294967296
       ·have ⟨hN,hp⟩:=Inv.more Hk2.out hI' hd hl
        have i5:IntKind.u64.wrap (q-1)=q-1:=by rw[IntKind.wrap_u64];omega
        have HN:=Lib.hid hN
        have hn1:¬4294967296≤r+Y1:=by omega
        clear hN hI' m1 m2 m3 m4 m5 m6 m9 m10
        rcases hd with g|g
        ·go_wp2
         go_roundw
         case rel=>exact⟨_,_,rfl,rfl,by trivial,HN⟩
         case measure=>simp [intOf];omega
        ·by_cases g2:4294967296≤q
         ·go_wp2
          go_roundw
          case rel=>exact⟨_,_,rfl,rfl,by trivial,HN⟩
          case measure=>simp [intOf];omega
         ·go_wp2
          go_roundw
          case rel=>exact⟨_,_,rfl,rfl,by trivial,HN⟩
          case measure=>simp [intOf];omega
       ·have ⟨hT,hp⟩:=Inv.broke Hk2.out hI' hd (by omega)
        have i5:IntKind.u64.wrap (q-1)=T2:=by rw[IntKind.wrap_u64,←HT2.out,←hT];omega
        have hn1:4294967296≤r+Y1:=by omega
        clear hT hI' m1 m2 m3 m4 m5 m6 m9 m10
        by_cases g2:4294967296≤q
        ·clear hd
         go_wp2
         exact bodyPost_ret (v := .tuple #[.int .u64 QQ,.int .u64 RR]) (by simp [results,Try.results41,go_sem]) rfl ⟨rfl,aD _⟩
        ·have g3:4294967296*r+V0<q*Y0:=by rcases hd with g|g;exact absurd g g2;exact g
         clear hd
         go_wp2
         exact bodyPost_ret (v := .tuple #[.int .u64 QQ,.int .u64 RR]) (by simp [results,Try.results41,go_sem]) rfl ⟨rfl,aD _⟩
      ·have g1:¬4294967296≤q:=fun g=>hd (Or.inl g)
       have g2:¬4294967296*r+V0<q*Y0:=fun g=>hd (Or.inr g)
       have hT:q=T2:=(Inv.done Hk2.out hI' (by omega)).trans HT2.out
       clear hd hI' m1 m2 m3 m4 m5 m6 m9 m10
       subst hT
       go_wp2
       exact bodyPost_ret (v := .tuple #[.int .u64 QQ,.int .u64 RR]) (by simp [results,Try.results41,go_sem]) rfl ⟨rfl,aD _⟩
    ·have g3:4294967296*r+V1<q*Y0:=by rcases hd with g|g;exact absurd g g2;exact g
     clear hd
     go_wp2
     try clear i5
     try clear i4
     try clear i3
     try clear i2
     try clear i1
     try clear hn1
     try clear g1
     try clear g2
     try clear g3
     try clear hl
     try clear hp
     try clear hI
     try clear m7
     try clear m8
     go_loopw [18,16] (fun qv rv wl=>∃ q r:Int,qv = .int .u64 q∧rv = .int .u64 r∧wl=wr∧Hid (Inv Y1 Y0 R V0 q r)) (fun qv _ _=>(intOf qv).toNat)
     case atStart=>exact⟨_,_,rfl,rfl,rfl,Hs2⟩
     case round=>
      obtain⟨q,r,rfl,rfl,rfl,hI⟩:=hrel
      have hI':=hI.out
      have ⟨m1,m2,m3,m4,m5,m6,m7,m8,m9,m10⟩:=Inv.bd Hk2.out hI'
      have i1:IntKind.u64.wrap (q*Y0)=q*Y0:=by rw[IntKind.wrap_u64];exact Int.emod_eq_of_lt m1 m2
      have i2:IntKind.u64.wrap (4294967296*r)=4294967296*r:=by rw[IntKind.wrap_u64];exact Int.emod_eq_of_lt m3 m4
      have i3:IntKind.u64.wrap (4294967296*r+V0)=4294967296*r+V0:=by rw[IntKind.wrap_u64];exact Int.emod_eq_of_lt m5 m6
      have i4:IntKind.u64.wrap (r+Y1)=r+Y1:=by rw[IntKind.wrap_u64];exact Int.emod_eq_of_lt m9 m10
      by_cases hd:Due Y0 V0 q r
      ·by_cases hl:r+Y1<4294967296
       ·have ⟨hN,hp⟩:=Inv.more Hk2.out hI' hd hl
        have i5:IntKind.u64.wrap (q-1)=q-1:=by rw[IntKind.wrap_u64];omega
        have HN:=Lib.hid hN
        have hn1:¬4294967296≤r+Y1:=by omega
        clear hN hI' m1 m2 m3 m4 m5 m6 m9 m10
        rcases hd with g|g
        ·go_wp2
         go_roundw
         case rel=>exact⟨_,_,rfl,rfl,by trivial,HN⟩
         case measure=>simp [intOf];omega
        ·by_cases g2:4294967296≤q
         ·go_wp2
          go_roundw
          case rel=>exact⟨_,_,rfl,rfl,by trivial,HN⟩
          case measure=>simp [intOf];omega
         ·go_wp2
          go_roundw
          case rel=>exact⟨_,_,rfl,rfl,by trivial,HN⟩
          case measure=>simp [intOf];omega
       ·have ⟨hT,hp⟩:=Inv.broke Hk2.out hI' hd (by omega)
        have i5:IntKind.u64.wrap (q-1)=T2:=by rw[IntKind.wrap_u64,←HT2.out,←hT];omega
        have hn1:4294967296≤r+Y1:=by omega
        clear hT hI' m1 m2 m3 m4 m5 m6 m9 m10
        by_cases g2:4294967296≤q
        ·clear hd
         go_wp2
         exact bodyPost_ret (v := .tuple #[.int .u64 QQ,.int .u64 RR]) (by simp [results,Try.results41,go_sem]) rfl ⟨rfl,aD _⟩
        ·have g3:4294967296*r+V0<q*Y0:=by rcases hd with g|g;exact absurd g g2;exact g
         clear hd
         go_wp2
         exact bodyPost_ret (v := .tuple #[.int .u64 QQ,.int .u64 RR]) (by simp [results,Try.results41,go_sem]) rfl ⟨rfl,aD _⟩
      ·have g1:¬4294967296≤q:=fun g=>hd (Or.inl g)
       have g2:¬4294967296*r+V0<q*Y0:=fun g=>hd (Or.inr g)
       have hT:q=T2:=(Inv.done Hk2.out hI' (by omega)).trans HT2.out
       clear hd hI' m1 m2 m3 m4 m5 m6 m9 m10
       subst hT
       go_wp2
       exact bodyPost_ret (v := .tuple #[.int .u64 QQ,.int .u64 RR]) (by simp [results,Try.results41,go_sem]) rfl ⟨rfl,aD _⟩
  ·have g1:¬4294967296≤q:=fun g=>hd (Or.inl g)
   have g2:¬4294967296*r+V1<q*Y0:=fun g=>hd (Or.inr g)
   have hT:q=T1:=(Inv.done Hk1.out hI' (by omega)).trans HT1.out
   clear hd hI' m1 m2 m3 m4 m5 m6 m9 m10
   subst hT
   go_wp2
   try clear i5
   try clear i4
   try clear i3
   try clear i2
   try clear i1
   try clear hn1
   try clear g1
   try clear g2
   try clear g3
   try clear hl
   try clear hp
   try clear hI
   try clear m7
   try clear m8
   go_loopw [18,16] (fun qv rv wl=>∃ q r:Int,qv = .int .u64 q∧rv = .int .u64 r∧wl=wr∧Hid (Inv Y1 Y0 R V0 q r)) (fun qv _ _=>(intOf qv).toNat)
   case atStart=>exact⟨_,_,rfl,rfl,rfl,Hs2⟩
   case round=>
    obtain⟨q,r,rfl,rfl,rfl,hI⟩:=hrel
    have hI':=hI.out
    have ⟨m1,m2,m3,m4,m5,m6,m7,m8,m9,m10⟩:=Inv.bd Hk2.out hI'
    have i1:IntKind.u64.wrap (q*Y0)=q*Y0:=by rw[IntKind.wrap_u64];exact Int.emod_eq_of_lt m1 m2
    have i2:IntKind.u64.wrap (4294967296*r)=4294967296*r:=by rw[IntKind.wrap_u64];exact Int.emod_eq_of_lt m3 m4
    have i3:IntKind.u64.wrap (4294967296*r+V0)=4294967296*r+V0:=by rw[IntKind.wrap_u64];exact Int.emod_eq_of_lt m5 m6
    have i4:IntKind.u64.wrap (r+Y1)=r+Y1:=by rw[IntKind.wrap_u64];exact Int.emod_eq_of_lt m9 m10
    by_cases hd:Due Y0 V0 q r
    ·by_cases hl:r+Y1<4294967296
     ·have ⟨hN,hp⟩:=Inv.more Hk2.out hI' hd hl
      have i5:IntKind.u64.wrap (q-1)=q-1:=by rw[IntKind.wrap_u64];omega
      have HN:=Lib.hid hN
      have hn1:¬4294967296≤r+Y1:=by omega
      clear hN hI' m1 m2 m3 m4 m5 m6 m9 m10
      rcases hd with g|g
      ·go_wp2
       go_roundw
       case rel=>exact⟨_,_,rfl,rfl,by trivial,HN⟩
       case measure=>simp [intOf];omega
      ·by_cases g2:4294967296≤q
       ·go_wp2
        go_roundw
        case rel=>exact⟨_,_,rfl,rfl,by trivial,HN⟩
        case measure=>simp [intOf];omega
       ·go_wp2
        go_roundw
        case rel=>exact⟨_,_,rfl,rfl,by trivial,HN⟩
        case measure=>simp [intOf];omega
     ·have ⟨hT,hp⟩:=Inv.broke Hk2.out hI' hd (by omega)
      have i5:IntKind.u64.wrap (q-1)=T2:=by rw[IntKind.wrap_u64,←HT2.out,←hT];omega
      have hn1:4294967296≤r+Y1:=by omega
      clear hT hI' m1 m2 m3 m4 m5 m6 m9 m10
      by_cases g2:4294967296≤q
      ·clear hd
       go_wp2
       exact bodyPost_ret (v := .tuple #[.int .u64 QQ,.int .u64 RR]) (by simp [results,Try.results41,go_sem]) rfl ⟨rfl,aD _⟩
      ·have g3:4294967296*r+V0<q*Y0:=by rcases hd with g|g;exact absurd g g2;exact g
       clear hd
       go_wp2
       exact bodyPost_ret (v := .tuple #[.int .u64 QQ,.int .u64 RR]) (by simp [results,Try.results41,go_sem]) rfl ⟨rfl,aD _⟩
    ·have g1:¬4294967296≤q:=fun g=>hd (Or.inl g)
     have g2:¬4294967296*r+V0<q*Y0:=fun g=>hd (Or.inr g)
     have hT:q=T2:=(Inv.done Hk2.out hI' (by omega)).trans HT2.out
     clear hd hI' m1 m2 m3 m4 m5 m6 m9 m10
     subst hT
     go_wp2
     exact bodyPost_ret (v := .tuple #[.int .u64 QQ,.int .u64 RR]) (by simp [results,Try.results41,go_sem]) rfl ⟨rfl,aD _⟩
theorem aGP (h lo y:Int) (hh:0≤h∧h<y) (hl:gB lo) (hy:0<y∧y<18446744073709551616) (w:World):Calls Try.prog 41 #[.int .u64 h,.int .u64 lo,.int .u64 y] w fun e w'=>e = .returned (.tuple #[.int .u64 ((h*18446744073709551616+lo) / y),.int .u64 ((h*18446744073709551616+lo) % y)])∧Below w.heap.size w w':=by
 by_cases h0:h=0
 ·subst h0
  have e:0*18446744073709551616+lo=lo:=by omega
  rw[e];exact zA lo y hl hy w
 ·exact aDd h lo y ⟨by omega,hh.2⟩ hl hy w
set_option maxHeartbeats 800000 in
theorem kO (x0 x1 d:Int) (h0:gB x0) (h1:gB x1) (hd:0<d∧d<18446744073709551616) (w:World):Calls Try.prog 36 #[.agg #[.int .u64 x0,.int .u64 x1,.int .u64 0],.int .u64 d] w fun e w'=>e = .returned (.tuple #[.agg #[.int .u64 ((x1 % d*18446744073709551616+x0) / d),.int .u64 (x1 / d),.int .u64 0],.int .u64 ((x1 % d*18446744073709551616+x0) % d)])∧Below w.heap.size w w':=by
 have hm:0≤x1 % d∧x1 % d<d:=⟨Int.emod_nonneg _ (by omega),Int.emod_lt_of_pos _ hd.1⟩
 go_enter Try.func36,Try.ntmps36
 go_wp2
 obtain⟨w0,hw0⟩:∃ x:World,x=((w.alloc (.cells #[.int .u64 x0,.int .u64 x1,.int .u64 0] 82)).alloc (.cells #[.int .u64 0,.int .u64 0,.int .u64 0] 82)):=⟨_,rfl⟩
 have k0:w0.cell? ⟨w.heap.size,0,none⟩=some (.int .u64 x0):=by rw[hw0];repeat (first|(refine aJ ?_ rfl;(simp;done))|refine aK ?_)
 have k1:w0.cell? ⟨w.heap.size,1,none⟩=some (.int .u64 x1):=by rw[hw0];repeat (first|(refine aJ ?_ rfl;(simp;done))|refine aK ?_)
 have k2:w0.cell? ⟨w.heap.size,2,none⟩=some (.int .u64 0):=by rw[hw0];repeat (first|(refine aJ ?_ rfl;(simp;done))|refine aK ?_)
 have k3:w0.cell? ⟨w.heap.size+1,0,none⟩=some (.int .u64 0):=by rw[hw0];repeat (first|(refine aJ ?_ rfl;(simp;done))|refine aK ?_)
 have k4:w0.cell? ⟨w.heap.size+1,1,none⟩=some (.int .u64 0):=by rw[hw0];repeat (first|(refine aJ ?_ rfl;(simp;done))|refine aK ?_)
 have k5:w0.cell? ⟨w.heap.size+1,2,none⟩=some (.int .u64 0):=by rw[hw0];repeat (first|(refine aJ ?_ rfl;(simp;done))|refine aK ?_)
 have z0:w.heap.size<w0.heap.size:=World.block_lt_of_cell? _ _ k0
 have z1:w.heap.size+1<w0.heap.size:=World.block_lt_of_cell? _ _ k3
 have hB:Below w.heap.size w w0:=by rw[hw0];repeat (with_reducible first|exact aD _|apply aA)
 have f1_0:w0.frozen? ⟨w.heap.size+1,0,none⟩=false:=by rw[hw0];repeat (first|(refine bM ?_;(simp;done))|(refine bN (by first|(simp;done)|(simp;omega)) ?_))
 have f1_1:w0.frozen? ⟨w.heap.size+1,1,none⟩=false:=by rw[hw0];repeat (first|(refine bM ?_;(simp;done))|(refine bN (by first|(simp;done)|(simp;omega)) ?_))
 have f1_2:w0.frozen? ⟨w.heap.size+1,2,none⟩=false:=by rw[hw0];repeat (first|(refine bM ?_;(simp;done))|(refine bN (by first|(simp;done)|(simp;omega)) ?_))
 rw[←hw0]
 clear hw0
 go_loopw [6,5] (fun i r wl=>(i = .int .i64 1∧r = .int .u64 0∧wl=w0)
   ∨(i = .int .i64 0∧r = .int .u64 (x1 % d)∧Hid (wl.cell? ⟨w.heap.size,0,none⟩=some (.int .u64 x0)∧wl.cell? ⟨w.heap.size,1,none⟩=some (.int .u64 x1)∧wl.cell? ⟨w.heap.size,2,none⟩=some (.int .u64 0)∧wl.cell? ⟨w.heap.size+1,0,none⟩=some (.int .u64 0)∧wl.cell? ⟨w.heap.size+1,1,none⟩=some (.int .u64 (x1 / d))∧wl.cell? ⟨w.heap.size+1,2,none⟩=some (.int .u64 0)∧wl.frozen? ⟨w.heap.size+1,0,none⟩=false∧wl.frozen? ⟨w.heap.size+1,1,none⟩=false∧wl.frozen? ⟨w.heap.size+1,2,none⟩=false∧Below w.heap.size w wl))
   ∨(i = .int .i64 (-1)∧r = .int .u64 ((x1 % d*18446744073709551616+x0) % d)∧Hid (wl.cell? ⟨w.heap.size,0,none⟩=some (.int .u64 x0)∧wl.cell? ⟨w.heap.size,1,none⟩=some (.int .u64 x1)∧wl.cell? ⟨w.heap.size,2,none⟩=some (.int .u64 0)∧wl.cell? ⟨w.heap.size+1,0,none⟩=some (.int .u64 ((x1 % d*18446744073709551616+x0) / d))∧wl.cell? ⟨w.heap.size+1,1,none⟩=some (.int .u64 (x1 / d))∧wl.cell? ⟨w.heap.size+1,2,none⟩=some (.int .u64 0)∧wl.frozen? ⟨w.heap.size+1,0,none⟩=false∧wl.frozen? ⟨w.heap.size+1,1,none⟩=false∧wl.frozen? ⟨w.heap.size+1,2,none⟩=false∧Below w.heap.size w wl)))
  (fun i _ _=>(intOf i+1).toNat)
 case atStart=>exact Or.inl ⟨rfl,rfl,rfl⟩
 case round=>
  rcases hrel with⟨rfl,rfl,rfl⟩|⟨rfl,rfl,hP⟩|⟨rfl,rfl,hP⟩
  ·go_wp2_with (go_at_call 41;refine(zA x1 d h1 hd _).mono ?_;rintro e w1 ⟨rfl,hb1⟩;replace f1_0:=aI (aE hb1 (by repeat (with_reducible first|exact aD _|apply aA|apply aC))) k3 f1_0;replace f1_1:=aI (aE hb1 (by repeat (with_reducible first|exact aD _|apply aA|apply aC))) k4 f1_1;replace f1_2:=aI (aE hb1 (by repeat (with_reducible first|exact aD _|apply aA|apply aC))) k5 f1_2;replace hB:=aE hb1 (by repeat (with_reducible first|exact hB|apply aA|apply aC));replace k0:=cell_later (aE hb1 (by repeat (with_reducible first|exact aD _|apply aA|apply aC))) k0;replace k1:=cell_later (aE hb1 (by repeat (with_reducible first|exact aD _|apply aA|apply aC))) k1;replace k2:=cell_later (aE hb1 (by repeat (with_reducible first|exact aD _|apply aA|apply aC))) k2;replace k3:=cell_later (aE hb1 (by repeat (with_reducible first|exact aD _|apply aA|apply aC))) k3;replace k4:=cell_later (aE hb1 (by repeat (with_reducible first|exact aD _|apply aA|apply aC))) k4;replace k5:=cell_later (aE hb1 (by repeat (with_reducible first|exact aD _|apply aA|apply aC))) k5;replace z0:=World.block_lt_of_cell? _ _ k0;replace z1:=World.block_lt_of_cell? _ _ k3;simp only[]at z0 z1;clear hb1)
   go_roundw
   case rel=>exact Or.inr (Or.inl ⟨rfl,by trivial,Lib.hid ⟨(aB (by omega) k0),(aB (by omega) k1),(aB (by omega) k2),(aB (by omega) k3),(aX k4),(aB (by omega) k5),(by (repeat rw[World.frozen?_setCell]);exact f1_0),(by (repeat rw[World.frozen?_setCell]);exact f1_1),(by (repeat rw[World.frozen?_setCell]);exact f1_2),(by repeat (with_reducible first|exact hB|refine bV _ (by omega) ?_))⟩⟩)
   case measure=>simp [intOf]
  ·clear k0 k1 k2 k3 k4 k5 z0 z1 f1_0 f1_1 f1_2 hB
   obtain⟨k0,k1,k2,k3,k4,k5,f1_0,f1_1,f1_2,hB⟩:=hP.out
   clear hP
   have z0:w.heap.size<wr.heap.size:=World.block_lt_of_cell? _ _ k0
   have z1:w.heap.size+1<wr.heap.size:=World.block_lt_of_cell? _ _ k3
   go_wp2_with (go_at_call 41;refine(aGP (x1 % d) x0 d hm h0 hd _).mono ?_;rintro e w1 ⟨rfl,hb1⟩;replace f1_0:=aI (aE hb1 (by repeat (with_reducible first|exact aD _|apply aA|apply aC))) k3 f1_0;replace f1_1:=aI (aE hb1 (by repeat (with_reducible first|exact aD _|apply aA|apply aC))) k4 f1_1;replace f1_2:=aI (aE hb1 (by repeat (with_reducible first|exact aD _|apply aA|apply aC))) k5 f1_2;replace hB:=aE hb1 (by repeat (with_reducible first|exact hB|apply aA|apply aC));replace k0:=cell_later (aE hb1 (by repeat (with_reducible first|exact aD _|apply aA|apply aC))) k0;replace k1:=cell_later (aE hb1 (by repeat (with_reducible first|exact aD _|apply aA|apply aC))) k1;replace k2:=cell_later (aE hb1 (by repeat (with_reducible first|exact aD _|apply aA|apply aC))) k2;replace k3:=cell_later (aE hb1 (by repeat (with_reducible first|exact aD _|apply aA|apply aC))) k3;replace k4:=cell_later (aE hb1 (by repeat (with_reducible first|exact aD _|apply aA|apply aC))) k4;replace k5:=cell_later (aE hb1 (by repeat (with_reducible first|exact aD _|apply aA|apply aC))) k5;replace z0:=World.block_lt_of_cell? _ _ k0;replace z1:=World.block_lt_of_cell? _ _ k3;simp only[]at z0 z1;clear hb1)
   go_roundw
   case rel=>exact Or.inr (Or.inr ⟨rfl,by trivial,Lib.hid ⟨(aB (by omega) k0),(aB (by omega) k1),(aB (by omega) k2),(aX k3),(aB (by omega) k4),(aB (by omega) k5),(by (repeat rw[World.frozen?_setCell]);exact f1_0),(by (repeat rw[World.frozen?_setCell]);exact f1_1),(by (repeat rw[World.frozen?_setCell]);exact f1_2),(by repeat (with_reducible first|exact hB|refine bV _ (by omega) ?_))⟩⟩)
   case measure=>simp [intOf]
  ·clear k0 k1 k2 k3 k4 k5 z0 z1 f1_0 f1_1 f1_2 hB
   obtain⟨k0,k1,k2,k3,k4,k5,f1_0,f1_1,f1_2,hB⟩:=hP.out
   clear hP
   have z0:w.heap.size<wr.heap.size:=World.block_lt_of_cell? _ _ k0
   have z1:w.heap.size+1<wr.heap.size:=World.block_lt_of_cell? _ _ k3
   go_wp2
   exact bodyPost_ret (v := .tuple #[.agg #[.int .u64 ((x1 % d*18446744073709551616+x0) / d),.int .u64 (x1 / d),.int .u64 0],.int .u64 ((x1 % d*18446744073709551616+x0) % d)]) (by simp [results,Try.results36,go_sem, *]) rfl ⟨rfl,by repeat (with_reducible first|exact hB|refine bV _ (by omega) ?_|apply aA|apply aC)⟩
set_option maxHeartbeats 800000 in
theorem aHD (a d q r:Int) (ha:kC a) (hd:0<d) (hd':d≤9223372036854775807) (hn:¬a<0) (hq0:q=a / d) (hr0:r=a % d) (w:World):Calls Try.prog 33 #[.agg #[.int .i64 (hi (a)),.int .u64 (lo (a))],.int .i64 d] w fun e w'=>e = .returned (.tuple #[.agg #[.int .i64 (hi (q)),.int .u64 (lo (q))],.int .i64 r,.int .i64 0])∧Below w.heap.size w w':=by
 have l1:gB (d0 (cN a)):=by unfold gB d0;omega
 have l2:gB (d1 (cN a)):=by unfold gB d1;omega
 have hmb:cN a<340282366920938463463374607431768211456:=by unfold cN;unfold kC at ha;split<;>omega
 obtain⟨q0,q1,q2⟩:=rT (cN a) d (kK a) hmb hd
 have c1:IntKind.u64.wrap d=d:=by rw[IntKind.wrap_u64];omega
 have r0:=Int.emod_nonneg (cN a) (show d≠0 by omega)
 have r1:=Int.emod_lt_of_pos (cN a) hd
 have m0:0≤cN a / d:=Int.ediv_nonneg (kK a) (by omega)
 have m1:cN a / d≤cN a:=Int.ediv_le_self _ (kK a)
 have hs:decide (a<0)=false:=decide_eq_false hn
 have hma:cN a=a:=if_neg hn
 have ha2:a<170141183460469231731687303715884105728:=ha.2
 have hf:kB false (cN a / d):=⟨m0,Or.inl (by omega)⟩
 have es:sgn false (cN a / d)=q:=by rw[hma,hq0];rfl
 have er:cN a % d=r:=by rw[hma,hr0]
 rw[er]at r0 r1 q2
 have nd:¬d<1:=by omega
 have c2:IntKind.i64.wrap r=r:=IntWalk.i64_in _ (by omega)
 clear hma hmb m0 m1 hq0 hr0 ha2
 go_enter Try.func33,Try.ntmps33
 go_wp2_with fail
 obtain⟨w0,hw0⟩:∃ x:World,x=((w.alloc (.cells #[.int .i64 (hi (a)),.int .u64 (lo (a))] 71)).alloc (.cells #[.int .i64 0,.int .u64 0] 71)):=⟨_,rfl⟩
 have k0:w0.cell? ⟨w.heap.size,0,none⟩=some (.int .i64 (hi (a))):=by rw[hw0];repeat (first|(refine aJ ?_ rfl;(simp;done))|refine aK ?_)
 have k1:w0.cell? ⟨w.heap.size,1,none⟩=some (.int .u64 (lo (a))):=by rw[hw0];repeat (first|(refine aJ ?_ rfl;(simp;done))|refine aK ?_)
 have k2:w0.cell? ⟨w.heap.size+1,0,none⟩=some (.int .i64 0):=by rw[hw0];repeat (first|(refine aJ ?_ rfl;(simp;done))|refine aK ?_)
 have k3:w0.cell? ⟨w.heap.size+1,1,none⟩=some (.int .u64 0):=by rw[hw0];repeat (first|(refine aJ ?_ rfl;(simp;done))|refine aK ?_)
 have z0:w.heap.size<w0.heap.size:=World.block_lt_of_cell? _ _ k0
 have z1:w.heap.size+1<w0.heap.size:=World.block_lt_of_cell? _ _ k2
 have hB:Below w.heap.size w w0:=by rw[hw0];repeat (with_reducible first|exact aD _|apply aA)
 have f1_0:w0.frozen? ⟨w.heap.size+1,0,none⟩=false:=by rw[hw0];repeat (first|(refine bM ?_;(simp;done))|(refine bN (by first|(simp;done)|(simp;omega)) ?_))
 have f1_1:w0.frozen? ⟨w.heap.size+1,1,none⟩=false:=by rw[hw0];repeat (first|(refine bM ?_;(simp;done))|(refine bN (by first|(simp;done)|(simp;omega)) ?_))
 rw[←hw0]
 clear hw0
 refine(wZ a ha _).mono ?_
 rintro e w1 ⟨rfl,hb1⟩
 replace f1_0:=aI (aE hb1 (by repeat (with_reducible first|exact aD _|apply aA|apply aC))) k2 f1_0
 replace f1_1:=aI (aE hb1 (by repeat (with_reducible first|exact aD _|apply aA|apply aC))) k3 f1_1
 replace hB:=aE hb1 (by repeat (with_reducible first|exact hB|apply aA|apply aC))
 replace k0:=cell_later (aE hb1 (by repeat (with_reducible first|exact aD _|apply aA|apply aC))) k0
 replace k1:=cell_later (aE hb1 (by repeat (with_reducible first|exact aD _|apply aA|apply aC))) k1
 replace k2:=cell_later (aE hb1 (by repeat (with_reducible first|exact aD _|apply aA|apply aC))) k2
 replace k3:=cell_later (aE hb1 (by repeat (with_reducible first|exact aD _|apply aA|apply aC))) k3
 replace z0:=World.block_lt_of_cell? _ _ k0
 replace z1:=World.block_lt_of_cell? _ _ k2
 simp only[]at z0 z1
 clear hb1
 rw[hs]
 go_wp2_with fail
 obtain⟨w2,hw0⟩:∃ x:World,x=(w1.alloc (.cells #[.bool false,.int .u64 (d0 (cN a)),.int .u64 (d1 (cN a)),.int .u64 0] 84)):=⟨_,rfl⟩
 replace f1_0:w2.frozen? ⟨w.heap.size+1,0,none⟩=false:=by rw[hw0];exact aI (by repeat (with_reducible first|exact aD _|apply aA|apply aC)) k2 f1_0
 replace f1_1:w2.frozen? ⟨w.heap.size+1,1,none⟩=false:=by rw[hw0];exact aI (by repeat (with_reducible first|exact aD _|apply aA|apply aC)) k3 f1_1
 replace k0:w2.cell? ⟨w.heap.size,0,none⟩=some (.int .i64 (hi (a))):=by rw[hw0];exact cell_later (by repeat (with_reducible first|exact aD _|apply aA|apply aC)) k0
 replace k1:w2.cell? ⟨w.heap.size,1,none⟩=some (.int .u64 (lo (a))):=by rw[hw0];exact cell_later (by repeat (with_reducible first|exact aD _|apply aA|apply aC)) k1
 replace k2:w2.cell? ⟨w.heap.size+1,0,none⟩=some (.int .i64 0):=by rw[hw0];exact cell_later (by repeat (with_reducible first|exact aD _|apply aA|apply aC)) k2
 replace k3:w2.cell? ⟨w.heap.size+1,1,none⟩=some (.int .u64 0):=by rw[hw0];exact cell_later (by repeat (with_reducible first|exact aD _|apply aA|apply aC)) k3
 have k4:w2.cell? ⟨w1.heap.size,0,none⟩=some (.bool false):=by rw[hw0];repeat (first|(refine aJ ?_ rfl;(simp;done))|refine aK ?_)
 have k5:w2.cell? ⟨w1.heap.size,1,none⟩=some (.int .u64 (d0 (cN a))):=by rw[hw0];repeat (first|(refine aJ ?_ rfl;(simp;done))|refine aK ?_)
 have k6:w2.cell? ⟨w1.heap.size,2,none⟩=some (.int .u64 (d1 (cN a))):=by rw[hw0];repeat (first|(refine aJ ?_ rfl;(simp;done))|refine aK ?_)
 have k7:w2.cell? ⟨w1.heap.size,3,none⟩=some (.int .u64 0):=by rw[hw0];repeat (first|(refine aJ ?_ rfl;(simp;done))|refine aK ?_)
 have z0:w.heap.size<w2.heap.size:=World.block_lt_of_cell? _ _ k0
 have z1:w.heap.size+1<w2.heap.size:=World.block_lt_of_cell? _ _ k2
 have z2:w1.heap.size<w2.heap.size:=World.block_lt_of_cell? _ _ k4
 replace hB:Below w.heap.size w w2:=by rw[hw0];repeat (with_reducible first|exact hB|apply aA)
 rw[←hw0]
 clear hw0
 refine(kO _ _ d l1 l2 ⟨by omega,by omega⟩ _).mono ?_
 rintro e w3 ⟨rfl,hb1⟩
 replace f1_0:=aI (aE hb1 (by repeat (with_reducible first|exact aD _|apply aA|apply aC))) k2 f1_0
 replace f1_1:=aI (aE hb1 (by repeat (with_reducible first|exact aD _|apply aA|apply aC))) k3 f1_1
 replace hB:=aE hb1 (by repeat (with_reducible first|exact hB|apply aA|apply aC))
 replace k0:=cell_later (aE hb1 (by repeat (with_reducible first|exact aD _|apply aA|apply aC))) k0
 replace k1:=cell_later (aE hb1 (by repeat (with_reducible first|exact aD _|apply aA|apply aC))) k1
 replace k2:=cell_later (aE hb1 (by repeat (with_reducible first|exact aD _|apply aA|apply aC))) k2
 replace k3:=cell_later (aE hb1 (by repeat (with_reducible first|exact aD _|apply aA|apply aC))) k3
 replace k4:=cell_later (aE hb1 (by repeat (with_reducible first|exact aD _|apply aA|apply aC))) k4
 replace k5:=cell_later (aE hb1 (by repeat (with_reducible first|exact aD _|apply aA|apply aC))) k5
 replace k6:=cell_later (aE hb1 (by repeat (with_reducible first|exact aD _|apply aA|apply aC))) k6
 replace k7:=cell_later (aE hb1 (by repeat (with_reducible first|exact aD _|apply aA|apply aC))) k7
 replace z0:=World.block_lt_of_cell? _ _ k0
 replace z1:=World.block_lt_of_cell? _ _ k2
 replace z2:=World.block_lt_of_cell? _ _ k4
 simp only[]at z0 z1 z2
 clear hb1
 rw[q0,q1,q2]
 go_wp2_with fail
 obtain⟨w4,hw0⟩:∃ x:World,x=(w3.alloc (.cells #[.int .u64 (d0 (cN a / d)),.int .u64 (d1 (cN a / d)),.int .u64 0] 82)):=⟨_,rfl⟩
 replace f1_0:w4.frozen? ⟨w.heap.size+1,0,none⟩=false:=by rw[hw0];exact aI (by repeat (with_reducible first|exact aD _|apply aA|apply aC)) k2 f1_0
 replace f1_1:w4.frozen? ⟨w.heap.size+1,1,none⟩=false:=by rw[hw0];exact aI (by repeat (with_reducible first|exact aD _|apply aA|apply aC)) k3 f1_1
 replace k0:w4.cell? ⟨w.heap.size,0,none⟩=some (.int .i64 (hi (a))):=by rw[hw0];exact cell_later (by repeat (with_reducible first|exact aD _|apply aA|apply aC)) k0
 replace k1:w4.cell? ⟨w.heap.size,1,none⟩=some (.int .u64 (lo (a))):=by rw[hw0];exact cell_later (by repeat (with_reducible first|exact aD _|apply aA|apply aC)) k1
 replace k2:w4.cell? ⟨w.heap.size+1,0,none⟩=some (.int .i64 0):=by rw[hw0];exact cell_later (by repeat (with_reducible first|exact aD _|apply aA|apply aC)) k2
 replace k3:w4.cell? ⟨w.heap.size+1,1,none⟩=some (.int .u64 0):=by rw[hw0];exact cell_later (by repeat (with_reducible first|exact aD _|apply aA|apply aC)) k3
 replace k4:w4.cell? ⟨w1.heap.size,0,none⟩=some (.bool false):=by rw[hw0];exact cell_later (by repeat (with_reducible first|exact aD _|apply aA|apply aC)) k4
 replace k5:w4.cell? ⟨w1.heap.size,1,none⟩=some (.int .u64 (d0 (cN a))):=by rw[hw0];exact cell_later (by repeat (with_reducible first|exact aD _|apply aA|apply aC)) k5
 replace k6:w4.cell? ⟨w1.heap.size,2,none⟩=some (.int .u64 (d1 (cN a))):=by rw[hw0];exact cell_later (by repeat (with_reducible first|exact aD _|apply aA|apply aC)) k6
 replace k7:w4.cell? ⟨w1.heap.size,3,none⟩=some (.int .u64 0):=by rw[hw0];exact cell_later (by repeat (with_reducible first|exact aD _|apply aA|apply aC)) k7
 have k8:w4.cell? ⟨w3.heap.size,0,none⟩=some (.int .u64 (d0 (cN a / d))):=by rw[hw0];repeat (first|(refine aJ ?_ rfl;(simp;done))|refine aK ?_)
 have k9:w4.cell? ⟨w3.heap.size,1,none⟩=some (.int .u64 (d1 (cN a / d))):=by rw[hw0];repeat (first|(refine aJ ?_ rfl;(simp;done))|refine aK ?_)
 have k10:w4.cell? ⟨w3.heap.size,2,none⟩=some (.int .u64 0):=by rw[hw0];repeat (first|(refine aJ ?_ rfl;(simp;done))|refine aK ?_)
 have z0:w.heap.size<w4.heap.size:=World.block_lt_of_cell? _ _ k0
 have z1:w.heap.size+1<w4.heap.size:=World.block_lt_of_cell? _ _ k2
 have z2:w1.heap.size<w4.heap.size:=World.block_lt_of_cell? _ _ k4
 have z3:w3.heap.size<w4.heap.size:=World.block_lt_of_cell? _ _ k8
 replace hB:Below w.heap.size w w4:=by rw[hw0];repeat (with_reducible first|exact hB|apply aA)
 rw[←hw0]
 clear hw0
 refine(sV _ _ hf _).mono ?_
 rintro e w5 ⟨rfl,hb1⟩
 replace f1_0:=aI (aE hb1 (by repeat (with_reducible first|exact aD _|apply aA|apply aC))) k2 f1_0
 replace f1_1:=aI (aE hb1 (by repeat (with_reducible first|exact aD _|apply aA|apply aC))) k3 f1_1
 replace hB:=aE hb1 (by repeat (with_reducible first|exact hB|apply aA|apply aC))
 replace k0:=cell_later (aE hb1 (by repeat (with_reducible first|exact aD _|apply aA|apply aC))) k0
 replace k1:=cell_later (aE hb1 (by repeat (with_reducible first|exact aD _|apply aA|apply aC))) k1
 replace k2:=cell_later (aE hb1 (by repeat (with_reducible first|exact aD _|apply aA|apply aC))) k2
 replace k3:=cell_later (aE hb1 (by repeat (with_reducible first|exact aD _|apply aA|apply aC))) k3
 replace k4:=cell_later (aE hb1 (by repeat (with_reducible first|exact aD _|apply aA|apply aC))) k4
 replace k5:=cell_later (aE hb1 (by repeat (with_reducible first|exact aD _|apply aA|apply aC))) k5
 replace k6:=cell_later (aE hb1 (by repeat (with_reducible first|exact aD _|apply aA|apply aC))) k6
 replace k7:=cell_later (aE hb1 (by repeat (with_reducible first|exact aD _|apply aA|apply aC))) k7
 replace k8:=cell_later (aE hb1 (by repeat (with_reducible first|exact aD _|apply aA|apply aC))) k8
 replace k9:=cell_later (aE hb1 (by repeat (with_reducible first|exact aD _|apply aA|apply aC))) k9
 replace k10:=cell_later (aE hb1 (by repeat (with_reducible first|exact aD _|apply aA|apply aC))) k10
 replace z0:=World.block_lt_of_cell? _ _ k0
 replace z1:=World.block_lt_of_cell? _ _ k2
 replace z2:=World.block_lt_of_cell? _ _ k4
 replace z3:=World.block_lt_of_cell? _ _ k8
 simp only[]at z0 z1 z2 z3
 clear hb1
 rw[es]
 go_wp2
 obtain⟨w9,hw0⟩:∃ x:World,x=((((w5.setCell ⟨w.heap.size+1,0,none⟩ (.int .i64 (hi q))).setCell ⟨w.heap.size+1,1,none⟩ (.int .u64 (lo q))).setCell ⟨w.heap.size+1,0,none⟩ (.int .i64 (hi q))).setCell ⟨w.heap.size+1,1,none⟩ (.int .u64 (lo q))):=⟨_,rfl⟩
 have new_k0:w9.cell? ⟨w.heap.size,0,none⟩=some (.int .i64 (hi (a))):=by rw[hw0];exact(aB (by omega) (aB (by omega) (aB (by omega) (aB (by omega) k0))))
 have new_k1:w9.cell? ⟨w.heap.size,1,none⟩=some (.int .u64 (lo (a))):=by rw[hw0];exact(aB (by omega) (aB (by omega) (aB (by omega) (aB (by omega) k1))))
 have new_k2:w9.cell? ⟨w.heap.size+1,0,none⟩=some (.int .i64 (hi q)):=by rw[hw0];exact(aB (by omega) (aX (aB (by omega) (aX k2))))
 have new_k3:w9.cell? ⟨w.heap.size+1,1,none⟩=some (.int .u64 (lo q)):=by rw[hw0];exact(aX (aB (by omega) (aX (aB (by omega) k3))))
 have new_k4:w9.cell? ⟨w1.heap.size,0,none⟩=some (.bool false):=by rw[hw0];exact(aB (by omega) (aB (by omega) (aB (by omega) (aB (by omega) k4))))
 have new_k5:w9.cell? ⟨w1.heap.size,1,none⟩=some (.int .u64 (d0 (cN a))):=by rw[hw0];exact(aB (by omega) (aB (by omega) (aB (by omega) (aB (by omega) k5))))
 have new_k6:w9.cell? ⟨w1.heap.size,2,none⟩=some (.int .u64 (d1 (cN a))):=by rw[hw0];exact(aB (by omega) (aB (by omega) (aB (by omega) (aB (by omega) k6))))
 have new_k7:w9.cell? ⟨w1.heap.size,3,none⟩=some (.int .u64 0):=by rw[hw0];exact(aB (by omega) (aB (by omega) (aB (by omega) (aB (by omega) k7))))
 have new_k8:w9.cell? ⟨w3.heap.size,0,none⟩=some (.int .u64 (d0 (cN a / d))):=by rw[hw0];exact(aB (by omega) (aB (by omega) (aB (by omega) (aB (by omega) k8))))
 have new_k9:w9.cell? ⟨w3.heap.size,1,none⟩=some (.int .u64 (d1 (cN a / d))):=by rw[hw0];exact(aB (by omega) (aB (by omega) (aB (by omega) (aB (by omega) k9))))
 have new_k10:w9.cell? ⟨w3.heap.size,2,none⟩=some (.int .u64 0):=by rw[hw0];exact(aB (by omega) (aB (by omega) (aB (by omega) (aB (by omega) k10))))
 replace f1_0:w9.frozen? ⟨w.heap.size+1,0,none⟩=false:=by rw[hw0];(repeat rw[World.frozen?_setCell]);exact f1_0
 replace f1_1:w9.frozen? ⟨w.heap.size+1,1,none⟩=false:=by rw[hw0];(repeat rw[World.frozen?_setCell]);exact f1_1
 replace hB:Below w.heap.size w w9:=by rw[hw0];repeat (with_reducible first|exact hB|refine bV _ (by omega) ?_)
 clear k0 k1 k2 k3 k4 k5 k6 k7 k8 k9 k10
 have k0:=new_k0;clear new_k0
 have k1:=new_k1;clear new_k1
 have k2:=new_k2;clear new_k2
 have k3:=new_k3;clear new_k3
 have k4:=new_k4;clear new_k4
 have k5:=new_k5;clear new_k5
 have k6:=new_k6;clear new_k6
 have k7:=new_k7;clear new_k7
 have k8:=new_k8;clear new_k8
 have k9:=new_k9;clear new_k9
 have k10:=new_k10;clear new_k10
 replace z0:w.heap.size<w9.heap.size:=World.block_lt_of_cell? _ _ k0
 replace z1:w.heap.size+1<w9.heap.size:=World.block_lt_of_cell? _ _ k2
 replace z2:w1.heap.size<w9.heap.size:=World.block_lt_of_cell? _ _ k4
 replace z3:w3.heap.size<w9.heap.size:=World.block_lt_of_cell? _ _ k8
 rw[←hw0]
 clear hw0
 exact bodyPost_ret (v := .tuple #[.agg #[.int .i64 (hi (q)),.int .u64 (lo (q))],.int .i64 r,.int .i64 0]) (by simp [results,Try.results33,go_sem, *]) rfl ⟨rfl,by repeat (with_reducible first|exact hB|refine bV _ (by omega) ?_|apply aA|apply aC)⟩
set_option maxHeartbeats 800000 in
theorem aFI (a d q r:Int) (ha:kC a) (hd:0<d) (hd':d≤9223372036854775807) (hn:a<0) (hz:cN a % d=0) (hq0:q=a / d) (hr0:r=a % d) (w:World):Calls Try.prog 33 #[.agg #[.int .i64 (hi (a)),.int .u64 (lo (a))],.int .i64 d] w fun e w'=>e = .returned (.tuple #[.agg #[.int .i64 (hi (q)),.int .u64 (lo (q))],.int .i64 r,.int .i64 0])∧Below w.heap.size w w':=by
 have l1:gB (d0 (cN a)):=by unfold gB d0;omega
 have l2:gB (d1 (cN a)):=by unfold gB d1;omega
 have hmb:cN a<340282366920938463463374607431768211456:=by unfold cN;unfold kC at ha;split<;>omega
 obtain⟨q0,q1,q2⟩:=rT (cN a) d (kK a) hmb hd
 have c1:IntKind.u64.wrap d=d:=by rw[IntKind.wrap_u64];omega
 have r0:=Int.emod_nonneg (cN a) (show d≠0 by omega)
 have r1:=Int.emod_lt_of_pos (cN a) hd
 have m0:0≤cN a / d:=Int.ediv_nonneg (kK a) (by omega)
 have m1:cN a / d≤cN a:=Int.ediv_le_self _ (kK a)
 have hs:decide (a<0)=true:=decide_eq_true hn
 have hma:cN a = -a:=if_pos hn
 have ha2 : -170141183460469231731687303715884105728≤a:=ha.1
 have hf:kB true (cN a / d):=aEo _ _ m0 (by unfold kC sgn;rw[if_pos rfl];omega)
 have nf:=aFp (cN a) d hd hz
 have es:sgn true (cN a / d)=q:=by rw[hq0];show -(cN a / d)=a / d;rw[←nf.1,hma,Int.neg_neg]
 have er:r=0:=by rw[hr0,←nf.2,hma,Int.neg_neg]
 subst er
 rw[hz]at q2
 have nd:¬d<1:=by omega
 clear hma hmb m0 m1 hq0 hr0 ha2 nf hz r0 r1
 go_enter Try.func33,Try.ntmps33
 go_wp2_with fail
 obtain⟨w0,hw0⟩:∃ x:World,x=((w.alloc (.cells #[.int .i64 (hi (a)),.int .u64 (lo (a))] 71)).alloc (.cells #[.int .i64 0,.int .u64 0] 71)):=⟨_,rfl⟩
 have k0:w0.cell? ⟨w.heap.size,0,none⟩=some (.int .i64 (hi (a))):=by rw[hw0];repeat (first|(refine aJ ?_ rfl;(simp;done))|refine aK ?_)
 have k1:w0.cell? ⟨w.heap.size,1,none⟩=some (.int .u64 (lo (a))):=by rw[hw0];repeat (first|(refine aJ ?_ rfl;(simp;done))|refine aK ?_)
 have k2:w0.cell? ⟨w.heap.size+1,0,none⟩=some (.int .i64 0):=by rw[hw0];repeat (first|(refine aJ ?_ rfl;(simp;done))|refine aK ?_)
 have k3:w0.cell? ⟨w.heap.size+1,1,none⟩=some (.int .u64 0):=by rw[hw0];repeat (first|(refine aJ ?_ rfl;(simp;done))|refine aK ?_)
 have z0:w.heap.size<w0.heap.size:=World.block_lt_of_cell? _ _ k0
 have z1:w.heap.size+1<w0.heap.size:=World.block_lt_of_cell? _ _ k2
 have hB:Below w.heap.size w w0:=by rw[hw0];repeat (with_reducible first|exact aD _|apply aA)
 have f1_0:w0.frozen? ⟨w.heap.size+1,0,none⟩=false:=by rw[hw0];repeat (first|(refine bM ?_;(simp;done))|(refine bN (by first|(simp;done)|(simp;omega)) ?_))
 have f1_1:w0.frozen? ⟨w.heap.size+1,1,none⟩=false:=by rw[hw0];repeat (first|(refine bM ?_;(simp;done))|(refine bN (by first|(simp;done)|(simp;omega)) ?_))
 rw[←hw0]
 clear hw0
 refine(wZ a ha _).mono ?_
 rintro e w1 ⟨rfl,hb1⟩
 replace f1_0:=aI (aE hb1 (by repeat (with_reducible first|exact aD _|apply aA|apply aC))) k2 f1_0
 replace f1_1:=aI (aE hb1 (by repeat (with_reducible first|exact aD _|apply aA|apply aC))) k3 f1_1
 replace hB:=aE hb1 (by repeat (with_reducible first|exact hB|apply aA|apply aC))
 replace k0:=cell_later (aE hb1 (by repeat (with_reducible first|exact aD _|apply aA|apply aC))) k0
 replace k1:=cell_later (aE hb1 (by repeat (with_reducible first|exact aD _|apply aA|apply aC))) k1
 replace k2:=cell_later (aE hb1 (by repeat (with_reducible first|exact aD _|apply aA|apply aC))) k2
 replace k3:=cell_later (aE hb1 (by repeat (with_reducible first|exact aD _|apply aA|apply aC))) k3
 replace z0:=World.block_lt_of_cell? _ _ k0
 replace z1:=World.block_lt_of_cell? _ _ k2
 simp only[]at z0 z1
 clear hb1
 rw[hs]
 go_wp2_with fail
 obtain⟨w2,hw0⟩:∃ x:World,x=(w1.alloc (.cells #[.bool true,.int .u64 (d0 (cN a)),.int .u64 (d1 (cN a)),.int .u64 0] 84)):=⟨_,rfl⟩
 replace f1_0:w2.frozen? ⟨w.heap.size+1,0,none⟩=false:=by rw[hw0];exact aI (by repeat (with_reducible first|exact aD _|apply aA|apply aC)) k2 f1_0
 replace f1_1:w2.frozen? ⟨w.heap.size+1,1,none⟩=false:=by rw[hw0];exact aI (by repeat (with_reducible first|exact aD _|apply aA|apply aC)) k3 f1_1
 replace k0:w2.cell? ⟨w.heap.size,0,none⟩=some (.int .i64 (hi (a))):=by rw[hw0];exact cell_later (by repeat (with_reducible first|exact aD _|apply aA|apply aC)) k0
 replace k1:w2.cell? ⟨w.heap.size,1,none⟩=some (.int .u64 (lo (a))):=by rw[hw0];exact cell_later (by repeat (with_reducible first|exact aD _|apply aA|apply aC)) k1
 replace k2:w2.cell? ⟨w.heap.size+1,0,none⟩=some (.int .i64 0):=by rw[hw0];exact cell_later (by repeat (with_reducible first|exact aD _|apply aA|apply aC)) k2
 replace k3:w2.cell? ⟨w.heap.size+1,1,none⟩=some (.int .u64 0):=by rw[hw0];exact cell_later (by repeat (with_reducible first|exact aD _|apply aA|apply aC)) k3
 have k4:w2.cell? ⟨w1.heap.size,0,none⟩=some (.bool true):=by rw[hw0];repeat (first|(refine aJ ?_ rfl;(simp;done))|refine aK ?_)
 have k5:w2.cell? ⟨w1.heap.size,1,none⟩=some (.int .u64 (d0 (cN a))):=by rw[hw0];repeat (first|(refine aJ ?_ rfl;(simp;done))|refine aK ?_)
 have k6:w2.cell? ⟨w1.heap.size,2,none⟩=some (.int .u64 (d1 (cN a))):=by rw[hw0];repeat (first|(refine aJ ?_ rfl;(simp;done))|refine aK ?_)
 have k7:w2.cell? ⟨w1.heap.size,3,none⟩=some (.int .u64 0):=by rw[hw0];repeat (first|(refine aJ ?_ rfl;(simp;done))|refine aK ?_)
 have z0:w.heap.size<w2.heap.size:=World.block_lt_of_cell? _ _ k0
 have z1:w.heap.size+1<w2.heap.size:=World.block_lt_of_cell? _ _ k2
 have z2:w1.heap.size<w2.heap.size:=World.block_lt_of_cell? _ _ k4
 replace hB:Below w.heap.size w w2:=by rw[hw0];repeat (with_reducible first|exact hB|apply aA)
 rw[←hw0]
 clear hw0
 refine(kO _ _ d l1 l2 ⟨by omega,by omega⟩ _).mono ?_
 rintro e w3 ⟨rfl,hb1⟩
 replace f1_0:=aI (aE hb1 (by repeat (with_reducible first|exact aD _|apply aA|apply aC))) k2 f1_0
 replace f1_1:=aI (aE hb1 (by repeat (with_reducible first|exact aD _|apply aA|apply aC))) k3 f1_1
 replace hB:=aE hb1 (by repeat (with_reducible first|exact hB|apply aA|apply aC))
 replace k0:=cell_later (aE hb1 (by repeat (with_reducible first|exact aD _|apply aA|apply aC))) k0
 replace k1:=cell_later (aE hb1 (by repeat (with_reducible first|exact aD _|apply aA|apply aC))) k1
 replace k2:=cell_later (aE hb1 (by repeat (with_reducible first|exact aD _|apply aA|apply aC))) k2
 replace k3:=cell_later (aE hb1 (by repeat (with_reducible first|exact aD _|apply aA|apply aC))) k3
 replace k4:=cell_later (aE hb1 (by repeat (with_reducible first|exact aD _|apply aA|apply aC))) k4
 replace k5:=cell_later (aE hb1 (by repeat (with_reducible first|exact aD _|apply aA|apply aC))) k5
 replace k6:=cell_later (aE hb1 (by repeat (with_reducible first|exact aD _|apply aA|apply aC))) k6
 replace k7:=cell_later (aE hb1 (by repeat (with_reducible first|exact aD _|apply aA|apply aC))) k7
 replace z0:=World.block_lt_of_cell? _ _ k0
 replace z1:=World.block_lt_of_cell? _ _ k2
 replace z2:=World.block_lt_of_cell? _ _ k4
 simp only[]at z0 z1 z2
 clear hb1
 rw[q0,q1,q2]
 go_wp2_with fail
 obtain⟨w4,hw0⟩:∃ x:World,x=(w3.alloc (.cells #[.int .u64 (d0 (cN a / d)),.int .u64 (d1 (cN a / d)),.int .u64 0] 82)):=⟨_,rfl⟩
 replace f1_0:w4.frozen? ⟨w.heap.size+1,0,none⟩=false:=by rw[hw0];exact aI (by repeat (with_reducible first|exact aD _|apply aA|apply aC)) k2 f1_0
 replace f1_1:w4.frozen? ⟨w.heap.size+1,1,none⟩=false:=by rw[hw0];exact aI (by repeat (with_reducible first|exact aD _|apply aA|apply aC)) k3 f1_1
 replace k0:w4.cell? ⟨w.heap.size,0,none⟩=some (.int .i64 (hi (a))):=by rw[hw0];exact cell_later (by repeat (with_reducible first|exact aD _|apply aA|apply aC)) k0
 replace k1:w4.cell? ⟨w.heap.size,1,none⟩=some (.int .u64 (lo (a))):=by rw[hw0];exact cell_later (by repeat (with_reducible first|exact aD _|apply aA|apply aC)) k1
 replace k2:w4.cell? ⟨w.heap.size+1,0,none⟩=some (.int .i64 0):=by rw[hw0];exact cell_later (by repeat (with_reducible first|exact aD _|apply aA|apply aC)) k2
 replace k3:w4.cell? ⟨w.heap.size+1,1,none⟩=some (.int .u64 0):=by rw[hw0];exact cell_later (by repeat (with_reducible first|exact aD _|apply aA|apply aC)) k3
 replace k4:w4.cell? ⟨w1.heap.size,0,none⟩=some (.bool true):=by rw[hw0];exact cell_later (by repeat (with_reducible first|exact aD _|apply aA|apply aC)) k4
 replace k5:w4.cell? ⟨w1.heap.size,1,none⟩=some (.int .u64 (d0 (cN a))):=by rw[hw0];exact cell_later (by repeat (with_reducible first|exact aD _|apply aA|apply aC)) k5
 replace k6:w4.cell? ⟨w1.heap.size,2,none⟩=some (.int .u64 (d1 (cN a))):=by rw[hw0];exact cell_later (by repeat (with_reducible first|exact aD _|apply aA|apply aC)) k6
 replace k7:w4.cell? ⟨w1.heap.size,3,none⟩=some (.int .u64 0):=by rw[hw0];exact cell_later (by repeat (with_reducible first|exact aD _|apply aA|apply aC)) k7
 have k8:w4.cell? ⟨w3.heap.size,0,none⟩=some (.int .u64 (d0 (cN a / d))):=by rw[hw0];repeat (first|(refine aJ ?_ rfl;(simp;done))|refine aK ?_)
 have k9:w4.cell? ⟨w3.heap.size,1,none⟩=some (.int .u64 (d1 (cN a / d))):=by rw[hw0];repeat (first|(refine aJ ?_ rfl;(simp;done))|refine aK ?_)
 have k10:w4.cell? ⟨w3.heap.size,2,none⟩=some (.int .u64 0):=by rw[hw0];repeat (first|(refine aJ ?_ rfl;(simp;done))|refine aK ?_)
 have z0:w.heap.size<w4.heap.size:=World.block_lt_of_cell? _ _ k0
 have z1:w.heap.size+1<w4.heap.size:=World.block_lt_of_cell? _ _ k2
 have z2:w1.heap.size<w4.heap.size:=World.block_lt_of_cell? _ _ k4
 have z3:w3.heap.size<w4.heap.size:=World.block_lt_of_cell? _ _ k8
 replace hB:Below w.heap.size w w4:=by rw[hw0];repeat (with_reducible first|exact hB|apply aA)
 rw[←hw0]
 clear hw0
 refine(sV _ _ hf _).mono ?_
 rintro e w5 ⟨rfl,hb1⟩
 replace f1_0:=aI (aE hb1 (by repeat (with_reducible first|exact aD _|apply aA|apply aC))) k2 f1_0
 replace f1_1:=aI (aE hb1 (by repeat (with_reducible first|exact aD _|apply aA|apply aC))) k3 f1_1
 replace hB:=aE hb1 (by repeat (with_reducible first|exact hB|apply aA|apply aC))
 replace k0:=cell_later (aE hb1 (by repeat (with_reducible first|exact aD _|apply aA|apply aC))) k0
 replace k1:=cell_later (aE hb1 (by repeat (with_reducible first|exact aD _|apply aA|apply aC))) k1
 replace k2:=cell_later (aE hb1 (by repeat (with_reducible first|exact aD _|apply aA|apply aC))) k2
 replace k3:=cell_later (aE hb1 (by repeat (with_reducible first|exact aD _|apply aA|apply aC))) k3
 replace k4:=cell_later (aE hb1 (by repeat (with_reducible first|exact aD _|apply aA|apply aC))) k4
 replace k5:=cell_later (aE hb1 (by repeat (with_reducible first|exact aD _|apply aA|apply aC))) k5
 replace k6:=cell_later (aE hb1 (by repeat (with_reducible first|exact aD _|apply aA|apply aC))) k6
 replace k7:=cell_later (aE hb1 (by repeat (with_reducible first|exact aD _|apply aA|apply aC))) k7
 replace k8:=cell_later (aE hb1 (by repeat (with_reducible first|exact aD _|apply aA|apply aC))) k8
 replace k9:=cell_later (aE hb1 (by repeat (with_reducible first|exact aD _|apply aA|apply aC))) k9
 replace k10:=cell_later (aE hb1 (by repeat (with_reducible first|exact aD _|apply aA|apply aC))) k10
 replace z0:=World.block_lt_of_cell? _ _ k0
 replace z1:=World.block_lt_of_cell? _ _ k2
 replace z2:=World.block_lt_of_cell? _ _ k4
 replace z3:=World.block_lt_of_cell? _ _ k8
 simp only[]at z0 z1 z2 z3
 clear hb1
 rw[es]
 go_wp2
 obtain⟨w9,hw0⟩:∃ x:World,x=((((w5.setCell ⟨w.heap.size+1,0,none⟩ (.int .i64 (hi q))).setCell ⟨w.heap.size+1,1,none⟩ (.int .u64 (lo q))).setCell ⟨w.heap.size+1,0,none⟩ (.int .i64 (hi q))).setCell ⟨w.heap.size+1,1,none⟩ (.int .u64 (lo q))):=⟨_,rfl⟩
 have new_k0:w9.cell? ⟨w.heap.size,0,none⟩=some (.int .i64 (hi (a))):=by rw[hw0];exact(aB (by omega) (aB (by omega) (aB (by omega) (aB (by omega) k0))))
 have new_k1:w9.cell? ⟨w.heap.size,1,none⟩=some (.int .u64 (lo (a))):=by rw[hw0];exact(aB (by omega) (aB (by omega) (aB (by omega) (aB (by omega) k1))))
 have new_k2:w9.cell? ⟨w.heap.size+1,0,none⟩=some (.int .i64 (hi q)):=by rw[hw0];exact(aB (by omega) (aX (aB (by omega) (aX k2))))
 have new_k3:w9.cell? ⟨w.heap.size+1,1,none⟩=some (.int .u64 (lo q)):=by rw[hw0];exact(aX (aB (by omega) (aX (aB (by omega) k3))))
 have new_k4:w9.cell? ⟨w1.heap.size,0,none⟩=some (.bool true):=by rw[hw0];exact(aB (by omega) (aB (by omega) (aB (by omega) (aB (by omega) k4))))
 have new_k5:w9.cell? ⟨w1.heap.size,1,none⟩=some (.int .u64 (d0 (cN a))):=by rw[hw0];exact(aB (by omega) (aB (by omega) (aB (by omega) (aB (by omega) k5))))
 have new_k6:w9.cell? ⟨w1.heap.size,2,none⟩=some (.int .u64 (d1 (cN a))):=by rw[hw0];exact(aB (by omega) (aB (by omega) (aB (by omega) (aB (by omega) k6))))
 have new_k7:w9.cell? ⟨w1.heap.size,3,none⟩=some (.int .u64 0):=by rw[hw0];exact(aB (by omega) (aB (by omega) (aB (by omega) (aB (by omega) k7))))
 have new_k8:w9.cell? ⟨w3.heap.size,0,none⟩=some (.int .u64 (d0 (cN a / d))):=by rw[hw0];exact(aB (by omega) (aB (by omega) (aB (by omega) (aB (by omega) k8))))
 have new_k9:w9.cell? ⟨w3.heap.size,1,none⟩=some (.int .u64 (d1 (cN a / d))):=by rw[hw0];exact(aB (by omega) (aB (by omega) (aB (by omega) (aB (by omega) k9))))
 have new_k10:w9.cell? ⟨w3.heap.size,2,none⟩=some (.int .u64 0):=by rw[hw0];exact(aB (by omega) (aB (by omega) (aB (by omega) (aB (by omega) k10))))
 replace f1_0:w9.frozen? ⟨w.heap.size+1,0,none⟩=false:=by rw[hw0];(repeat rw[World.frozen?_setCell]);exact f1_0
 replace f1_1:w9.frozen? ⟨w.heap.size+1,1,none⟩=false:=by rw[hw0];(repeat rw[World.frozen?_setCell]);exact f1_1
 replace hB:Below w.heap.size w w9:=by rw[hw0];repeat (with_reducible first|exact hB|refine bV _ (by omega) ?_)
 clear k0 k1 k2 k3 k4 k5 k6 k7 k8 k9 k10
 have k0:=new_k0;clear new_k0
 have k1:=new_k1;clear new_k1
 have k2:=new_k2;clear new_k2
 have k3:=new_k3;clear new_k3
 have k4:=new_k4;clear new_k4
 have k5:=new_k5;clear new_k5
 have k6:=new_k6;clear new_k6
 have k7:=new_k7;clear new_k7
 have k8:=new_k8;clear new_k8
 have k9:=new_k9;clear new_k9
 have k10:=new_k10;clear new_k10
 replace z0:w.heap.size<w9.heap.size:=World.block_lt_of_cell? _ _ k0
 replace z1:w.heap.size+1<w9.heap.size:=World.block_lt_of_cell? _ _ k2
 replace z2:w1.heap.size<w9.heap.size:=World.block_lt_of_cell? _ _ k4
 replace z3:w3.heap.size<w9.heap.size:=World.block_lt_of_cell? _ _ k8
 rw[←hw0]
 clear hw0
 exact bodyPost_ret (v := .tuple #[.agg #[.int .i64 (hi (q)),.int .u64 (lo (q))],.int .i64 0,.int .i64 0]) (by simp [results,Try.results33,go_sem, *]) rfl ⟨rfl,by repeat (with_reducible first|exact hB|refine bV _ (by omega) ?_|apply aA|apply aC)⟩
set_option maxHeartbeats 800000 in
theorem aC6 (a d q r:Int) (ha:kC a) (hd:0<d) (hd':d≤9223372036854775807) (hn:a<0) (hz:0<cN a % d) (hq0:q=a / d) (hr0:r=a % d) (w:World):Calls Try.prog 33 #[.agg #[.int .i64 (hi (a)),.int .u64 (lo (a))],.int .i64 d] w fun e w'=>e = .returned (.tuple #[.agg #[.int .i64 (hi (q)),.int .u64 (lo (q))],.int .i64 r,.int .i64 0])∧Below w.heap.size w w':=by
 have l1:gB (d0 (cN a)):=by unfold gB d0;omega
 have l2:gB (d1 (cN a)):=by unfold gB d1;omega
 have hmb:cN a<340282366920938463463374607431768211456:=by unfold cN;unfold kC at ha;split<;>omega
 obtain⟨q0,q1,q2⟩:=rT (cN a) d (kK a) hmb hd
 have c1:IntKind.u64.wrap d=d:=by rw[IntKind.wrap_u64];omega
 have r0:=Int.emod_nonneg (cN a) (show d≠0 by omega)
 have r1:=Int.emod_lt_of_pos (cN a) hd
 have m0:0≤cN a / d:=Int.ediv_nonneg (kK a) (by omega)
 have m1:cN a / d≤cN a:=Int.ediv_le_self _ (kK a)
 have hs:decide (a<0)=true:=decide_eq_true hn
 have hma:cN a = -a:=if_pos hn
 have ha2 : -170141183460469231731687303715884105728≤a:=ha.1
 have hf:kB true (cN a / d):=aEo _ _ m0 (by unfold kC sgn;rw[if_pos rfl];omega)
 have nf:=aDT (cN a) d hd hz
 have es:sgn true (cN a / d) = -(cN a / d):=rfl
 have eq2 : -(cN a / d)-1=q:=by rw[hq0,←nf.1,hma,Int.neg_neg]
 have er:d-cN a % d=r:=by rw[hr0,←nf.2,hma,Int.neg_neg]
 have hq:kC (-(cN a / d)):=by unfold kC;omega
 have hone:kC 1:=by unfold kC;omega
 have kd:cN a / d<cN a:=by
  rcases Int.lt_or_le 1 d with g|g
  ·have:=Int.mul_le_mul_of_nonneg_left (show 2≤d by omega) (kK a)
   exact(Int.ediv_lt_iff_lt_mul hd).2 (by omega)
  ·have:d=1:=by omega
   subst this;simp at hz
 have hr:kC (-(cN a / d)-1):=by unfold kC;omega
 have c3:IntKind.u64.wrap (d-cN a % d)=r:=by rw[er,IntKind.wrap_u64];omega
 have nd:¬d<1:=by omega
 have c2:IntKind.i64.wrap r=r:=IntWalk.i64_in _ (by omega)
 clear hma hmb m0 m1 hq0 hr0 ha2 nf kd er
 go_enter Try.func33,Try.ntmps33
 go_wp2_with fail
 obtain⟨w0,hw0⟩:∃ x:World,x=((w.alloc (.cells #[.int .i64 (hi (a)),.int .u64 (lo (a))] 71)).alloc (.cells #[.int .i64 0,.int .u64 0] 71)):=⟨_,rfl⟩
 have k0:w0.cell? ⟨w.heap.size,0,none⟩=some (.int .i64 (hi (a))):=by rw[hw0];repeat (first|(refine aJ ?_ rfl;(simp;done))|refine aK ?_)
 have k1:w0.cell? ⟨w.heap.size,1,none⟩=some (.int .u64 (lo (a))):=by rw[hw0];repeat (first|(refine aJ ?_ rfl;(simp;done))|refine aK ?_)
 have k2:w0.cell? ⟨w.heap.size+1,0,none⟩=some (.int .i64 0):=by rw[hw0];repeat (first|(refine aJ ?_ rfl;(simp;done))|refine aK ?_)
 have k3:w0.cell? ⟨w.heap.size+1,1,none⟩=some (.int .u64 0):=by rw[hw0];repeat (first|(refine aJ ?_ rfl;(simp;done))|refine aK ?_)
 have z0:w.heap.size<w0.heap.size:=World.block_lt_of_cell? _ _ k0
 have z1:w.heap.size+1<w0.heap.size:=World.block_lt_of_cell? _ _ k2
 have hB:Below w.heap.size w w0:=by rw[hw0];repeat (with_reducible first|exact aD _|apply aA)
 have f1_0:w0.frozen? ⟨w.heap.size+1,0,none⟩=false:=by rw[hw0];repeat (first|(refine bM ?_;(simp;done))|(refine bN (by first|(simp;done)|(simp;omega)) ?_))
 have f1_1:w0.frozen? ⟨w.heap.size+1,1,none⟩=false:=by rw[hw0];repeat (first|(refine bM ?_;(simp;done))|(refine bN (by first|(simp;done)|(simp;omega)) ?_))
 rw[←hw0]
 clear hw0
 refine(wZ a ha _).mono ?_
 rintro e w1 ⟨rfl,hb1⟩
 replace f1_0:=aI (aE hb1 (by repeat (with_reducible first|exact aD _|apply aA|apply aC))) k2 f1_0
 replace f1_1:=aI (aE hb1 (by repeat (with_reducible first|exact aD _|apply aA|apply aC))) k3 f1_1
 replace hB:=aE hb1 (by repeat (with_reducible first|exact hB|apply aA|apply aC))
 replace k0:=cell_later (aE hb1 (by repeat (with_reducible first|exact aD _|apply aA|apply aC))) k0
 replace k1:=cell_later (aE hb1 (by repeat (with_reducible first|exact aD _|apply aA|apply aC))) k1
 replace k2:=cell_later (aE hb1 (by repeat (with_reducible first|exact aD _|apply aA|apply aC))) k2
 replace k3:=cell_later (aE hb1 (by repeat (with_reducible first|exact aD _|apply aA|apply aC))) k3
 replace z0:=World.block_lt_of_cell? _ _ k0
 replace z1:=World.block_lt_of_cell? _ _ k2
 simp only[]at z0 z1
 clear hb1
 rw[hs]
 go_wp2_with fail
 obtain⟨w2,hw0⟩:∃ x:World,x=(w1.alloc (.cells #[.bool true,.int .u64 (d0 (cN a)),.int .u64 (d1 (cN a)),.int .u64 0] 84)):=⟨_,rfl⟩
 replace f1_0:w2.frozen? ⟨w.heap.size+1,0,none⟩=false:=by rw[hw0];exact aI (by repeat (with_reducible first|exact aD _|apply aA|apply aC)) k2 f1_0
 replace f1_1:w2.frozen? ⟨w.heap.size+1,1,none⟩=false:=by rw[hw0];exact aI (by repeat (with_reducible first|exact aD _|apply aA|apply aC)) k3 f1_1
 replace k0:w2.cell? ⟨w.heap.size,0,none⟩=some (.int .i64 (hi (a))):=by rw[hw0];exact cell_later (by repeat (with_reducible first|exact aD _|apply aA|apply aC)) k0
 replace k1:w2.cell? ⟨w.heap.size,1,none⟩=some (.int .u64 (lo (a))):=by rw[hw0];exact cell_later (by repeat (with_reducible first|exact aD _|apply aA|apply aC)) k1
 replace k2:w2.cell? ⟨w.heap.size+1,0,none⟩=some (.int .i64 0):=by rw[hw0];exact cell_later (by repeat (with_reducible first|exact aD _|apply aA|apply aC)) k2
 replace k3:w2.cell? ⟨w.heap.size+1,1,none⟩=some (.int .u64 0):=by rw[hw0];exact cell_later (by repeat (with_reducible first|exact aD _|apply aA|apply aC)) k3
 have k4:w2.cell? ⟨w1.heap.size,0,none⟩=some (.bool true):=by rw[hw0];repeat (first|(refine aJ ?_ rfl;(simp;done))|refine aK ?_)
 have k5:w2.cell? ⟨w1.heap.size,1,none⟩=some (.int .u64 (d0 (cN a))):=by rw[hw0];repeat (first|(refine aJ ?_ rfl;(simp;done))|refine aK ?_)
 have k6:w2.cell? ⟨w1.heap.size,2,none⟩=some (.int .u64 (d1 (cN a))):=by rw[hw0];repeat (first|(refine aJ ?_ rfl;(simp;done))|refine aK ?_)
 have k7:w2.cell? ⟨w1.heap.size,3,none⟩=some (.int .u64 0):=by rw[hw0];repeat (first|(refine aJ ?_ rfl;(simp;done))|refine aK ?_)
 have z0:w.heap.size<w2.heap.size:=World.block_lt_of_cell? _ _ k0
 have z1:w.heap.size+1<w2.heap.size:=World.block_lt_of_cell? _ _ k2
 have z2:w1.heap.size<w2.heap.size:=World.block_lt_of_cell? _ _ k4
 replace hB:Below w.heap.size w w2:=by rw[hw0];repeat (with_reducible first|exact hB|apply aA)
 rw[←hw0]
 clear hw0
 refine(kO _ _ d l1 l2 ⟨by omega,by omega⟩ _).mono ?_
 rintro e w3 ⟨rfl,hb1⟩
 replace f1_0:=aI (aE hb1 (by repeat (with_reducible first|exact aD _|apply aA|apply aC))) k2 f1_0
 replace f1_1:=aI (aE hb1 (by repeat (with_reducible first|exact aD _|apply aA|apply aC))) k3 f1_1
 replace hB:=aE hb1 (by repeat (with_reducible first|exact hB|apply aA|apply aC))
 replace k0:=cell_later (aE hb1 (by repeat (with_reducible first|exact aD _|apply aA|apply aC))) k0
 replace k1:=cell_later (aE hb1 (by repeat (with_reducible first|exact aD _|apply aA|apply aC))) k1
 replace k2:=cell_later (aE hb1 (by repeat (with_reducible first|exact aD _|apply aA|apply aC))) k2
 replace k3:=cell_later (aE hb1 (by repeat (with_reducible first|exact aD _|apply aA|apply aC))) k3
 replace k4:=cell_later (aE hb1 (by repeat (with_reducible first|exact aD _|apply aA|apply aC))) k4
 replace k5:=cell_later (aE hb1 (by repeat (with_reducible first|exact aD _|apply aA|apply aC))) k5
 replace k6:=cell_later (aE hb1 (by repeat (with_reducible first|exact aD _|apply aA|apply aC))) k6
 replace k7:=cell_later (aE hb1 (by repeat (with_reducible first|exact aD _|apply aA|apply aC))) k7
 replace z0:=World.block_lt_of_cell? _ _ k0
 replace z1:=World.block_lt_of_cell? _ _ k2
 replace z2:=World.block_lt_of_cell? _ _ k4
 simp only[]at z0 z1 z2
 clear hb1
 rw[q0,q1,q2]
 go_wp2_with fail
 obtain⟨w4,hw0⟩:∃ x:World,x=(w3.alloc (.cells #[.int .u64 (d0 (cN a / d)),.int .u64 (d1 (cN a / d)),.int .u64 0] 82)):=⟨_,rfl⟩
 replace f1_0:w4.frozen? ⟨w.heap.size+1,0,none⟩=false:=by rw[hw0];exact aI (by repeat (with_reducible first|exact aD _|apply aA|apply aC)) k2 f1_0
 replace f1_1:w4.frozen? ⟨w.heap.size+1,1,none⟩=false:=by rw[hw0];exact aI (by repeat (with_reducible first|exact aD _|apply aA|apply aC)) k3 f1_1
 replace k0:w4.cell? ⟨w.heap.size,0,none⟩=some (.int .i64 (hi (a))):=by rw[hw0];exact cell_later (by repeat (with_reducible first|exact aD _|apply aA|apply aC)) k0
 replace k1:w4.cell? ⟨w.heap.size,1,none⟩=some (.int .u64 (lo (a))):=by rw[hw0];exact cell_later (by repeat (with_reducible first|exact aD _|apply aA|apply aC)) k1
 replace k2:w4.cell? ⟨w.heap.size+1,0,none⟩=some (.int .i64 0):=by rw[hw0];exact cell_later (by repeat (with_reducible first|exact aD _|apply aA|apply aC)) k2
 replace k3:w4.cell? ⟨w.heap.size+1,1,none⟩=some (.int .u64 0):=by rw[hw0];exact cell_later (by repeat (with_reducible first|exact aD _|apply aA|apply aC)) k3
 replace k4:w4.cell? ⟨w1.heap.size,0,none⟩=some (.bool true):=by rw[hw0];exact cell_later (by repeat (with_reducible first|exact aD _|apply aA|apply aC)) k4
 replace k5:w4.cell? ⟨w1.heap.size,1,none⟩=some (.int .u64 (d0 (cN a))):=by rw[hw0];exact cell_later (by repeat (with_reducible first|exact aD _|apply aA|apply aC)) k5
 replace k6:w4.cell? ⟨w1.heap.size,2,none⟩=some (.int .u64 (d1 (cN a))):=by rw[hw0];exact cell_later (by repeat (with_reducible first|exact aD _|apply aA|apply aC)) k6
 replace k7:w4.cell? ⟨w1.heap.size,3,none⟩=some (.int .u64 0):=by rw[hw0];exact cell_later (by repeat (with_reducible first|exact aD _|apply aA|apply aC)) k7
 have k8:w4.cell? ⟨w3.heap.size,0,none⟩=some (.int .u64 (d0 (cN a / d))):=by rw[hw0];repeat (first|(refine aJ ?_ rfl;(simp;done))|refine aK ?_)
 have k9:w4.cell? ⟨w3.heap.size,1,none⟩=some (.int .u64 (d1 (cN a / d))):=by rw[hw0];repeat (first|(refine aJ ?_ rfl;(simp;done))|refine aK ?_)
 have k10:w4.cell? ⟨w3.heap.size,2,none⟩=some (.int .u64 0):=by rw[hw0];repeat (first|(refine aJ ?_ rfl;(simp;done))|refine aK ?_)
 have z0:w.heap.size<w4.heap.size:=World.block_lt_of_cell? _ _ k0
 have z1:w.heap.size+1<w4.heap.size:=World.block_lt_of_cell? _ _ k2
 have z2:w1.heap.size<w4.heap.size:=World.block_lt_of_cell? _ _ k4
 have z3:w3.heap.size<w4.heap.size:=World.block_lt_of_cell? _ _ k8
 replace hB:Below w.heap.size w w4:=by rw[hw0];repeat (with_reducible first|exact hB|apply aA)
 rw[←hw0]
 clear hw0
 refine(sV _ _ hf _).mono ?_
 rintro e w5 ⟨rfl,hb1⟩
 replace f1_0:=aI (aE hb1 (by repeat (with_reducible first|exact aD _|apply aA|apply aC))) k2 f1_0
 replace f1_1:=aI (aE hb1 (by repeat (with_reducible first|exact aD _|apply aA|apply aC))) k3 f1_1
 replace hB:=aE hb1 (by repeat (with_reducible first|exact hB|apply aA|apply aC))
 replace k0:=cell_later (aE hb1 (by repeat (with_reducible first|exact aD _|apply aA|apply aC))) k0
 replace k1:=cell_later (aE hb1 (by repeat (with_reducible first|exact aD _|apply aA|apply aC))) k1
 replace k2:=cell_later (aE hb1 (by repeat (with_reducible first|exact aD _|apply aA|apply aC))) k2
 replace k3:=cell_later (aE hb1 (by repeat (with_reducible first|exact aD _|apply aA|apply aC))) k3
 replace k4:=cell_later (aE hb1 (by repeat (with_reducible first|exact aD _|apply aA|apply aC))) k4
 replace k5:=cell_later (aE hb1 (by repeat (with_reducible first|exact aD _|apply aA|apply aC))) k5
 replace k6:=cell_later (aE hb1 (by repeat (with_reducible first|exact aD _|apply aA|apply aC))) k6
 replace k7:=cell_later (aE hb1 (by repeat (with_reducible first|exact aD _|apply aA|apply aC))) k7
 replace k8:=cell_later (aE hb1 (by repeat (with_reducible first|exact aD _|apply aA|apply aC))) k8
 replace k9:=cell_later (aE hb1 (by repeat (with_reducible first|exact aD _|apply aA|apply aC))) k9
 replace k10:=cell_later (aE hb1 (by repeat (with_reducible first|exact aD _|apply aA|apply aC))) k10
 replace z0:=World.block_lt_of_cell? _ _ k0
 replace z1:=World.block_lt_of_cell? _ _ k2
 replace z2:=World.block_lt_of_cell? _ _ k4
 replace z3:=World.block_lt_of_cell? _ _ k8
 simp only[]at z0 z1 z2 z3
 clear hb1
 rw[es]
 go_wp2
 obtain⟨w6,hw0⟩:∃ x:World,x=((w5.setCell ⟨w.heap.size+1,0,none⟩ (.int .i64 (hi (-(cN a / d))))).setCell ⟨w.heap.size+1,1,none⟩ (.int .u64 (lo (-(cN a / d))))):=⟨_,rfl⟩
 have new_k0:w6.cell? ⟨w.heap.size,0,none⟩=some (.int .i64 (hi (a))):=by rw[hw0];exact(aB (by omega) (aB (by omega) k0))
 have new_k1:w6.cell? ⟨w.heap.size,1,none⟩=some (.int .u64 (lo (a))):=by rw[hw0];exact(aB (by omega) (aB (by omega) k1))
 have new_k2:w6.cell? ⟨w.heap.size+1,0,none⟩=some (.int .i64 (hi (-(cN a / d)))):=by rw[hw0];exact(aB (by omega) (aX k2))
 have new_k3:w6.cell? ⟨w.heap.size+1,1,none⟩=some (.int .u64 (lo (-(cN a / d)))):=by rw[hw0];exact(aX (aB (by omega) k3))
 have new_k4:w6.cell? ⟨w1.heap.size,0,none⟩=some (.bool true):=by rw[hw0];exact(aB (by omega) (aB (by omega) k4))
 have new_k5:w6.cell? ⟨w1.heap.size,1,none⟩=some (.int .u64 (d0 (cN a))):=by rw[hw0];exact(aB (by omega) (aB (by omega) k5))
 have new_k6:w6.cell? ⟨w1.heap.size,2,none⟩=some (.int .u64 (d1 (cN a))):=by rw[hw0];exact(aB (by omega) (aB (by omega) k6))
 have new_k7:w6.cell? ⟨w1.heap.size,3,none⟩=some (.int .u64 0):=by rw[hw0];exact(aB (by omega) (aB (by omega) k7))
 have new_k8:w6.cell? ⟨w3.heap.size,0,none⟩=some (.int .u64 (d0 (cN a / d))):=by rw[hw0];exact(aB (by omega) (aB (by omega) k8))
 have new_k9:w6.cell? ⟨w3.heap.size,1,none⟩=some (.int .u64 (d1 (cN a / d))):=by rw[hw0];exact(aB (by omega) (aB (by omega) k9))
 have new_k10:w6.cell? ⟨w3.heap.size,2,none⟩=some (.int .u64 0):=by rw[hw0];exact(aB (by omega) (aB (by omega) k10))
 replace f1_0:w6.frozen? ⟨w.heap.size+1,0,none⟩=false:=by rw[hw0];(repeat rw[World.frozen?_setCell]);exact f1_0
 replace f1_1:w6.frozen? ⟨w.heap.size+1,1,none⟩=false:=by rw[hw0];(repeat rw[World.frozen?_setCell]);exact f1_1
 replace hB:Below w.heap.size w w6:=by rw[hw0];repeat (with_reducible first|exact hB|refine bV _ (by omega) ?_)
 clear k0 k1 k2 k3 k4 k5 k6 k7 k8 k9 k10
 have k0:=new_k0;clear new_k0
 have k1:=new_k1;clear new_k1
 have k2:=new_k2;clear new_k2
 have k3:=new_k3;clear new_k3
 have k4:=new_k4;clear new_k4
 have k5:=new_k5;clear new_k5
 have k6:=new_k6;clear new_k6
 have k7:=new_k7;clear new_k7
 have k8:=new_k8;clear new_k8
 have k9:=new_k9;clear new_k9
 have k10:=new_k10;clear new_k10
 replace z0:w.heap.size<w6.heap.size:=World.block_lt_of_cell? _ _ k0
 replace z1:w.heap.size+1<w6.heap.size:=World.block_lt_of_cell? _ _ k2
 replace z2:w1.heap.size<w6.heap.size:=World.block_lt_of_cell? _ _ k4
 replace z3:w3.heap.size<w6.heap.size:=World.block_lt_of_cell? _ _ k8
 rw[←hw0]
 clear hw0
 go_region_with (first
  |(go_at_call 31;refine(xT 1 ⟨by omega,by omega⟩ _).mono ?_;rintro e w7 ⟨rfl,hb1⟩;replace f1_0:=aI (aE hb1 (by repeat (with_reducible first|exact aD _|apply aA|apply aC))) k2 f1_0;replace f1_1:=aI (aE hb1 (by repeat (with_reducible first|exact aD _|apply aA|apply aC))) k3 f1_1;replace hB:=aE hb1 (by repeat (with_reducible first|exact hB|apply aA|apply aC));replace k0:=cell_later (aE hb1 (by repeat (with_reducible first|exact aD _|apply aA|apply aC))) k0;replace k1:=cell_later (aE hb1 (by repeat (with_reducible first|exact aD _|apply aA|apply aC))) k1;replace k2:=cell_later (aE hb1 (by repeat (with_reducible first|exact aD _|apply aA|apply aC))) k2;replace k3:=cell_later (aE hb1 (by repeat (with_reducible first|exact aD _|apply aA|apply aC))) k3;replace k4:=cell_later (aE hb1 (by repeat (with_reducible first|exact aD _|apply aA|apply aC))) k4;replace k5:=cell_later (aE hb1 (by repeat (with_reducible first|exact aD _|apply aA|apply aC))) k5;replace k6:=cell_later (aE hb1 (by repeat (with_reducible first|exact aD _|apply aA|apply aC))) k6;replace k7:=cell_later (aE hb1 (by repeat (with_reducible first|exact aD _|apply aA|apply aC))) k7;replace k8:=cell_later (aE hb1 (by repeat (with_reducible first|exact aD _|apply aA|apply aC))) k8;replace k9:=cell_later (aE hb1 (by repeat (with_reducible first|exact aD _|apply aA|apply aC))) k9;replace k10:=cell_later (aE hb1 (by repeat (with_reducible first|exact aD _|apply aA|apply aC))) k10;replace z0:=World.block_lt_of_cell? _ _ k0;replace z1:=World.block_lt_of_cell? _ _ k2;replace z2:=World.block_lt_of_cell? _ _ k4;replace z3:=World.block_lt_of_cell? _ _ k8;simp only[]at z0 z1 z2 z3;clear hb1)
  |(go_at_call 38;refine(aMg _ _ hq hone hr _).mono ?_;rintro e w8 ⟨rfl,hb1⟩;replace f1_0:=aI (aE hb1 (by repeat (with_reducible first|exact aD _|apply aA|apply aC))) k2 f1_0;replace f1_1:=aI (aE hb1 (by repeat (with_reducible first|exact aD _|apply aA|apply aC))) k3 f1_1;replace hB:=aE hb1 (by repeat (with_reducible first|exact hB|apply aA|apply aC));replace k0:=cell_later (aE hb1 (by repeat (with_reducible first|exact aD _|apply aA|apply aC))) k0;replace k1:=cell_later (aE hb1 (by repeat (with_reducible first|exact aD _|apply aA|apply aC))) k1;replace k2:=cell_later (aE hb1 (by repeat (with_reducible first|exact aD _|apply aA|apply aC))) k2;replace k3:=cell_later (aE hb1 (by repeat (with_reducible first|exact aD _|apply aA|apply aC))) k3;replace k4:=cell_later (aE hb1 (by repeat (with_reducible first|exact aD _|apply aA|apply aC))) k4;replace k5:=cell_later (aE hb1 (by repeat (with_reducible first|exact aD _|apply aA|apply aC))) k5;replace k6:=cell_later (aE hb1 (by repeat (with_reducible first|exact aD _|apply aA|apply aC))) k6;replace k7:=cell_later (aE hb1 (by repeat (with_reducible first|exact aD _|apply aA|apply aC))) k7;replace k8:=cell_later (aE hb1 (by repeat (with_reducible first|exact aD _|apply aA|apply aC))) k8;replace k9:=cell_later (aE hb1 (by repeat (with_reducible first|exact aD _|apply aA|apply aC))) k9;replace k10:=cell_later (aE hb1 (by repeat (with_reducible first|exact aD _|apply aA|apply aC))) k10;replace z0:=World.block_lt_of_cell? _ _ k0;replace z1:=World.block_lt_of_cell? _ _ k2;replace z2:=World.block_lt_of_cell? _ _ k4;replace z3:=World.block_lt_of_cell? _ _ k8;simp only[]at z0 z1 z2 z3;clear hb1;rw[eq2]))
 all_goals go_wp2
 ·skip
  obtain⟨w9,hw0⟩:∃ x:World,x=((((w8.setCell ⟨w.heap.size+1,0,none⟩ (.int .i64 (hi q))).setCell ⟨w.heap.size+1,1,none⟩ (.int .u64 (lo q))).setCell ⟨w.heap.size+1,0,none⟩ (.int .i64 (hi q))).setCell ⟨w.heap.size+1,1,none⟩ (.int .u64 (lo q))):=⟨_,rfl⟩
  have new_k0:w9.cell? ⟨w.heap.size,0,none⟩=some (.int .i64 (hi (a))):=by rw[hw0];exact(aB (by omega) (aB (by omega) (aB (by omega) (aB (by omega) k0))))
  have new_k1:w9.cell? ⟨w.heap.size,1,none⟩=some (.int .u64 (lo (a))):=by rw[hw0];exact(aB (by omega) (aB (by omega) (aB (by omega) (aB (by omega) k1))))
  have new_k2:w9.cell? ⟨w.heap.size+1,0,none⟩=some (.int .i64 (hi q)):=by rw[hw0];exact(aB (by omega) (aX (aB (by omega) (aX k2))))
  have new_k3:w9.cell? ⟨w.heap.size+1,1,none⟩=some (.int .u64 (lo q)):=by rw[hw0];exact(aX (aB (by omega) (aX (aB (by omega) k3))))
  have new_k4:w9.cell? ⟨w1.heap.size,0,none⟩=some (.bool true):=by rw[hw0];exact(aB (by omega) (aB (by omega) (aB (by omega) (aB (by omega) k4))))
  have new_k5:w9.cell? ⟨w1.heap.size,1,none⟩=some (.int .u64 (d0 (cN a))):=by rw[hw0];exact(aB (by omega) (aB (by omega) (aB (by omega) (aB (by omega) k5))))
  have new_k6:w9.cell? ⟨w1.heap.size,2,none⟩=some (.int .u64 (d1 (cN a))):=by rw[hw0];exact(aB (by omega) (aB (by omega) (aB (by omega) (aB (by omega) k6))))
  have new_k7:w9.cell? ⟨w1.heap.size,3,none⟩=some (.int .u64 0):=by rw[hw0];exact(aB (by omega) (aB (by omega) (aB (by omega) (aB (by omega) k7))))
  have new_k8:w9.cell? ⟨w3.heap.size,0,none⟩=some (.int .u64 (d0 (cN a / d))):=by rw[hw0];exact(aB (by omega) (aB (by omega) (aB (by omega) (aB (by omega) k8))))
  have new_k9:w9.cell? ⟨w3.heap.size,1,none⟩=some (.int .u64 (d1 (cN a / d))):=by rw[hw0];exact(aB (by omega) (aB (by omega) (aB (by omega) (aB (by omega) k9))))
  have new_k10:w9.cell? ⟨w3.heap.size,2,none⟩=some (.int .u64 0):=by rw[hw0];exact(aB (by omega) (aB (by omega) (aB (by omega) (aB (by omega) k10))))
  replace f1_0:w9.frozen? ⟨w.heap.size+1,0,none⟩=false:=by rw[hw0];(repeat rw[World.frozen?_setCell]);exact f1_0
  replace f1_1:w9.frozen? ⟨w.heap.size+1,1,none⟩=false:=by rw[hw0];(repeat rw[World.frozen?_setCell]);exact f1_1
  replace hB:Below w.heap.size w w9:=by rw[hw0];repeat (with_reducible first|exact hB|refine bV _ (by omega) ?_)
  clear k0 k1 k2 k3 k4 k5 k6 k7 k8 k9 k10
  have k0:=new_k0;clear new_k0
  have k1:=new_k1;clear new_k1
  have k2:=new_k2;clear new_k2
  have k3:=new_k3;clear new_k3
  have k4:=new_k4;clear new_k4
  have k5:=new_k5;clear new_k5
  have k6:=new_k6;clear new_k6
  have k7:=new_k7;clear new_k7
  have k8:=new_k8;clear new_k8
  have k9:=new_k9;clear new_k9
  have k10:=new_k10;clear new_k10
  replace z0:w.heap.size<w9.heap.size:=World.block_lt_of_cell? _ _ k0
  replace z1:w.heap.size+1<w9.heap.size:=World.block_lt_of_cell? _ _ k2
  replace z2:w1.heap.size<w9.heap.size:=World.block_lt_of_cell? _ _ k4
  replace z3:w3.heap.size<w9.heap.size:=World.block_lt_of_cell? _ _ k8
  rw[←hw0]
  clear hw0
  exact bodyPost_ret (v := .tuple #[.agg #[.int .i64 (hi (q)),.int .u64 (lo (q))],.int .i64 r,.int .i64 0]) (by simp [results,Try.results33,go_sem, *]) rfl ⟨rfl,by repeat (with_reducible first|exact hB|refine bV _ (by omega) ?_|apply aA|apply aC)⟩
 ·skip
  obtain⟨w9,hw0⟩:∃ x:World,x=((((w8.setCell ⟨w.heap.size+1,0,none⟩ (.int .i64 (hi q))).setCell ⟨w.heap.size+1,1,none⟩ (.int .u64 (lo q))).setCell ⟨w.heap.size+1,0,none⟩ (.int .i64 (hi q))).setCell ⟨w.heap.size+1,1,none⟩ (.int .u64 (lo q))):=⟨_,rfl⟩
  have new_k0:w9.cell? ⟨w.heap.size,0,none⟩=some (.int .i64 (hi (a))):=by rw[hw0];exact(aB (by omega) (aB (by omega) (aB (by omega) (aB (by omega) k0))))
  have new_k1:w9.cell? ⟨w.heap.size,1,none⟩=some (.int .u64 (lo (a))):=by rw[hw0];exact(aB (by omega) (aB (by omega) (aB (by omega) (aB (by omega) k1))))
  have new_k2:w9.cell? ⟨w.heap.size+1,0,none⟩=some (.int .i64 (hi q)):=by rw[hw0];exact(aB (by omega) (aX (aB (by omega) (aX k2))))
  have new_k3:w9.cell? ⟨w.heap.size+1,1,none⟩=some (.int .u64 (lo q)):=by rw[hw0];exact(aX (aB (by omega) (aX (aB (by omega) k3))))
  have new_k4:w9.cell? ⟨w1.heap.size,0,none⟩=some (.bool true):=by rw[hw0];exact(aB (by omega) (aB (by omega) (aB (by omega) (aB (by omega) k4))))
  have new_k5:w9.cell? ⟨w1.heap.size,1,none⟩=some (.int .u64 (d0 (cN a))):=by rw[hw0];exact(aB (by omega) (aB (by omega) (aB (by omega) (aB (by omega) k5))))
  have new_k6:w9.cell? ⟨w1.heap.size,2,none⟩=some (.int .u64 (d1 (cN a))):=by rw[hw0];exact(aB (by omega) (aB (by omega) (aB (by omega) (aB (by omega) k6))))
  have new_k7:w9.cell? ⟨w1.heap.size,3,none⟩=some (.int .u64 0):=by rw[hw0];exact(aB (by omega) (aB (by omega) (aB (by omega) (aB (by omega) k7))))
  have new_k8:w9.cell? ⟨w3.heap.size,0,none⟩=some (.int .u64 (d0 (cN a / d))):=by rw[hw0];exact(aB (by omega) (aB (by omega) (aB (by omega) (aB (by omega) k8))))
  have new_k9:w9.cell? ⟨w3.heap.size,1,none⟩=some (.int .u64 (d1 (cN a / d))):=by rw[hw0];exact(aB (by omega) (aB (by omega) (aB (by omega) (aB (by omega) k9))))
  have new_k10:w9.cell? ⟨w3.heap.size,2,none⟩=some (.int .u64 0):=by rw[hw0];exact(aB (by omega) (aB (by omega) (aB (by omega) (aB (by omega) k10))))
  replace f1_0:w9.frozen? ⟨w.heap.size+1,0,none⟩=false:=by rw[hw0];(repeat rw[World.frozen?_setCell]);exact f1_0
  replace f1_1:w9.frozen? ⟨w.heap.size+1,1,none⟩=false:=by rw[hw0];(repeat rw[World.frozen?_setCell]);exact f1_1
  replace hB:Below w.heap.size w w9:=by rw[hw0];repeat (with_reducible first|exact hB|refine bV _ (by omega) ?_)
  clear k0 k1 k2 k3 k4 k5 k6 k7 k8 k9 k10
  have k0:=new_k0;clear new_k0
  have k1:=new_k1;clear new_k1
  have k2:=new_k2;clear new_k2
  have k3:=new_k3;clear new_k3
  have k4:=new_k4;clear new_k4
  have k5:=new_k5;clear new_k5
  have k6:=new_k6;clear new_k6
  have k7:=new_k7;clear new_k7
  have k8:=new_k8;clear new_k8
  have k9:=new_k9;clear new_k9
  have k10:=new_k10;clear new_k10
  replace z0:w.heap.size<w9.heap.size:=World.block_lt_of_cell? _ _ k0
  replace z1:w.heap.size+1<w9.heap.size:=World.block_lt_of_cell? _ _ k2
  replace z2:w1.heap.size<w9.heap.size:=World.block_lt_of_cell? _ _ k4
  replace z3:w3.heap.size<w9.heap.size:=World.block_lt_of_cell? _ _ k8
  rw[←hw0]
  clear hw0
  exact bodyPost_ret (v := .tuple #[.agg #[.int .i64 (hi (q)),.int .u64 (lo (q))],.int .i64 r,.int .i64 0]) (by simp [results,Try.results33,go_sem, *]) rfl ⟨rfl,by repeat (with_reducible first|exact hB|refine bV _ (by omega) ?_|apply aA|apply aC)⟩
theorem zV (a d:Int) (ha:kC a) (hd:0<d) (hd':d≤9223372036854775807) (w:World):Calls Try.prog 33 #[.agg #[.int .i64 (hi (a)),.int .u64 (lo (a))],.int .i64 d] w fun e w'=>e = .returned (.tuple #[.agg #[.int .i64 (hi (a / d)),.int .u64 (lo (a / d))],.int .i64 (a % d),.int .i64 0])∧Below w.heap.size w w':=by
 by_cases hn:a<0
 ·have r0:=Int.emod_nonneg (cN a) (show d≠0 by omega)
  by_cases hz:cN a % d=0
  ·exact aFI a d _ _ ha hd hd' hn hz rfl rfl w
  ·exact aC6 a d _ _ ha hd hd' hn (by omega) rfl rfl w
 ·exact aHD a d _ _ ha hd hd' hn rfl rfl w
theorem aEC (a d:Int) (ha:kC a) (hd:0<d):kC (a / d):=by
 unfold kC at *
 have e:=Int.emod_add_mul_ediv a d
 have r0:=Int.emod_nonneg a (show d≠0 by omega)
 have r1:=Int.emod_lt_of_pos a hd
 exact⟨(Int.le_ediv_iff_mul_le hd).2 (by omega),(Int.ediv_lt_iff_lt_mul hd).2 (by omega)⟩
theorem aKe (a d:Int) (ha:kC a) (hd:0<d) (h:d-a % d≤a % d):kC (a / d+1):=by
 have hb:=aEC a d ha hd
 unfold kC at *
 have r1:=Int.emod_lt_of_pos a hd
 have hd2:2≤d:=by
  rcases Int.lt_or_le 1 d with g|g
  ·omega
  ·have:d=1:=by omega
   subst this;simp at h
 have:a / d<170141183460469231731687303715884105727:=(Int.ediv_lt_iff_lt_mul hd).2 (by omega)
 omega
set_option maxHeartbeats 800000 in
theorem aCO (a d q:Int) (ha:kC a) (hd:0<d) (hd':d≤9223372036854775807) (hc:¬d-a % d≤a % d) (hq:q=near a d) (w:World):Calls Try.prog 30 #[.agg #[.int .i64 (hi (a)),.int .u64 (lo (a))],.int .i64 d] w fun e w'=>e = .returned (.tuple #[.agg #[.int .i64 (hi (q)),.int .u64 (lo (q))],.int .i64 0])∧Below w.heap.size w w':=by
 have r0:=Int.emod_nonneg a (show d≠0 by omega)
 have r1:=Int.emod_lt_of_pos a hd
 have c1:wrap64 (d-a % d)=d-a % d:=IntWalk.wrap64_in _ (by omega)
 have c2:IntKind.i64.wrap (d-a % d)=d-a % d:=IntWalk.i64_in _ (by omega)
 have eq:a / d=q:=by rw[hq,aLa a d hd hc]
 clear hq
 go_enter Try.func30,Try.ntmps30
 go_wp2_with fail
 obtain⟨w0,hw0⟩:∃ x:World,x=((w.alloc (.cells #[.int .i64 (hi (a)),.int .u64 (lo (a))] 71)).alloc (.cells #[.int .i64 0,.int .u64 0] 71)):=⟨_,rfl⟩
 have k0:w0.cell? ⟨w.heap.size,0,none⟩=some (.int .i64 (hi (a))):=by rw[hw0];repeat (first|(refine aJ ?_ rfl;(simp;done))|refine aK ?_)
 have k1:w0.cell? ⟨w.heap.size,1,none⟩=some (.int .u64 (lo (a))):=by rw[hw0];repeat (first|(refine aJ ?_ rfl;(simp;done))|refine aK ?_)
 have k2:w0.cell? ⟨w.heap.size+1,0,none⟩=some (.int .i64 0):=by rw[hw0];repeat (first|(refine aJ ?_ rfl;(simp;done))|refine aK ?_)
 have k3:w0.cell? ⟨w.heap.size+1,1,none⟩=some (.int .u64 0):=by rw[hw0];repeat (first|(refine aJ ?_ rfl;(simp;done))|refine aK ?_)
 have z0:w.heap.size<w0.heap.size:=World.block_lt_of_cell? _ _ k0
 have z1:w.heap.size+1<w0.heap.size:=World.block_lt_of_cell? _ _ k2
 have hB:Below w.heap.size w w0:=by rw[hw0];repeat (with_reducible first|exact aD _|apply aA)
 have f1_0:w0.frozen? ⟨w.heap.size+1,0,none⟩=false:=by rw[hw0];repeat (first|(refine bM ?_;(simp;done))|(refine bN (by first|(simp;done)|(simp;omega)) ?_))
 have f1_1:w0.frozen? ⟨w.heap.size+1,1,none⟩=false:=by rw[hw0];repeat (first|(refine bM ?_;(simp;done))|(refine bN (by first|(simp;done)|(simp;omega)) ?_))
 rw[←hw0]
 clear hw0
 refine(zV a d ha hd hd' _).mono ?_
 rintro e w1 ⟨rfl,hb1⟩
 replace f1_0:=aI (aE hb1 (by repeat (with_reducible first|exact aD _|apply aA|apply aC))) k2 f1_0
 replace f1_1:=aI (aE hb1 (by repeat (with_reducible first|exact aD _|apply aA|apply aC))) k3 f1_1
 replace hB:=aE hb1 (by repeat (with_reducible first|exact hB|apply aA|apply aC))
 replace k0:=cell_later (aE hb1 (by repeat (with_reducible first|exact aD _|apply aA|apply aC))) k0
 replace k1:=cell_later (aE hb1 (by repeat (with_reducible first|exact aD _|apply aA|apply aC))) k1
 replace k2:=cell_later (aE hb1 (by repeat (with_reducible first|exact aD _|apply aA|apply aC))) k2
 replace k3:=cell_later (aE hb1 (by repeat (with_reducible first|exact aD _|apply aA|apply aC))) k3
 replace z0:=World.block_lt_of_cell? _ _ k0
 replace z1:=World.block_lt_of_cell? _ _ k2
 simp only[]at z0 z1
 clear hb1
 generalize a % d=r at *
 rw[eq]
 go_wp2
 obtain⟨w9,hw0⟩:∃ x:World,x=((w1.setCell ⟨w.heap.size+1,0,none⟩ (.int .i64 (hi q))).setCell ⟨w.heap.size+1,1,none⟩ (.int .u64 (lo q))):=⟨_,rfl⟩
 have new_k0:w9.cell? ⟨w.heap.size,0,none⟩=some (.int .i64 (hi (a))):=by rw[hw0];exact(aB (by omega) (aB (by omega) k0))
 have new_k1:w9.cell? ⟨w.heap.size,1,none⟩=some (.int .u64 (lo (a))):=by rw[hw0];exact(aB (by omega) (aB (by omega) k1))
 have new_k2:w9.cell? ⟨w.heap.size+1,0,none⟩=some (.int .i64 (hi q)):=by rw[hw0];exact(aB (by omega) (aX k2))
 have new_k3:w9.cell? ⟨w.heap.size+1,1,none⟩=some (.int .u64 (lo q)):=by rw[hw0];exact(aX (aB (by omega) k3))
 replace f1_0:w9.frozen? ⟨w.heap.size+1,0,none⟩=false:=by rw[hw0];(repeat rw[World.frozen?_setCell]);exact f1_0
 replace f1_1:w9.frozen? ⟨w.heap.size+1,1,none⟩=false:=by rw[hw0];(repeat rw[World.frozen?_setCell]);exact f1_1
 replace hB:Below w.heap.size w w9:=by rw[hw0];repeat (with_reducible first|exact hB|refine bV _ (by omega) ?_)
 clear k0 k1 k2 k3
 have k0:=new_k0;clear new_k0
 have k1:=new_k1;clear new_k1
 have k2:=new_k2;clear new_k2
 have k3:=new_k3;clear new_k3
 replace z0:w.heap.size<w9.heap.size:=World.block_lt_of_cell? _ _ k0
 replace z1:w.heap.size+1<w9.heap.size:=World.block_lt_of_cell? _ _ k2
 rw[←hw0]
 clear hw0
 exact bodyPost_ret (v := .tuple #[.agg #[.int .i64 (hi (q)),.int .u64 (lo (q))],.int .i64 0]) (by simp [results,Try.results30,go_sem, *]) rfl ⟨rfl,by repeat (with_reducible first|exact hB|refine bV _ (by omega) ?_|apply aA|apply aC)⟩
set_option maxHeartbeats 800000 in
theorem aBa (a d q:Int) (ha:kC a) (hd:0<d) (hd':d≤9223372036854775807) (hc:d-a % d≤a % d) (hq:q=near a d) (w:World):Calls Try.prog 30 #[.agg #[.int .i64 (hi (a)),.int .u64 (lo (a))],.int .i64 d] w fun e w'=>e = .returned (.tuple #[.agg #[.int .i64 (hi (q)),.int .u64 (lo (q))],.int .i64 0])∧Below w.heap.size w w':=by
 have r0:=Int.emod_nonneg a (show d≠0 by omega)
 have r1:=Int.emod_lt_of_pos a hd
 have c1:wrap64 (d-a % d)=d-a % d:=IntWalk.wrap64_in _ (by omega)
 have c2:IntKind.i64.wrap (d-a % d)=d-a % d:=IntWalk.i64_in _ (by omega)
 have eq:a / d+1=q:=by rw[hq,aLn a d hd hc]
 have hb:=aEC a d ha hd
 have hone:kC 1:=by unfold kC;omega
 have hb1':=aKe a d ha hd hc
 clear hq
 go_enter Try.func30,Try.ntmps30
 go_wp2_with fail
 obtain⟨w0,hw0⟩:∃ x:World,x=((w.alloc (.cells #[.int .i64 (hi (a)),.int .u64 (lo (a))] 71)).alloc (.cells #[.int .i64 0,.int .u64 0] 71)):=⟨_,rfl⟩
 have k0:w0.cell? ⟨w.heap.size,0,none⟩=some (.int .i64 (hi (a))):=by rw[hw0];repeat (first|(refine aJ ?_ rfl;(simp;done))|refine aK ?_)
 have k1:w0.cell? ⟨w.heap.size,1,none⟩=some (.int .u64 (lo (a))):=by rw[hw0];repeat (first|(refine aJ ?_ rfl;(simp;done))|refine aK ?_)
 have k2:w0.cell? ⟨w.heap.size+1,0,none⟩=some (.int .i64 0):=by rw[hw0];repeat (first|(refine aJ ?_ rfl;(simp;done))|refine aK ?_)
 have k3:w0.cell? ⟨w.heap.size+1,1,none⟩=some (.int .u64 0):=by rw[hw0];repeat (first|(refine aJ ?_ rfl;(simp;done))|refine aK ?_)
 have z0:w.heap.size<w0.heap.size:=World.block_lt_of_cell? _ _ k0
 have z1:w.heap.size+1<w0.heap.size:=World.block_lt_of_cell? _ _ k2
 have hB:Below w.heap.size w w0:=by rw[hw0];repeat (with_reducible first|exact aD _|apply aA)
 have f1_0:w0.frozen? ⟨w.heap.size+1,0,none⟩=false:=by rw[hw0];repeat (first|(refine bM ?_;(simp;done))|(refine bN (by first|(simp;done)|(simp;omega)) ?_))
 have f1_1:w0.frozen? ⟨w.heap.size+1,1,none⟩=false:=by rw[hw0];repeat (first|(refine bM ?_;(simp;done))|(refine bN (by first|(simp;done)|(simp;omega)) ?_))
 rw[←hw0]
 clear hw0
 refine(zV a d ha hd hd' _).mono ?_
 rintro e w1 ⟨rfl,hb1⟩
 replace f1_0:=aI (aE hb1 (by repeat (with_reducible first|exact aD _|apply aA|apply aC))) k2 f1_0
 replace f1_1:=aI (aE hb1 (by repeat (with_reducible first|exact aD _|apply aA|apply aC))) k3 f1_1
 replace hB:=aE hb1 (by repeat (with_reducible first|exact hB|apply aA|apply aC))
 replace k0:=cell_later (aE hb1 (by repeat (with_reducible first|exact aD _|apply aA|apply aC))) k0
 replace k1:=cell_later (aE hb1 (by repeat (with_reducible first|exact aD _|apply aA|apply aC))) k1
 replace k2:=cell_later (aE hb1 (by repeat (with_reducible first|exact aD _|apply aA|apply aC))) k2
 replace k3:=cell_later (aE hb1 (by repeat (with_reducible first|exact aD _|apply aA|apply aC))) k3
 replace z0:=World.block_lt_of_cell? _ _ k0
 replace z1:=World.block_lt_of_cell? _ _ k2
 simp only[]at z0 z1
 clear hb1
 generalize a % d=r at *
 go_wp2
 obtain⟨w2,hw0⟩:∃ x:World,x=(w1.alloc (.cells #[.int .i64 (hi (a / d)),.int .u64 (lo (a / d))] 71)):=⟨_,rfl⟩
 replace f1_0:w2.frozen? ⟨w.heap.size+1,0,none⟩=false:=by rw[hw0];exact aI (by repeat (with_reducible first|exact aD _|apply aA|apply aC)) k2 f1_0
 replace f1_1:w2.frozen? ⟨w.heap.size+1,1,none⟩=false:=by rw[hw0];exact aI (by repeat (with_reducible first|exact aD _|apply aA|apply aC)) k3 f1_1
 replace k0:w2.cell? ⟨w.heap.size,0,none⟩=some (.int .i64 (hi (a))):=by rw[hw0];exact cell_later (by repeat (with_reducible first|exact aD _|apply aA|apply aC)) k0
 replace k1:w2.cell? ⟨w.heap.size,1,none⟩=some (.int .u64 (lo (a))):=by rw[hw0];exact cell_later (by repeat (with_reducible first|exact aD _|apply aA|apply aC)) k1
 replace k2:w2.cell? ⟨w.heap.size+1,0,none⟩=some (.int .i64 0):=by rw[hw0];exact cell_later (by repeat (with_reducible first|exact aD _|apply aA|apply aC)) k2
 replace k3:w2.cell? ⟨w.heap.size+1,1,none⟩=some (.int .u64 0):=by rw[hw0];exact cell_later (by repeat (with_reducible first|exact aD _|apply aA|apply aC)) k3
 have k4:w2.cell? ⟨w1.heap.size,0,none⟩=some (.int .i64 (hi (a / d))):=by rw[hw0];repeat (first|(refine aJ ?_ rfl;(simp;done))|refine aK ?_)
 have k5:w2.cell? ⟨w1.heap.size,1,none⟩=some (.int .u64 (lo (a / d))):=by rw[hw0];repeat (first|(refine aJ ?_ rfl;(simp;done))|refine aK ?_)
 have fz2_0:w2.frozen? ⟨w1.heap.size,0,none⟩=false:=by rw[hw0];repeat (first|(refine bM ?_;(simp;done))|(refine bN (by first|(simp;done)|(simp;omega)) ?_))
 have fz2_1:w2.frozen? ⟨w1.heap.size,1,none⟩=false:=by rw[hw0];repeat (first|(refine bM ?_;(simp;done))|(refine bN (by first|(simp;done)|(simp;omega)) ?_))
 have z0:w.heap.size<w2.heap.size:=World.block_lt_of_cell? _ _ k0
 have z1:w.heap.size+1<w2.heap.size:=World.block_lt_of_cell? _ _ k2
 have z2:w1.heap.size<w2.heap.size:=World.block_lt_of_cell? _ _ k4
 replace hB:Below w.heap.size w w2:=by rw[hw0];repeat (with_reducible first|exact hB|apply aA)
 rw[←hw0]
 clear hw0
 go_region_with (first
  |(go_at_call 31;refine(xT 1 ⟨by omega,by omega⟩ _).mono ?_;rintro e w7 ⟨rfl,hb1⟩;replace f1_0:=aI (aE hb1 (by repeat (with_reducible first|exact aD _|apply aA|apply aC))) k2 f1_0;replace f1_1:=aI (aE hb1 (by repeat (with_reducible first|exact aD _|apply aA|apply aC))) k3 f1_1;replace fz2_0:=aI (aE hb1 (by repeat (with_reducible first|exact aD _|apply aA|apply aC))) k4 fz2_0;replace fz2_1:=aI (aE hb1 (by repeat (with_reducible first|exact aD _|apply aA|apply aC))) k5 fz2_1;replace hB:=aE hb1 (by repeat (with_reducible first|exact hB|apply aA|apply aC));replace k0:=cell_later (aE hb1 (by repeat (with_reducible first|exact aD _|apply aA|apply aC))) k0;replace k1:=cell_later (aE hb1 (by repeat (with_reducible first|exact aD _|apply aA|apply aC))) k1;replace k2:=cell_later (aE hb1 (by repeat (with_reducible first|exact aD _|apply aA|apply aC))) k2;replace k3:=cell_later (aE hb1 (by repeat (with_reducible first|exact aD _|apply aA|apply aC))) k3;replace k4:=cell_later (aE hb1 (by repeat (with_reducible first|exact aD _|apply aA|apply aC))) k4;replace k5:=cell_later (aE hb1 (by repeat (with_reducible first|exact aD _|apply aA|apply aC))) k5;replace z0:=World.block_lt_of_cell? _ _ k0;replace z1:=World.block_lt_of_cell? _ _ k2;replace z2:=World.block_lt_of_cell? _ _ k4;simp only[]at z0 z1 z2;clear hb1)
  |(go_at_call 34;refine(aLw _ _ hb hone hb1' _).mono ?_;rintro e w8 ⟨rfl,hb1⟩;replace f1_0:=aI (aE hb1 (by repeat (with_reducible first|exact aD _|apply aA|apply aC))) k2 f1_0;replace f1_1:=aI (aE hb1 (by repeat (with_reducible first|exact aD _|apply aA|apply aC))) k3 f1_1;replace fz2_0:=aI (aE hb1 (by repeat (with_reducible first|exact aD _|apply aA|apply aC))) k4 fz2_0;replace fz2_1:=aI (aE hb1 (by repeat (with_reducible first|exact aD _|apply aA|apply aC))) k5 fz2_1;replace hB:=aE hb1 (by repeat (with_reducible first|exact hB|apply aA|apply aC));replace k0:=cell_later (aE hb1 (by repeat (with_reducible first|exact aD _|apply aA|apply aC))) k0;replace k1:=cell_later (aE hb1 (by repeat (with_reducible first|exact aD _|apply aA|apply aC))) k1;replace k2:=cell_later (aE hb1 (by repeat (with_reducible first|exact aD _|apply aA|apply aC))) k2;replace k3:=cell_later (aE hb1 (by repeat (with_reducible first|exact aD _|apply aA|apply aC))) k3;replace k4:=cell_later (aE hb1 (by repeat (with_reducible first|exact aD _|apply aA|apply aC))) k4;replace k5:=cell_later (aE hb1 (by repeat (with_reducible first|exact aD _|apply aA|apply aC))) k5;replace z0:=World.block_lt_of_cell? _ _ k0;replace z1:=World.block_lt_of_cell? _ _ k2;replace z2:=World.block_lt_of_cell? _ _ k4;simp only[]at z0 z1 z2;clear hb1;rw[eq]))
 all_goals go_wp2
 ·skip
  obtain⟨w9,hw0⟩:∃ x:World,x=((((w8.setCell ⟨w1.heap.size,0,none⟩ (.int .i64 (hi q))).setCell ⟨w1.heap.size,1,none⟩ (.int .u64 (lo q))).setCell ⟨w.heap.size+1,0,none⟩ (.int .i64 (hi q))).setCell ⟨w.heap.size+1,1,none⟩ (.int .u64 (lo q))):=⟨_,rfl⟩
  have new_k0:w9.cell? ⟨w.heap.size,0,none⟩=some (.int .i64 (hi (a))):=by rw[hw0];exact(aB (by omega) (aB (by omega) (aB (by omega) (aB (by omega) k0))))
  have new_k1:w9.cell? ⟨w.heap.size,1,none⟩=some (.int .u64 (lo (a))):=by rw[hw0];exact(aB (by omega) (aB (by omega) (aB (by omega) (aB (by omega) k1))))
  have new_k2:w9.cell? ⟨w.heap.size+1,0,none⟩=some (.int .i64 (hi q)):=by rw[hw0];exact(aB (by omega) (aX (aB (by omega) (aB (by omega) k2))))
  have new_k3:w9.cell? ⟨w.heap.size+1,1,none⟩=some (.int .u64 (lo q)):=by rw[hw0];exact(aX (aB (by omega) (aB (by omega) (aB (by omega) k3))))
  have new_k4:w9.cell? ⟨w1.heap.size,0,none⟩=some (.int .i64 (hi q)):=by rw[hw0];exact(aB (by omega) (aB (by omega) (aB (by omega) (aX k4))))
  have new_k5:w9.cell? ⟨w1.heap.size,1,none⟩=some (.int .u64 (lo q)):=by rw[hw0];exact(aB (by omega) (aB (by omega) (aX (aB (by omega) k5))))
  replace f1_0:w9.frozen? ⟨w.heap.size+1,0,none⟩=false:=by rw[hw0];(repeat rw[World.frozen?_setCell]);exact f1_0
  replace f1_1:w9.frozen? ⟨w.heap.size+1,1,none⟩=false:=by rw[hw0];(repeat rw[World.frozen?_setCell]);exact f1_1
  replace fz2_0:w9.frozen? ⟨w1.heap.size,0,none⟩=false:=by rw[hw0];(repeat rw[World.frozen?_setCell]);exact fz2_0
  replace fz2_1:w9.frozen? ⟨w1.heap.size,1,none⟩=false:=by rw[hw0];(repeat rw[World.frozen?_setCell]);exact fz2_1
  replace hB:Below w.heap.size w w9:=by rw[hw0];repeat (with_reducible first|exact hB|refine bV _ (by omega) ?_)
  clear k0 k1 k2 k3 k4 k5
  have k0:=new_k0;clear new_k0
  have k1:=new_k1;clear new_k1
  have k2:=new_k2;clear new_k2
  have k3:=new_k3;clear new_k3
  have k4:=new_k4;clear new_k4
  have k5:=new_k5;clear new_k5
  replace z0:w.heap.size<w9.heap.size:=World.block_lt_of_cell? _ _ k0
  replace z1:w.heap.size+1<w9.heap.size:=World.block_lt_of_cell? _ _ k2
  replace z2:w1.heap.size<w9.heap.size:=World.block_lt_of_cell? _ _ k4
  rw[←hw0]
  clear hw0
  exact bodyPost_ret (v := .tuple #[.agg #[.int .i64 (hi (q)),.int .u64 (lo (q))],.int .i64 0]) (by simp [results,Try.results30,go_sem, *]) rfl ⟨rfl,by repeat (with_reducible first|exact hB|refine bV _ (by omega) ?_|apply aA|apply aC)⟩
 ·skip
  obtain⟨w9,hw0⟩:∃ x:World,x=((((w8.setCell ⟨w1.heap.size,0,none⟩ (.int .i64 (hi q))).setCell ⟨w1.heap.size,1,none⟩ (.int .u64 (lo q))).setCell ⟨w.heap.size+1,0,none⟩ (.int .i64 (hi q))).setCell ⟨w.heap.size+1,1,none⟩ (.int .u64 (lo q))):=⟨_,rfl⟩
  have new_k0:w9.cell? ⟨w.heap.size,0,none⟩=some (.int .i64 (hi (a))):=by rw[hw0];exact(aB (by omega) (aB (by omega) (aB (by omega) (aB (by omega) k0))))
  have new_k1:w9.cell? ⟨w.heap.size,1,none⟩=some (.int .u64 (lo (a))):=by rw[hw0];exact(aB (by omega) (aB (by omega) (aB (by omega) (aB (by omega) k1))))
  have new_k2:w9.cell? ⟨w.heap.size+1,0,none⟩=some (.int .i64 (hi q)):=by rw[hw0];exact(aB (by omega) (aX (aB (by omega) (aB (by omega) k2))))
  have new_k3:w9.cell? ⟨w.heap.size+1,1,none⟩=some (.int .u64 (lo q)):=by rw[hw0];exact(aX (aB (by omega) (aB (by omega) (aB (by omega) k3))))
  have new_k4:w9.cell? ⟨w1.heap.size,0,none⟩=some (.int .i64 (hi q)):=by rw[hw0];exact(aB (by omega) (aB (by omega) (aB (by omega) (aX k4))))
  have new_k5:w9.cell? ⟨w1.heap.size,1,none⟩=some (.int .u64 (lo q)):=by rw[hw0];exact(aB (by omega) (aB (by omega) (aX (aB (by omega) k5))))
  replace f1_0:w9.frozen? ⟨w.heap.size+1,0,none⟩=false:=by rw[hw0];(repeat rw[World.frozen?_setCell]);exact f1_0
  replace f1_1:w9.frozen? ⟨w.heap.size+1,1,none⟩=false:=by rw[hw0];(repeat rw[World.frozen?_setCell]);exact f1_1
  replace fz2_0:w9.frozen? ⟨w1.heap.size,0,none⟩=false:=by rw[hw0];(repeat rw[World.frozen?_setCell]);exact fz2_0
  replace fz2_1:w9.frozen? ⟨w1.heap.size,1,none⟩=false:=by rw[hw0];(repeat rw[World.frozen?_setCell]);exact fz2_1
  replace hB:Below w.heap.size w w9:=by rw[hw0];repeat (with_reducible first|exact hB|refine bV _ (by omega) ?_)
  clear k0 k1 k2 k3 k4 k5
  have k0:=new_k0;clear new_k0
  have k1:=new_k1;clear new_k1
  have k2:=new_k2;clear new_k2
  have k3:=new_k3;clear new_k3
  have k4:=new_k4;clear new_k4
  have k5:=new_k5;clear new_k5
  replace z0:w.heap.size<w9.heap.size:=World.block_lt_of_cell? _ _ k0
  replace z1:w.heap.size+1<w9.heap.size:=World.block_lt_of_cell? _ _ k2
  replace z2:w1.heap.size<w9.heap.size:=World.block_lt_of_cell? _ _ k4
  rw[←hw0]
  clear hw0
  exact bodyPost_ret (v := .tuple #[.agg #[.int .i64 (hi (q)),.int .u64 (lo (q))],.int .i64 0]) (by simp [results,Try.results30,go_sem, *]) rfl ⟨rfl,by repeat (with_reducible first|exact hB|refine bV _ (by omega) ?_|apply aA|apply aC)⟩
theorem aKY (a d:Int) (ha:kC a) (hd:0<d) (hd':d≤9223372036854775807) (w:World):Calls Try.prog 30 #[.agg #[.int .i64 (hi (a)),.int .u64 (lo (a))],.int .i64 d] w fun e w'=>e = .returned (.tuple #[.agg #[.int .i64 (hi (near a d)),.int .u64 (lo (near a d))],.int .i64 0])∧Below w.heap.size w w':=by
 by_cases hc:d-a % d≤a % d
 ·exact aBa a d _ ha hd hd' hc rfl w
 ·exact aCO a d _ ha hd hd' hc rfl w
end Go.Proofs.Ythiehfhphgkaeaa
namespace Fx
def near (n d:Int):Int:=(2*n+d) / (2*d)
def sat (n:Int):Int:=if n < -2147483648 then -2147483648 else if 2147483647<n then 2147483647 else n
def fix (a:Int):Prop := -2147483648≤a∧a≤2147483647
def mul (a b:Int):Int:=sat (near (a*b) 65536)
def aOL (x flo fhi tlo thi:Int):Int:=
 if fhi-flo<0 then sat (near (-(x-flo)*(thi-tlo)+tlo * -(fhi-flo)) (-(fhi-flo)))
 else sat (near ((x-flo)*(thi-tlo)+tlo*(fhi-flo)) (fhi-flo))
def down (a:Int):Int:=a / 65536*65536
def aO2 (a:Int):Int:=sat (down a)
def round (a:Int):Int:=sat (down (a+32768))
theorem sR (n:Int):(n < -2147483648∧sat n = -2147483648)∨(2147483647<n∧sat n=2147483647)∨(fix n∧sat n=n):=by
 unfold sat fix;split
 ·omega
 ·split<;>omega
theorem aMZ {n:Int} (h:fix n):sat n=n:=by unfold fix at h;rcases sR n with⟨_,g⟩|⟨_,g⟩|⟨_,g⟩<;>omega
theorem near_spec (n d:Int) (hd:0<d):2*(near n d*d)≤2*n+d∧2*n+d<2*(near n d*d)+2*d:=by
 unfold near
 have e:=Int.emod_add_mul_ediv (2*n+d) (2*d)
 have l:=Int.emod_lt_of_pos (2*n+d) (show 0<2*d by omega)
 have z:=Int.emod_nonneg (2*n+d) (show 2*d≠0 by omega)
 generalize (2*n+d) / (2*d)=q at *
 have k:2*d*q=2*(q*d):=by grind
 omega
theorem near_uniq (n d q:Int) (hd:0<d) (h1:2*(q*d)≤2*n+d) (h2:2*n+d<2*(q*d)+2*d):near n d=q:=by
 have hp:0<2*d:=by omega
 unfold near
 apply Int.le_antisymm
 ·refine Int.le_of_lt_add_one ((Int.ediv_lt_iff_lt_mul hp).2 ?_)
  have k:(q+1)*(2*d)=2*(q*d)+2*d:=by grind
  omega
 ·refine(Int.le_ediv_iff_mul_le hp).2 ?_
  have k:q*(2*d)=2*(q*d):=by grind
  omega
theorem near_mono {m n d:Int} (hd:0<d) (h:m≤n):near m d≤near n d:=by
 unfold near;exact Int.ediv_le_ediv (by omega) (by omega)
theorem near_mul (n d k:Int) (hk:0<k):near (n*k) (d*k)=near n d:=by
 unfold near
 have e1:2*(n*k)+d*k=(2*n+d)*k:=by grind
 have e2:2*(d*k)=2*d*k:=by grind
 rw[e1,e2,Int.mul_ediv_mul_of_pos_left _ _ hk]
theorem aDl (q d:Int) (hd:0<d):near (q*d) d=q:=near_uniq _ _ _ hd (by omega) (by omega)
theorem mul_comm (a b:Int):mul a b=mul b a:=by unfold mul;rw[Int.mul_comm]
theorem mul_one (a:Int) (ha:fix a):mul a 65536=a:=by unfold mul;rw[aDl a 65536 (by decide)];exact aMZ ha
theorem mul_neg (a b:Int) (hp':mul a b≠2147483647):
  (mul (-a) b = -mul a b∧a*b % 65536≠32768)∨(mul (-a) b = -mul a b+1∧a*b % 65536=32768)∨(mul (-a) b=2147483647∧mul a b < -2147483646):=by
 have e : -a*b = -(a*b):=by grind
 unfold mul at *
 rw[e];unfold near
 generalize a*b=p at *
 have s1:=sR ((2*p+65536) / (2*65536));have s2:=sR ((2 * -p+65536) / (2*65536))
 unfold near at hp'
 unfold fix at s1 s2
 omega
end Fx
namespace Nu
def dg (N:Int) (M:Int):Int:=N / M % 65536
theorem dg_bd (N M:Int):0≤dg N M∧dg N M<65536:=by unfold dg;omega
def aC4 (A B M:Int):Int:=(A % M+B % M) / M
theorem aMd (A B M:Int) (hM:0<M):0≤aC4 A B M∧aC4 A B M≤1:=by
 have a0:=Int.emod_nonneg A (show M≠0 by omega)
 have a1:=Int.emod_lt_of_pos A hM
 have b0:=Int.emod_nonneg B (show M≠0 by omega)
 have b1:=Int.emod_lt_of_pos B hM
 unfold aC4
 refine⟨Int.ediv_nonneg (by omega) (by omega),?_⟩
 have:(A % M+B % M) / M<2:=Int.ediv_lt_of_lt_mul hM (by omega)
 omega
theorem aDc (A B M:Int) (hM:0<M):dg (A+B) M=(aC4 A B M+dg A M+dg B M) % 65536:=by
 have ha:=Int.mul_ediv_add_emod A M
 have hb:=Int.mul_ediv_add_emod B M
 have e:A+B=(A % M+B % M)+M*(A / M+B / M):=by rw[Int.mul_add];omega
 have e2:(A+B) / M=aC4 A B M+(A / M+B / M):=by
  unfold aC4
  conv=>lhs;rw[e]
  exact Int.add_mul_ediv_left _ _ (by omega)
 unfold dg
 rw[e2]
 omega
def lent (A B M:Int):Int:=if A % M<B % M then 1 else 0
end Nu
namespace Nu
theorem pr (A B M:Int) (hM:0<M):(aC4 A B M+dg A M+dg B M).tmod 65536=dg (A+B) M:=by
 have a:=dg_bd A M
 have b:=dg_bd B M
 have k:=aMd A B M hM
 rw[Int.tmod_eq_emod_of_nonneg (by omega),aDc A B M hM]
end Nu
namespace Nu
end Nu
namespace Nu
end Nu
namespace Go.Proofs.Ythiehfhphgkaeaa
open Go Go.RowKit Sx Wi
def wG:Nat→List Int→Int
 |0,[x]=>hi x
 |1,[x]=>lo x
 |2,[n,d]=>Fx.near n d
 |30,[n,m]=>Nu.dg n m
 |32,[a,b,m]=>Nu.lent a b m
 |33,[n,m]=>n % m
 |g,xs=>Lc.fn g xs
def hiI (p:Int × Int):Int × Int:=(p.1 / 18446744073709551616,p.2 / 18446744073709551616)
def loI (p:Int × Int):Int × Int:=if p.1 / 18446744073709551616=p.2 / 18446744073709551616 then (p.1 % 18446744073709551616,p.2 % 18446744073709551616) else (0,18446744073709551615)
def aI6 (p q:Int × Int):Option (Int × Int):=
 if 0<q.1 then (if q.1=q.2 then some (Fx.near p.1 q.1,Fx.near p.2 q.1) else some (lZ p.1 0,nK p.2 0)) else none
def wGI:Nat→List fT→fT
 |0,[some p]=>some (hiI p)
 |1,[some p]=>some (loI p)
 |2,[some p,some q]=>aI6 p q
 |30,_=>some (0,65535)
 |32,_=>some (0,1)
 |33,[_,some q]=>if 0<q.1 then some (0,q.2-1) else none
 |g,_=>Lc.fnI g
theorem aM4 {p:Int × Int} {x:Int} (h:p.1≤x∧x≤p.2):(hiI p).1≤hi x∧hi x≤(hiI p).2:=by
 unfold hiI hi;dsimp only;omega
theorem aM1 {p:Int × Int} {x:Int} (h:p.1≤x∧x≤p.2):(loI p).1≤lo x∧lo x≤(loI p).2:=by
 unfold loI lo;split<;>dsimp only<;>omega
theorem aLR (n d:Int) (hd:0<d):(0≤n→0≤Fx.near n d∧Fx.near n d≤n)∧(n≤0→n≤Fx.near n d∧Fx.near n d≤0):=by
 have z:Fx.near 0 d=0:=Fx.near_uniq _ _ _ hd (by omega) (by omega)
 have k:∀ m:Int,0≤m→Fx.near m d≤m:=by
  intro m hm
  obtain⟨h1,h2⟩:=Fx.near_spec m d hd
  rcases Int.lt_or_le m (Fx.near m d)with g|g
  ·exfalso
   have:=Int.mul_le_mul_of_nonneg_right (show m+1≤Fx.near m d by omega) (show 0≤d by omega)
   have e:(m+1)*d=m*d+d:=by grind
   have:=Int.mul_le_mul_of_nonneg_left (show 1≤d by omega) hm
   omega
  ·exact g
 refine⟨fun h=>⟨?_,k n h⟩,fun h=>⟨?_,?_⟩⟩
 ·rw[←z];exact Fx.near_mono hd h
 ·obtain⟨h1,h2⟩:=Fx.near_spec n d hd
  rcases Int.lt_or_le (Fx.near n d) n with g|g
  ·exfalso
   have:=Int.mul_le_mul_of_nonneg_right (show Fx.near n d≤n-1 by omega) (show 0≤d by omega)
   have e:(n-1)*d=n*d-d:=by grind
   have:=Int.mul_le_mul_of_nonpos_left h (show 1≤d by omega)
   omega
  ·exact g
 ·rw[←z];exact Fx.near_mono hd h
theorem aHX {p q:Int × Int} {n d:Int} (h:p.1≤n∧n≤p.2) (g:q.1≤d∧d≤q.2):fT.has (aI6 p q) (Fx.near n d):=by
 unfold aI6
 split
 ·rename_i h0
  split
  ·rename_i e
   have:d=q.1:=by omega
   subst this
   exact⟨Fx.near_mono h0 h.1,Fx.near_mono h0 h.2⟩
  ·obtain⟨k1,k2⟩:=aLR n d (by omega)
   simp only[fT.has,lZ,nK]
   rcases Int.le_total 0 n with hn|hn
   ·have:=k1 hn;split<;>split<;>omega
   ·have:=k2 hn;split<;>split<;>omega
 ·trivial
theorem w30:∀ xs:List Int,0≤wG 30 xs∧wG 30 xs≤65535
 |[n,m]=>by have:=Nu.dg_bd n m;show 0≤Nu.dg n m∧Nu.dg n m≤65535;omega
 |[]=>by decide
 |[_]=>⟨Int.le_refl 0,(by decide:(0:Int)≤65535)⟩
 |_::_::_::_=>⟨Int.le_refl 0,(by decide:(0:Int)≤65535)⟩
theorem w32:∀ xs:List Int,0≤wG 32 xs∧wG 32 xs≤1
 |[a,b,m]=>by show 0≤Nu.lent a b m∧Nu.lent a b m≤1;unfold Nu.lent;split<;>omega
 |[]=>by decide
 |[_]=>⟨Int.le_refl 0,(by decide:(0:Int)≤1)⟩
 |[_,_]=>⟨Int.le_refl 0,(by decide:(0:Int)≤1)⟩
 |_::_::_::_::_=>⟨Int.le_refl 0,(by decide:(0:Int)≤1)⟩
theorem aMY:∀ g is xs,dG is xs→(wGI g is).has (wG g xs):=by
 intro g is xs h
 unfold wGI
 split
 ·match xs,h with
  |[x],h=>exact aM4 h.1
  |[],h=>simp [dG]at h
  |_::_::_,h=>simp [dG]at h
 ·match xs,h with
  |[x],h=>exact aM1 h.1
  |[],h=>simp [dG]at h
  |_::_::_,h=>simp [dG]at h
 ·match xs,h with
  |[x,y],h=>exact aHX h.1 h.2.1
  |[],h=>simp [dG]at h
  |[_],h=>simp [dG]at h
  |_::_::_::_,h=>simp [dG]at h
 ·exact w30 xs
 ·exact w32 xs
 ·match xs,h with
  |[n,m],h=>
   split
   ·rename_i hq
    have hm:=h.2.1
    simp only[fT.has]at hm
    have a0:=Int.emod_nonneg n (show m≠0 by omega)
    have a1:=Int.emod_lt_of_pos n (show 0<m by omega)
    show 0≤n % m∧n % m≤_-1
    omega
   ·trivial
  |[],h=>simp [dG]at h
  |[_],h=>simp [dG]at h
  |_::_::_::_,h=>simp [dG]at h
 ·rename_i h0 h1 h2 h3 h4 h5
  have e:wG g xs=Lc.fn g xs∨(∃ x,g=0∧xs=[x])∨(∃ x,g=1∧xs=[x])∨(∃ n d,g=2∧xs=[n,d])∨(∃ n m,g=33∧xs=[n,m])∨g=30∨g=32:=by
   unfold wG
   split
   ·exact .inr (.inl ⟨_,rfl,rfl⟩)
   ·exact .inr (.inr (.inl ⟨_,rfl,rfl⟩))
   ·exact .inr (.inr (.inr (.inl ⟨_,_,rfl,rfl⟩)))
   ·exact .inr (.inr (.inr (.inr (.inr (.inl rfl)))))
   ·exact .inr (.inr (.inr (.inr (.inr (.inr rfl)))))
   ·exact .inr (.inr (.inr (.inr (.inl ⟨_,_,rfl,rfl⟩))))
   ·exact .inl rfl
  rcases e with e|⟨x,rfl,rfl⟩|⟨x,rfl,rfl⟩|⟨n,d,rfl,rfl⟩|⟨n,m,rfl,rfl⟩|rfl|rfl
  ·rw[e];exact Lc.fnI_ok g xs
  all_goals trivial
theorem aMG:aEX wG:=by
 intro g xs h1 h2
 unfold wG
 split<;>first|omega|rfl
def nF (a b c d e f g h:Int):Int:=max (max (max (max (max (max (max (max 0 (a-2*c+e)) (0-(a-2*c+e))) (b-2*d+f)) (0-(b-2*d+f))) (c-2*e+g)) (0-(c-2*e+g))) (d-2*f+h)) (0-(d-2*f+h))
def jA (m:Int):Int:=if m≤32768 then 0 else if m≤131072 then 1 else if m≤524288 then 2 else if m≤2097152 then 3 else if m≤8388608 then 4 else if m≤33554432 then 5 else 6
theorem aGd (m:Int):0≤jA m∧jA m≤6:=by
 unfold jA
 (repeat' split)<;>omega
def iX:List Int→Int
 |[a,b,c,d,e,f,g,h]=>jA (3*nF a b c d e f g h)
 |_=>0
theorem aD8 (xs:List Int):0≤iX xs∧iX xs≤6:=by
 unfold iX;split
 ·exact aGd _
 ·omega
def pQ (a b c d i m:Int):Int:=Fx.near ((m-i)*(m-i)*(m-i)*a+3*(m-i)*(m-i)*i*b+3*(m-i)*i*i*c+i*i*i*d) (m*(m*m)*256)
def mX (xs:List Int) (m i:Int):List Int:=[pQ (xs.getD 0 0) (xs.getD 2 0) (xs.getD 4 0) (xs.getD 6 0) i m,pQ (xs.getD 1 0) (xs.getD 3 0) (xs.getD 5 0) (xs.getD 7 0) i m]
def hJ (xs:List Int) (m:Int):Nat→List (List Int)
 |0=>[[Fx.near (xs.getD 0 0) (1*256),Fx.near (xs.getD 1 0) (1*256)]]
 |a+1=>hJ xs m a++[mX xs m ((a:Int)+1)]
def cK (xs:List Int):Int:=1*2 ^ (iX xs).toNat
def aOW (xs:List Int):Int:=Lc.enc (hJ xs (cK xs) (cK xs).toNat)
def sk (r:List Int):Int:=IntKind.u8.wrap (r.getD 0 0)
def sp (r:List Int) (j:Nat):Int:=IntKind.i32.wrap (r.getD (1+j) 0)
def jE (xs:List Int) (m:Nat):List (List Int):=(List.range m).map fun (i:Nat)=>mX xs (cK xs) ((i:Int)+1)
def dL (t:List (List Int) × Int × Int) (r:List Int):List (List Int) × Int × Int:=
 if sk r=2 then (t.1++jE [t.2.1,t.2.2,sp r 0,sp r 1,sp r 2,sp r 3,sp r 4,sp r 5] (cK [t.2.1,t.2.2,sp r 0,sp r 1,sp r 2,sp r 3,sp r 4,sp r 5]).toNat,sp r 4,sp r 5)
 else (t.1++[[Fx.near (sp r 0) (1*256),Fx.near (sp r 1) (1*256)]],sp r 0,sp r 1)
def bR (rows:List (List Int)):List (List Int) × Int × Int:=rows.foldl dL ([],0,0)
def cC:List (List Int)→Nat
 |[]=>0
 |r::rs=>if sk r=0∨sk r=3 then 0 else cC rs+1
def eR:List (List Int)→Nat
 |[]=>0
 |r::rs=>if 3<sk r then 0 else eR rs+1
def gZ:List (List Int)→List (List Int)
 |r::rs=>if sk r=3 then rs else r::rs
 |[]=>[]
def bS:Nat→List (List Int)→List (List (List Int))
 |0,_=>[]
 |_,[]=>[]
 |f+1,r::rs=>(r::rs.take (cC rs))::bS f (gZ (rs.drop (cC rs)))
def iS (l:List (List Int)):Bool:=match l with
 |r::_=>decide (sk r=0) && l.all fun r=>decide (sk r≤3)
 |[]=>false
def aF (L off n:Int):List (List Int):=((Lc.dec L).drop off.toNat).take (min n.toNat 300)
def idx (k:Nat) (l:List (List Int)):Int:=if k<l.length then (k:Int) else -1
def aOT:List Int→Int
 |[a,b,c,d,e,f,g,h,C]=>Lc.enc (Lc.dec C++jE [a,b,c,d,e,f,g,h] (cK [a,b,c,d,e,f,g,h]).toNat)
 |_=>0
def aOO:List Int→Int
 |[L,off,i]=>Lc.enc (bR (aF L off i)).1
 |_=>0
def aLs:List Int→Int
 |[L,off,i]=>(bR (aF L off i)).2.1
 |_=>0
def aL6:List Int→Int
 |[L,off,i]=>(bR (aF L off i)).2.2
 |_=>0
def aJf:List Int→Int
 |[L,off,n]=>idx (cC (aF L off n)) (aF L off n)
 |_=>0
def aMf:List Int→Int
 |[L,n]=>((bS 300 (aF L 0 n)).length:Int)
 |_=>0
def aL4:List Int→Int
 |[L,n]=>if (bS 300 (aF L 0 n)).all iS then 1 else 0
 |_=>0
def aKc:List Int→Int
 |[L,off,n]=>idx (eR (aF L off n)) (aF L off n)
 |_=>0
def aLd:List Int→Int
 |[L,off,i]=>min ((bR (aF L off i)).1.length:Int) 19200
 |_=>0
def mvP:List (List Int)→Nat
 |[]=>0
 |r::rs=>mvP rs+(if sk r=0 then 1 else 0)
def cO (dx dy:Int) (r:List Int):List Int:=[sk r,sp r 0+256*dx,sp r 1+256*dy,sp r 2+256*dx,sp r 3+256*dy,sp r 4+256*dx,sp r 5+256*dy]
def tA (dx dy:Int) (r:List Int):Bool:=(List.range 6).all fun j=>decide (-2147483648≤sp r j+256*(if j % 2=0 then dx else dy)) && decide (sp r j+256*(if j % 2=0 then dx else dy)≤2147483647)
def aL2:List Int→Int
 |[L,n,dx,dy]=>if (aF L 0 n).all (tA dx dy) then 1 else 0
 |_=>0
def aLJ:List Int→Int
 |[L,n]=>(mvP (aF L 0 n):Int)
 |_=>0
def aOR:List Int→Int
 |[L,n,dx,dy]=>Lc.enc ((aF L 0 n).map (cO dx dy))
 |_=>0
def aOM:List Int→Int
 |[L,n]=>Lc.enc ((bS 300 (aF L 0 n)).map fun l=>[Lc.enc (bR l).1])
 |_=>0
theorem aHN:∀ l:List (List Int),mvP l≤l.length
 |[]=>Nat.le_refl _
 |r::rs=>by unfold mvP;have:=aHN rs;simp only[List.length_cons];split<;>omega
theorem zB (L off n:Int):(aF L off n).length≤300:=by unfold aF;rw[List.length_take];omega
theorem aKd (k:Nat) (L off n:Int) : -1≤idx k (aF L off n)∧idx k (aF L off n)≤299:=by
 have h:=zB L off n
 unfold idx;split<;>omega
theorem aBR:∀ (f:Nat) (l:List (List Int)),(bS f l).length≤f
 |0,_=>Nat.le_refl _
 |_+1,[]=>Nat.zero_le _
 |f+1,r::rs=>by simp only[bS,List.length_cons];have:=aBR f (gZ (rs.drop (cC rs)));omega
theorem jF (r:List Int) (j:Nat) : -2147483648≤sp r j∧sp r j≤2147483647:=by
 have h:=fK .i32 (r.getD (1+j) 0)
 exact h
theorem aB9 (rows:List (List Int)):(-2147483648≤(bR rows).2.1∧(bR rows).2.1≤2147483647)∧(-2147483648≤(bR rows).2.2∧(bR rows).2.2≤2147483647):=by
 have:∀ (rows:List (List Int)) (t:List (List Int) × Int × Int),((-2147483648≤t.2.1∧t.2.1≤2147483647)∧(-2147483648≤t.2.2∧t.2.2≤2147483647))→((-2147483648≤(rows.foldl dL t).2.1∧(rows.foldl dL t).2.1≤2147483647)∧(-2147483648≤(rows.foldl dL t).2.2∧(rows.foldl dL t).2.2≤2147483647)):=by
  intro rows
  induction rows with
  |nil=>intro t h;exact h
  |cons r rs ih=>
   intro t h
   refine ih (dL t r) ?_
   unfold dL
   split
   ·exact⟨jF r 4,jF r 5⟩
   ·exact⟨jF r 0,jF r 1⟩
 exact this rows ([],0,0) ⟨⟨by decide,by decide⟩,⟨by decide,by decide⟩⟩
def G (g:Nat) (xs:List Int):Int:=
 match g with
 |43=>iX xs
 |44=>aOW xs
 |47=>aOT xs
 |50=>aOO xs
 |51=>aLs xs
 |52=>aL6 xs
 |53=>aJf xs
 |54=>aMf xs
 |55=>aL4 xs
 |56=>aKc xs
 |57=>aLd xs
 |58=>aLJ xs
 |59=>aOR xs
 |60=>aL2 xs
 |61=>aOM xs
 |g=>wG g xs
def aLh:List fT→Option (List Int)
 |[]=>some []
 |some (a,b)::l=>if a=b then (aLh l).map (a::·) else none
 |none::_=>none
theorem aEb:∀ {is:List fT} {xs ys:List Int},dG is xs→aLh is=some ys→xs=ys
 |[],[],ys,_,e=>by cases e;rfl
 |[],_::_,_,h,_=>h.elim
 |_::_,[],_,h,_=>h.elim
 |none::_,_::_,_,_,e=>by cases e
 |some (a,b)::l,x::xs,ys,h,e=>by
  unfold aLh at e
  split at e
  ·rename_i hab
   obtain⟨zs,hz,rfl⟩:=Option.map_eq_some_iff.1 e
   have h1:a≤x∧x≤b:=h.1
   rw[aEb h.2 hz,show x=a by omega]
  ·cases e
def aJo (l:List fT):fT:=
 match aLh l with
 |some ys=>some (iX ys,iX ys)
 |none=>some (0,6)
theorem aFg {is:List fT} {xs:List Int} (h:dG is xs):(aJo is).has (iX xs):=by
 unfold aJo
 split
 ·rename_i ys e
  rw[aEb h e]
  exact⟨Int.le_refl _,Int.le_refl _⟩
 ·exact aD8 xs
theorem aEN (xs:List Int) : -2147483648≤aLs xs∧aLs xs≤2147483647:=by
 unfold aLs;split
 ·exact(aB9 _).1
 ·omega
theorem aEl (xs:List Int) : -2147483648≤aL6 xs∧aL6 xs≤2147483647:=by
 unfold aL6;split
 ·exact(aB9 _).2
 ·omega
theorem aEE (xs:List Int) : -1≤aJf xs∧aJf xs≤299:=by
 unfold aJf;split
 ·exact aKd _ _ _ _
 ·omega
theorem aEF (xs:List Int):0≤aMf xs∧aMf xs≤300:=by
 unfold aMf;split
 ·rename_i L n
  have:=aBR 300 (aF L 0 n)
  omega
 ·omega
theorem aLE (xs:List Int):0≤aL4 xs∧aL4 xs≤1:=by
 unfold aL4;split
 ·split<;>omega
 ·omega
theorem aK7 (xs:List Int):0≤aL2 xs∧aL2 xs≤1:=by
 unfold aL2;split
 ·split<;>omega
 ·omega
theorem aEP (xs:List Int) : -1≤aKc xs∧aKc xs≤299:=by
 unfold aKc;split
 ·exact aKd _ _ _ _
 ·omega
theorem aD1 (xs:List Int):0≤aLd xs∧aLd xs≤19200:=by
 unfold aLd;split
 ·omega
 ·omega
theorem aMi (xs:List Int):0≤aLJ xs∧aLJ xs≤300:=by
 unfold aLJ;split
 ·rename_i L n
  have h1:=aHN (aF L 0 n)
  have h2:=zB L 0 n
  omega
 ·omega
def GI (g:Nat) (l:List fT):fT:=
 match g with
 |43=>aJo l
 |44=>none
 |47=>none
 |50=>none
 |51=>some (-2147483648,2147483647)
 |52=>some (-2147483648,2147483647)
 |53=>some (-1,299)
 |54=>some (0,300)
 |55=>some (0,1)
 |56=>some (-1,299)
 |57=>some (0,19200)
 |58=>some (0,300)
 |59=>none
 |60=>some (0,1)
 |61=>none
 |g=>wGI g l
theorem aNe:∀ g is xs,dG is xs→(GI g is).has (G g xs):=by
 intro g is xs h
 unfold G GI
 split
 ·exact aFg h
 ·trivial
 ·trivial
 ·trivial
 ·exact aEN xs
 ·exact aEl xs
 ·exact aEE xs
 ·exact aEF xs
 ·exact aLE xs
 ·exact aEP xs
 ·exact aD1 xs
 ·exact aMi xs
 ·trivial
 ·exact aK7 xs
 ·trivial
 ·exact aMY _ is xs h
theorem hZ:aEX G:=by
 intro g xs h1 h2
 unfold G
 split
 ·omega
 ·omega
 ·omega
 ·omega
 ·omega
 ·omega
 ·omega
 ·omega
 ·omega
 ·omega
 ·omega
 ·omega
 ·omega
 ·omega
 ·omega
 ·exact aMG _ xs h1 h2
theorem eX:GiOk G GI:=⟨aNe,hZ⟩
def GB:dD:=[]
theorem fI (xs:List Int) (m:Int):∀ a,(hJ xs m a).length=a+1
 |0=>rfl
 |a+1=>by simp only[hJ,List.length_append,fI xs m a,List.length_cons,List.length_nil]
theorem fH (xs:List Int):1≤cK xs∧cK xs≤64:=by
 have h:=aD8 xs
 unfold cK
 have:iX xs=0∨iX xs=1∨iX xs=2∨iX xs=3∨iX xs=4∨iX xs=5∨iX xs=6:=by omega
 rcases this with e|e|e|e|e|e|e<;>rw[e]<;>decide
theorem fits:kB Try.prog:=⟨by kernel_rfl,fun _=>rfl⟩
def wide? (a b:E):Option E:=
 match a,b with
 | .app 0 (.cons e .nil),.app 1 (.cons f .nil)=>if e.eqb f then some e else none
 | .lit x,.lit y=>if decide (0≤y) && decide (y<18446744073709551616) then some (.lit (x*18446744073709551616+y)) else none
 |_,_=>none
theorem wide?_den {ρ:Nat→Int} {a b e:E} (h:wide? a b=some e):a.den G ρ=hi (e.den G ρ)∧b.den G ρ=lo (e.den G ρ):=by
 unfold wide? at h
 split at h
 ·split at h
  ·rename_i hf
   cases h
   have:=E.eqb_eq _ _ hf
   subst this
   exact⟨rfl,rfl⟩
  ·cases h
 ·split at h
  ·rename_i x y hf
   cases h
   simp only[Bool.and_eq_true,decide_eq_true_eq]at hf
   simp only[E.den]
   unfold hi lo
   omega
  ·cases h
 ·cases h
def W2 (e:E):SV := .agg [.int .i64 (.app 0 (.cons e .nil)),.int .u64 (.app 1 (.cons e .nil))]
def aNN (X:Ctx) (e:E):Bool:=e.lies X (-170141183460469231731687303715884105728) 170141183460469231731687303715884105727
theorem aEf {X:Ctx} {ρ:Nat→Int} (hX:X.Ok ρ) {e:E} (h:aNN X e=true):kC (e.den X.G ρ):=by
 have:=E.lies_in hX h
 unfold kC;omega
def rV:tK:=fun X args=>
 match args with
 |[.int .i64 a]=>if a.fits X .i64 then .ok (W2 a) else .fail 200
 |_ => .fail 201
theorem aMO {X:Ctx} {ρ:Nat→Int} (hX:X.Ok ρ) (hG:X.G=G):oE Try.prog X ρ GB 31 rV:=by
 obtain⟨XG,XI,XV,XF⟩:=X
 simp only at hG
 subst hG
 have hk:gJ Try.prog 31:=⟨_,Try.func31,by kernel_rfl,by kernel_rfl⟩
 intro args s h α w vals hv hw
 unfold rV at h
 split at h
 ·split at h
  ·rename_i hg
   cases h
   exact gD hv rfl rfl ⟨hk,xT _ (E.fits_in hX hg) w⟩
  ·cases h
 ·cases h
def mZ:tK:=fun X args=>
 match args with
 |[.agg [.int .i64 a,.int .u64 b],.int .i64 d]=>match wide? a b with
  |some e=>if aNN X e && d.lies X 1 9223372036854775807 then .ok (.tuple [W2 (.app 2 (.cons e (.cons d .nil))),.int .i64 (.lit 0)]) else .fail 200
  |_ => .fail 202
 |_ => .fail 201
theorem aIa {X:Ctx} {ρ:Nat→Int} (hX:X.Ok ρ) (hG:X.G=G):oE Try.prog X ρ GB 30 mZ:=by
 obtain⟨XG,XI,XV,XF⟩:=X
 simp only at hG
 subst hG
 have hk:gJ Try.prog 30:=⟨_,Try.func30,by kernel_rfl,by kernel_rfl⟩
 intro args s h α w vals hv hw
 unfold mZ at h
 split at h
 ·split at h
  ·rename_i a b d _ e he
   split at h
   ·rename_i hg
    simp only[Bool.and_eq_true]at hg
    cases h
    obtain⟨e1,e2⟩:=wide?_den (ρ:=ρ) he
    refine gD hv rfl rfl ⟨hk,?_⟩
    obtain⟨d1,d2⟩:=E.lies_in hX hg.2
    have k:=aKY (e.den G ρ) (d.den G ρ) (aEf hX hg.1) (show 0<d.den G ρ from d1) d2 w
    rw[←e1,←e2]at k
    exact k
   ·cases h
  ·cases h
 ·cases h
def pM:tK:=fun X args=>
 match args with
 |[.agg [.int .i64 a,.int .u64 b]]=>match wide? a b with
  |some e=>if aNN X e then (Res.test X (.cmp .le (.lit (-9223372036854775808)) e)).bind fun t=>if t then ((Res.test X (.cmp .le e (.lit 9223372036854775807))).bind fun u=>if u then .ok (.tuple [.int .i64 e,.bool (.lit true)]) else .ok (.tuple [.int .i64 (.lit 0),.bool (.lit false)])) else .ok (.tuple [.int .i64 (.lit 0),.bool (.lit false)]) else .fail 200
  |_ => .fail 202
 |_ => .fail 201
theorem aLX {X:Ctx} {ρ:Nat→Int} (hX:X.Ok ρ) (hG:X.G=G):oE Try.prog X ρ GB 32 pM:=by
 obtain⟨XG,XI,XV,XF⟩:=X
 simp only at hG
 subst hG
 have hk:gJ Try.prog 32:=⟨_,Try.func32,by kernel_rfl,by kernel_rfl⟩
 intro args s h α w vals hv hw
 unfold pM at h
 split at h
 ·split at h
  ·rename_i a b _ e he
   split at h
   ·rename_i hg
    obtain⟨e1,e2⟩:=wide?_den (ρ:=ρ) he
    have hb:=aEf hX hg
    obtain⟨t,ht,h⟩:=Res.bind_ok h
    have ht:=Res.test_ok hX ht
    simp only[B.den,aJz,E.den]at ht
    have no:¬I64 (e.den G ρ)→s = .tuple [.int .i64 (.lit 0),.bool (.lit false)]→gJ Try.prog 32∧Calls Try.prog 32 vals.toArray w (fun e w'=>∃ v,e = .returned v∧SV.R G ρ α s v∧Below w.heap.size w w'):=by
     rintro hn rfl
     refine gD hv rfl rfl ⟨hk,?_⟩
     have k:=aNA (e.den G ρ) hn hb w
     rw[←e1,←e2]at k
     exact k
    cases t with
    |false=>cases h;exact no (by unfold I64;simp at ht;omega) rfl
    |true=>
     simp only[if_true]at h
     obtain⟨u,hu,h⟩:=Res.bind_ok h
     have hu:=Res.test_ok hX hu
     simp only[B.den,aJz,E.den]at hu
     cases u with
     |false=>cases h;exact no (by unfold I64;simp at hu;omega) rfl
     |true=>
      cases h
      refine gD hv rfl rfl ⟨hk,?_⟩
      have k:=aL3 (e.den G ρ) ⟨of_decide_eq_true ht,of_decide_eq_true hu⟩ w
      rw[←e1,←e2]at k
      exact k
   ·cases h
  ·cases h
 ·cases h
def aJ5:bB:=pS 31 rV aIG
theorem aGO {X:Ctx} {ρ:Nat→Int} (hX:X.Ok ρ) (hG:X.G=G):iV Try.prog X ρ GB aJ5:=kU (aMO hX hG) (aJP)
def aBA:bB:=pS 30 mZ aJ5
theorem aBr {X:Ctx} {ρ:Nat→Int} (hX:X.Ok ρ) (hG:X.G=G):iV Try.prog X ρ GB aBA:=kU (aIa hX hG) (aGO hX hG)
def aE0:bB:=pS 32 pM aBA
theorem aDj {X:Ctx} {ρ:Nat→Int} (hX:X.Ok ρ) (hG:X.G=G):iV Try.prog X ρ GB aE0:=kU (aLX hX hG) (aBr hX hG)
def aLL:bB:=aE0
theorem aAE {X:Ctx} {ρ:Nat→Int} (hX:X.Ok ρ) (hG:X.G=G):iV Try.prog X ρ GB aLL:=aDj hX hG
end Go.Proofs.Ythiehfhphgkaeaa
namespace Bz
def near (n d:Int):Int:=(2*n+d) / (2*d)
def w0 (i m:Int):Int:=(m-i)*(m-i)*(m-i)
def w1 (i m:Int):Int:=3*(m-i)*(m-i)*i
def w2 (i m:Int):Int:=3*(m-i)*i*i
def w3 (i:Int):Int:=i*i*i
def sum (p0 p1 p2 p3 i m:Int):Int:=p0*w0 i m+p1*w1 i m+p2*w2 i m+p3*w3 i
def edge (p0 p1 p2 p3 i m:Int):Int:=near (sum p0 p1 p2 p3 i m) (256*(m*m*m))
theorem near_mul (n d k:Int) (hk:0<k):near (n*k) (d*k)=near n d:=by
 unfold near
 have e1:2*(n*k)+d*k=(2*n+d)*k:=by grind
 have e2:2*(d*k)=2*d*k:=by grind
 rw[e1,e2,Int.mul_ediv_mul_of_pos_left _ _ hk]
theorem near_mono {m n d:Int} (hd:0<d) (h:m≤n):near m d≤near n d:=by
 unfold near;exact Int.ediv_le_ediv (by omega) (by omega)
theorem near_add (n d k:Int) (hd:0<d):near (n+k*d) d=near n d+k:=by
 unfold near
 have e:2*(n+k*d)+d=(2*n+d)+k*(2*d):=by grind
 rw[e,Int.add_mul_ediv_right _ _ (by omega)]
theorem aMx (i m:Int):w0 i m+w1 i m+w2 i m+w3 i=m*m*m:=by unfold w0 w1 w2 w3;grind
theorem near_256 (n:Int):near n 256=(n+128) / 256:=by unfold near;omega
theorem aCC (i m:Int) (h0:0≤i) (h:i≤m):0≤w0 i m∧0≤w1 i m∧0≤w2 i m∧0≤w3 i:=by
 have a:0≤m-i:=by omega
 have b:0≤3*(m-i):=by omega
 exact⟨Int.mul_nonneg (Int.mul_nonneg a a) a,Int.mul_nonneg (Int.mul_nonneg b a) h0,Int.mul_nonneg (Int.mul_nonneg b h0) h0,Int.mul_nonneg (Int.mul_nonneg h0 h0) h0⟩
theorem aMK (p0 p1 p2 p3 i m c:Int) (h0:0≤i) (h:i≤m) (a0:p0≤c) (a1:p1≤c) (a2:p2≤c) (a3:p3≤c):sum p0 p1 p2 p3 i m≤c*(m*m*m):=by
 obtain⟨k0,k1,k2,k3⟩:=aCC i m h0 h
 rw[←aMx i m]
 have b0:=Int.mul_le_mul_of_nonneg_right a0 k0;have b1:=Int.mul_le_mul_of_nonneg_right a1 k1;have b2:=Int.mul_le_mul_of_nonneg_right a2 k2;have b3:=Int.mul_le_mul_of_nonneg_right a3 k3
 have e:c*(w0 i m+w1 i m+w2 i m+w3 i)=c*w0 i m+c*w1 i m+c*w2 i m+c*w3 i:=by grind
 unfold sum;omega
theorem aM5 (p0 p1 p2 p3 i m c:Int) (h0:0≤i) (h:i≤m) (a0:c≤p0) (a1:c≤p1) (a2:c≤p2) (a3:c≤p3):c*(m*m*m)≤sum p0 p1 p2 p3 i m:=by
 obtain⟨k0,k1,k2,k3⟩:=aCC i m h0 h
 rw[←aMx i m]
 have b0:=Int.mul_le_mul_of_nonneg_right a0 k0;have b1:=Int.mul_le_mul_of_nonneg_right a1 k1;have b2:=Int.mul_le_mul_of_nonneg_right a2 k2;have b3:=Int.mul_le_mul_of_nonneg_right a3 k3
 have e:c*(w0 i m+w1 i m+w2 i m+w3 i)=c*w0 i m+c*w1 i m+c*w2 i m+c*w3 i:=by grind
 unfold sum;omega
theorem edge_le (p0 p1 p2 p3 i m c:Int) (h0:0≤i) (h:i≤m) (hm:0<m) (a0:p0≤c) (a1:p1≤c) (a2:p2≤c) (a3:p3≤c):edge p0 p1 p2 p3 i m≤(c+128) / 256:=by
 have hp:0<m*m*m:=Int.mul_pos (Int.mul_pos hm hm) hm
 rw[←near_256,←near_mul c 256 (m*m*m) hp]
 exact near_mono (by omega) (aMK _ _ _ _ _ _ _ h0 h a0 a1 a2 a3)
theorem edge_ge (p0 p1 p2 p3 i m c:Int) (h0:0≤i) (h:i≤m) (hm:0<m) (a0:c≤p0) (a1:c≤p1) (a2:c≤p2) (a3:c≤p3):(c+128) / 256≤edge p0 p1 p2 p3 i m:=by
 have hp:0<m*m*m:=Int.mul_pos (Int.mul_pos hm hm) hm
 rw[←near_256,←near_mul c 256 (m*m*m) hp]
 exact near_mono (by omega) (aM5 _ _ _ _ _ _ _ h0 h a0 a1 a2 a3)
end Bz
