/- What is proved: what wides.Add,Sub and Int return: sums and differences that are numbers of 128 bits. -/
import Derived.Test.YtkpdiehbaiepaaaQg5
import Derived.Lib.ItoaNum
import Derived.Test.YtkpdiehbaiepaaaQg3
import Derived.Test.YtkpdiehbaiepaaaProg
set_option linter.unusedSimpArgs false
set_option linter.unusedVariables false
namespace Go.Proofs.Ytkpdiehbaiepaaa
open Go.RowKit Wi
set_option maxHeartbeats 800000 in
theorem aLr (a b:Int) (ha:iF a) (hb:iF b) (hr:iF (a+b)) (w:World):Calls Try.prog 103 #[.agg #[.int .i64 (hi (a)),.int .u64 (lo (a))],.agg #[.int .i64 (hi (b)),.int .u64 (lo (b))]] w fun e w'=>e = .returned (.tuple #[.agg #[.int .i64 (hi (a+b)),.int .u64 (lo (a+b))],.int .i64 0])∧Below w.heap.size w w':=by
 obtain⟨l1,l2⟩:=qG a
 obtain⟨l3,l4⟩:=qG b
 have q1:=pP a
 have q2:=pP b
 have q3:=pP (a+b)
 have i0:IntKind.i64.wrap ((lo a+lo b) / 18446744073709551616)=(lo a+lo b) / 18446744073709551616:=IntWalk.i64_in _ (by omega)
 have i1:wrap64 (wrap64 (hi a+hi b)+(lo a+lo b) / 18446744073709551616)=hi (a+b):=by unfold wrap64;unfold iF at hr;unfold hi lo;omega
 have i2:(lo a+lo b) % 18446744073709551616=lo (a+b):=by unfold lo;omega
 clear hr ha hb
 rcases Int.lt_or_le a 0 with ga|ga<;>rcases Int.lt_or_le b 0 with gb|gb
 ·have t1:hi a<0:=q1.2 ga
  have t2:hi b<0:=q2.2 gb
  have t3:hi (a+b)<0:=q3.2 (by omega)
  clear q1 q2 q3 ga gb
  go_enter Try.func103,Try.ntmps103
  go_wp2_with (simp only[mE (lo a) (lo b) l1 l3])
  exact bodyPost_ret (v := .tuple #[.agg #[.int .i64 (hi (a+b)),.int .u64 (lo (a+b))],.int .i64 0]) (by simp [results,Try.results103,go_sem, *]) rfl ⟨rfl,by repeat (with_reducible first|exact aD _|refine cA _ (by omega) ?_|apply aA|apply aC)⟩
 ·have t1:hi a<0:=q1.2 ga
  have t2:¬hi b<0:=fun h=>by have:=q2.1 h;omega
  clear q1 q2 q3 ga gb
  go_enter Try.func103,Try.ntmps103
  go_wp2_with (simp only[mE (lo a) (lo b) l1 l3])
  exact bodyPost_ret (v := .tuple #[.agg #[.int .i64 (hi (a+b)),.int .u64 (lo (a+b))],.int .i64 0]) (by simp [results,Try.results103,go_sem, *]) rfl ⟨rfl,by repeat (with_reducible first|exact aD _|refine cA _ (by omega) ?_|apply aA|apply aC)⟩
 ·have t1:¬hi a<0:=fun h=>by have:=q1.1 h;omega
  have t2:hi b<0:=q2.2 gb
  clear q1 q2 q3 ga gb
  go_enter Try.func103,Try.ntmps103
  go_wp2_with (simp only[mE (lo a) (lo b) l1 l3])
  exact bodyPost_ret (v := .tuple #[.agg #[.int .i64 (hi (a+b)),.int .u64 (lo (a+b))],.int .i64 0]) (by simp [results,Try.results103,go_sem, *]) rfl ⟨rfl,by repeat (with_reducible first|exact aD _|refine cA _ (by omega) ?_|apply aA|apply aC)⟩
 ·have t1:¬hi a<0:=fun h=>by have:=q1.1 h;omega
  have t2:¬hi b<0:=fun h=>by have:=q2.1 h;omega
  have t3:¬hi (a+b)<0:=fun h=>by have:=q3.1 h;omega
  clear q1 q2 q3 ga gb
  go_enter Try.func103,Try.ntmps103
  go_wp2_with (simp only[mE (lo a) (lo b) l1 l3])
  exact bodyPost_ret (v := .tuple #[.agg #[.int .i64 (hi (a+b)),.int .u64 (lo (a+b))],.int .i64 0]) (by simp [results,Try.results103,go_sem, *]) rfl ⟨rfl,by repeat (with_reducible first|exact aD _|refine cA _ (by omega) ?_|apply aA|apply aC)⟩
set_option maxHeartbeats 800000 in
theorem aZo (a b:Int) (ha:iF a) (hb:iF b) (hr:iF (a-b)) (w:World):Calls Try.prog 132 #[.agg #[.int .i64 (hi (a)),.int .u64 (lo (a))],.agg #[.int .i64 (hi (b)),.int .u64 (lo (b))]] w fun e w'=>e = .returned (.tuple #[.agg #[.int .i64 (hi (a-b)),.int .u64 (lo (a-b))],.int .i64 0])∧Below w.heap.size w w':=by
 obtain⟨l1,l2⟩:=qG a
 obtain⟨l3,l4⟩:=qG b
 have q1:=pP a
 have q2:=pP b
 have q3:=pP (a-b)
 have b0:0≤bor (lo a) (lo b)∧bor (lo a) (lo b)≤1:=by unfold bor;split<;>omega
 have i0:IntKind.i64.wrap (bor (lo a) (lo b))=bor (lo a) (lo b):=IntWalk.i64_in _ (by omega)
 have i1:wrap64 (wrap64 (hi a-hi b)-bor (lo a) (lo b))=hi (a-b):=by unfold wrap64 bor;unfold iF at hr;unfold hi lo;split<;>omega
 have i2:(lo a-lo b) % 18446744073709551616=lo (a-b):=by unfold lo;omega
 clear b0
 clear hr ha hb
 rcases Int.lt_or_le a 0 with ga|ga<;>rcases Int.lt_or_le b 0 with gb|gb
 ·have t1:hi a<0:=q1.2 ga
  have t2:hi b<0:=q2.2 gb
  clear q1 q2 q3 ga gb
  go_enter Try.func132,Try.ntmps132
  go_wp2_with (simp only[zA (lo a) (lo b) l1 l3 l4])
  exact bodyPost_ret (v := .tuple #[.agg #[.int .i64 (hi (a-b)),.int .u64 (lo (a-b))],.int .i64 0]) (by simp [results,Try.results132,go_sem, *]) rfl ⟨rfl,by repeat (with_reducible first|exact aD _|refine cA _ (by omega) ?_|apply aA|apply aC)⟩
 ·have t1:hi a<0:=q1.2 ga
  have t2:¬hi b<0:=fun h=>by have:=q2.1 h;omega
  have t3:hi (a-b)<0:=q3.2 (by omega)
  clear q1 q2 q3 ga gb
  go_enter Try.func132,Try.ntmps132
  go_wp2_with (simp only[zA (lo a) (lo b) l1 l3 l4])
  exact bodyPost_ret (v := .tuple #[.agg #[.int .i64 (hi (a-b)),.int .u64 (lo (a-b))],.int .i64 0]) (by simp [results,Try.results132,go_sem, *]) rfl ⟨rfl,by repeat (with_reducible first|exact aD _|refine cA _ (by omega) ?_|apply aA|apply aC)⟩
 ·have t1:¬hi a<0:=fun h=>by have:=q1.1 h;omega
  have t2:hi b<0:=q2.2 gb
  have t3:¬hi (a-b)<0:=fun h=>by have:=q3.1 h;omega
  clear q1 q2 q3 ga gb
  go_enter Try.func132,Try.ntmps132
  go_wp2_with (simp only[zA (lo a) (lo b) l1 l3 l4])
  exact bodyPost_ret (v := .tuple #[.agg #[.int .i64 (hi (a-b)),.int .u64 (lo (a-b))],.int .i64 0]) (by simp [results,Try.results132,go_sem, *]) rfl ⟨rfl,by repeat (with_reducible first|exact aD _|refine cA _ (by omega) ?_|apply aA|apply aC)⟩
 ·have t1:¬hi a<0:=fun h=>by have:=q1.1 h;omega
  have t2:¬hi b<0:=fun h=>by have:=q2.1 h;omega
  clear q1 q2 q3 ga gb
  go_enter Try.func132,Try.ntmps132
  go_wp2_with (simp only[zA (lo a) (lo b) l1 l3 l4])
  exact bodyPost_ret (v := .tuple #[.agg #[.int .i64 (hi (a-b)),.int .u64 (lo (a-b))],.int .i64 0]) (by simp [results,Try.results132,go_sem, *]) rfl ⟨rfl,by repeat (with_reducible first|exact aD _|refine cA _ (by omega) ?_|apply aA|apply aC)⟩
theorem aYQ (n:Int) (h:I64 n) (w:World):Calls Try.prog 106 #[.agg #[.int .i64 (hi (n)),.int .u64 (lo (n))]] w fun e w'=>e = .returned (.tuple #[.int .i64 n,.bool true])∧Below w.heap.size w w':=by
 have i1:IntKind.i64.wrap (lo n)=n:=by rw[IntKind.wrap_i64];unfold I64 at h;unfold lo;omega
 go_enter Try.func106,Try.ntmps106
 go_wp2
 obtain⟨w0,hw0⟩:∃ x:World,x=(w.alloc (.cells #[.int .i64 (hi (n)),.int .u64 (lo (n))] 175)):=⟨_,rfl⟩
 have k0:w0.cell? ⟨w.heap.size,0,none⟩=some (.int .i64 (hi (n))):=by rw[hw0];repeat (first|(refine aS ?_ rfl;(simp;done))|refine aT ?_)
 have k1:w0.cell? ⟨w.heap.size,1,none⟩=some (.int .u64 (lo (n))):=by rw[hw0];repeat (first|(refine aS ?_ rfl;(simp;done))|refine aT ?_)
 have z0:w.heap.size<w0.heap.size:=World.block_lt_of_cell? _ _ k0
 have hB:Below w.heap.size w w0:=by rw[hw0];repeat (with_reducible first|exact aD _|apply aA)
 rw[←hw0]
 clear hw0
 go_region_held3 (fun w'=>Below w.heap.size w w'∧(w.heap.size<w'.heap.size)∧w'.cell? ⟨w.heap.size,0,none⟩=some (.int .i64 (hi (n)))∧w'.cell? ⟨w.heap.size,1,none⟩=some (.int .u64 (lo (n))))
  ((exact⟨by repeat (with_reducible first|exact aD _|exact hB|(simp only[*];done)|apply aC|apply aA|apply hx),by first|omega|(simp only[World.size_alloc,World.size_drew];omega)|(simp;omega),by first|(simp;done)|(simp [*];done)|(simp [*,World.cell?_setCell_far];done)|(simp (disch:=omega) [World.cell?_alloc_past, *];done)⟩))
  (first
   |(go_at_call 119;refine(rR _ h _).mono ?_;rintro e w1 ⟨rfl,hb⟩;have hx:=fun h=>aF hb h (w:=w);obtain⟨hc,hf⟩:=aZL hb;have hz:=hb.size))
 go_wp2
 exact bodyPost_ret (v := .tuple #[.int .i64 n,.bool true]) (by simp [results,Try.results106,go_sem]) rfl ⟨rfl,by simp [*]⟩
theorem bAI (n:Int) (h:¬I64 n) (hb:iF n) (w:World):Calls Try.prog 106 #[.agg #[.int .i64 (hi (n)),.int .u64 (lo (n))]] w fun e w'=>e = .returned (.tuple #[.int .i64 0,.bool false])∧Below w.heap.size w w':=by
 obtain⟨m,hm⟩:∃ m,m=IntKind.i64.wrap (lo n):=⟨_,rfl⟩
 have i1:IntKind.i64.wrap (lo n)=m:=hm.symm
 have hI:I64 m:=by rw[hm,IntKind.wrap_i64];unfold I64 lo;omega
 have i2:lo m=lo n:=by rw[hm,IntKind.wrap_i64];unfold lo;omega
 have i3:¬hi n=hi m:=by
  intro e
  have:=bAc n
  have:=bAc m
  have:n=m:=by omega
  rw[this]at h;exact h hI
 clear hm h hb
 go_enter Try.func106,Try.ntmps106
 go_wp2
 obtain⟨w0,hw0⟩:∃ x:World,x=(w.alloc (.cells #[.int .i64 (hi (n)),.int .u64 (lo (n))] 175)):=⟨_,rfl⟩
 have k0:w0.cell? ⟨w.heap.size,0,none⟩=some (.int .i64 (hi (n))):=by rw[hw0];repeat (first|(refine aS ?_ rfl;(simp;done))|refine aT ?_)
 have k1:w0.cell? ⟨w.heap.size,1,none⟩=some (.int .u64 (lo (n))):=by rw[hw0];repeat (first|(refine aS ?_ rfl;(simp;done))|refine aT ?_)
 have z0:w.heap.size<w0.heap.size:=World.block_lt_of_cell? _ _ k0
 have hB:Below w.heap.size w w0:=by rw[hw0];repeat (with_reducible first|exact aD _|apply aA)
 rw[←hw0]
 clear hw0
 go_region_held3 (fun w'=>Below w.heap.size w w'∧(w.heap.size<w'.heap.size)∧w'.cell? ⟨w.heap.size,0,none⟩=some (.int .i64 (hi (n)))∧w'.cell? ⟨w.heap.size,1,none⟩=some (.int .u64 (lo (n))))
  ((exact⟨by repeat (with_reducible first|exact aD _|exact hB|(simp only[*];done)|apply aC|apply aA|apply hx),by first|omega|(simp only[World.size_alloc,World.size_drew];omega)|(simp;omega),by first|(simp;done)|(simp [*];done)|(simp [*,World.cell?_setCell_far];done)|(simp (disch:=omega) [World.cell?_alloc_past, *];done)⟩))
  (first
   |(go_at_call 119;refine(rR _ hI _).mono ?_;rintro e w1 ⟨rfl,hb⟩;have hx:=fun h=>aF hb h (w:=w);obtain⟨hc,hf⟩:=aZL hb;have hz:=hb.size))
 go_wp2
 exact bodyPost_ret (v := .tuple #[.int .i64 0,.bool false]) (by simp [results,Try.results106,go_sem]) rfl ⟨rfl,by simp [*]⟩
open Go.RowKit Wi Dv
theorem aBK (lo y:Int) (hl:eN lo) (hy:0<y∧y<18446744073709551616) (w:World):Calls Try.prog 143 #[.int .u64 0,.int .u64 lo,.int .u64 y] w fun e w'=>e = .returned (.tuple #[.int .u64 (lo / y),.int .u64 (lo % y)])∧Below w.heap.size w w':=by
 obtain⟨l1,l2⟩:=hl
 obtain⟨y1,y2⟩:=hy
 have n0:¬y=0:=by omega
 have n1:¬y≤0:=by omega
 have d0:0≤lo / y:=Int.ediv_nonneg l1 (by omega)
 have d1:lo / y≤lo:=Int.ediv_le_self _ l1
 have d2:=Int.emod_nonneg lo n0
 have d3:=Int.emod_lt_of_pos lo y1
 have td:lo.tdiv y=lo / y:=Int.tdiv_eq_ediv_of_nonneg l1
 have tm:lo.tmod y=lo % y:=Int.tmod_eq_emod_of_nonneg l1
 go_enter Try.func143,Try.ntmps143
 go_wp2
 go_quiet (fail)
 go_wp2
 exact bodyPost_ret (v := .tuple #[.int .u64 (lo / y),.int .u64 (lo % y)]) (by simp [results,Try.results143,go_sem]) rfl ⟨rfl,below_drewN (aD _) _⟩
theorem aYs (y:Int) (y1:0<y) (y2:y<18446744073709551616):∃ s:Nat,(64-(Lib.bitLen y.toNat:Int))=s∧s≤64∧9223372036854775808≤y*2 ^ s∧y*2 ^ s<18446744073709551616:=by
 obtain⟨n,rfl⟩:=Int.eq_ofNat_of_zero_le (Int.le_of_lt y1)
 have h:=Lib.bitLenAux_bounds 64 n (by omega) (by omega)
 have hb:Lib.bitLen n≤64:=Lib.bitLen_le n 64 (by omega) (by omega)
 have e:Lib.bitLen n=Lib.bitLenAux 64 n:=rfl
 rw[←e]at h
 obtain⟨h1,h2,h3⟩:=h
 rw[Int.toNat_natCast]
 generalize Lib.bitLen n=L at *
 refine⟨64-L,by omega,by omega,?_⟩
 have k1:2 ^ (L-1)*2 ^ (64-L)≤n*2 ^ (64-L):=Nat.mul_le_mul_right _ h2
 have k2:n*2 ^ (64-L)<2 ^ L*2 ^ (64-L):=Nat.mul_lt_mul_of_pos_right h3 (Nat.two_pow_pos _)
 rw[←Nat.pow_add]at k1 k2
 rw[show L-1+(64-L)=63 by omega]at k1
 rw[show L+(64-L)=64 by omega]at k2
 have c:((n*2 ^ (64-L):Nat):Int)=(n:Int)*2 ^ (64-L):=by rw[Int.natCast_mul,Int.natCast_pow];rfl
 rw[←c]
 omega
theorem aOM (x:Int) (h0:0≤x) (h1:x<18446744073709551616):bits .and .u64 x 4294967295=x % 4294967296:=by
 obtain⟨n,rfl⟩:=Int.eq_ofNat_of_zero_le h0
 rw[Mul64.maskN n (by omega)];omega
theorem aRG (h lo:Int) (s:Nat) (h0:0≤h) (l0:0≤lo) (g1:h*2 ^ s<18446744073709551616) (g2:lo / 2 ^ (64-s)<2 ^ s) (hs:s≤64):
  bits .or .u64 (IntKind.u64.wrap (h*2 ^ s)) (lo / 2 ^ (64-s))=h*2 ^ s+lo / 2 ^ (64-s):=by
 obtain⟨a,rfl⟩:=Int.eq_ofNat_of_zero_le h0
 obtain⟨b,rfl⟩:=Int.eq_ofNat_of_zero_le l0
 have c1:((a*2 ^ s:Nat):Int)=(a:Int)*2 ^ s:=by rw[Int.natCast_mul,Int.natCast_pow];rfl
 have c2:((b / 2 ^ (64-s):Nat):Int)=(b:Int) / 2 ^ (64-s):=by rw[Int.natCast_ediv,Int.natCast_pow];rfl
 have c3:((2 ^ s:Nat):Int)=2 ^ s:=by rw[Int.natCast_pow];rfl
 have p:(2:Nat) ^ s≤2 ^ 64:=Nat.pow_le_pow_right (by decide) hs
 rw[IntKind.wrap_u64,←c1,←c2]
 rw[←c1]at g1
 rw[←c2,←c3]at g2
 rw[Int.emod_eq_of_lt (by omega) g1,bits_or_u64_nat _ _ (by omega) (by omega)]
 have k:=Nat.shiftLeft_add_eq_or_of_lt (b:=b / 2 ^ (64-s)) (i:=s) (by omega) a
 rw[Nat.shiftLeft_eq]at k
 rw[←k,Int.natCast_add]
set_option maxHeartbeats 1600000 in
theorem aIz (h lo y:Int) (hh:0<h∧h<y) (hl:eN lo) (hy:0<y∧y<18446744073709551616) (w:World):Calls Try.prog 143 #[.int .u64 h,.int .u64 lo,.int .u64 y] w fun e w'=>e = .returned (.tuple #[.int .u64 ((h*18446744073709551616+lo) / y),.int .u64 ((h*18446744073709551616+lo) % y)])∧Below w.heap.size w w':=by
 obtain⟨l1,l2⟩:=hl
 obtain⟨y1,y2⟩:=hy
 obtain⟨h1,h2⟩:=hh
 have n0:¬y=0:=by omega
 have n1:¬y≤h:=by omega
 have n2:¬h=0:=by omega
 obtain⟨s,hs',s64,ys1,ys2⟩:=aYs y y1 y2
 obtain⟨p1,p2,p3,p4,p5,p6,p7⟩:=bD2 h lo y s s64 ys1 ys2 (by omega) h2 l1 l2
 have f4:=aRG h lo s (by omega) l1 p3 p5 s64
 have bk:=aCL (h*18446744073709551616+lo) y (2 ^ s) p7
 have f1:IntKind.u64.wrap (y*2 ^ s)=y*2 ^ s:=by rw[IntKind.wrap_u64];omega
 have f5:IntKind.u64.wrap (lo*2 ^ s)=lo*2 ^ s % 18446744073709551616:=IntKind.wrap_u64 _
 have hV:0≤lo*2 ^ s % 18446744073709551616∧lo*2 ^ s % 18446744073709551616<18446744073709551616:=by omega
 rw[←p1]at bk
 generalize hYe:y*2 ^ s=Y at *
 generalize hVe:lo*2 ^ s % 18446744073709551616=V at *
 have hU0:0≤h*2 ^ s+lo / 2 ^ (64-s):=by omega
 generalize h*2 ^ s+lo / 2 ^ (64-s)=U at *
 have kn1:Kn (Y / 4294967296) (Y % 4294967296) U (V / 4294967296):=bAm Y U _ ys1 ys2 hU0 p6 (by omega) (by omega)
 have f2:=aOM Y (by omega) ys2
 have f3:=aOM V hV.1 hV.2
 have kY:Y / 4294967296*4294967296+Y % 4294967296=Y:=by omega
 have rb1:=aKQ Y U (V / 4294967296) (by omega)
 have re1:=aLF Y U (V / 4294967296)
 have tq1:=bDy Y U (V / 4294967296)
 have ts:=aMV Y U (V / 4294967296) (V % 4294967296) (by omega)
 have hVV:V / 4294967296*4294967296+V % 4294967296=V:=by omega
 rw[Int.add_assoc,hVV]at ts
 generalize (U*4294967296+V / 4294967296) % Y=R at *
 have kn2:Kn (Y / 4294967296) (Y % 4294967296) R (V % 4294967296):=bAm Y R _ ys1 ys2 rb1.1 rb1.2 (by omega) (by omega)
 have rb2:=aKQ Y R (V % 4294967296) (by omega)
 have re2:=aLF Y R (V % 4294967296)
 have tq2:=bDy Y R (V % 4294967296)
 have tb1:=aQ4 kn1
 have tb2:=aQ4 kn2
 rw[tq1]at tb1
 rw[tq2]at tb2
 generalize hT1:(U*4294967296+V / 4294967296) / Y=T1 at *
 generalize hT2:(R*4294967296+V % 4294967296) / Y=T2 at *
 generalize (R*4294967296+V % 4294967296) % Y=R2 at *
 have st1:=Inv.start kn1
 have st2:=Inv.start kn2
 have hV1:0≤V / 4294967296∧V / 4294967296<4294967296:=by omega
 have hV0:0≤V % 4294967296∧V % 4294967296<4294967296:=by omega
 generalize fV1:V / 4294967296=V1 at *
 generalize V % 4294967296=V0 at *
 have hY1:2147483648≤Y / 4294967296:=by omega
 generalize fY1:Y / 4294967296=Y1 at *
 generalize Y % 4294967296=Y0 at *
 have nY:¬Y1=0:=by omega
 have q1:IntKind.u64.wrap (U.tdiv Y1)=U / Y1:=by
  rw[IntKind.wrap_u64,Int.tdiv_eq_ediv_of_nonneg hU0]
  have:=(Inv.bd kn1 st1).2.2.2.2.2.2;exact Int.emod_eq_of_lt this.1 this.2.1
 have r1:IntKind.u64.wrap (U-IntKind.u64.wrap (U / Y1*Y1))=U % Y1:=by
  have e:=st1.e
  have l1:=st1.r0
  have l2:=st1.r1
  rw[IntKind.wrap_u64,IntKind.wrap_u64]
  generalize U / Y1*Y1=P at *
  omega
 have q2:IntKind.u64.wrap (R.tdiv Y1)=R / Y1:=by
  rw[IntKind.wrap_u64,Int.tdiv_eq_ediv_of_nonneg rb1.1]
  have:=(Inv.bd kn2 st2).2.2.2.2.2.2;exact Int.emod_eq_of_lt this.1 this.2.1
 have r2:IntKind.u64.wrap (R-IntKind.u64.wrap (R / Y1*Y1))=R % Y1:=by
  have e:=st2.e
  have l1:=st2.r0
  have l2:=st2.r1
  rw[IntKind.wrap_u64,IntKind.wrap_u64]
  generalize R / Y1*Y1=P at *
  omega
 have u1:IntKind.u64.wrap (IntKind.u64.wrap (IntKind.u64.wrap (U*4294967296)+V1)-IntKind.u64.wrap (T1*Y))=R:=by
  rw[IntKind.wrap_u64,IntKind.wrap_u64,IntKind.wrap_u64,IntKind.wrap_u64]
  generalize T1*Y=P at *
  omega
 have u2:IntKind.u64.wrap (IntKind.u64.wrap (IntKind.u64.wrap (R*4294967296)+V0)-IntKind.u64.wrap (T2*Y))=R2:=by
  rw[IntKind.wrap_u64,IntKind.wrap_u64,IntKind.wrap_u64,IntKind.wrap_u64]
  generalize T2*Y=P at *
  omega
 have qq:IntKind.u64.wrap (IntKind.u64.wrap (T1*4294967296)+T2)=(h*18446744073709551616+lo) / y:=by
  rw[IntKind.wrap_u64,IntKind.wrap_u64,←bk.1,ts.1];omega
 have rr:R2 / 2 ^ s=(h*18446744073709551616+lo) % y:=by rw[←bk.2,ts.2]
 replace f1:IntKind.u64.wrap (y*2 ^ s)=Y:=by rw[hYe];exact f1
 have Hk1:=Lib.hid kn1
 have Hk2:=Lib.hid kn2
 have Hs1:=Lib.hid st1
 have Hs2:=Lib.hid st2
 have HT1:=Lib.hid tq1
 have HT2:=Lib.hid tq2
 clear kn1 kn2 st1 st2 tq1 tq2 tb1 tb2 ts bk hT1 hT2 re1 re2 rb1 rb2 kY hVV hYe hVe p1 p2 p3 p4 p5 p6 p7 hU0 ys1
 generalize (h*18446744073709551616+lo) / y=QQ at *
 generalize (h*18446744073709551616+lo) % y=RR at *
 go_enter Try.func143,Try.ntmps143
 go_wp2_with (go_at_call 147;refine(Try.bits_LeadingZeros64 y _ (by omega) (by omega)).mono ?_;rintro e w1 ⟨rfl,rfl⟩;rw[hs'])
 go_loopw [15,16] (fun qv rv wl=>∃ q r:Int,qv = .int .u64 q∧rv = .int .u64 r∧wl=w1∧Hid (Inv Y1 Y0 U V1 q r)) (fun qv _ _=>(intOf qv).toNat)
 case atStart=>exact⟨_,_,rfl,rfl,rfl,Hs1⟩
 case round=>
  obtain⟨q,r,rfl,rfl,rfl,hI⟩:=hrel
  have hI':=hI.out
  have ⟨m1,m2,m3,m4,m5,m6,m7,m8,m9,m10⟩:=Inv.bd Hk1.out hI'
  have i1:IntKind.u64.wrap (q*Y0)=q*Y0:=by rw[IntKind.wrap_u64];exact Int.emod_eq_of_lt m1 m2
  have i2:IntKind.u64.wrap (4294967296*r)=4294967296*r:=by rw[IntKind.wrap_u64];exact Int.emod_eq_of_lt m3 m4
  have i3:IntKind.u64.wrap (4294967296*r+V1)=4294967296*r+V1:=by rw[IntKind.wrap_u64];exact Int.emod_eq_of_lt m5 m6
  have i4:IntKind.u64.wrap (r+Y1)=r+Y1:=by rw[IntKind.wrap_u64];exact Int.emod_eq_of_lt m9 m10
  by_cases hd:Due Y0 V1 q r
  ·by_cases hl:r+Y1<4294967296
   ·have ⟨hN,hp⟩:=Inv.more Hk1.out hI' hd hl
    have i5:IntKind.u64.wrap (q-1)=q-1:=by rw[IntKind.wrap_u64];omega
    have HN:=Lib.hid hN
    have hn1:¬4294967296≤r+Y1:=by omega
    clear hN hI' m1 m2 m3 m4 m5 m6 m9 m10
    rcases hd with g|g
    ·go_wp2
     go_roundw
     case rel=>exact⟨_,_,rfl,rfl,by trivial,HN⟩
     case measure=>simp [intOf];omega
    ·by_cases g2:4294967296≤q
     ·go_wp2
      go_roundw
      case rel=>exact⟨_,_,rfl,rfl,by trivial,HN⟩
      case measure=>simp [intOf];omega
     ·go_wp2
      go_roundw
      case rel=>exact⟨_,_,rfl,rfl,by trivial,HN⟩
      case measure=>simp [intOf];omega
   ·have ⟨hT,hp⟩:=Inv.broke Hk1.out hI' hd (by omega)
    have i5:IntKind.u64.wrap (q-1)=T1:=by rw[IntKind.wrap_u64,←HT1.out,←hT];omega
    have hn1:4294967296≤r+Y1:=by omega
    clear hT hI' m1 m2 m3 m4 m5 m6 m9 m10
    by_cases g2:4294967296≤q
    ·clear hd
     go_wp2
     try clear i5
     try clear i4
     try clear i3
     try clear i2
     try clear i1
     try clear hn1
     try clear g1
     try clear g2
     try clear g3
     try clear hl
     try clear hp
     try clear hI
     try clear m7
     try clear m8
     go_loopw [18,16] (fun qv rv wl=>∃ q r:Int,qv = .int .u64 q∧rv = .int .u64 r∧wl=wr∧Hid (Inv Y1 Y0 R V0 q r)) (fun qv _ _=>(intOf qv).toNat)
     case atStart=>exact⟨_,_,rfl,rfl,rfl,Hs2⟩
     case round=>
      obtain⟨q,r,rfl,rfl,rfl,hI⟩:=hrel
      have hI':=hI.out
      have ⟨m1,m2,m3,m4,m5,m6,m7,m8,m9,m10⟩:=Inv.bd Hk2.out hI'
      have i1:IntKind.u64.wrap (q*Y0)=q*Y0:=by rw[IntKind.wrap_u64];exact Int.emod_eq_of_lt m1 m2
      have i2:IntKind.u64.wrap (4294967296*r)=4294967296*r:=by rw[IntKind.wrap_u64];exact Int.emod_eq_of_lt m3 m4
      have i3:IntKind.u64.wrap (4294967296*r+V0)=4294967296*r+V0:=by rw[IntKind.wrap_u64];exact Int.emod_eq_of_lt m5 m6
      have i4:IntKind.u64.wrap (r+Y1)=r+Y1:=by rw[IntKind.wrap_u64];exact Int.emod_eq_of_lt m9 m10
      by_cases hd:Due Y0 V0 q r
      ·by_cases hl:r+Y1<4294967296
       ·have ⟨hN,hp⟩:=Inv.more Hk2.out hI' hd hl
        have i5:IntKind.u64.wrap (q-1)=q-1:=by rw[IntKind.wrap_u64];omega
        have HN:=Lib.hid hN
        have hn1:¬4294967296≤r+Y1:=by omega
        clear hN hI' m1 m2 m3 m4 m5 m6 m9 m10
        rcases hd with g|g
        ·go_wp2
         go_roundw
         case rel=>exact⟨_,_,rfl,rfl,by trivial,HN⟩
         case measure=>simp [intOf];omega
        ·by_cases g2:4294967296≤q
         ·go_wp2
          go_roundw
          case rel=>exact⟨_,_,rfl,rfl,by trivial,HN⟩
          case measure=>simp [intOf];omega
         ·go_wp2
          go_roundw
          case rel=>exact⟨_,_,rfl,rfl,by trivial,HN⟩
          case measure=>simp [intOf];omega
       ·have ⟨hT,hp⟩:=Inv.broke Hk2.out hI' hd (by omega)
        have i5:IntKind.u64.wrap (q-1)=T2:=by rw[IntKind.wrap_u64,←HT2.out,←hT];omega
        have hn1:4294967296≤r+Y1:=by omega
        clear hT hI' m1 m2 m3 m4 m5 m6 m9 m10
        by_cases g2:4294967296≤q
        ·clear hd
         go_wp2
         exact bodyPost_ret (v := .tuple #[.int .u64 QQ,.int .u64 RR]) (by simp [results,Try.results143,go_sem]) rfl ⟨rfl,aD _⟩
        ·have g3:4294967296*r+V0<q*Y0:=by rcases hd with g|g;exact absurd g g2;exact g
         clear hd
         go_wp2
         exact bodyPost_ret (v := .tuple #[.int .u64 QQ,.int .u64 RR]) (by simp [results,Try.results143,go_sem]) rfl ⟨rfl,aD _⟩
      ·have g1:¬4294967296≤q:=fun g=>hd (Or.inl g)
       have g2:¬4294967296*r+V0<q*Y0:=fun g=>hd (Or.inr g)
       have hT:q=T2:=(Inv.done Hk2.out hI' (by omega)).trans HT2.out
       clear hd hI' m1 m2 m3 m4 m5 m6 m9 m10
       subst hT
       go_wp2
       exact bodyPost_ret (v := .tuple #[.int .u64 QQ,.int .u64 RR]) (by simp [results,Try.results143,go_sem]) rfl ⟨rfl,aD _⟩
    ·have g3:4294967296*r+V1<q*Y0:=by rcases hd with g|g;exact absurd g g2;exact g
     clear hd
     go_wp2
     try clear i5
     try clear i4
     try clear i3
     try clear i2
     try clear i1
     try clear hn1
     try clear g1
     try clear g2
     try clear g3
     try clear hl
     try clear hp
     try clear hI
     try clear m7
     try clear m8
     go_loopw [18,16] (fun qv rv wl=>∃ q r:Int,qv = .int .u64 q∧rv = .int .u64 r∧wl=wr∧Hid (Inv Y1 Y0 R V0 q r)) (fun qv _ _=>(intOf qv).toNat)
     case atStart=>exact⟨_,_,rfl,rfl,rfl,Hs2⟩
     case round=>
      obtain⟨q,r,rfl,rfl,rfl,hI⟩:=hrel
      have hI':=hI.out
      have ⟨m1,m2,m3,m4,m5,m6,m7,m8,m9,m10⟩:=Inv.bd Hk2.out hI'
      have i1:IntKind.u64.wrap (q*Y0)=q*Y0:=by rw[IntKind.wrap_u64];exact Int.emod_eq_of_lt m1 m2
      have i2:IntKind.u64.wrap (4294967296*r)=4294967296*r:=by rw[IntKind.wrap_u64];exact Int.emod_eq_of_lt m3 m4
      have i3:IntKind.u64.wrap (4294967296*r+V0)=4294967296*r+V0:=by rw[IntKind.wrap_u64];exact Int.emod_eq_of_lt m5 m6
      have i4:IntKind.u64.wrap (r+Y1)=r+Y1:=by rw[IntKind.wrap_u64];exact Int.emod_eq_of_lt m9 m10
      by_cases hd:Due Y0 V0 q r
      ·by_cases hl:r+Y1<4294967296
       ·have ⟨hN,hp⟩:=Inv.more Hk2.out hI' hd hl
        have i5:IntKind.u64.wrap (q-1)=q-1:=by rw[IntKind.wrap_u64];omega
        have HN:=Lib.hid hN
        have hn1:¬4294967296≤r+Y1:=by omega
        clear hN hI' m1 m2 m3 m4 m5 m6 m9 m10
        rcases hd with g|g
        ·go_wp2
         go_roundw
         case rel=>exact⟨_,_,rfl,rfl,by trivial,HN⟩
         case measure=>simp [intOf];omega
        ·by_cases g2:4294967296≤q
         ·go_wp2
          go_roundw
          case rel=>exact⟨_,_,rfl,rfl,by trivial,HN⟩
          case measure=>simp [intOf];omega
         ·go_wp2
          go_roundw
          case rel=>exact⟨_,_,rfl,rfl,by trivial,HN⟩
          case measure=>simp [intOf];omega
       ·have ⟨hT,hp⟩:=Inv.broke Hk2.out hI' hd (by omega)
        have i5:IntKind.u64.wrap (q-1)=T2:=by rw[IntKind.wrap_u64,←HT2.out,←hT];omega
        have hn1:4294967296≤r+Y1:=by omega
        clear hT hI' m1 m2 m3 m4 m5 m6 m9 m10
        by_cases g2:4294967296≤q
        ·clear hd
         go_wp2
         exact bodyPost_ret (v := .tuple #[.int .u64 QQ,.int .u64 RR]) (by simp [results,Try.results143,go_sem]) rfl ⟨rfl,aD _⟩
        ·have g3:4294967296*r+V0<q*Y0:=by rcases hd with g|g;exact absurd g g2;exact g
         clear hd
         go_wp2
         exact bodyPost_ret (v := .tuple #[.int .u64 QQ,.int .u64 RR]) (by simp [results,Try.results143,go_sem]) rfl ⟨rfl,aD _⟩
      ·have g1:¬4294967296≤q:=fun g=>hd (Or.inl g)
       have g2:¬4294967296*r+V0<q*Y0:=fun g=>hd (Or.inr g)
       have hT:q=T2:=(Inv.done Hk2.out hI' (by omega)).trans HT2.out
       clear hd hI' m1 m2 m3 m4 m5 m6 m9 m10
       subst hT
       go_wp2
       exact bodyPost_ret (v := .tuple #[.int .u64 QQ,.int .u64 RR]) (by simp [results,Try.results143,go_sem]) rfl ⟨rfl,aD _⟩
  ·have g1:¬4294967296≤q:=fun g=>hd (Or.inl g)
   have g2:¬4294967296*r+V1<q*Y0:=fun g=>hd (Or.inr g)
   have hT:q=T1:=(Inv.done Hk1.out hI' (by omega)).trans HT1.out
   clear hd hI' m1 m2 m3 m4 m5 m6 m9 m10
   subst hT
   go_wp2
   try clear i5
   try clear i4
   try clear i3
   try clear i2
   try clear i1
   try clear hn1
   try clear g1
   try clear g2
   try clear g3
   try clear hl
   try clear hp
   try clear hI
   try clear m7
   try clear m8
   go_loopw [18,16] (fun qv rv wl=>∃ q r:Int,qv = .int .u64 q∧rv = .int .u64 r∧wl=wr∧Hid (Inv Y1 Y0 R V0 q r)) (fun qv _ _=>(intOf qv).toNat)
   case atStart=>exact⟨_,_,rfl,rfl,rfl,Hs2⟩
   case round=>
    obtain⟨q,r,rfl,rfl,rfl,hI⟩:=hrel
    have hI':=hI.out
    have ⟨m1,m2,m3,m4,m5,m6,m7,m8,m9,m10⟩:=Inv.bd Hk2.out hI'
    have i1:IntKind.u64.wrap (q*Y0)=q*Y0:=by rw[IntKind.wrap_u64];exact Int.emod_eq_of_lt m1 m2
    have i2:IntKind.u64.wrap (4294967296*r)=4294967296*r:=by rw[IntKind.wrap_u64];exact Int.emod_eq_of_lt m3 m4
    have i3:IntKind.u64.wrap (4294967296*r+V0)=4294967296*r+V0:=by rw[IntKind.wrap_u64];exact Int.emod_eq_of_lt m5 m6
    have i4:IntKind.u64.wrap (r+Y1)=r+Y1:=by rw[IntKind.wrap_u64];exact Int.emod_eq_of_lt m9 m10
    by_cases hd:Due Y0 V0 q r
    ·by_cases hl:r+Y1<4294967296
     ·have ⟨hN,hp⟩:=Inv.more Hk2.out hI' hd hl
      have i5:IntKind.u64.wrap (q-1)=q-1:=by rw[IntKind.wrap_u64];omega
      have HN:=Lib.hid hN
      have hn1:¬4294967296≤r+Y1:=by omega
      clear hN hI' m1 m2 m3 m4 m5 m6 m9 m10
      rcases hd with g|g
      ·go_wp2
       go_roundw
       case rel=>exact⟨_,_,rfl,rfl,by trivial,HN⟩
       case measure=>simp [intOf];omega
      ·by_cases g2:4294967296≤q
       ·go_wp2
        go_roundw
        case rel=>exact⟨_,_,rfl,rfl,by trivial,HN⟩
        case measure=>simp [intOf];omega
       ·go_wp2
        go_roundw
        case rel=>exact⟨_,_,rfl,rfl,by trivial,HN⟩
        case measure=>simp [intOf];omega
     ·have ⟨hT,hp⟩:=Inv.broke Hk2.out hI' hd (by omega)
      have i5:IntKind.u64.wrap (q-1)=T2:=by rw[IntKind.wrap_u64,←HT2.out,←hT];omega
      have hn1:4294967296≤r+Y1:=by omega
      clear hT hI' m1 m2 m3 m4 m5 m6 m9 m10
      by_cases g2:4294967296≤q
      ·clear hd
       go_wp2
       exact bodyPost_ret (v := .tuple #[.int .u64 QQ,.int .u64 RR]) (by simp [results,Try.results143,go_sem]) rfl ⟨rfl,aD _⟩
      ·have g3:4294967296*r+V0<q*Y0:=by rcases hd with g|g;exact absurd g g2;exact g
       clear hd
       go_wp2
       exact bodyPost_ret (v := .tuple #[.int .u64 QQ,.int .u64 RR]) (by simp [results,Try.results143,go_sem]) rfl ⟨rfl,aD _⟩
    ·have g1:¬4294967296≤q:=fun g=>hd (Or.inl g)
     have g2:¬4294967296*r+V0<q*Y0:=fun g=>hd (Or.inr g)
     have hT:q=T2:=(Inv.done Hk2.out hI' (by omega)).trans HT2.out
     clear hd hI' m1 m2 m3 m4 m5 m6 m9 m10
     subst hT
     go_wp2
     exact bodyPost_ret (v := .tuple #[.int .u64 QQ,.int .u64 RR]) (by simp [results,Try.results143,go_sem]) rfl ⟨rfl,aD _⟩
theorem aNa (h lo y:Int) (hh:0≤h∧h<y) (hl:eN lo) (hy:0<y∧y<18446744073709551616) (w:World):Calls Try.prog 143 #[.int .u64 h,.int .u64 lo,.int .u64 y] w fun e w'=>e = .returned (.tuple #[.int .u64 ((h*18446744073709551616+lo) / y),.int .u64 ((h*18446744073709551616+lo) % y)])∧Below w.heap.size w w':=by
 by_cases h0:h=0
 ·subst h0
  have e:0*18446744073709551616+lo=lo:=by omega
  rw[e];exact aBK lo y hl hy w
 ·exact aIz h lo y ⟨by omega,hh.2⟩ hl hy w
set_option maxHeartbeats 800000 in
theorem kH (x0 x1 d:Int) (h0:eN x0) (h1:eN x1) (hd:0<d∧d<18446744073709551616) (w:World):Calls Try.prog 131 #[.agg #[.int .u64 x0,.int .u64 x1,.int .u64 0],.int .u64 d] w fun e w'=>e = .returned (.tuple #[.agg #[.int .u64 ((x1 % d*18446744073709551616+x0) / d),.int .u64 (x1 / d),.int .u64 0],.int .u64 ((x1 % d*18446744073709551616+x0) % d)])∧Below w.heap.size w w':=by
 have hm:0≤x1 % d∧x1 % d<d:=⟨Int.emod_nonneg _ (by omega),Int.emod_lt_of_pos _ hd.1⟩
 go_enter Try.func131,Try.ntmps131
 go_wp2
 obtain⟨w0,hw0⟩:∃ x:World,x=((w.alloc (.cells #[.int .u64 x0,.int .u64 x1,.int .u64 0] 231)).alloc (.cells #[.int .u64 0,.int .u64 0,.int .u64 0] 231)):=⟨_,rfl⟩
 have k0:w0.cell? ⟨w.heap.size,0,none⟩=some (.int .u64 x0):=by rw[hw0];repeat (first|(refine aS ?_ rfl;(simp;done))|refine aT ?_)
 have k1:w0.cell? ⟨w.heap.size,1,none⟩=some (.int .u64 x1):=by rw[hw0];repeat (first|(refine aS ?_ rfl;(simp;done))|refine aT ?_)
 have k2:w0.cell? ⟨w.heap.size,2,none⟩=some (.int .u64 0):=by rw[hw0];repeat (first|(refine aS ?_ rfl;(simp;done))|refine aT ?_)
 have k3:w0.cell? ⟨w.heap.size+1,0,none⟩=some (.int .u64 0):=by rw[hw0];repeat (first|(refine aS ?_ rfl;(simp;done))|refine aT ?_)
 have k4:w0.cell? ⟨w.heap.size+1,1,none⟩=some (.int .u64 0):=by rw[hw0];repeat (first|(refine aS ?_ rfl;(simp;done))|refine aT ?_)
 have k5:w0.cell? ⟨w.heap.size+1,2,none⟩=some (.int .u64 0):=by rw[hw0];repeat (first|(refine aS ?_ rfl;(simp;done))|refine aT ?_)
 have z0:w.heap.size<w0.heap.size:=World.block_lt_of_cell? _ _ k0
 have z1:w.heap.size+1<w0.heap.size:=World.block_lt_of_cell? _ _ k3
 have hB:Below w.heap.size w w0:=by rw[hw0];repeat (with_reducible first|exact aD _|apply aA)
 have f1_0:w0.frozen? ⟨w.heap.size+1,0,none⟩=false:=by rw[hw0];repeat (first|(refine bO ?_;(simp;done))|(refine bP (by first|(simp;done)|(simp;omega)) ?_))
 have f1_1:w0.frozen? ⟨w.heap.size+1,1,none⟩=false:=by rw[hw0];repeat (first|(refine bO ?_;(simp;done))|(refine bP (by first|(simp;done)|(simp;omega)) ?_))
 have f1_2:w0.frozen? ⟨w.heap.size+1,2,none⟩=false:=by rw[hw0];repeat (first|(refine bO ?_;(simp;done))|(refine bP (by first|(simp;done)|(simp;omega)) ?_))
 rw[←hw0]
 clear hw0
 go_loopw [6,5] (fun i r wl=>(i = .int .i64 1∧r = .int .u64 0∧wl=w0)
   ∨(i = .int .i64 0∧r = .int .u64 (x1 % d)∧Hid (wl.cell? ⟨w.heap.size,0,none⟩=some (.int .u64 x0)∧wl.cell? ⟨w.heap.size,1,none⟩=some (.int .u64 x1)∧wl.cell? ⟨w.heap.size,2,none⟩=some (.int .u64 0)∧wl.cell? ⟨w.heap.size+1,0,none⟩=some (.int .u64 0)∧wl.cell? ⟨w.heap.size+1,1,none⟩=some (.int .u64 (x1 / d))∧wl.cell? ⟨w.heap.size+1,2,none⟩=some (.int .u64 0)∧wl.frozen? ⟨w.heap.size+1,0,none⟩=false∧wl.frozen? ⟨w.heap.size+1,1,none⟩=false∧wl.frozen? ⟨w.heap.size+1,2,none⟩=false∧Below w.heap.size w wl))
   ∨(i = .int .i64 (-1)∧r = .int .u64 ((x1 % d*18446744073709551616+x0) % d)∧Hid (wl.cell? ⟨w.heap.size,0,none⟩=some (.int .u64 x0)∧wl.cell? ⟨w.heap.size,1,none⟩=some (.int .u64 x1)∧wl.cell? ⟨w.heap.size,2,none⟩=some (.int .u64 0)∧wl.cell? ⟨w.heap.size+1,0,none⟩=some (.int .u64 ((x1 % d*18446744073709551616+x0) / d))∧wl.cell? ⟨w.heap.size+1,1,none⟩=some (.int .u64 (x1 / d))∧wl.cell? ⟨w.heap.size+1,2,none⟩=some (.int .u64 0)∧wl.frozen? ⟨w.heap.size+1,0,none⟩=false∧wl.frozen? ⟨w.heap.size+1,1,none⟩=false∧wl.frozen? ⟨w.heap.size+1,2,none⟩=false∧Below w.heap.size w wl)))
  (fun i _ _=>(intOf i+1).toNat)
 case atStart=>exact Or.inl ⟨rfl,rfl,rfl⟩
 case round=>
  rcases hrel with⟨rfl,rfl,rfl⟩|⟨rfl,rfl,hP⟩|⟨rfl,rfl,hP⟩
  ·go_wp2_with (go_at_call 143;refine(aBK x1 d h1 hd _).mono ?_;rintro e w1 ⟨rfl,hb1⟩;replace f1_0:=aL (aF hb1 (by repeat (with_reducible first|exact aD _|apply aA|apply aC))) k3 f1_0;replace f1_1:=aL (aF hb1 (by repeat (with_reducible first|exact aD _|apply aA|apply aC))) k4 f1_1;replace f1_2:=aL (aF hb1 (by repeat (with_reducible first|exact aD _|apply aA|apply aC))) k5 f1_2;replace hB:=aF hb1 (by repeat (with_reducible first|exact hB|apply aA|apply aC));replace k0:=cell_later (aF hb1 (by repeat (with_reducible first|exact aD _|apply aA|apply aC))) k0;replace k1:=cell_later (aF hb1 (by repeat (with_reducible first|exact aD _|apply aA|apply aC))) k1;replace k2:=cell_later (aF hb1 (by repeat (with_reducible first|exact aD _|apply aA|apply aC))) k2;replace k3:=cell_later (aF hb1 (by repeat (with_reducible first|exact aD _|apply aA|apply aC))) k3;replace k4:=cell_later (aF hb1 (by repeat (with_reducible first|exact aD _|apply aA|apply aC))) k4;replace k5:=cell_later (aF hb1 (by repeat (with_reducible first|exact aD _|apply aA|apply aC))) k5;replace z0:=World.block_lt_of_cell? _ _ k0;replace z1:=World.block_lt_of_cell? _ _ k3;simp only[]at z0 z1;clear hb1)
   go_roundw
   case rel=>exact Or.inr (Or.inl ⟨rfl,by trivial,Lib.hid ⟨(aB (by omega) k0),(aB (by omega) k1),(aB (by omega) k2),(aB (by omega) k3),(bB k4),(aB (by omega) k5),(by (repeat rw[World.frozen?_setCell]);exact f1_0),(by (repeat rw[World.frozen?_setCell]);exact f1_1),(by (repeat rw[World.frozen?_setCell]);exact f1_2),(by repeat (with_reducible first|exact hB|refine cA _ (by omega) ?_))⟩⟩)
   case measure=>simp [intOf]
  ·clear k0 k1 k2 k3 k4 k5 z0 z1 f1_0 f1_1 f1_2 hB
   obtain⟨k0,k1,k2,k3,k4,k5,f1_0,f1_1,f1_2,hB⟩:=hP.out
   clear hP
   have z0:w.heap.size<wr.heap.size:=World.block_lt_of_cell? _ _ k0
   have z1:w.heap.size+1<wr.heap.size:=World.block_lt_of_cell? _ _ k3
   go_wp2_with (go_at_call 143;refine(aNa (x1 % d) x0 d hm h0 hd _).mono ?_;rintro e w1 ⟨rfl,hb1⟩;replace f1_0:=aL (aF hb1 (by repeat (with_reducible first|exact aD _|apply aA|apply aC))) k3 f1_0;replace f1_1:=aL (aF hb1 (by repeat (with_reducible first|exact aD _|apply aA|apply aC))) k4 f1_1;replace f1_2:=aL (aF hb1 (by repeat (with_reducible first|exact aD _|apply aA|apply aC))) k5 f1_2;replace hB:=aF hb1 (by repeat (with_reducible first|exact hB|apply aA|apply aC));replace k0:=cell_later (aF hb1 (by repeat (with_reducible first|exact aD _|apply aA|apply aC))) k0;replace k1:=cell_later (aF hb1 (by repeat (with_reducible first|exact aD _|apply aA|apply aC))) k1;replace k2:=cell_later (aF hb1 (by repeat (with_reducible first|exact aD _|apply aA|apply aC))) k2;replace k3:=cell_later (aF hb1 (by repeat (with_reducible first|exact aD _|apply aA|apply aC))) k3;replace k4:=cell_later (aF hb1 (by repeat (with_reducible first|exact aD _|apply aA|apply aC))) k4;replace k5:=cell_later (aF hb1 (by repeat (with_reducible first|exact aD _|apply aA|apply aC))) k5;replace z0:=World.block_lt_of_cell? _ _ k0;replace z1:=World.block_lt_of_cell? _ _ k3;simp only[]at z0 z1;clear hb1)
   go_roundw
   case rel=>exact Or.inr (Or.inr ⟨rfl,by trivial,Lib.hid ⟨(aB (by omega) k0),(aB (by omega) k1),(aB (by omega) k2),(bB k3),(aB (by omega) k4),(aB (by omega) k5),(by (repeat rw[World.frozen?_setCell]);exact f1_0),(by (repeat rw[World.frozen?_setCell]);exact f1_1),(by (repeat rw[World.frozen?_setCell]);exact f1_2),(by repeat (with_reducible first|exact hB|refine cA _ (by omega) ?_))⟩⟩)
   case measure=>simp [intOf]
  ·clear k0 k1 k2 k3 k4 k5 z0 z1 f1_0 f1_1 f1_2 hB
   obtain⟨k0,k1,k2,k3,k4,k5,f1_0,f1_1,f1_2,hB⟩:=hP.out
   clear hP
   have z0:w.heap.size<wr.heap.size:=World.block_lt_of_cell? _ _ k0
   have z1:w.heap.size+1<wr.heap.size:=World.block_lt_of_cell? _ _ k3
   go_wp2
   exact bodyPost_ret (v := .tuple #[.agg #[.int .u64 ((x1 % d*18446744073709551616+x0) / d),.int .u64 (x1 / d),.int .u64 0],.int .u64 ((x1 % d*18446744073709551616+x0) % d)]) (by simp [results,Try.results131,go_sem, *]) rfl ⟨rfl,by repeat (with_reducible first|exact hB|refine cA _ (by omega) ?_|apply aA|apply aC)⟩
set_option maxHeartbeats 800000 in
theorem aOj (a d q r:Int) (ha:iF a) (hd:0<d) (hd':d≤9223372036854775807) (hn:¬a<0) (hq0:q=a / d) (hr0:r=a % d) (w:World):Calls Try.prog 120 #[.agg #[.int .i64 (hi (a)),.int .u64 (lo (a))],.int .i64 d] w fun e w'=>e = .returned (.tuple #[.agg #[.int .i64 (hi (q)),.int .u64 (lo (q))],.int .i64 r,.int .i64 0])∧Below w.heap.size w w':=by
 have l1:eN (d0 (cU a)):=by unfold eN d0;omega
 have l2:eN (d1 (cU a)):=by unfold eN d1;omega
 have hmb:cU a<340282366920938463463374607431768211456:=by unfold cU;unfold iF at ha;split<;>omega
 obtain⟨q0,q1,q2⟩:=sI (cU a) d (jB a) hmb hd
 have c1:IntKind.u64.wrap d=d:=by rw[IntKind.wrap_u64];omega
 have r0:=Int.emod_nonneg (cU a) (show d≠0 by omega)
 have r1:=Int.emod_lt_of_pos (cU a) hd
 have m0:0≤cU a / d:=Int.ediv_nonneg (jB a) (by omega)
 have m1:cU a / d≤cU a:=Int.ediv_le_self _ (jB a)
 have hs:decide (a<0)=false:=decide_eq_false hn
 have hma:cU a=a:=if_neg hn
 have ha2:a<170141183460469231731687303715884105728:=ha.2
 have hf:iY false (cU a / d):=⟨m0,Or.inl (by omega)⟩
 have es:sgn false (cU a / d)=q:=by rw[hma,hq0];rfl
 have er:cU a % d=r:=by rw[hma,hr0]
 rw[er]at r0 r1 q2
 have nd:¬d<1:=by omega
 have c2:IntKind.i64.wrap r=r:=IntWalk.i64_in _ (by omega)
 clear hma hmb m0 m1 hq0 hr0 ha2
 go_enter Try.func120,Try.ntmps120
 go_wp2_with fail
 obtain⟨w0,hw0⟩:∃ x:World,x=((w.alloc (.cells #[.int .i64 (hi (a)),.int .u64 (lo (a))] 175)).alloc (.cells #[.int .i64 0,.int .u64 0] 175)):=⟨_,rfl⟩
 have k0:w0.cell? ⟨w.heap.size,0,none⟩=some (.int .i64 (hi (a))):=by rw[hw0];repeat (first|(refine aS ?_ rfl;(simp;done))|refine aT ?_)
 have k1:w0.cell? ⟨w.heap.size,1,none⟩=some (.int .u64 (lo (a))):=by rw[hw0];repeat (first|(refine aS ?_ rfl;(simp;done))|refine aT ?_)
 have k2:w0.cell? ⟨w.heap.size+1,0,none⟩=some (.int .i64 0):=by rw[hw0];repeat (first|(refine aS ?_ rfl;(simp;done))|refine aT ?_)
 have k3:w0.cell? ⟨w.heap.size+1,1,none⟩=some (.int .u64 0):=by rw[hw0];repeat (first|(refine aS ?_ rfl;(simp;done))|refine aT ?_)
 have z0:w.heap.size<w0.heap.size:=World.block_lt_of_cell? _ _ k0
 have z1:w.heap.size+1<w0.heap.size:=World.block_lt_of_cell? _ _ k2
 have hB:Below w.heap.size w w0:=by rw[hw0];repeat (with_reducible first|exact aD _|apply aA)
 have f1_0:w0.frozen? ⟨w.heap.size+1,0,none⟩=false:=by rw[hw0];repeat (first|(refine bO ?_;(simp;done))|(refine bP (by first|(simp;done)|(simp;omega)) ?_))
 have f1_1:w0.frozen? ⟨w.heap.size+1,1,none⟩=false:=by rw[hw0];repeat (first|(refine bO ?_;(simp;done))|(refine bP (by first|(simp;done)|(simp;omega)) ?_))
 rw[←hw0]
 clear hw0
 refine(qX a ha _).mono ?_
 rintro e w1 ⟨rfl,hb1⟩
 replace f1_0:=aL (aF hb1 (by repeat (with_reducible first|exact aD _|apply aA|apply aC))) k2 f1_0
 replace f1_1:=aL (aF hb1 (by repeat (with_reducible first|exact aD _|apply aA|apply aC))) k3 f1_1
 replace hB:=aF hb1 (by repeat (with_reducible first|exact hB|apply aA|apply aC))
 replace k0:=cell_later (aF hb1 (by repeat (with_reducible first|exact aD _|apply aA|apply aC))) k0
 replace k1:=cell_later (aF hb1 (by repeat (with_reducible first|exact aD _|apply aA|apply aC))) k1
 replace k2:=cell_later (aF hb1 (by repeat (with_reducible first|exact aD _|apply aA|apply aC))) k2
 replace k3:=cell_later (aF hb1 (by repeat (with_reducible first|exact aD _|apply aA|apply aC))) k3
 replace z0:=World.block_lt_of_cell? _ _ k0
 replace z1:=World.block_lt_of_cell? _ _ k2
 simp only[]at z0 z1
 clear hb1
 rw[hs]
 go_wp2_with fail
 obtain⟨w2,hw0⟩:∃ x:World,x=(w1.alloc (.cells #[.bool false,.int .u64 (d0 (cU a)),.int .u64 (d1 (cU a)),.int .u64 0] 233)):=⟨_,rfl⟩
 replace f1_0:w2.frozen? ⟨w.heap.size+1,0,none⟩=false:=by rw[hw0];exact aL (by repeat (with_reducible first|exact aD _|apply aA|apply aC)) k2 f1_0
 replace f1_1:w2.frozen? ⟨w.heap.size+1,1,none⟩=false:=by rw[hw0];exact aL (by repeat (with_reducible first|exact aD _|apply aA|apply aC)) k3 f1_1
 replace k0:w2.cell? ⟨w.heap.size,0,none⟩=some (.int .i64 (hi (a))):=by rw[hw0];exact cell_later (by repeat (with_reducible first|exact aD _|apply aA|apply aC)) k0
 replace k1:w2.cell? ⟨w.heap.size,1,none⟩=some (.int .u64 (lo (a))):=by rw[hw0];exact cell_later (by repeat (with_reducible first|exact aD _|apply aA|apply aC)) k1
 replace k2:w2.cell? ⟨w.heap.size+1,0,none⟩=some (.int .i64 0):=by rw[hw0];exact cell_later (by repeat (with_reducible first|exact aD _|apply aA|apply aC)) k2
 replace k3:w2.cell? ⟨w.heap.size+1,1,none⟩=some (.int .u64 0):=by rw[hw0];exact cell_later (by repeat (with_reducible first|exact aD _|apply aA|apply aC)) k3
 have k4:w2.cell? ⟨w1.heap.size,0,none⟩=some (.bool false):=by rw[hw0];repeat (first|(refine aS ?_ rfl;(simp;done))|refine aT ?_)
 have k5:w2.cell? ⟨w1.heap.size,1,none⟩=some (.int .u64 (d0 (cU a))):=by rw[hw0];repeat (first|(refine aS ?_ rfl;(simp;done))|refine aT ?_)
 have k6:w2.cell? ⟨w1.heap.size,2,none⟩=some (.int .u64 (d1 (cU a))):=by rw[hw0];repeat (first|(refine aS ?_ rfl;(simp;done))|refine aT ?_)
 have k7:w2.cell? ⟨w1.heap.size,3,none⟩=some (.int .u64 0):=by rw[hw0];repeat (first|(refine aS ?_ rfl;(simp;done))|refine aT ?_)
 have z0:w.heap.size<w2.heap.size:=World.block_lt_of_cell? _ _ k0
 have z1:w.heap.size+1<w2.heap.size:=World.block_lt_of_cell? _ _ k2
 have z2:w1.heap.size<w2.heap.size:=World.block_lt_of_cell? _ _ k4
 replace hB:Below w.heap.size w w2:=by rw[hw0];repeat (with_reducible first|exact hB|apply aA)
 rw[←hw0]
 clear hw0
 refine(kH _ _ d l1 l2 ⟨by omega,by omega⟩ _).mono ?_
 rintro e w3 ⟨rfl,hb1⟩
 replace f1_0:=aL (aF hb1 (by repeat (with_reducible first|exact aD _|apply aA|apply aC))) k2 f1_0
 replace f1_1:=aL (aF hb1 (by repeat (with_reducible first|exact aD _|apply aA|apply aC))) k3 f1_1
 replace hB:=aF hb1 (by repeat (with_reducible first|exact hB|apply aA|apply aC))
 replace k0:=cell_later (aF hb1 (by repeat (with_reducible first|exact aD _|apply aA|apply aC))) k0
 replace k1:=cell_later (aF hb1 (by repeat (with_reducible first|exact aD _|apply aA|apply aC))) k1
 replace k2:=cell_later (aF hb1 (by repeat (with_reducible first|exact aD _|apply aA|apply aC))) k2
 replace k3:=cell_later (aF hb1 (by repeat (with_reducible first|exact aD _|apply aA|apply aC))) k3
 replace k4:=cell_later (aF hb1 (by repeat (with_reducible first|exact aD _|apply aA|apply aC))) k4
 replace k5:=cell_later (aF hb1 (by repeat (with_reducible first|exact aD _|apply aA|apply aC))) k5
 replace k6:=cell_later (aF hb1 (by repeat (with_reducible first|exact aD _|apply aA|apply aC))) k6
 replace k7:=cell_later (aF hb1 (by repeat (with_reducible first|exact aD _|apply aA|apply aC))) k7
 replace z0:=World.block_lt_of_cell? _ _ k0
 replace z1:=World.block_lt_of_cell? _ _ k2
 replace z2:=World.block_lt_of_cell? _ _ k4
 simp only[]at z0 z1 z2
 clear hb1
 rw[q0,q1,q2]
 go_wp2_with fail
 obtain⟨w4,hw0⟩:∃ x:World,x=(w3.alloc (.cells #[.int .u64 (d0 (cU a / d)),.int .u64 (d1 (cU a / d)),.int .u64 0] 231)):=⟨_,rfl⟩
 replace f1_0:w4.frozen? ⟨w.heap.size+1,0,none⟩=false:=by rw[hw0];exact aL (by repeat (with_reducible first|exact aD _|apply aA|apply aC)) k2 f1_0
 replace f1_1:w4.frozen? ⟨w.heap.size+1,1,none⟩=false:=by rw[hw0];exact aL (by repeat (with_reducible first|exact aD _|apply aA|apply aC)) k3 f1_1
 replace k0:w4.cell? ⟨w.heap.size,0,none⟩=some (.int .i64 (hi (a))):=by rw[hw0];exact cell_later (by repeat (with_reducible first|exact aD _|apply aA|apply aC)) k0
 replace k1:w4.cell? ⟨w.heap.size,1,none⟩=some (.int .u64 (lo (a))):=by rw[hw0];exact cell_later (by repeat (with_reducible first|exact aD _|apply aA|apply aC)) k1
 replace k2:w4.cell? ⟨w.heap.size+1,0,none⟩=some (.int .i64 0):=by rw[hw0];exact cell_later (by repeat (with_reducible first|exact aD _|apply aA|apply aC)) k2
 replace k3:w4.cell? ⟨w.heap.size+1,1,none⟩=some (.int .u64 0):=by rw[hw0];exact cell_later (by repeat (with_reducible first|exact aD _|apply aA|apply aC)) k3
 replace k4:w4.cell? ⟨w1.heap.size,0,none⟩=some (.bool false):=by rw[hw0];exact cell_later (by repeat (with_reducible first|exact aD _|apply aA|apply aC)) k4
 replace k5:w4.cell? ⟨w1.heap.size,1,none⟩=some (.int .u64 (d0 (cU a))):=by rw[hw0];exact cell_later (by repeat (with_reducible first|exact aD _|apply aA|apply aC)) k5
 replace k6:w4.cell? ⟨w1.heap.size,2,none⟩=some (.int .u64 (d1 (cU a))):=by rw[hw0];exact cell_later (by repeat (with_reducible first|exact aD _|apply aA|apply aC)) k6
 replace k7:w4.cell? ⟨w1.heap.size,3,none⟩=some (.int .u64 0):=by rw[hw0];exact cell_later (by repeat (with_reducible first|exact aD _|apply aA|apply aC)) k7
 have k8:w4.cell? ⟨w3.heap.size,0,none⟩=some (.int .u64 (d0 (cU a / d))):=by rw[hw0];repeat (first|(refine aS ?_ rfl;(simp;done))|refine aT ?_)
 have k9:w4.cell? ⟨w3.heap.size,1,none⟩=some (.int .u64 (d1 (cU a / d))):=by rw[hw0];repeat (first|(refine aS ?_ rfl;(simp;done))|refine aT ?_)
 have k10:w4.cell? ⟨w3.heap.size,2,none⟩=some (.int .u64 0):=by rw[hw0];repeat (first|(refine aS ?_ rfl;(simp;done))|refine aT ?_)
 have z0:w.heap.size<w4.heap.size:=World.block_lt_of_cell? _ _ k0
 have z1:w.heap.size+1<w4.heap.size:=World.block_lt_of_cell? _ _ k2
 have z2:w1.heap.size<w4.heap.size:=World.block_lt_of_cell? _ _ k4
 have z3:w3.heap.size<w4.heap.size:=World.block_lt_of_cell? _ _ k8
 replace hB:Below w.heap.size w w4:=by rw[hw0];repeat (with_reducible first|exact hB|apply aA)
 rw[←hw0]
 clear hw0
 refine(lH _ _ hf _).mono ?_
 rintro e w5 ⟨rfl,hb1⟩
 replace f1_0:=aL (aF hb1 (by repeat (with_reducible first|exact aD _|apply aA|apply aC))) k2 f1_0
 replace f1_1:=aL (aF hb1 (by repeat (with_reducible first|exact aD _|apply aA|apply aC))) k3 f1_1
 replace hB:=aF hb1 (by repeat (with_reducible first|exact hB|apply aA|apply aC))
 replace k0:=cell_later (aF hb1 (by repeat (with_reducible first|exact aD _|apply aA|apply aC))) k0
 replace k1:=cell_later (aF hb1 (by repeat (with_reducible first|exact aD _|apply aA|apply aC))) k1
 replace k2:=cell_later (aF hb1 (by repeat (with_reducible first|exact aD _|apply aA|apply aC))) k2
 replace k3:=cell_later (aF hb1 (by repeat (with_reducible first|exact aD _|apply aA|apply aC))) k3
 replace k4:=cell_later (aF hb1 (by repeat (with_reducible first|exact aD _|apply aA|apply aC))) k4
 replace k5:=cell_later (aF hb1 (by repeat (with_reducible first|exact aD _|apply aA|apply aC))) k5
 replace k6:=cell_later (aF hb1 (by repeat (with_reducible first|exact aD _|apply aA|apply aC))) k6
 replace k7:=cell_later (aF hb1 (by repeat (with_reducible first|exact aD _|apply aA|apply aC))) k7
 replace k8:=cell_later (aF hb1 (by repeat (with_reducible first|exact aD _|apply aA|apply aC))) k8
 replace k9:=cell_later (aF hb1 (by repeat (with_reducible first|exact aD _|apply aA|apply aC))) k9
 replace k10:=cell_later (aF hb1 (by repeat (with_reducible first|exact aD _|apply aA|apply aC))) k10
 replace z0:=World.block_lt_of_cell? _ _ k0
 replace z1:=World.block_lt_of_cell? _ _ k2
 replace z2:=World.block_lt_of_cell? _ _ k4
 replace z3:=World.block_lt_of_cell? _ _ k8
 simp only[]at z0 z1 z2 z3
 clear hb1
 rw[es]
 go_wp2
 obtain⟨w9,hw0⟩:∃ x:World,x=((((w5.setCell ⟨w.heap.size+1,0,none⟩ (.int .i64 (hi q))).setCell ⟨w.heap.size+1,1,none⟩ (.int .u64 (lo q))).setCell ⟨w.heap.size+1,0,none⟩ (.int .i64 (hi q))).setCell ⟨w.heap.size+1,1,none⟩ (.int .u64 (lo q))):=⟨_,rfl⟩
 have new_k0:w9.cell? ⟨w.heap.size,0,none⟩=some (.int .i64 (hi (a))):=by rw[hw0];exact(aB (by omega) (aB (by omega) (aB (by omega) (aB (by omega) k0))))
 have new_k1:w9.cell? ⟨w.heap.size,1,none⟩=some (.int .u64 (lo (a))):=by rw[hw0];exact(aB (by omega) (aB (by omega) (aB (by omega) (aB (by omega) k1))))
 have new_k2:w9.cell? ⟨w.heap.size+1,0,none⟩=some (.int .i64 (hi q)):=by rw[hw0];exact(aB (by omega) (bB (aB (by omega) (bB k2))))
 have new_k3:w9.cell? ⟨w.heap.size+1,1,none⟩=some (.int .u64 (lo q)):=by rw[hw0];exact(bB (aB (by omega) (bB (aB (by omega) k3))))
 have new_k4:w9.cell? ⟨w1.heap.size,0,none⟩=some (.bool false):=by rw[hw0];exact(aB (by omega) (aB (by omega) (aB (by omega) (aB (by omega) k4))))
 have new_k5:w9.cell? ⟨w1.heap.size,1,none⟩=some (.int .u64 (d0 (cU a))):=by rw[hw0];exact(aB (by omega) (aB (by omega) (aB (by omega) (aB (by omega) k5))))
 have new_k6:w9.cell? ⟨w1.heap.size,2,none⟩=some (.int .u64 (d1 (cU a))):=by rw[hw0];exact(aB (by omega) (aB (by omega) (aB (by omega) (aB (by omega) k6))))
 have new_k7:w9.cell? ⟨w1.heap.size,3,none⟩=some (.int .u64 0):=by rw[hw0];exact(aB (by omega) (aB (by omega) (aB (by omega) (aB (by omega) k7))))
 have new_k8:w9.cell? ⟨w3.heap.size,0,none⟩=some (.int .u64 (d0 (cU a / d))):=by rw[hw0];exact(aB (by omega) (aB (by omega) (aB (by omega) (aB (by omega) k8))))
 have new_k9:w9.cell? ⟨w3.heap.size,1,none⟩=some (.int .u64 (d1 (cU a / d))):=by rw[hw0];exact(aB (by omega) (aB (by omega) (aB (by omega) (aB (by omega) k9))))
 have new_k10:w9.cell? ⟨w3.heap.size,2,none⟩=some (.int .u64 0):=by rw[hw0];exact(aB (by omega) (aB (by omega) (aB (by omega) (aB (by omega) k10))))
 replace f1_0:w9.frozen? ⟨w.heap.size+1,0,none⟩=false:=by rw[hw0];(repeat rw[World.frozen?_setCell]);exact f1_0
 replace f1_1:w9.frozen? ⟨w.heap.size+1,1,none⟩=false:=by rw[hw0];(repeat rw[World.frozen?_setCell]);exact f1_1
 replace hB:Below w.heap.size w w9:=by rw[hw0];repeat (with_reducible first|exact hB|refine cA _ (by omega) ?_)
 clear k0 k1 k2 k3 k4 k5 k6 k7 k8 k9 k10
 have k0:=new_k0;clear new_k0
 have k1:=new_k1;clear new_k1
 have k2:=new_k2;clear new_k2
 have k3:=new_k3;clear new_k3
 have k4:=new_k4;clear new_k4
 have k5:=new_k5;clear new_k5
 have k6:=new_k6;clear new_k6
 have k7:=new_k7;clear new_k7
 have k8:=new_k8;clear new_k8
 have k9:=new_k9;clear new_k9
 have k10:=new_k10;clear new_k10
 replace z0:w.heap.size<w9.heap.size:=World.block_lt_of_cell? _ _ k0
 replace z1:w.heap.size+1<w9.heap.size:=World.block_lt_of_cell? _ _ k2
 replace z2:w1.heap.size<w9.heap.size:=World.block_lt_of_cell? _ _ k4
 replace z3:w3.heap.size<w9.heap.size:=World.block_lt_of_cell? _ _ k8
 rw[←hw0]
 clear hw0
 exact bodyPost_ret (v := .tuple #[.agg #[.int .i64 (hi (q)),.int .u64 (lo (q))],.int .i64 r,.int .i64 0]) (by simp [results,Try.results120,go_sem, *]) rfl ⟨rfl,by repeat (with_reducible first|exact hB|refine cA _ (by omega) ?_|apply aA|apply aC)⟩
set_option maxHeartbeats 800000 in
theorem aNj (a d q r:Int) (ha:iF a) (hd:0<d) (hd':d≤9223372036854775807) (hn:a<0) (hz:cU a % d=0) (hq0:q=a / d) (hr0:r=a % d) (w:World):Calls Try.prog 120 #[.agg #[.int .i64 (hi (a)),.int .u64 (lo (a))],.int .i64 d] w fun e w'=>e = .returned (.tuple #[.agg #[.int .i64 (hi (q)),.int .u64 (lo (q))],.int .i64 r,.int .i64 0])∧Below w.heap.size w w':=by
 have l1:eN (d0 (cU a)):=by unfold eN d0;omega
 have l2:eN (d1 (cU a)):=by unfold eN d1;omega
 have hmb:cU a<340282366920938463463374607431768211456:=by unfold cU;unfold iF at ha;split<;>omega
 obtain⟨q0,q1,q2⟩:=sI (cU a) d (jB a) hmb hd
 have c1:IntKind.u64.wrap d=d:=by rw[IntKind.wrap_u64];omega
 have r0:=Int.emod_nonneg (cU a) (show d≠0 by omega)
 have r1:=Int.emod_lt_of_pos (cU a) hd
 have m0:0≤cU a / d:=Int.ediv_nonneg (jB a) (by omega)
 have m1:cU a / d≤cU a:=Int.ediv_le_self _ (jB a)
 have hs:decide (a<0)=true:=decide_eq_true hn
 have hma:cU a = -a:=if_pos hn
 have ha2 : -170141183460469231731687303715884105728≤a:=ha.1
 have hf:iY true (cU a / d):=aCI _ _ m0 (by unfold iF sgn;rw[if_pos rfl];omega)
 have nf:=aM4 (cU a) d hd hz
 have es:sgn true (cU a / d)=q:=by rw[hq0];show -(cU a / d)=a / d;rw[←nf.1,hma,Int.neg_neg]
 have er:r=0:=by rw[hr0,←nf.2,hma,Int.neg_neg]
 subst er
 rw[hz]at q2
 have nd:¬d<1:=by omega
 clear hma hmb m0 m1 hq0 hr0 ha2 nf hz r0 r1
 go_enter Try.func120,Try.ntmps120
 go_wp2_with fail
 obtain⟨w0,hw0⟩:∃ x:World,x=((w.alloc (.cells #[.int .i64 (hi (a)),.int .u64 (lo (a))] 175)).alloc (.cells #[.int .i64 0,.int .u64 0] 175)):=⟨_,rfl⟩
 have k0:w0.cell? ⟨w.heap.size,0,none⟩=some (.int .i64 (hi (a))):=by rw[hw0];repeat (first|(refine aS ?_ rfl;(simp;done))|refine aT ?_)
 have k1:w0.cell? ⟨w.heap.size,1,none⟩=some (.int .u64 (lo (a))):=by rw[hw0];repeat (first|(refine aS ?_ rfl;(simp;done))|refine aT ?_)
 have k2:w0.cell? ⟨w.heap.size+1,0,none⟩=some (.int .i64 0):=by rw[hw0];repeat (first|(refine aS ?_ rfl;(simp;done))|refine aT ?_)
 have k3:w0.cell? ⟨w.heap.size+1,1,none⟩=some (.int .u64 0):=by rw[hw0];repeat (first|(refine aS ?_ rfl;(simp;done))|refine aT ?_)
 have z0:w.heap.size<w0.heap.size:=World.block_lt_of_cell? _ _ k0
 have z1:w.heap.size+1<w0.heap.size:=World.block_lt_of_cell? _ _ k2
 have hB:Below w.heap.size w w0:=by rw[hw0];repeat (with_reducible first|exact aD _|apply aA)
 have f1_0:w0.frozen? ⟨w.heap.size+1,0,none⟩=false:=by rw[hw0];repeat (first|(refine bO ?_;(simp;done))|(refine bP (by first|(simp;done)|(simp;omega)) ?_))
 have f1_1:w0.frozen? ⟨w.heap.size+1,1,none⟩=false:=by rw[hw0];repeat (first|(refine bO ?_;(simp;done))|(refine bP (by first|(simp;done)|(simp;omega)) ?_))
 rw[←hw0]
 clear hw0
 refine(qX a ha _).mono ?_
 rintro e w1 ⟨rfl,hb1⟩
 replace f1_0:=aL (aF hb1 (by repeat (with_reducible first|exact aD _|apply aA|apply aC))) k2 f1_0
 replace f1_1:=aL (aF hb1 (by repeat (with_reducible first|exact aD _|apply aA|apply aC))) k3 f1_1
 replace hB:=aF hb1 (by repeat (with_reducible first|exact hB|apply aA|apply aC))
 replace k0:=cell_later (aF hb1 (by repeat (with_reducible first|exact aD _|apply aA|apply aC))) k0
 replace k1:=cell_later (aF hb1 (by repeat (with_reducible first|exact aD _|apply aA|apply aC))) k1
 replace k2:=cell_later (aF hb1 (by repeat (with_reducible first|exact aD _|apply aA|apply aC))) k2
 replace k3:=cell_later (aF hb1 (by repeat (with_reducible first|exact aD _|apply aA|apply aC))) k3
 replace z0:=World.block_lt_of_cell? _ _ k0
 replace z1:=World.block_lt_of_cell? _ _ k2
 simp only[]at z0 z1
 clear hb1
 rw[hs]
 go_wp2_with fail
 obtain⟨w2,hw0⟩:∃ x:World,x=(w1.alloc (.cells #[.bool true,.int .u64 (d0 (cU a)),.int .u64 (d1 (cU a)),.int .u64 0] 233)):=⟨_,rfl⟩
 replace f1_0:w2.frozen? ⟨w.heap.size+1,0,none⟩=false:=by rw[hw0];exact aL (by repeat (with_reducible first|exact aD _|apply aA|apply aC)) k2 f1_0
 replace f1_1:w2.frozen? ⟨w.heap.size+1,1,none⟩=false:=by rw[hw0];exact aL (by repeat (with_reducible first|exact aD _|apply aA|apply aC)) k3 f1_1
 replace k0:w2.cell? ⟨w.heap.size,0,none⟩=some (.int .i64 (hi (a))):=by rw[hw0];exact cell_later (by repeat (with_reducible first|exact aD _|apply aA|apply aC)) k0
 replace k1:w2.cell? ⟨w.heap.size,1,none⟩=some (.int .u64 (lo (a))):=by rw[hw0];exact cell_later (by repeat (with_reducible first|exact aD _|apply aA|apply aC)) k1
 replace k2:w2.cell? ⟨w.heap.size+1,0,none⟩=some (.int .i64 0):=by rw[hw0];exact cell_later (by repeat (with_reducible first|exact aD _|apply aA|apply aC)) k2
 replace k3:w2.cell? ⟨w.heap.size+1,1,none⟩=some (.int .u64 0):=by rw[hw0];exact cell_later (by repeat (with_reducible first|exact aD _|apply aA|apply aC)) k3
 have k4:w2.cell? ⟨w1.heap.size,0,none⟩=some (.bool true):=by rw[hw0];repeat (first|(refine aS ?_ rfl;(simp;done))|refine aT ?_)
 have k5:w2.cell? ⟨w1.heap.size,1,none⟩=some (.int .u64 (d0 (cU a))):=by rw[hw0];repeat (first|(refine aS ?_ rfl;(simp;done))|refine aT ?_)
 have k6:w2.cell? ⟨w1.heap.size,2,none⟩=some (.int .u64 (d1 (cU a))):=by rw[hw0];repeat (first|(refine aS ?_ rfl;(simp;done))|refine aT ?_)
 have k7:w2.cell? ⟨w1.heap.size,3,none⟩=some (.int .u64 0):=by rw[hw0];repeat (first|(refine aS ?_ rfl;(simp;done))|refine aT ?_)
 have z0:w.heap.size<w2.heap.size:=World.block_lt_of_cell? _ _ k0
 have z1:w.heap.size+1<w2.heap.size:=World.block_lt_of_cell? _ _ k2
 have z2:w1.heap.size<w2.heap.size:=World.block_lt_of_cell? _ _ k4
 replace hB:Below w.heap.size w w2:=by rw[hw0];repeat (with_reducible first|exact hB|apply aA)
 rw[←hw0]
 clear hw0
 refine(kH _ _ d l1 l2 ⟨by omega,by omega⟩ _).mono ?_
 rintro e w3 ⟨rfl,hb1⟩
 replace f1_0:=aL (aF hb1 (by repeat (with_reducible first|exact aD _|apply aA|apply aC))) k2 f1_0
 replace f1_1:=aL (aF hb1 (by repeat (with_reducible first|exact aD _|apply aA|apply aC))) k3 f1_1
 replace hB:=aF hb1 (by repeat (with_reducible first|exact hB|apply aA|apply aC))
 replace k0:=cell_later (aF hb1 (by repeat (with_reducible first|exact aD _|apply aA|apply aC))) k0
 replace k1:=cell_later (aF hb1 (by repeat (with_reducible first|exact aD _|apply aA|apply aC))) k1
 replace k2:=cell_later (aF hb1 (by repeat (with_reducible first|exact aD _|apply aA|apply aC))) k2
 replace k3:=cell_later (aF hb1 (by repeat (with_reducible first|exact aD _|apply aA|apply aC))) k3
 replace k4:=cell_later (aF hb1 (by repeat (with_reducible first|exact aD _|apply aA|apply aC))) k4
 replace k5:=cell_later (aF hb1 (by repeat (with_reducible first|exact aD _|apply aA|apply aC))) k5
 replace k6:=cell_later (aF hb1 (by repeat (with_reducible first|exact aD _|apply aA|apply aC))) k6
 replace k7:=cell_later (aF hb1 (by repeat (with_reducible first|exact aD _|apply aA|apply aC))) k7
 replace z0:=World.block_lt_of_cell? _ _ k0
 replace z1:=World.block_lt_of_cell? _ _ k2
 replace z2:=World.block_lt_of_cell? _ _ k4
 simp only[]at z0 z1 z2
 clear hb1
 rw[q0,q1,q2]
 go_wp2_with fail
 obtain⟨w4,hw0⟩:∃ x:World,x=(w3.alloc (.cells #[.int .u64 (d0 (cU a / d)),.int .u64 (d1 (cU a / d)),.int .u64 0] 231)):=⟨_,rfl⟩
 replace f1_0:w4.frozen? ⟨w.heap.size+1,0,none⟩=false:=by rw[hw0];exact aL (by repeat (with_reducible first|exact aD _|apply aA|apply aC)) k2 f1_0
 replace f1_1:w4.frozen? ⟨w.heap.size+1,1,none⟩=false:=by rw[hw0];exact aL (by repeat (with_reducible first|exact aD _|apply aA|apply aC)) k3 f1_1
 replace k0:w4.cell? ⟨w.heap.size,0,none⟩=some (.int .i64 (hi (a))):=by rw[hw0];exact cell_later (by repeat (with_reducible first|exact aD _|apply aA|apply aC)) k0
 replace k1:w4.cell? ⟨w.heap.size,1,none⟩=some (.int .u64 (lo (a))):=by rw[hw0];exact cell_later (by repeat (with_reducible first|exact aD _|apply aA|apply aC)) k1
 replace k2:w4.cell? ⟨w.heap.size+1,0,none⟩=some (.int .i64 0):=by rw[hw0];exact cell_later (by repeat (with_reducible first|exact aD _|apply aA|apply aC)) k2
 replace k3:w4.cell? ⟨w.heap.size+1,1,none⟩=some (.int .u64 0):=by rw[hw0];exact cell_later (by repeat (with_reducible first|exact aD _|apply aA|apply aC)) k3
 replace k4:w4.cell? ⟨w1.heap.size,0,none⟩=some (.bool true):=by rw[hw0];exact cell_later (by repeat (with_reducible first|exact aD _|apply aA|apply aC)) k4
 replace k5:w4.cell? ⟨w1.heap.size,1,none⟩=some (.int .u64 (d0 (cU a))):=by rw[hw0];exact cell_later (by repeat (with_reducible first|exact aD _|apply aA|apply aC)) k5
 replace k6:w4.cell? ⟨w1.heap.size,2,none⟩=some (.int .u64 (d1 (cU a))):=by rw[hw0];exact cell_later (by repeat (with_reducible first|exact aD _|apply aA|apply aC)) k6
 replace k7:w4.cell? ⟨w1.heap.size,3,none⟩=some (.int .u64 0):=by rw[hw0];exact cell_later (by repeat (with_reducible first|exact aD _|apply aA|apply aC)) k7
 have k8:w4.cell? ⟨w3.heap.size,0,none⟩=some (.int .u64 (d0 (cU a / d))):=by rw[hw0];repeat (first|(refine aS ?_ rfl;(simp;done))|refine aT ?_)
 have k9:w4.cell? ⟨w3.heap.size,1,none⟩=some (.int .u64 (d1 (cU a / d))):=by rw[hw0];repeat (first|(refine aS ?_ rfl;(simp;done))|refine aT ?_)
 have k10:w4.cell? ⟨w3.heap.size,2,none⟩=some (.int .u64 0):=by rw[hw0];repeat (first|(refine aS ?_ rfl;(simp;done))|refine aT ?_)
 have z0:w.heap.size<w4.heap.size:=World.block_lt_of_cell? _ _ k0
 have z1:w.heap.size+1<w4.heap.size:=World.block_lt_of_cell? _ _ k2
 have z2:w1.heap.size<w4.heap.size:=World.block_lt_of_cell? _ _ k4
 have z3:w3.heap.size<w4.heap.size:=World.block_lt_of_cell? _ _ k8
 replace hB:Below w.heap.size w w4:=by rw[hw0];repeat (with_reducible first|exact hB|apply aA)
 rw[←hw0]
 clear hw0
 refine(lH _ _ hf _).mono ?_
 rintro e w5 ⟨rfl,hb1⟩
 replace f1_0:=aL (aF hb1 (by repeat (with_reducible first|exact aD _|apply aA|apply aC))) k2 f1_0
 replace f1_1:=aL (aF hb1 (by repeat (with_reducible first|exact aD _|apply aA|apply aC))) k3 f1_1
 replace hB:=aF hb1 (by repeat (with_reducible first|exact hB|apply aA|apply aC))
 replace k0:=cell_later (aF hb1 (by repeat (with_reducible first|exact aD _|apply aA|apply aC))) k0
 replace k1:=cell_later (aF hb1 (by repeat (with_reducible first|exact aD _|apply aA|apply aC))) k1
 replace k2:=cell_later (aF hb1 (by repeat (with_reducible first|exact aD _|apply aA|apply aC))) k2
 replace k3:=cell_later (aF hb1 (by repeat (with_reducible first|exact aD _|apply aA|apply aC))) k3
 replace k4:=cell_later (aF hb1 (by repeat (with_reducible first|exact aD _|apply aA|apply aC))) k4
 replace k5:=cell_later (aF hb1 (by repeat (with_reducible first|exact aD _|apply aA|apply aC))) k5
 replace k6:=cell_later (aF hb1 (by repeat (with_reducible first|exact aD _|apply aA|apply aC))) k6
 replace k7:=cell_later (aF hb1 (by repeat (with_reducible first|exact aD _|apply aA|apply aC))) k7
 replace k8:=cell_later (aF hb1 (by repeat (with_reducible first|exact aD _|apply aA|apply aC))) k8
 replace k9:=cell_later (aF hb1 (by repeat (with_reducible first|exact aD _|apply aA|apply aC))) k9
 replace k10:=cell_later (aF hb1 (by repeat (with_reducible first|exact aD _|apply aA|apply aC))) k10
 replace z0:=World.block_lt_of_cell? _ _ k0
 replace z1:=World.block_lt_of_cell? _ _ k2
 replace z2:=World.block_lt_of_cell? _ _ k4
 replace z3:=World.block_lt_of_cell? _ _ k8
 simp only[]at z0 z1 z2 z3
 clear hb1
 rw[es]
 go_wp2
 obtain⟨w9,hw0⟩:∃ x:World,x=((((w5.setCell ⟨w.heap.size+1,0,none⟩ (.int .i64 (hi q))).setCell ⟨w.heap.size+1,1,none⟩ (.int .u64 (lo q))).setCell ⟨w.heap.size+1,0,none⟩ (.int .i64 (hi q))).setCell ⟨w.heap.size+1,1,none⟩ (.int .u64 (lo q))):=⟨_,rfl⟩
 have new_k0:w9.cell? ⟨w.heap.size,0,none⟩=some (.int .i64 (hi (a))):=by rw[hw0];exact(aB (by omega) (aB (by omega) (aB (by omega) (aB (by omega) k0))))
 have new_k1:w9.cell? ⟨w.heap.size,1,none⟩=some (.int .u64 (lo (a))):=by rw[hw0];exact(aB (by omega) (aB (by omega) (aB (by omega) (aB (by omega) k1))))
 have new_k2:w9.cell? ⟨w.heap.size+1,0,none⟩=some (.int .i64 (hi q)):=by rw[hw0];exact(aB (by omega) (bB (aB (by omega) (bB k2))))
 have new_k3:w9.cell? ⟨w.heap.size+1,1,none⟩=some (.int .u64 (lo q)):=by rw[hw0];exact(bB (aB (by omega) (bB (aB (by omega) k3))))
 have new_k4:w9.cell? ⟨w1.heap.size,0,none⟩=some (.bool true):=by rw[hw0];exact(aB (by omega) (aB (by omega) (aB (by omega) (aB (by omega) k4))))
 have new_k5:w9.cell? ⟨w1.heap.size,1,none⟩=some (.int .u64 (d0 (cU a))):=by rw[hw0];exact(aB (by omega) (aB (by omega) (aB (by omega) (aB (by omega) k5))))
 have new_k6:w9.cell? ⟨w1.heap.size,2,none⟩=some (.int .u64 (d1 (cU a))):=by rw[hw0];exact(aB (by omega) (aB (by omega) (aB (by omega) (aB (by omega) k6))))
 have new_k7:w9.cell? ⟨w1.heap.size,3,none⟩=some (.int .u64 0):=by rw[hw0];exact(aB (by omega) (aB (by omega) (aB (by omega) (aB (by omega) k7))))
 have new_k8:w9.cell? ⟨w3.heap.size,0,none⟩=some (.int .u64 (d0 (cU a / d))):=by rw[hw0];exact(aB (by omega) (aB (by omega) (aB (by omega) (aB (by omega) k8))))
 have new_k9:w9.cell? ⟨w3.heap.size,1,none⟩=some (.int .u64 (d1 (cU a / d))):=by rw[hw0];exact(aB (by omega) (aB (by omega) (aB (by omega) (aB (by omega) k9))))
 have new_k10:w9.cell? ⟨w3.heap.size,2,none⟩=some (.int .u64 0):=by rw[hw0];exact(aB (by omega) (aB (by omega) (aB (by omega) (aB (by omega) k10))))
 replace f1_0:w9.frozen? ⟨w.heap.size+1,0,none⟩=false:=by rw[hw0];(repeat rw[World.frozen?_setCell]);exact f1_0
 replace f1_1:w9.frozen? ⟨w.heap.size+1,1,none⟩=false:=by rw[hw0];(repeat rw[World.frozen?_setCell]);exact f1_1
 replace hB:Below w.heap.size w w9:=by rw[hw0];repeat (with_reducible first|exact hB|refine cA _ (by omega) ?_)
 clear k0 k1 k2 k3 k4 k5 k6 k7 k8 k9 k10
 have k0:=new_k0;clear new_k0
 have k1:=new_k1;clear new_k1
 have k2:=new_k2;clear new_k2
 have k3:=new_k3;clear new_k3
 have k4:=new_k4;clear new_k4
 have k5:=new_k5;clear new_k5
 have k6:=new_k6;clear new_k6
 have k7:=new_k7;clear new_k7
 have k8:=new_k8;clear new_k8
 have k9:=new_k9;clear new_k9
 have k10:=new_k10;clear new_k10
 replace z0:w.heap.size<w9.heap.size:=World.block_lt_of_cell? _ _ k0
 replace z1:w.heap.size+1<w9.heap.size:=World.block_lt_of_cell? _ _ k2
 replace z2:w1.heap.size<w9.heap.size:=World.block_lt_of_cell? _ _ k4
 replace z3:w3.heap.size<w9.heap.size:=World.block_lt_of_cell? _ _ k8
 rw[←hw0]
 clear hw0
 exact bodyPost_ret (v := .tuple #[.agg #[.int .i64 (hi (q)),.int .u64 (lo (q))],.int .i64 0,.int .i64 0]) (by simp [results,Try.results120,go_sem, *]) rfl ⟨rfl,by repeat (with_reducible first|exact hB|refine cA _ (by omega) ?_|apply aA|apply aC)⟩
set_option maxHeartbeats 800000 in
theorem aJR (a d q r:Int) (ha:iF a) (hd:0<d) (hd':d≤9223372036854775807) (hn:a<0) (hz:0<cU a % d) (hq0:q=a / d) (hr0:r=a % d) (w:World):Calls Try.prog 120 #[.agg #[.int .i64 (hi (a)),.int .u64 (lo (a))],.int .i64 d] w fun e w'=>e = .returned (.tuple #[.agg #[.int .i64 (hi (q)),.int .u64 (lo (q))],.int .i64 r,.int .i64 0])∧Below w.heap.size w w':=by
 have l1:eN (d0 (cU a)):=by unfold eN d0;omega
 have l2:eN (d1 (cU a)):=by unfold eN d1;omega
 have hmb:cU a<340282366920938463463374607431768211456:=by unfold cU;unfold iF at ha;split<;>omega
 obtain⟨q0,q1,q2⟩:=sI (cU a) d (jB a) hmb hd
 have c1:IntKind.u64.wrap d=d:=by rw[IntKind.wrap_u64];omega
 have r0:=Int.emod_nonneg (cU a) (show d≠0 by omega)
 have r1:=Int.emod_lt_of_pos (cU a) hd
 have m0:0≤cU a / d:=Int.ediv_nonneg (jB a) (by omega)
 have m1:cU a / d≤cU a:=Int.ediv_le_self _ (jB a)
 have hs:decide (a<0)=true:=decide_eq_true hn
 have hma:cU a = -a:=if_pos hn
 have ha2 : -170141183460469231731687303715884105728≤a:=ha.1
 have hf:iY true (cU a / d):=aCI _ _ m0 (by unfold iF sgn;rw[if_pos rfl];omega)
 have nf:=aJh (cU a) d hd hz
 have es:sgn true (cU a / d) = -(cU a / d):=rfl
 have eq2 : -(cU a / d)-1=q:=by rw[hq0,←nf.1,hma,Int.neg_neg]
 have er:d-cU a % d=r:=by rw[hr0,←nf.2,hma,Int.neg_neg]
 have hq:iF (-(cU a / d)):=by unfold iF;omega
 have hone:iF 1:=by unfold iF;omega
 have kd:cU a / d<cU a:=by
  rcases Int.lt_or_le 1 d with g|g
  ·have:=Int.mul_le_mul_of_nonneg_left (show 2≤d by omega) (jB a)
   exact(Int.ediv_lt_iff_lt_mul hd).2 (by omega)
  ·have:d=1:=by omega
   subst this;simp at hz
 have hr:iF (-(cU a / d)-1):=by unfold iF;omega
 have c3:IntKind.u64.wrap (d-cU a % d)=r:=by rw[er,IntKind.wrap_u64];omega
 have nd:¬d<1:=by omega
 have c2:IntKind.i64.wrap r=r:=IntWalk.i64_in _ (by omega)
 clear hma hmb m0 m1 hq0 hr0 ha2 nf kd er
 go_enter Try.func120,Try.ntmps120
 go_wp2_with fail
 obtain⟨w0,hw0⟩:∃ x:World,x=((w.alloc (.cells #[.int .i64 (hi (a)),.int .u64 (lo (a))] 175)).alloc (.cells #[.int .i64 0,.int .u64 0] 175)):=⟨_,rfl⟩
 have k0:w0.cell? ⟨w.heap.size,0,none⟩=some (.int .i64 (hi (a))):=by rw[hw0];repeat (first|(refine aS ?_ rfl;(simp;done))|refine aT ?_)
 have k1:w0.cell? ⟨w.heap.size,1,none⟩=some (.int .u64 (lo (a))):=by rw[hw0];repeat (first|(refine aS ?_ rfl;(simp;done))|refine aT ?_)
 have k2:w0.cell? ⟨w.heap.size+1,0,none⟩=some (.int .i64 0):=by rw[hw0];repeat (first|(refine aS ?_ rfl;(simp;done))|refine aT ?_)
 have k3:w0.cell? ⟨w.heap.size+1,1,none⟩=some (.int .u64 0):=by rw[hw0];repeat (first|(refine aS ?_ rfl;(simp;done))|refine aT ?_)
 have z0:w.heap.size<w0.heap.size:=World.block_lt_of_cell? _ _ k0
 have z1:w.heap.size+1<w0.heap.size:=World.block_lt_of_cell? _ _ k2
 have hB:Below w.heap.size w w0:=by rw[hw0];repeat (with_reducible first|exact aD _|apply aA)
 have f1_0:w0.frozen? ⟨w.heap.size+1,0,none⟩=false:=by rw[hw0];repeat (first|(refine bO ?_;(simp;done))|(refine bP (by first|(simp;done)|(simp;omega)) ?_))
 have f1_1:w0.frozen? ⟨w.heap.size+1,1,none⟩=false:=by rw[hw0];repeat (first|(refine bO ?_;(simp;done))|(refine bP (by first|(simp;done)|(simp;omega)) ?_))
 rw[←hw0]
 clear hw0
 refine(qX a ha _).mono ?_
 rintro e w1 ⟨rfl,hb1⟩
 replace f1_0:=aL (aF hb1 (by repeat (with_reducible first|exact aD _|apply aA|apply aC))) k2 f1_0
 replace f1_1:=aL (aF hb1 (by repeat (with_reducible first|exact aD _|apply aA|apply aC))) k3 f1_1
 replace hB:=aF hb1 (by repeat (with_reducible first|exact hB|apply aA|apply aC))
 replace k0:=cell_later (aF hb1 (by repeat (with_reducible first|exact aD _|apply aA|apply aC))) k0
 replace k1:=cell_later (aF hb1 (by repeat (with_reducible first|exact aD _|apply aA|apply aC))) k1
 replace k2:=cell_later (aF hb1 (by repeat (with_reducible first|exact aD _|apply aA|apply aC))) k2
 replace k3:=cell_later (aF hb1 (by repeat (with_reducible first|exact aD _|apply aA|apply aC))) k3
 replace z0:=World.block_lt_of_cell? _ _ k0
 replace z1:=World.block_lt_of_cell? _ _ k2
 simp only[]at z0 z1
 clear hb1
 rw[hs]
 go_wp2_with fail
 obtain⟨w2,hw0⟩:∃ x:World,x=(w1.alloc (.cells #[.bool true,.int .u64 (d0 (cU a)),.int .u64 (d1 (cU a)),.int .u64 0] 233)):=⟨_,rfl⟩
 replace f1_0:w2.frozen? ⟨w.heap.size+1,0,none⟩=false:=by rw[hw0];exact aL (by repeat (with_reducible first|exact aD _|apply aA|apply aC)) k2 f1_0
 replace f1_1:w2.frozen? ⟨w.heap.size+1,1,none⟩=false:=by rw[hw0];exact aL (by repeat (with_reducible first|exact aD _|apply aA|apply aC)) k3 f1_1
 replace k0:w2.cell? ⟨w.heap.size,0,none⟩=some (.int .i64 (hi (a))):=by rw[hw0];exact cell_later (by repeat (with_reducible first|exact aD _|apply aA|apply aC)) k0
 replace k1:w2.cell? ⟨w.heap.size,1,none⟩=some (.int .u64 (lo (a))):=by rw[hw0];exact cell_later (by repeat (with_reducible first|exact aD _|apply aA|apply aC)) k1
 replace k2:w2.cell? ⟨w.heap.size+1,0,none⟩=some (.int .i64 0):=by rw[hw0];exact cell_later (by repeat (with_reducible first|exact aD _|apply aA|apply aC)) k2
 replace k3:w2.cell? ⟨w.heap.size+1,1,none⟩=some (.int .u64 0):=by rw[hw0];exact cell_later (by repeat (with_reducible first|exact aD _|apply aA|apply aC)) k3
 have k4:w2.cell? ⟨w1.heap.size,0,none⟩=some (.bool true):=by rw[hw0];repeat (first|(refine aS ?_ rfl;(simp;done))|refine aT ?_)
 have k5:w2.cell? ⟨w1.heap.size,1,none⟩=some (.int .u64 (d0 (cU a))):=by rw[hw0];repeat (first|(refine aS ?_ rfl;(simp;done))|refine aT ?_)
 have k6:w2.cell? ⟨w1.heap.size,2,none⟩=some (.int .u64 (d1 (cU a))):=by rw[hw0];repeat (first|(refine aS ?_ rfl;(simp;done))|refine aT ?_)
 have k7:w2.cell? ⟨w1.heap.size,3,none⟩=some (.int .u64 0):=by rw[hw0];repeat (first|(refine aS ?_ rfl;(simp;done))|refine aT ?_)
 have z0:w.heap.size<w2.heap.size:=World.block_lt_of_cell? _ _ k0
 have z1:w.heap.size+1<w2.heap.size:=World.block_lt_of_cell? _ _ k2
 have z2:w1.heap.size<w2.heap.size:=World.block_lt_of_cell? _ _ k4
 replace hB:Below w.heap.size w w2:=by rw[hw0];repeat (with_reducible first|exact hB|apply aA)
 rw[←hw0]
 clear hw0
 refine(kH _ _ d l1 l2 ⟨by omega,by omega⟩ _).mono ?_
 rintro e w3 ⟨rfl,hb1⟩
 replace f1_0:=aL (aF hb1 (by repeat (with_reducible first|exact aD _|apply aA|apply aC))) k2 f1_0
 replace f1_1:=aL (aF hb1 (by repeat (with_reducible first|exact aD _|apply aA|apply aC))) k3 f1_1
 replace hB:=aF hb1 (by repeat (with_reducible first|exact hB|apply aA|apply aC))
 replace k0:=cell_later (aF hb1 (by repeat (with_reducible first|exact aD _|apply aA|apply aC))) k0
 replace k1:=cell_later (aF hb1 (by repeat (with_reducible first|exact aD _|apply aA|apply aC))) k1
 replace k2:=cell_later (aF hb1 (by repeat (with_reducible first|exact aD _|apply aA|apply aC))) k2
 replace k3:=cell_later (aF hb1 (by repeat (with_reducible first|exact aD _|apply aA|apply aC))) k3
 replace k4:=cell_later (aF hb1 (by repeat (with_reducible first|exact aD _|apply aA|apply aC))) k4
 replace k5:=cell_later (aF hb1 (by repeat (with_reducible first|exact aD _|apply aA|apply aC))) k5
 replace k6:=cell_later (aF hb1 (by repeat (with_reducible first|exact aD _|apply aA|apply aC))) k6
 replace k7:=cell_later (aF hb1 (by repeat (with_reducible first|exact aD _|apply aA|apply aC))) k7
 replace z0:=World.block_lt_of_cell? _ _ k0
 replace z1:=World.block_lt_of_cell? _ _ k2
 replace z2:=World.block_lt_of_cell? _ _ k4
 simp only[]at z0 z1 z2
 clear hb1
 rw[q0,q1,q2]
 go_wp2_with fail
 obtain⟨w4,hw0⟩:∃ x:World,x=(w3.alloc (.cells #[.int .u64 (d0 (cU a / d)),.int .u64 (d1 (cU a / d)),.int .u64 0] 231)):=⟨_,rfl⟩
 replace f1_0:w4.frozen? ⟨w.heap.size+1,0,none⟩=false:=by rw[hw0];exact aL (by repeat (with_reducible first|exact aD _|apply aA|apply aC)) k2 f1_0
 replace f1_1:w4.frozen? ⟨w.heap.size+1,1,none⟩=false:=by rw[hw0];exact aL (by repeat (with_reducible first|exact aD _|apply aA|apply aC)) k3 f1_1
 replace k0:w4.cell? ⟨w.heap.size,0,none⟩=some (.int .i64 (hi (a))):=by rw[hw0];exact cell_later (by repeat (with_reducible first|exact aD _|apply aA|apply aC)) k0
 replace k1:w4.cell? ⟨w.heap.size,1,none⟩=some (.int .u64 (lo (a))):=by rw[hw0];exact cell_later (by repeat (with_reducible first|exact aD _|apply aA|apply aC)) k1
 replace k2:w4.cell? ⟨w.heap.size+1,0,none⟩=some (.int .i64 0):=by rw[hw0];exact cell_later (by repeat (with_reducible first|exact aD _|apply aA|apply aC)) k2
 replace k3:w4.cell? ⟨w.heap.size+1,1,none⟩=some (.int .u64 0):=by rw[hw0];exact cell_later (by repeat (with_reducible first|exact aD _|apply aA|apply aC)) k3
 replace k4:w4.cell? ⟨w1.heap.size,0,none⟩=some (.bool true):=by rw[hw0];exact cell_later (by repeat (with_reducible first|exact aD _|apply aA|apply aC)) k4
 replace k5:w4.cell? ⟨w1.heap.size,1,none⟩=some (.int .u64 (d0 (cU a))):=by rw[hw0];exact cell_later (by repeat (with_reducible first|exact aD _|apply aA|apply aC)) k5
 replace k6:w4.cell? ⟨w1.heap.size,2,none⟩=some (.int .u64 (d1 (cU a))):=by rw[hw0];exact cell_later (by repeat (with_reducible first|exact aD _|apply aA|apply aC)) k6
 replace k7:w4.cell? ⟨w1.heap.size,3,none⟩=some (.int .u64 0):=by rw[hw0];exact cell_later (by repeat (with_reducible first|exact aD _|apply aA|apply aC)) k7
 have k8:w4.cell? ⟨w3.heap.size,0,none⟩=some (.int .u64 (d0 (cU a / d))):=by rw[hw0];repeat (first|(refine aS ?_ rfl;(simp;done))|refine aT ?_)
 have k9:w4.cell? ⟨w3.heap.size,1,none⟩=some (.int .u64 (d1 (cU a / d))):=by rw[hw0];repeat (first|(refine aS ?_ rfl;(simp;done))|refine aT ?_)
 have k10:w4.cell? ⟨w3.heap.size,2,none⟩=some (.int .u64 0):=by rw[hw0];repeat (first|(refine aS ?_ rfl;(simp;done))|refine aT ?_)
 have z0:w.heap.size<w4.heap.size:=World.block_lt_of_cell? _ _ k0
 have z1:w.heap.size+1<w4.heap.size:=World.block_lt_of_cell? _ _ k2
 have z2:w1.heap.size<w4.heap.size:=World.block_lt_of_cell? _ _ k4
 have z3:w3.heap.size<w4.heap.size:=World.block_lt_of_cell? _ _ k8
 replace hB:Below w.heap.size w w4:=by rw[hw0];repeat (with_reducible first|exact hB|apply aA)
 rw[←hw0]
 clear hw0
 refine(lH _ _ hf _).mono ?_
 rintro e w5 ⟨rfl,hb1⟩
 replace f1_0:=aL (aF hb1 (by repeat (with_reducible first|exact aD _|apply aA|apply aC))) k2 f1_0
 replace f1_1:=aL (aF hb1 (by repeat (with_reducible first|exact aD _|apply aA|apply aC))) k3 f1_1
 replace hB:=aF hb1 (by repeat (with_reducible first|exact hB|apply aA|apply aC))
 replace k0:=cell_later (aF hb1 (by repeat (with_reducible first|exact aD _|apply aA|apply aC))) k0
 replace k1:=cell_later (aF hb1 (by repeat (with_reducible first|exact aD _|apply aA|apply aC))) k1
 replace k2:=cell_later (aF hb1 (by repeat (with_reducible first|exact aD _|apply aA|apply aC))) k2
 replace k3:=cell_later (aF hb1 (by repeat (with_reducible first|exact aD _|apply aA|apply aC))) k3
 replace k4:=cell_later (aF hb1 (by repeat (with_reducible first|exact aD _|apply aA|apply aC))) k4
 replace k5:=cell_later (aF hb1 (by repeat (with_reducible first|exact aD _|apply aA|apply aC))) k5
 replace k6:=cell_later (aF hb1 (by repeat (with_reducible first|exact aD _|apply aA|apply aC))) k6
 replace k7:=cell_later (aF hb1 (by repeat (with_reducible first|exact aD _|apply aA|apply aC))) k7
 replace k8:=cell_later (aF hb1 (by repeat (with_reducible first|exact aD _|apply aA|apply aC))) k8
 replace k9:=cell_later (aF hb1 (by repeat (with_reducible first|exact aD _|apply aA|apply aC))) k9
 replace k10:=cell_later (aF hb1 (by repeat (with_reducible first|exact aD _|apply aA|apply aC))) k10
 replace z0:=World.block_lt_of_cell? _ _ k0
 replace z1:=World.block_lt_of_cell? _ _ k2
 replace z2:=World.block_lt_of_cell? _ _ k4
 replace z3:=World.block_lt_of_cell? _ _ k8
 simp only[]at z0 z1 z2 z3
 clear hb1
 rw[es]
 go_wp2
 obtain⟨w6,hw0⟩:∃ x:World,x=((w5.setCell ⟨w.heap.size+1,0,none⟩ (.int .i64 (hi (-(cU a / d))))).setCell ⟨w.heap.size+1,1,none⟩ (.int .u64 (lo (-(cU a / d))))):=⟨_,rfl⟩
 have new_k0:w6.cell? ⟨w.heap.size,0,none⟩=some (.int .i64 (hi (a))):=by rw[hw0];exact(aB (by omega) (aB (by omega) k0))
 have new_k1:w6.cell? ⟨w.heap.size,1,none⟩=some (.int .u64 (lo (a))):=by rw[hw0];exact(aB (by omega) (aB (by omega) k1))
 have new_k2:w6.cell? ⟨w.heap.size+1,0,none⟩=some (.int .i64 (hi (-(cU a / d)))):=by rw[hw0];exact(aB (by omega) (bB k2))
 have new_k3:w6.cell? ⟨w.heap.size+1,1,none⟩=some (.int .u64 (lo (-(cU a / d)))):=by rw[hw0];exact(bB (aB (by omega) k3))
 have new_k4:w6.cell? ⟨w1.heap.size,0,none⟩=some (.bool true):=by rw[hw0];exact(aB (by omega) (aB (by omega) k4))
 have new_k5:w6.cell? ⟨w1.heap.size,1,none⟩=some (.int .u64 (d0 (cU a))):=by rw[hw0];exact(aB (by omega) (aB (by omega) k5))
 have new_k6:w6.cell? ⟨w1.heap.size,2,none⟩=some (.int .u64 (d1 (cU a))):=by rw[hw0];exact(aB (by omega) (aB (by omega) k6))
 have new_k7:w6.cell? ⟨w1.heap.size,3,none⟩=some (.int .u64 0):=by rw[hw0];exact(aB (by omega) (aB (by omega) k7))
 have new_k8:w6.cell? ⟨w3.heap.size,0,none⟩=some (.int .u64 (d0 (cU a / d))):=by rw[hw0];exact(aB (by omega) (aB (by omega) k8))
 have new_k9:w6.cell? ⟨w3.heap.size,1,none⟩=some (.int .u64 (d1 (cU a / d))):=by rw[hw0];exact(aB (by omega) (aB (by omega) k9))
 have new_k10:w6.cell? ⟨w3.heap.size,2,none⟩=some (.int .u64 0):=by rw[hw0];exact(aB (by omega) (aB (by omega) k10))
 replace f1_0:w6.frozen? ⟨w.heap.size+1,0,none⟩=false:=by rw[hw0];(repeat rw[World.frozen?_setCell]);exact f1_0
 replace f1_1:w6.frozen? ⟨w.heap.size+1,1,none⟩=false:=by rw[hw0];(repeat rw[World.frozen?_setCell]);exact f1_1
 replace hB:Below w.heap.size w w6:=by rw[hw0];repeat (with_reducible first|exact hB|refine cA _ (by omega) ?_)
 clear k0 k1 k2 k3 k4 k5 k6 k7 k8 k9 k10
 have k0:=new_k0;clear new_k0
 have k1:=new_k1;clear new_k1
 have k2:=new_k2;clear new_k2
 have k3:=new_k3;clear new_k3
 have k4:=new_k4;clear new_k4
 have k5:=new_k5;clear new_k5
 have k6:=new_k6;clear new_k6
 have k7:=new_k7;clear new_k7
 have k8:=new_k8;clear new_k8
 have k9:=new_k9;clear new_k9
 have k10:=new_k10;clear new_k10
 replace z0:w.heap.size<w6.heap.size:=World.block_lt_of_cell? _ _ k0
 replace z1:w.heap.size+1<w6.heap.size:=World.block_lt_of_cell? _ _ k2
 replace z2:w1.heap.size<w6.heap.size:=World.block_lt_of_cell? _ _ k4
 replace z3:w3.heap.size<w6.heap.size:=World.block_lt_of_cell? _ _ k8
 rw[←hw0]
 clear hw0
 go_region_with (first
  |(go_at_call 119;refine(rR 1 ⟨by omega,by omega⟩ _).mono ?_;rintro e w7 ⟨rfl,hb1⟩;replace f1_0:=aL (aF hb1 (by repeat (with_reducible first|exact aD _|apply aA|apply aC))) k2 f1_0;replace f1_1:=aL (aF hb1 (by repeat (with_reducible first|exact aD _|apply aA|apply aC))) k3 f1_1;replace hB:=aF hb1 (by repeat (with_reducible first|exact hB|apply aA|apply aC));replace k0:=cell_later (aF hb1 (by repeat (with_reducible first|exact aD _|apply aA|apply aC))) k0;replace k1:=cell_later (aF hb1 (by repeat (with_reducible first|exact aD _|apply aA|apply aC))) k1;replace k2:=cell_later (aF hb1 (by repeat (with_reducible first|exact aD _|apply aA|apply aC))) k2;replace k3:=cell_later (aF hb1 (by repeat (with_reducible first|exact aD _|apply aA|apply aC))) k3;replace k4:=cell_later (aF hb1 (by repeat (with_reducible first|exact aD _|apply aA|apply aC))) k4;replace k5:=cell_later (aF hb1 (by repeat (with_reducible first|exact aD _|apply aA|apply aC))) k5;replace k6:=cell_later (aF hb1 (by repeat (with_reducible first|exact aD _|apply aA|apply aC))) k6;replace k7:=cell_later (aF hb1 (by repeat (with_reducible first|exact aD _|apply aA|apply aC))) k7;replace k8:=cell_later (aF hb1 (by repeat (with_reducible first|exact aD _|apply aA|apply aC))) k8;replace k9:=cell_later (aF hb1 (by repeat (with_reducible first|exact aD _|apply aA|apply aC))) k9;replace k10:=cell_later (aF hb1 (by repeat (with_reducible first|exact aD _|apply aA|apply aC))) k10;replace z0:=World.block_lt_of_cell? _ _ k0;replace z1:=World.block_lt_of_cell? _ _ k2;replace z2:=World.block_lt_of_cell? _ _ k4;replace z3:=World.block_lt_of_cell? _ _ k8;simp only[]at z0 z1 z2 z3;clear hb1)
  |(go_at_call 132;refine(aZo _ _ hq hone hr _).mono ?_;rintro e w8 ⟨rfl,hb1⟩;replace f1_0:=aL (aF hb1 (by repeat (with_reducible first|exact aD _|apply aA|apply aC))) k2 f1_0;replace f1_1:=aL (aF hb1 (by repeat (with_reducible first|exact aD _|apply aA|apply aC))) k3 f1_1;replace hB:=aF hb1 (by repeat (with_reducible first|exact hB|apply aA|apply aC));replace k0:=cell_later (aF hb1 (by repeat (with_reducible first|exact aD _|apply aA|apply aC))) k0;replace k1:=cell_later (aF hb1 (by repeat (with_reducible first|exact aD _|apply aA|apply aC))) k1;replace k2:=cell_later (aF hb1 (by repeat (with_reducible first|exact aD _|apply aA|apply aC))) k2;replace k3:=cell_later (aF hb1 (by repeat (with_reducible first|exact aD _|apply aA|apply aC))) k3;replace k4:=cell_later (aF hb1 (by repeat (with_reducible first|exact aD _|apply aA|apply aC))) k4;replace k5:=cell_later (aF hb1 (by repeat (with_reducible first|exact aD _|apply aA|apply aC))) k5;replace k6:=cell_later (aF hb1 (by repeat (with_reducible first|exact aD _|apply aA|apply aC))) k6;replace k7:=cell_later (aF hb1 (by repeat (with_reducible first|exact aD _|apply aA|apply aC))) k7;replace k8:=cell_later (aF hb1 (by repeat (with_reducible first|exact aD _|apply aA|apply aC))) k8;replace k9:=cell_later (aF hb1 (by repeat (with_reducible first|exact aD _|apply aA|apply aC))) k9;replace k10:=cell_later (aF hb1 (by repeat (with_reducible first|exact aD _|apply aA|apply aC))) k10;replace z0:=World.block_lt_of_cell? _ _ k0;replace z1:=World.block_lt_of_cell? _ _ k2;replace z2:=World.block_lt_of_cell? _ _ k4;replace z3:=World.block_lt_of_cell? _ _ k8;simp only[]at z0 z1 z2 z3;clear hb1;rw[eq2]))
 all_goals go_wp2
 ·skip
  obtain⟨w9,hw0⟩:∃ x:World,x=((((w8.setCell ⟨w.heap.size+1,0,none⟩ (.int .i64 (hi q))).setCell ⟨w.heap.size+1,1,none⟩ (.int .u64 (lo q))).setCell ⟨w.heap.size+1,0,none⟩ (.int .i64 (hi q))).setCell ⟨w.heap.size+1,1,none⟩ (.int .u64 (lo q))):=⟨_,rfl⟩
  have new_k0:w9.cell? ⟨w.heap.size,0,none⟩=some (.int .i64 (hi (a))):=by rw[hw0];exact(aB (by omega) (aB (by omega) (aB (by omega) (aB (by omega) k0))))
  have new_k1:w9.cell? ⟨w.heap.size,1,none⟩=some (.int .u64 (lo (a))):=by rw[hw0];exact(aB (by omega) (aB (by omega) (aB (by omega) (aB (by omega) k1))))
  have new_k2:w9.cell? ⟨w.heap.size+1,0,none⟩=some (.int .i64 (hi q)):=by rw[hw0];exact(aB (by omega) (bB (aB (by omega) (bB k2))))
  have new_k3:w9.cell? ⟨w.heap.size+1,1,none⟩=some (.int .u64 (lo q)):=by rw[hw0];exact(bB (aB (by omega) (bB (aB (by omega) k3))))
  have new_k4:w9.cell? ⟨w1.heap.size,0,none⟩=some (.bool true):=by rw[hw0];exact(aB (by omega) (aB (by omega) (aB (by omega) (aB (by omega) k4))))
  have new_k5:w9.cell? ⟨w1.heap.size,1,none⟩=some (.int .u64 (d0 (cU a))):=by rw[hw0];exact(aB (by omega) (aB (by omega) (aB (by omega) (aB (by omega) k5))))
  have new_k6:w9.cell? ⟨w1.heap.size,2,none⟩=some (.int .u64 (d1 (cU a))):=by rw[hw0];exact(aB (by omega) (aB (by omega) (aB (by omega) (aB (by omega) k6))))
  have new_k7:w9.cell? ⟨w1.heap.size,3,none⟩=some (.int .u64 0):=by rw[hw0];exact(aB (by omega) (aB (by omega) (aB (by omega) (aB (by omega) k7))))
  have new_k8:w9.cell? ⟨w3.heap.size,0,none⟩=some (.int .u64 (d0 (cU a / d))):=by rw[hw0];exact(aB (by omega) (aB (by omega) (aB (by omega) (aB (by omega) k8))))
  have new_k9:w9.cell? ⟨w3.heap.size,1,none⟩=some (.int .u64 (d1 (cU a / d))):=by rw[hw0];exact(aB (by omega) (aB (by omega) (aB (by omega) (aB (by omega) k9))))
  have new_k10:w9.cell? ⟨w3.heap.size,2,none⟩=some (.int .u64 0):=by rw[hw0];exact(aB (by omega) (aB (by omega) (aB (by omega) (aB (by omega) k10))))
  replace f1_0:w9.frozen? ⟨w.heap.size+1,0,none⟩=false:=by rw[hw0];(repeat rw[World.frozen?_setCell]);exact f1_0
  replace f1_1:w9.frozen? ⟨w.heap.size+1,1,none⟩=false:=by rw[hw0];(repeat rw[World.frozen?_setCell]);exact f1_1
  replace hB:Below w.heap.size w w9:=by rw[hw0];repeat (with_reducible first|exact hB|refine cA _ (by omega) ?_)
  clear k0 k1 k2 k3 k4 k5 k6 k7 k8 k9 k10
  have k0:=new_k0;clear new_k0
  have k1:=new_k1;clear new_k1
  have k2:=new_k2;clear new_k2
  have k3:=new_k3;clear new_k3
  have k4:=new_k4;clear new_k4
  have k5:=new_k5;clear new_k5
  have k6:=new_k6;clear new_k6
  have k7:=new_k7;clear new_k7
  have k8:=new_k8;clear new_k8
  have k9:=new_k9;clear new_k9
  have k10:=new_k10;clear new_k10
  replace z0:w.heap.size<w9.heap.size:=World.block_lt_of_cell? _ _ k0
  replace z1:w.heap.size+1<w9.heap.size:=World.block_lt_of_cell? _ _ k2
  replace z2:w1.heap.size<w9.heap.size:=World.block_lt_of_cell? _ _ k4
  replace z3:w3.heap.size<w9.heap.size:=World.block_lt_of_cell? _ _ k8
  rw[←hw0]
  clear hw0
  exact bodyPost_ret (v := .tuple #[.agg #[.int .i64 (hi (q)),.int .u64 (lo (q))],.int .i64 r,.int .i64 0]) (by simp [results,Try.results120,go_sem, *]) rfl ⟨rfl,by repeat (with_reducible first|exact hB|refine cA _ (by omega) ?_|apply aA|apply aC)⟩
 ·skip
  obtain⟨w9,hw0⟩:∃ x:World,x=((((w8.setCell ⟨w.heap.size+1,0,none⟩ (.int .i64 (hi q))).setCell ⟨w.heap.size+1,1,none⟩ (.int .u64 (lo q))).setCell ⟨w.heap.size+1,0,none⟩ (.int .i64 (hi q))).setCell ⟨w.heap.size+1,1,none⟩ (.int .u64 (lo q))):=⟨_,rfl⟩
  have new_k0:w9.cell? ⟨w.heap.size,0,none⟩=some (.int .i64 (hi (a))):=by rw[hw0];exact(aB (by omega) (aB (by omega) (aB (by omega) (aB (by omega) k0))))
  have new_k1:w9.cell? ⟨w.heap.size,1,none⟩=some (.int .u64 (lo (a))):=by rw[hw0];exact(aB (by omega) (aB (by omega) (aB (by omega) (aB (by omega) k1))))
  have new_k2:w9.cell? ⟨w.heap.size+1,0,none⟩=some (.int .i64 (hi q)):=by rw[hw0];exact(aB (by omega) (bB (aB (by omega) (bB k2))))
  have new_k3:w9.cell? ⟨w.heap.size+1,1,none⟩=some (.int .u64 (lo q)):=by rw[hw0];exact(bB (aB (by omega) (bB (aB (by omega) k3))))
  have new_k4:w9.cell? ⟨w1.heap.size,0,none⟩=some (.bool true):=by rw[hw0];exact(aB (by omega) (aB (by omega) (aB (by omega) (aB (by omega) k4))))
  have new_k5:w9.cell? ⟨w1.heap.size,1,none⟩=some (.int .u64 (d0 (cU a))):=by rw[hw0];exact(aB (by omega) (aB (by omega) (aB (by omega) (aB (by omega) k5))))
  have new_k6:w9.cell? ⟨w1.heap.size,2,none⟩=some (.int .u64 (d1 (cU a))):=by rw[hw0];exact(aB (by omega) (aB (by omega) (aB (by omega) (aB (by omega) k6))))
  have new_k7:w9.cell? ⟨w1.heap.size,3,none⟩=some (.int .u64 0):=by rw[hw0];exact(aB (by omega) (aB (by omega) (aB (by omega) (aB (by omega) k7))))
  have new_k8:w9.cell? ⟨w3.heap.size,0,none⟩=some (.int .u64 (d0 (cU a / d))):=by rw[hw0];exact(aB (by omega) (aB (by omega) (aB (by omega) (aB (by omega) k8))))
  have new_k9:w9.cell? ⟨w3.heap.size,1,none⟩=some (.int .u64 (d1 (cU a / d))):=by rw[hw0];exact(aB (by omega) (aB (by omega) (aB (by omega) (aB (by omega) k9))))
  have new_k10:w9.cell? ⟨w3.heap.size,2,none⟩=some (.int .u64 0):=by rw[hw0];exact(aB (by omega) (aB (by omega) (aB (by omega) (aB (by omega) k10))))
  replace f1_0:w9.frozen? ⟨w.heap.size+1,0,none⟩=false:=by rw[hw0];(repeat rw[World.frozen?_setCell]);exact f1_0
  replace f1_1:w9.frozen? ⟨w.heap.size+1,1,none⟩=false:=by rw[hw0];(repeat rw[World.frozen?_setCell]);exact f1_1
  replace hB:Below w.heap.size w w9:=by rw[hw0];repeat (with_reducible first|exact hB|refine cA _ (by omega) ?_)
  clear k0 k1 k2 k3 k4 k5 k6 k7 k8 k9 k10
  have k0:=new_k0;clear new_k0
  have k1:=new_k1;clear new_k1
  have k2:=new_k2;clear new_k2
  have k3:=new_k3;clear new_k3
  have k4:=new_k4;clear new_k4
  have k5:=new_k5;clear new_k5
  have k6:=new_k6;clear new_k6
  have k7:=new_k7;clear new_k7
  have k8:=new_k8;clear new_k8
  have k9:=new_k9;clear new_k9
  have k10:=new_k10;clear new_k10
  replace z0:w.heap.size<w9.heap.size:=World.block_lt_of_cell? _ _ k0
  replace z1:w.heap.size+1<w9.heap.size:=World.block_lt_of_cell? _ _ k2
  replace z2:w1.heap.size<w9.heap.size:=World.block_lt_of_cell? _ _ k4
  replace z3:w3.heap.size<w9.heap.size:=World.block_lt_of_cell? _ _ k8
  rw[←hw0]
  clear hw0
  exact bodyPost_ret (v := .tuple #[.agg #[.int .i64 (hi (q)),.int .u64 (lo (q))],.int .i64 r,.int .i64 0]) (by simp [results,Try.results120,go_sem, *]) rfl ⟨rfl,by repeat (with_reducible first|exact hB|refine cA _ (by omega) ?_|apply aA|apply aC)⟩
theorem aBM (a d:Int) (ha:iF a) (hd:0<d) (hd':d≤9223372036854775807) (w:World):Calls Try.prog 120 #[.agg #[.int .i64 (hi (a)),.int .u64 (lo (a))],.int .i64 d] w fun e w'=>e = .returned (.tuple #[.agg #[.int .i64 (hi (a / d)),.int .u64 (lo (a / d))],.int .i64 (a % d),.int .i64 0])∧Below w.heap.size w w':=by
 by_cases hn:a<0
 ·have r0:=Int.emod_nonneg (cU a) (show d≠0 by omega)
  by_cases hz:cU a % d=0
  ·exact aNj a d _ _ ha hd hd' hn hz rfl rfl w
  ·exact aJR a d _ _ ha hd hd' hn (by omega) rfl rfl w
 ·exact aOj a d _ _ ha hd hd' hn rfl rfl w
theorem aKs (a d:Int) (ha:iF a) (hd:0<d):iF (a / d):=by
 unfold iF at *
 have e:=Int.emod_add_mul_ediv a d
 have r0:=Int.emod_nonneg a (show d≠0 by omega)
 have r1:=Int.emod_lt_of_pos a hd
 exact⟨(Int.le_ediv_iff_mul_le hd).2 (by omega),(Int.ediv_lt_iff_lt_mul hd).2 (by omega)⟩
theorem aSU (a d:Int) (ha:iF a) (hd:0<d) (h:d-a % d≤a % d):iF (a / d+1):=by
 have hb:=aKs a d ha hd
 unfold iF at *
 have r1:=Int.emod_lt_of_pos a hd
 have hd2:2≤d:=by
  rcases Int.lt_or_le 1 d with g|g
  ·omega
  ·have:d=1:=by omega
   subst this;simp at h
 have:a / d<170141183460469231731687303715884105727:=(Int.ediv_lt_iff_lt_mul hd).2 (by omega)
 omega
set_option maxHeartbeats 800000 in
theorem aFP (a d q:Int) (ha:iF a) (hd:0<d) (hd':d≤9223372036854775807) (hc:¬d-a % d≤a % d) (hq:q=near a d) (w:World):Calls Try.prog 105 #[.agg #[.int .i64 (hi (a)),.int .u64 (lo (a))],.int .i64 d] w fun e w'=>e = .returned (.tuple #[.agg #[.int .i64 (hi (q)),.int .u64 (lo (q))],.int .i64 0])∧Below w.heap.size w w':=by
 have r0:=Int.emod_nonneg a (show d≠0 by omega)
 have r1:=Int.emod_lt_of_pos a hd
 have c1:wrap64 (d-a % d)=d-a % d:=IntWalk.wrap64_in _ (by omega)
 have c2:IntKind.i64.wrap (d-a % d)=d-a % d:=IntWalk.i64_in _ (by omega)
 have eq:a / d=q:=by rw[hq,aXH a d hd hc]
 clear hq
 go_enter Try.func105,Try.ntmps105
 go_wp2_with fail
 obtain⟨w0,hw0⟩:∃ x:World,x=((w.alloc (.cells #[.int .i64 (hi (a)),.int .u64 (lo (a))] 175)).alloc (.cells #[.int .i64 0,.int .u64 0] 175)):=⟨_,rfl⟩
 have k0:w0.cell? ⟨w.heap.size,0,none⟩=some (.int .i64 (hi (a))):=by rw[hw0];repeat (first|(refine aS ?_ rfl;(simp;done))|refine aT ?_)
 have k1:w0.cell? ⟨w.heap.size,1,none⟩=some (.int .u64 (lo (a))):=by rw[hw0];repeat (first|(refine aS ?_ rfl;(simp;done))|refine aT ?_)
 have k2:w0.cell? ⟨w.heap.size+1,0,none⟩=some (.int .i64 0):=by rw[hw0];repeat (first|(refine aS ?_ rfl;(simp;done))|refine aT ?_)
 have k3:w0.cell? ⟨w.heap.size+1,1,none⟩=some (.int .u64 0):=by rw[hw0];repeat (first|(refine aS ?_ rfl;(simp;done))|refine aT ?_)
 have z0:w.heap.size<w0.heap.size:=World.block_lt_of_cell? _ _ k0
 have z1:w.heap.size+1<w0.heap.size:=World.block_lt_of_cell? _ _ k2
 have hB:Below w.heap.size w w0:=by rw[hw0];repeat (with_reducible first|exact aD _|apply aA)
 have f1_0:w0.frozen? ⟨w.heap.size+1,0,none⟩=false:=by rw[hw0];repeat (first|(refine bO ?_;(simp;done))|(refine bP (by first|(simp;done)|(simp;omega)) ?_))
 have f1_1:w0.frozen? ⟨w.heap.size+1,1,none⟩=false:=by rw[hw0];repeat (first|(refine bO ?_;(simp;done))|(refine bP (by first|(simp;done)|(simp;omega)) ?_))
 rw[←hw0]
 clear hw0
 refine(aBM a d ha hd hd' _).mono ?_
 rintro e w1 ⟨rfl,hb1⟩
 replace f1_0:=aL (aF hb1 (by repeat (with_reducible first|exact aD _|apply aA|apply aC))) k2 f1_0
 replace f1_1:=aL (aF hb1 (by repeat (with_reducible first|exact aD _|apply aA|apply aC))) k3 f1_1
 replace hB:=aF hb1 (by repeat (with_reducible first|exact hB|apply aA|apply aC))
 replace k0:=cell_later (aF hb1 (by repeat (with_reducible first|exact aD _|apply aA|apply aC))) k0
 replace k1:=cell_later (aF hb1 (by repeat (with_reducible first|exact aD _|apply aA|apply aC))) k1
 replace k2:=cell_later (aF hb1 (by repeat (with_reducible first|exact aD _|apply aA|apply aC))) k2
 replace k3:=cell_later (aF hb1 (by repeat (with_reducible first|exact aD _|apply aA|apply aC))) k3
 replace z0:=World.block_lt_of_cell? _ _ k0
 replace z1:=World.block_lt_of_cell? _ _ k2
 simp only[]at z0 z1
 clear hb1
 generalize a % d=r at *
 rw[eq]
 go_wp2
 obtain⟨w9,hw0⟩:∃ x:World,x=((w1.setCell ⟨w.heap.size+1,0,none⟩ (.int .i64 (hi q))).setCell ⟨w.heap.size+1,1,none⟩ (.int .u64 (lo q))):=⟨_,rfl⟩
 have new_k0:w9.cell? ⟨w.heap.size,0,none⟩=some (.int .i64 (hi (a))):=by rw[hw0];exact(aB (by omega) (aB (by omega) k0))
 have new_k1:w9.cell? ⟨w.heap.size,1,none⟩=some (.int .u64 (lo (a))):=by rw[hw0];exact(aB (by omega) (aB (by omega) k1))
 have new_k2:w9.cell? ⟨w.heap.size+1,0,none⟩=some (.int .i64 (hi q)):=by rw[hw0];exact(aB (by omega) (bB k2))
 have new_k3:w9.cell? ⟨w.heap.size+1,1,none⟩=some (.int .u64 (lo q)):=by rw[hw0];exact(bB (aB (by omega) k3))
 replace f1_0:w9.frozen? ⟨w.heap.size+1,0,none⟩=false:=by rw[hw0];(repeat rw[World.frozen?_setCell]);exact f1_0
 replace f1_1:w9.frozen? ⟨w.heap.size+1,1,none⟩=false:=by rw[hw0];(repeat rw[World.frozen?_setCell]);exact f1_1
 replace hB:Below w.heap.size w w9:=by rw[hw0];repeat (with_reducible first|exact hB|refine cA _ (by omega) ?_)
 clear k0 k1 k2 k3
 have k0:=new_k0;clear new_k0
 have k1:=new_k1;clear new_k1
 have k2:=new_k2;clear new_k2
 have k3:=new_k3;clear new_k3
 replace z0:w.heap.size<w9.heap.size:=World.block_lt_of_cell? _ _ k0
 replace z1:w.heap.size+1<w9.heap.size:=World.block_lt_of_cell? _ _ k2
 rw[←hw0]
 clear hw0
 exact bodyPost_ret (v := .tuple #[.agg #[.int .i64 (hi (q)),.int .u64 (lo (q))],.int .i64 0]) (by simp [results,Try.results105,go_sem, *]) rfl ⟨rfl,by repeat (with_reducible first|exact hB|refine cA _ (by omega) ?_|apply aA|apply aC)⟩
set_option maxHeartbeats 800000 in
theorem aHi (a d q:Int) (ha:iF a) (hd:0<d) (hd':d≤9223372036854775807) (hc:d-a % d≤a % d) (hq:q=near a d) (w:World):Calls Try.prog 105 #[.agg #[.int .i64 (hi (a)),.int .u64 (lo (a))],.int .i64 d] w fun e w'=>e = .returned (.tuple #[.agg #[.int .i64 (hi (q)),.int .u64 (lo (q))],.int .i64 0])∧Below w.heap.size w w':=by
 have r0:=Int.emod_nonneg a (show d≠0 by omega)
 have r1:=Int.emod_lt_of_pos a hd
 have c1:wrap64 (d-a % d)=d-a % d:=IntWalk.wrap64_in _ (by omega)
 have c2:IntKind.i64.wrap (d-a % d)=d-a % d:=IntWalk.i64_in _ (by omega)
 have eq:a / d+1=q:=by rw[hq,aYq a d hd hc]
 have hb:=aKs a d ha hd
 have hone:iF 1:=by unfold iF;omega
 have hb1':=aSU a d ha hd hc
 clear hq
 go_enter Try.func105,Try.ntmps105
 go_wp2_with fail
 obtain⟨w0,hw0⟩:∃ x:World,x=((w.alloc (.cells #[.int .i64 (hi (a)),.int .u64 (lo (a))] 175)).alloc (.cells #[.int .i64 0,.int .u64 0] 175)):=⟨_,rfl⟩
 have k0:w0.cell? ⟨w.heap.size,0,none⟩=some (.int .i64 (hi (a))):=by rw[hw0];repeat (first|(refine aS ?_ rfl;(simp;done))|refine aT ?_)
 have k1:w0.cell? ⟨w.heap.size,1,none⟩=some (.int .u64 (lo (a))):=by rw[hw0];repeat (first|(refine aS ?_ rfl;(simp;done))|refine aT ?_)
 have k2:w0.cell? ⟨w.heap.size+1,0,none⟩=some (.int .i64 0):=by rw[hw0];repeat (first|(refine aS ?_ rfl;(simp;done))|refine aT ?_)
 have k3:w0.cell? ⟨w.heap.size+1,1,none⟩=some (.int .u64 0):=by rw[hw0];repeat (first|(refine aS ?_ rfl;(simp;done))|refine aT ?_)
 have z0:w.heap.size<w0.heap.size:=World.block_lt_of_cell? _ _ k0
 have z1:w.heap.size+1<w0.heap.size:=World.block_lt_of_cell? _ _ k2
 have hB:Below w.heap.size w w0:=by rw[hw0];repeat (with_reducible first|exact aD _|apply aA)
 have f1_0:w0.frozen? ⟨w.heap.size+1,0,none⟩=false:=by rw[hw0];repeat (first|(refine bO ?_;(simp;done))|(refine bP (by first|(simp;done)|(simp;omega)) ?_))
 have f1_1:w0.frozen? ⟨w.heap.size+1,1,none⟩=false:=by rw[hw0];repeat (first|(refine bO ?_;(simp;done))|(refine bP (by first|(simp;done)|(simp;omega)) ?_))
 rw[←hw0]
 clear hw0
 refine(aBM a d ha hd hd' _).mono ?_
 rintro e w1 ⟨rfl,hb1⟩
 replace f1_0:=aL (aF hb1 (by repeat (with_reducible first|exact aD _|apply aA|apply aC))) k2 f1_0
 replace f1_1:=aL (aF hb1 (by repeat (with_reducible first|exact aD _|apply aA|apply aC))) k3 f1_1
 replace hB:=aF hb1 (by repeat (with_reducible first|exact hB|apply aA|apply aC))
 replace k0:=cell_later (aF hb1 (by repeat (with_reducible first|exact aD _|apply aA|apply aC))) k0
 replace k1:=cell_later (aF hb1 (by repeat (with_reducible first|exact aD _|apply aA|apply aC))) k1
 replace k2:=cell_later (aF hb1 (by repeat (with_reducible first|exact aD _|apply aA|apply aC))) k2
 replace k3:=cell_later (aF hb1 (by repeat (with_reducible first|exact aD _|apply aA|apply aC))) k3
 replace z0:=World.block_lt_of_cell? _ _ k0
 replace z1:=World.block_lt_of_cell? _ _ k2
 simp only[]at z0 z1
 clear hb1
 generalize a % d=r at *
 go_wp2
 obtain⟨w2,hw0⟩:∃ x:World,x=(w1.alloc (.cells #[.int .i64 (hi (a / d)),.int .u64 (lo (a / d))] 175)):=⟨_,rfl⟩
 replace f1_0:w2.frozen? ⟨w.heap.size+1,0,none⟩=false:=by rw[hw0];exact aL (by repeat (with_reducible first|exact aD _|apply aA|apply aC)) k2 f1_0
 replace f1_1:w2.frozen? ⟨w.heap.size+1,1,none⟩=false:=by rw[hw0];exact aL (by repeat (with_reducible first|exact aD _|apply aA|apply aC)) k3 f1_1
 replace k0:w2.cell? ⟨w.heap.size,0,none⟩=some (.int .i64 (hi (a))):=by rw[hw0];exact cell_later (by repeat (with_reducible first|exact aD _|apply aA|apply aC)) k0
 replace k1:w2.cell? ⟨w.heap.size,1,none⟩=some (.int .u64 (lo (a))):=by rw[hw0];exact cell_later (by repeat (with_reducible first|exact aD _|apply aA|apply aC)) k1
 replace k2:w2.cell? ⟨w.heap.size+1,0,none⟩=some (.int .i64 0):=by rw[hw0];exact cell_later (by repeat (with_reducible first|exact aD _|apply aA|apply aC)) k2
 replace k3:w2.cell? ⟨w.heap.size+1,1,none⟩=some (.int .u64 0):=by rw[hw0];exact cell_later (by repeat (with_reducible first|exact aD _|apply aA|apply aC)) k3
 have k4:w2.cell? ⟨w1.heap.size,0,none⟩=some (.int .i64 (hi (a / d))):=by rw[hw0];repeat (first|(refine aS ?_ rfl;(simp;done))|refine aT ?_)
 have k5:w2.cell? ⟨w1.heap.size,1,none⟩=some (.int .u64 (lo (a / d))):=by rw[hw0];repeat (first|(refine aS ?_ rfl;(simp;done))|refine aT ?_)
 have fz2_0:w2.frozen? ⟨w1.heap.size,0,none⟩=false:=by rw[hw0];repeat (first|(refine bO ?_;(simp;done))|(refine bP (by first|(simp;done)|(simp;omega)) ?_))
 have fz2_1:w2.frozen? ⟨w1.heap.size,1,none⟩=false:=by rw[hw0];repeat (first|(refine bO ?_;(simp;done))|(refine bP (by first|(simp;done)|(simp;omega)) ?_))
 have z0:w.heap.size<w2.heap.size:=World.block_lt_of_cell? _ _ k0
 have z1:w.heap.size+1<w2.heap.size:=World.block_lt_of_cell? _ _ k2
 have z2:w1.heap.size<w2.heap.size:=World.block_lt_of_cell? _ _ k4
 replace hB:Below w.heap.size w w2:=by rw[hw0];repeat (with_reducible first|exact hB|apply aA)
 rw[←hw0]
 clear hw0
 go_region_with (first
  |(go_at_call 119;refine(rR 1 ⟨by omega,by omega⟩ _).mono ?_;rintro e w7 ⟨rfl,hb1⟩;replace f1_0:=aL (aF hb1 (by repeat (with_reducible first|exact aD _|apply aA|apply aC))) k2 f1_0;replace f1_1:=aL (aF hb1 (by repeat (with_reducible first|exact aD _|apply aA|apply aC))) k3 f1_1;replace fz2_0:=aL (aF hb1 (by repeat (with_reducible first|exact aD _|apply aA|apply aC))) k4 fz2_0;replace fz2_1:=aL (aF hb1 (by repeat (with_reducible first|exact aD _|apply aA|apply aC))) k5 fz2_1;replace hB:=aF hb1 (by repeat (with_reducible first|exact hB|apply aA|apply aC));replace k0:=cell_later (aF hb1 (by repeat (with_reducible first|exact aD _|apply aA|apply aC))) k0;replace k1:=cell_later (aF hb1 (by repeat (with_reducible first|exact aD _|apply aA|apply aC))) k1;replace k2:=cell_later (aF hb1 (by repeat (with_reducible first|exact aD _|apply aA|apply aC))) k2;replace k3:=cell_later (aF hb1 (by repeat (with_reducible first|exact aD _|apply aA|apply aC))) k3;replace k4:=cell_later (aF hb1 (by repeat (with_reducible first|exact aD _|apply aA|apply aC))) k4;replace k5:=cell_later (aF hb1 (by repeat (with_reducible first|exact aD _|apply aA|apply aC))) k5;replace z0:=World.block_lt_of_cell? _ _ k0;replace z1:=World.block_lt_of_cell? _ _ k2;replace z2:=World.block_lt_of_cell? _ _ k4;simp only[]at z0 z1 z2;clear hb1)
  |(go_at_call 103;refine(aLr _ _ hb hone hb1' _).mono ?_;rintro e w8 ⟨rfl,hb1⟩;replace f1_0:=aL (aF hb1 (by repeat (with_reducible first|exact aD _|apply aA|apply aC))) k2 f1_0;replace f1_1:=aL (aF hb1 (by repeat (with_reducible first|exact aD _|apply aA|apply aC))) k3 f1_1;replace fz2_0:=aL (aF hb1 (by repeat (with_reducible first|exact aD _|apply aA|apply aC))) k4 fz2_0;replace fz2_1:=aL (aF hb1 (by repeat (with_reducible first|exact aD _|apply aA|apply aC))) k5 fz2_1;replace hB:=aF hb1 (by repeat (with_reducible first|exact hB|apply aA|apply aC));replace k0:=cell_later (aF hb1 (by repeat (with_reducible first|exact aD _|apply aA|apply aC))) k0;replace k1:=cell_later (aF hb1 (by repeat (with_reducible first|exact aD _|apply aA|apply aC))) k1;replace k2:=cell_later (aF hb1 (by repeat (with_reducible first|exact aD _|apply aA|apply aC))) k2;replace k3:=cell_later (aF hb1 (by repeat (with_reducible first|exact aD _|apply aA|apply aC))) k3;replace k4:=cell_later (aF hb1 (by repeat (with_reducible first|exact aD _|apply aA|apply aC))) k4;replace k5:=cell_later (aF hb1 (by repeat (with_reducible first|exact aD _|apply aA|apply aC))) k5;replace z0:=World.block_lt_of_cell? _ _ k0;replace z1:=World.block_lt_of_cell? _ _ k2;replace z2:=World.block_lt_of_cell? _ _ k4;simp only[]at z0 z1 z2;clear hb1;rw[eq]))
 all_goals go_wp2
 ·skip
  obtain⟨w9,hw0⟩:∃ x:World,x=((((w8.setCell ⟨w1.heap.size,0,none⟩ (.int .i64 (hi q))).setCell ⟨w1.heap.size,1,none⟩ (.int .u64 (lo q))).setCell ⟨w.heap.size+1,0,none⟩ (.int .i64 (hi q))).setCell ⟨w.heap.size+1,1,none⟩ (.int .u64 (lo q))):=⟨_,rfl⟩
  have new_k0:w9.cell? ⟨w.heap.size,0,none⟩=some (.int .i64 (hi (a))):=by rw[hw0];exact(aB (by omega) (aB (by omega) (aB (by omega) (aB (by omega) k0))))
  have new_k1:w9.cell? ⟨w.heap.size,1,none⟩=some (.int .u64 (lo (a))):=by rw[hw0];exact(aB (by omega) (aB (by omega) (aB (by omega) (aB (by omega) k1))))
  have new_k2:w9.cell? ⟨w.heap.size+1,0,none⟩=some (.int .i64 (hi q)):=by rw[hw0];exact(aB (by omega) (bB (aB (by omega) (aB (by omega) k2))))
  have new_k3:w9.cell? ⟨w.heap.size+1,1,none⟩=some (.int .u64 (lo q)):=by rw[hw0];exact(bB (aB (by omega) (aB (by omega) (aB (by omega) k3))))
  have new_k4:w9.cell? ⟨w1.heap.size,0,none⟩=some (.int .i64 (hi q)):=by rw[hw0];exact(aB (by omega) (aB (by omega) (aB (by omega) (bB k4))))
  have new_k5:w9.cell? ⟨w1.heap.size,1,none⟩=some (.int .u64 (lo q)):=by rw[hw0];exact(aB (by omega) (aB (by omega) (bB (aB (by omega) k5))))
  replace f1_0:w9.frozen? ⟨w.heap.size+1,0,none⟩=false:=by rw[hw0];(repeat rw[World.frozen?_setCell]);exact f1_0
  replace f1_1:w9.frozen? ⟨w.heap.size+1,1,none⟩=false:=by rw[hw0];(repeat rw[World.frozen?_setCell]);exact f1_1
  replace fz2_0:w9.frozen? ⟨w1.heap.size,0,none⟩=false:=by rw[hw0];(repeat rw[World.frozen?_setCell]);exact fz2_0
  replace fz2_1:w9.frozen? ⟨w1.heap.size,1,none⟩=false:=by rw[hw0];(repeat rw[World.frozen?_setCell]);exact fz2_1
  replace hB:Below w.heap.size w w9:=by rw[hw0];repeat (with_reducible first|exact hB|refine cA _ (by omega) ?_)
  clear k0 k1 k2 k3 k4 k5
  have k0:=new_k0;clear new_k0
  have k1:=new_k1;clear new_k1
  have k2:=new_k2;clear new_k2
  have k3:=new_k3;clear new_k3
  have k4:=new_k4;clear new_k4
  have k5:=new_k5;clear new_k5
  replace z0:w.heap.size<w9.heap.size:=World.block_lt_of_cell? _ _ k0
  replace z1:w.heap.size+1<w9.heap.size:=World.block_lt_of_cell? _ _ k2
  replace z2:w1.heap.size<w9.heap.size:=World.block_lt_of_cell? _ _ k4
  rw[←hw0]
  clear hw0
  exact bodyPost_ret (v := .tuple #[.agg #[.int .i64 (hi (q)),.int .u64 (lo (q))],.int .i64 0]) (by simp [results,Try.results105,go_sem, *]) rfl ⟨rfl,by repeat (with_reducible first|exact hB|refine cA _ (by omega) ?_|apply aA|apply aC)⟩
 ·skip
  obtain⟨w9,hw0⟩:∃ x:World,x=((((w8.setCell ⟨w1.heap.size,0,none⟩ (.int .i64 (hi q))).setCell ⟨w1.heap.size,1,none⟩ (.int .u64 (lo q))).setCell ⟨w.heap.size+1,0,none⟩ (.int .i64 (hi q))).setCell ⟨w.heap.size+1,1,none⟩ (.int .u64 (lo q))):=⟨_,rfl⟩
  have new_k0:w9.cell? ⟨w.heap.size,0,none⟩=some (.int .i64 (hi (a))):=by rw[hw0];exact(aB (by omega) (aB (by omega) (aB (by omega) (aB (by omega) k0))))
  have new_k1:w9.cell? ⟨w.heap.size,1,none⟩=some (.int .u64 (lo (a))):=by rw[hw0];exact(aB (by omega) (aB (by omega) (aB (by omega) (aB (by omega) k1))))
  have new_k2:w9.cell? ⟨w.heap.size+1,0,none⟩=some (.int .i64 (hi q)):=by rw[hw0];exact(aB (by omega) (bB (aB (by omega) (aB (by omega) k2))))
  have new_k3:w9.cell? ⟨w.heap.size+1,1,none⟩=some (.int .u64 (lo q)):=by rw[hw0];exact(bB (aB (by omega) (aB (by omega) (aB (by omega) k3))))
  have new_k4:w9.cell? ⟨w1.heap.size,0,none⟩=some (.int .i64 (hi q)):=by rw[hw0];exact(aB (by omega) (aB (by omega) (aB (by omega) (bB k4))))
  have new_k5:w9.cell? ⟨w1.heap.size,1,none⟩=some (.int .u64 (lo q)):=by rw[hw0];exact(aB (by omega) (aB (by omega) (bB (aB (by omega) k5))))
  replace f1_0:w9.frozen? ⟨w.heap.size+1,0,none⟩=false:=by rw[hw0];(repeat rw[World.frozen?_setCell]);exact f1_0
  replace f1_1:w9.frozen? ⟨w.heap.size+1,1,none⟩=false:=by rw[hw0];(repeat rw[World.frozen?_setCell]);exact f1_1
  replace fz2_0:w9.frozen? ⟨w1.heap.size,0,none⟩=false:=by rw[hw0];(repeat rw[World.frozen?_setCell]);exact fz2_0
  replace fz2_1:w9.frozen? ⟨w1.heap.size,1,none⟩=false:=by rw[hw0];(repeat rw[World.frozen?_setCell]);exact fz2_1
  replace hB:Below w.heap.size w w9:=by rw[hw0];repeat (with_reducible first|exact hB|refine cA _ (by omega) ?_)
  clear k0 k1 k2 k3 k4 k5
  have k0:=new_k0;clear new_k0
  have k1:=new_k1;clear new_k1
  have k2:=new_k2;clear new_k2
  have k3:=new_k3;clear new_k3
  have k4:=new_k4;clear new_k4
  have k5:=new_k5;clear new_k5
  replace z0:w.heap.size<w9.heap.size:=World.block_lt_of_cell? _ _ k0
  replace z1:w.heap.size+1<w9.heap.size:=World.block_lt_of_cell? _ _ k2
  replace z2:w1.heap.size<w9.heap.size:=World.block_lt_of_cell? _ _ k4
  rw[←hw0]
  clear hw0
  exact bodyPost_ret (v := .tuple #[.agg #[.int .i64 (hi (q)),.int .u64 (lo (q))],.int .i64 0]) (by simp [results,Try.results105,go_sem, *]) rfl ⟨rfl,by repeat (with_reducible first|exact hB|refine cA _ (by omega) ?_|apply aA|apply aC)⟩
theorem aVz (a d:Int) (ha:iF a) (hd:0<d) (hd':d≤9223372036854775807) (w:World):Calls Try.prog 105 #[.agg #[.int .i64 (hi (a)),.int .u64 (lo (a))],.int .i64 d] w fun e w'=>e = .returned (.tuple #[.agg #[.int .i64 (hi (near a d)),.int .u64 (lo (near a d))],.int .i64 0])∧Below w.heap.size w w':=by
 by_cases hc:d-a % d≤a % d
 ·exact aHi a d _ ha hd hd' hc rfl w
 ·exact aFP a d _ ha hd hd' hc rfl w
end Go.Proofs.Ytkpdiehbaiepaaa
namespace Fx
def near (n d:Int):Int:=(2*n+d) / (2*d)
def sat (n:Int):Int:=if n < -2147483648 then -2147483648 else if 2147483647<n then 2147483647 else n
def fix (a:Int):Prop := -2147483648≤a∧a≤2147483647
def mul (a b:Int):Int:=sat (near (a*b) 65536)
def bDq (x flo fhi tlo thi:Int):Int:=
 if fhi-flo<0 then sat (near (-(x-flo)*(thi-tlo)+tlo * -(fhi-flo)) (-(fhi-flo)))
 else sat (near ((x-flo)*(thi-tlo)+tlo*(fhi-flo)) (fhi-flo))
def down (a:Int):Int:=a / 65536*65536
def bEb (a:Int):Int:=sat (down a)
def round (a:Int):Int:=sat (down (a+32768))
theorem rT (n:Int):(n < -2147483648∧sat n = -2147483648)∨(2147483647<n∧sat n=2147483647)∨(fix n∧sat n=n):=by
 unfold sat fix;split
 ·omega
 ·split<;>omega
theorem bCJ {n:Int} (h:fix n):sat n=n:=by unfold fix at h;rcases rT n with⟨_,g⟩|⟨_,g⟩|⟨_,g⟩<;>omega
theorem near_spec (n d:Int) (hd:0<d):2*(near n d*d)≤2*n+d∧2*n+d<2*(near n d*d)+2*d:=by
 unfold near
 have e:=Int.emod_add_mul_ediv (2*n+d) (2*d)
 have l:=Int.emod_lt_of_pos (2*n+d) (show 0<2*d by omega)
 have z:=Int.emod_nonneg (2*n+d) (show 2*d≠0 by omega)
 generalize (2*n+d) / (2*d)=q at *
 have k:2*d*q=2*(q*d):=by grind
 omega
theorem near_uniq (n d q:Int) (hd:0<d) (h1:2*(q*d)≤2*n+d) (h2:2*n+d<2*(q*d)+2*d):near n d=q:=by
 have hp:0<2*d:=by omega
 unfold near
 apply Int.le_antisymm
 ·refine Int.le_of_lt_add_one ((Int.ediv_lt_iff_lt_mul hp).2 ?_)
  have k:(q+1)*(2*d)=2*(q*d)+2*d:=by grind
  omega
 ·refine(Int.le_ediv_iff_mul_le hp).2 ?_
  have k:q*(2*d)=2*(q*d):=by grind
  omega
theorem near_mono {m n d:Int} (hd:0<d) (h:m≤n):near m d≤near n d:=by
 unfold near;exact Int.ediv_le_ediv (by omega) (by omega)
theorem zN (n d k:Int) (hk:0<k):near (n*k) (d*k)=near n d:=by
 unfold near
 have e1:2*(n*k)+d*k=(2*n+d)*k:=by grind
 have e2:2*(d*k)=2*d*k:=by grind
 rw[e1,e2,Int.mul_ediv_mul_of_pos_left _ _ hk]
theorem near_whole (q d:Int) (hd:0<d):near (q*d) d=q:=near_uniq _ _ _ hd (by omega) (by omega)
theorem mul_comm (a b:Int):mul a b=mul b a:=by unfold mul;rw[Int.mul_comm]
theorem mul_one (a:Int) (ha:fix a):mul a 65536=a:=by unfold mul;rw[near_whole a 65536 (by decide)];exact bCJ ha
theorem mul_zero (a:Int):mul a 0=0:=by unfold mul;rw[Int.mul_zero];decide
theorem mul_neg (a b:Int) (hp':mul a b≠2147483647):
  (mul (-a) b = -mul a b∧a*b % 65536≠32768)∨(mul (-a) b = -mul a b+1∧a*b % 65536=32768)∨(mul (-a) b=2147483647∧mul a b < -2147483646):=by
 have e : -a*b = -(a*b):=by grind
 unfold mul at *
 rw[e];unfold near
 generalize a*b=p at *
 have s1:=rT ((2*p+65536) / (2*65536));have s2:=rT ((2 * -p+65536) / (2*65536))
 unfold near at hp'
 unfold fix at s1 s2
 omega
end Fx
namespace Nu
def dg (N:Int) (M:Int):Int:=N / M % 65536
theorem dg_bd (N M:Int):0≤dg N M∧dg N M<65536:=by unfold dg;omega
theorem iT (N M:Int) (hM:0<M):N % (M*65536)=N % M+M*dg N M:=by
 unfold dg
 have h1:=Int.mul_ediv_add_emod N M
 have h2:=Int.mul_ediv_add_emod N (M*65536)
 have e:N / (M*65536)=N / M / 65536:=(Int.ediv_ediv_of_nonneg (Int.le_of_lt hM)).symm
 rw[e]at h2
 have h3:=Int.mul_ediv_add_emod (N / M) 65536
 have h4:M*(N / M)=M*(65536*(N / M / 65536)+N / M % 65536):=by rw[h3]
 have h5:M*(65536*(N / M / 65536)+N / M % 65536)=M*65536*(N / M / 65536)+M*(N / M % 65536):=by rw[Int.mul_add,Int.mul_assoc]
 omega
def oK (A B M:Int):Int:=(A % M+B % M) / M
theorem aL1 (A B M:Int) (hM:0<M):0≤oK A B M∧oK A B M≤1:=by
 have a0:=Int.emod_nonneg A (show M≠0 by omega)
 have a1:=Int.emod_lt_of_pos A hM
 have b0:=Int.emod_nonneg B (show M≠0 by omega)
 have b1:=Int.emod_lt_of_pos B hM
 unfold oK
 refine⟨Int.ediv_nonneg (by omega) (by omega),?_⟩
 have:(A % M+B % M) / M<2:=Int.ediv_lt_of_lt_mul hM (by omega)
 omega
theorem aBl (A B M:Int) (hM:0<M):oK A B (M*65536)=(oK A B M+dg A M+dg B M) / 65536:=by
 have e:A % (M*65536)+B % (M*65536)=(A % M+B % M)+M*(dg A M+dg B M):=by
  rw[iT A M hM,iT B M hM,Int.mul_add];omega
 unfold oK
 rw[e,←Int.ediv_ediv_of_nonneg (Int.le_of_lt hM),Int.add_mul_ediv_left _ _ (by omega)]
 congr 1
 omega
theorem aAh (A B M:Int) (hM:0<M):dg (A+B) M=(oK A B M+dg A M+dg B M) % 65536:=by
 have ha:=Int.mul_ediv_add_emod A M
 have hb:=Int.mul_ediv_add_emod B M
 have e:A+B=(A % M+B % M)+M*(A / M+B / M):=by rw[Int.mul_add];omega
 have e2:(A+B) / M=oK A B M+(A / M+B / M):=by
  unfold oK
  conv=>lhs;rw[e]
  exact Int.add_mul_ediv_left _ _ (by omega)
 unfold dg
 rw[e2]
 omega
theorem aIr (A B:Int):oK A B 1=0:=by unfold oK;omega
def lent (A B M:Int):Int:=if A % M<B % M then 1 else 0
theorem cX (A B:Int):lent A B 1=0:=by unfold lent;rw[if_neg (by omega)]
theorem cJ (A B M:Int) (hM:0<M):lent A B (M*65536)=if dg A M-lent A B M<dg B M then 1 else 0:=by
 have a0:=Int.emod_nonneg A (show M≠0 by omega)
 have a1:=Int.emod_lt_of_pos A hM
 have b0:=Int.emod_nonneg B (show M≠0 by omega)
 have b1:=Int.emod_lt_of_pos B hM
 unfold lent
 rw[iT A M hM,iT B M hM]
 have key:∀ x y:Int,x<y→M*x+M≤M*y:=by
  intro x y h
  have:=Int.mul_le_mul_of_nonneg_left (show x+1≤y by omega) (Int.le_of_lt hM)
  rw[Int.mul_add,Int.mul_one]at this
  exact this
 rcases Int.lt_trichotomy (dg A M) (dg B M)with h|h|h
 ·have:=key _ _ h
  rw[if_pos (by omega),if_pos (by split<;>omega)]
 ·rw[h]
  by_cases g:A % M<B % M
  ·rw[if_pos (by omega),if_pos (by rw[if_pos g];omega)]
  ·rw[if_neg (by omega),if_neg (by rw[if_neg g];omega)]
 ·have:=key _ _ h
  rw[if_neg (by omega)]
  rw[if_neg (by split<;>omega)]
theorem bU (A B M:Int) (hM:0<M):dg (A-B) M=(dg A M-lent A B M-dg B M) % 65536:=by
 have a0:=Int.emod_nonneg A (show M≠0 by omega)
 have a1:=Int.emod_lt_of_pos A hM
 have b0:=Int.emod_nonneg B (show M≠0 by omega)
 have b1:=Int.emod_lt_of_pos B hM
 have ha:=Int.mul_ediv_add_emod A M
 have hb:=Int.mul_ediv_add_emod B M
 have e:A-B=(A % M-B % M)+M*(A / M-B / M):=by rw[Int.mul_sub];omega
 have e3:(A % M-B % M) / M = - lent A B M:=by
  unfold lent
  split
  ·have:A % M-B % M=(A % M-B % M+M)+M*(-1):=by omega
   rw[this,Int.add_mul_ediv_left _ _ (by omega),Int.ediv_eq_zero_of_lt (by omega) (by omega)];rfl
  ·rw[Int.ediv_eq_zero_of_lt (by omega) (by omega)];rfl
 have e2:(A-B) / M = - lent A B M+(A / M-B / M):=by
  conv=>lhs;rw[e]
  rw[Int.add_mul_ediv_left _ _ (by omega),e3]
 unfold dg
 rw[e2]
 omega
theorem aJt (N b:Int) (h:N % 2=0) (h0:0≤b) (h1:b≤1):dg (N+b) 1=dg N 1+b:=by unfold dg;omega
theorem eY (N b K:Int) (hK:0<K) (h:N % 2=0) (h0:0≤b) (h1:b≤1):dg (N+b) (65536*K)=dg N (65536*K):=by
 have e:∀ N:Int,N / (65536*K)=N / 65536 / K:=fun N=>(Int.ediv_ediv_of_nonneg (by omega)).symm
 unfold dg
 rw[e,e,show (N+b) / 65536=N / 65536 by omega]
theorem aVK (a q r d:Int) (hd:0<d) (h:a=q*d+r) (h0:0≤r) (h1:r<d):q=a / d∧r=a % d:=by
 have e:a=r+q*d:=by omega
 constructor
 ·rw[e,Int.add_mul_ediv_right _ _ (by omega),Int.ediv_eq_zero_of_lt h0 h1];omega
 ·rw[e,Int.add_mul_emod_self_right,Int.emod_eq_of_lt h0 h1]
end Nu
namespace Nu
theorem tdm (x:Int) (h:0≤x):x=65536*x.tdiv 65536+x.tmod 65536∧0≤x.tmod 65536∧x.tmod 65536≤65535∧0≤x.tdiv 65536:=by
 rw[Int.tdiv_eq_ediv_of_nonneg h,Int.tmod_eq_emod_of_nonneg h];omega
theorem pq0 (A B:Int):(dg A 1+dg B 1).tdiv 65536=oK A B 65536:=by
 have h:=aBl A B 1 (by decide)
 rw[aIr,Int.zero_add]at h
 have a:=dg_bd A 1
 have b:=dg_bd B 1
 rw[Int.tdiv_eq_ediv_of_nonneg (by omega),←h];rfl
theorem pr0 (A B:Int):(dg A 1+dg B 1).tmod 65536=dg (A+B) 1:=by
 have h:=aAh A B 1 (by decide)
 rw[aIr,Int.zero_add]at h
 have a:=dg_bd A 1
 have b:=dg_bd B 1
 rw[Int.tmod_eq_emod_of_nonneg (by omega),←h]
theorem pq (A B M M':Int) (hM:0<M) (e:M'=M*65536):(oK A B M+dg A M+dg B M).tdiv 65536=oK A B M':=by
 have a:=dg_bd A M
 have b:=dg_bd B M
 have k:=aL1 A B M hM
 rw[Int.tdiv_eq_ediv_of_nonneg (by omega),e,aBl A B M hM]
theorem pr (A B M:Int) (hM:0<M):(oK A B M+dg A M+dg B M).tmod 65536=dg (A+B) M:=by
 have a:=dg_bd A M
 have b:=dg_bd B M
 have k:=aL1 A B M hM
 rw[Int.tmod_eq_emod_of_nonneg (by omega),aAh A B M hM]
theorem eR (N:Int) (h0:0≤N) (h1:N<6277101735386680763835789423207666416102355444464034512896):N=dg N 1+65536*dg N 65536+4294967296*dg N 4294967296+281474976710656*dg N 281474976710656+18446744073709551616*dg N 18446744073709551616+1208925819614629174706176*dg N 1208925819614629174706176+79228162514264337593543950336*dg N 79228162514264337593543950336+5192296858534827628530496329220096*dg N 5192296858534827628530496329220096+340282366920938463463374607431768211456*dg N 340282366920938463463374607431768211456+22300745198530623141535718272648361505980416*dg N 22300745198530623141535718272648361505980416+1461501637330902918203684832716283019655932542976*dg N 1461501637330902918203684832716283019655932542976+95780971304118053647396689196894323976171195136475136*dg N 95780971304118053647396689196894323976171195136475136:=by
 unfold dg;omega
end Nu
namespace Nu
theorem nS (c0 c1 c2 c3 c4 c5 c6 c7 c8 c9 c10 c11:Int) (h0:0≤c0∧c0≤65535) (h1:0≤c1∧c1≤65535) (h2:0≤c2∧c2≤65535) (h3:0≤c3∧c3≤65535) (h4:0≤c4∧c4≤65535) (h5:0≤c5∧c5≤65535) (h6:0≤c6∧c6≤65535) (h7:0≤c7∧c7≤65535) (h8:0≤c8∧c8≤65535) (h9:0≤c9∧c9≤65535) (h10:0≤c10∧c10≤65535) (h11:0≤c11∧c11≤65535):dg (c0+65536*c1+4294967296*c2+281474976710656*c3+18446744073709551616*c4+1208925819614629174706176*c5+79228162514264337593543950336*c6+5192296858534827628530496329220096*c7+340282366920938463463374607431768211456*c8+22300745198530623141535718272648361505980416*c9+1461501637330902918203684832716283019655932542976*c10+95780971304118053647396689196894323976171195136475136*c11) 1=c0∧dg (c0+65536*c1+4294967296*c2+281474976710656*c3+18446744073709551616*c4+1208925819614629174706176*c5+79228162514264337593543950336*c6+5192296858534827628530496329220096*c7+340282366920938463463374607431768211456*c8+22300745198530623141535718272648361505980416*c9+1461501637330902918203684832716283019655932542976*c10+95780971304118053647396689196894323976171195136475136*c11) 65536=c1∧dg (c0+65536*c1+4294967296*c2+281474976710656*c3+18446744073709551616*c4+1208925819614629174706176*c5+79228162514264337593543950336*c6+5192296858534827628530496329220096*c7+340282366920938463463374607431768211456*c8+22300745198530623141535718272648361505980416*c9+1461501637330902918203684832716283019655932542976*c10+95780971304118053647396689196894323976171195136475136*c11) 4294967296=c2∧dg (c0+65536*c1+4294967296*c2+281474976710656*c3+18446744073709551616*c4+1208925819614629174706176*c5+79228162514264337593543950336*c6+5192296858534827628530496329220096*c7+340282366920938463463374607431768211456*c8+22300745198530623141535718272648361505980416*c9+1461501637330902918203684832716283019655932542976*c10+95780971304118053647396689196894323976171195136475136*c11) 281474976710656=c3∧dg (c0+65536*c1+4294967296*c2+281474976710656*c3+18446744073709551616*c4+1208925819614629174706176*c5+79228162514264337593543950336*c6+5192296858534827628530496329220096*c7+340282366920938463463374607431768211456*c8+22300745198530623141535718272648361505980416*c9+1461501637330902918203684832716283019655932542976*c10+95780971304118053647396689196894323976171195136475136*c11) 18446744073709551616=c4∧dg (c0+65536*c1+4294967296*c2+281474976710656*c3+18446744073709551616*c4+1208925819614629174706176*c5+79228162514264337593543950336*c6+5192296858534827628530496329220096*c7+340282366920938463463374607431768211456*c8+22300745198530623141535718272648361505980416*c9+1461501637330902918203684832716283019655932542976*c10+95780971304118053647396689196894323976171195136475136*c11) 1208925819614629174706176=c5∧dg (c0+65536*c1+4294967296*c2+281474976710656*c3+18446744073709551616*c4+1208925819614629174706176*c5+79228162514264337593543950336*c6+5192296858534827628530496329220096*c7+340282366920938463463374607431768211456*c8+22300745198530623141535718272648361505980416*c9+1461501637330902918203684832716283019655932542976*c10+95780971304118053647396689196894323976171195136475136*c11) 79228162514264337593543950336=c6∧dg (c0+65536*c1+4294967296*c2+281474976710656*c3+18446744073709551616*c4+1208925819614629174706176*c5+79228162514264337593543950336*c6+5192296858534827628530496329220096*c7+340282366920938463463374607431768211456*c8+22300745198530623141535718272648361505980416*c9+1461501637330902918203684832716283019655932542976*c10+95780971304118053647396689196894323976171195136475136*c11) 5192296858534827628530496329220096=c7∧dg (c0+65536*c1+4294967296*c2+281474976710656*c3+18446744073709551616*c4+1208925819614629174706176*c5+79228162514264337593543950336*c6+5192296858534827628530496329220096*c7+340282366920938463463374607431768211456*c8+22300745198530623141535718272648361505980416*c9+1461501637330902918203684832716283019655932542976*c10+95780971304118053647396689196894323976171195136475136*c11) 340282366920938463463374607431768211456=c8∧dg (c0+65536*c1+4294967296*c2+281474976710656*c3+18446744073709551616*c4+1208925819614629174706176*c5+79228162514264337593543950336*c6+5192296858534827628530496329220096*c7+340282366920938463463374607431768211456*c8+22300745198530623141535718272648361505980416*c9+1461501637330902918203684832716283019655932542976*c10+95780971304118053647396689196894323976171195136475136*c11) 22300745198530623141535718272648361505980416=c9∧dg (c0+65536*c1+4294967296*c2+281474976710656*c3+18446744073709551616*c4+1208925819614629174706176*c5+79228162514264337593543950336*c6+5192296858534827628530496329220096*c7+340282366920938463463374607431768211456*c8+22300745198530623141535718272648361505980416*c9+1461501637330902918203684832716283019655932542976*c10+95780971304118053647396689196894323976171195136475136*c11) 1461501637330902918203684832716283019655932542976=c10∧dg (c0+65536*c1+4294967296*c2+281474976710656*c3+18446744073709551616*c4+1208925819614629174706176*c5+79228162514264337593543950336*c6+5192296858534827628530496329220096*c7+340282366920938463463374607431768211456*c8+22300745198530623141535718272648361505980416*c9+1461501637330902918203684832716283019655932542976*c10+95780971304118053647396689196894323976171195136475136*c11) 95780971304118053647396689196894323976171195136475136=c11:=by
 generalize hN:c0+65536*c1+4294967296*c2+281474976710656*c3+18446744073709551616*c4+1208925819614629174706176*c5+79228162514264337593543950336*c6+5192296858534827628530496329220096*c7+340282366920938463463374607431768211456*c8+22300745198530623141535718272648361505980416*c9+1461501637330902918203684832716283019655932542976*c10+95780971304118053647396689196894323976171195136475136*c11=N
 refine⟨?_,?_,?_,?_,?_,?_,?_,?_,?_,?_,?_,?_⟩<;>(unfold dg;omega)
end Nu
namespace Nu
def pw (k:Int):Int:=2 ^ k.toNat
theorem aSc (k:Int):0<pw k:=Int.pow_pos (by decide)
theorem hZ (a b:Int) (ha:0≤a) (hb:0≤b):pw (a+b)=pw a*pw b:=by
 unfold pw
 rw[Int.toNat_add ha hb,Int.pow_add]
theorem fV (i:Int) (h:0≤i):pw (i+1)=2*pw i:=by
 rw[hZ i 1 h (by decide),Int.mul_comm];rfl
theorem aXS (Z s:Int) (h0:0≤s) (h1:s<16):(Z % 65536 / pw s) % 2=(Z / pw s) % 2:=by
 have h:s=0∨s=1∨s=2∨s=3∨s=4∨s=5∨s=6∨s=7∨s=8∨s=9∨s=10∨s=11∨s=12∨s=13∨s=14∨s=15:=by omega
 rcases h with rfl|rfl|rfl|rfl|rfl|rfl|rfl|rfl|rfl|rfl|rfl|rfl|rfl|rfl|rfl|rfl
 ·rw[show pw 0=1 from rfl];omega
 ·rw[show pw 1=2 from rfl];omega
 ·rw[show pw 2=4 from rfl];omega
 ·rw[show pw 3=8 from rfl];omega
 ·rw[show pw 4=16 from rfl];omega
 ·rw[show pw 5=32 from rfl];omega
 ·rw[show pw 6=64 from rfl];omega
 ·rw[show pw 7=128 from rfl];omega
 ·rw[show pw 8=256 from rfl];omega
 ·rw[show pw 9=512 from rfl];omega
 ·rw[show pw 10=1024 from rfl];omega
 ·rw[show pw 11=2048 from rfl];omega
 ·rw[show pw 12=4096 from rfl];omega
 ·rw[show pw 13=8192 from rfl];omega
 ·rw[show pw 14=16384 from rfl];omega
 ·rw[show pw 15=32768 from rfl];omega
theorem fU (A i s M:Int) (hA:0≤A) (hM:0<M) (hs0:0≤s) (hs1:s<16) (e:pw i=M*pw s) (e1:pw (i+1)=2*pw i):
  A / pw i=2*(A / pw (i+1))+((dg A M).fdiv (1*2 ^ s.toNat)).tmod 2∧0≤((dg A M).fdiv (1*2 ^ s.toNat)).tmod 2∧((dg A M).fdiv (1*2 ^ s.toNat)).tmod 2≤1:=by
 have p:=aSc s
 have q:(1:Int)*2 ^ s.toNat=pw s:=by rw[Int.one_mul];rfl
 have d:=dg_bd A M
 have f0:0≤dg A M / pw s:=Int.ediv_nonneg d.1 (Int.le_of_lt p)
 rw[q,Int.fdiv_eq_ediv_of_nonneg _ (Int.le_of_lt p),Int.tmod_eq_emod_of_nonneg f0]
 have a1:A / pw (i+1)=A / pw i / 2:=by
  rw[e1,Int.mul_comm,←Int.ediv_ediv_of_nonneg (Int.le_of_lt (aSc i))]
 have a2:A / pw i=A / M / pw s:=by rw[e,←Int.ediv_ediv_of_nonneg (Int.le_of_lt hM)]
 have lb:=aXS (A / M) s hs0 hs1
 have du:dg A M=A / M % 65536:=rfl
 rw[a1,a2,du,lb]
 omega
end Nu
namespace Go.Proofs.Ytkpdiehbaiepaaa
open Go Go.RowKit Sx Wi
def wG:Nat→List Int→Int
 |0,[x]=>hi x
 |1,[x]=>lo x
 |2,[n,d]=>Fx.near n d
 |30,[n,m]=>Nu.dg n m
 |32,[a,b,m]=>Nu.lent a b m
 |33,[n,m]=>n % m
 |g,xs=>Lc.fn g xs
def hiI (p:Int × Int):Int × Int:=(p.1 / 18446744073709551616,p.2 / 18446744073709551616)
def loI (p:Int × Int):Int × Int:=if p.1 / 18446744073709551616=p.2 / 18446744073709551616 then (p.1 % 18446744073709551616,p.2 % 18446744073709551616) else (0,18446744073709551615)
def aPv (p q:Int × Int):Option (Int × Int):=
 if 0<q.1 then (if q.1=q.2 then some (Fx.near p.1 q.1,Fx.near p.2 q.1) else some (lQ p.1 0,nB p.2 0)) else none
def wGI:Nat→List gG→gG
 |0,[some p]=>some (hiI p)
 |1,[some p]=>some (loI p)
 |2,[some p,some q]=>aPv p q
 |30,_=>some (0,65535)
 |32,_=>some (0,1)
 |33,[_,some q]=>if 0<q.1 then some (0,q.2-1) else none
 |g,_=>Lc.fnI g
theorem bAH {p:Int × Int} {x:Int} (h:p.1≤x∧x≤p.2):(hiI p).1≤hi x∧hi x≤(hiI p).2:=by
 unfold hiI hi;dsimp only;omega
theorem bBw {p:Int × Int} {x:Int} (h:p.1≤x∧x≤p.2):(loI p).1≤lo x∧lo x≤(loI p).2:=by
 unfold loI lo;split<;>dsimp only<;>omega
theorem jE (n d:Int) (hd:0<d):(0≤n→0≤Fx.near n d∧Fx.near n d≤n)∧(n≤0→n≤Fx.near n d∧Fx.near n d≤0):=by
 have z:Fx.near 0 d=0:=Fx.near_uniq _ _ _ hd (by omega) (by omega)
 have k:∀ m:Int,0≤m→Fx.near m d≤m:=by
  intro m hm
  obtain⟨h1,h2⟩:=Fx.near_spec m d hd
  rcases Int.lt_or_le m (Fx.near m d)with g|g
  ·exfalso
   have:=Int.mul_le_mul_of_nonneg_right (show m+1≤Fx.near m d by omega) (show 0≤d by omega)
   have e:(m+1)*d=m*d+d:=by grind
   have:=Int.mul_le_mul_of_nonneg_left (show 1≤d by omega) hm
   omega
  ·exact g
 refine⟨fun h=>⟨?_,k n h⟩,fun h=>⟨?_,?_⟩⟩
 ·rw[←z];exact Fx.near_mono hd h
 ·obtain⟨h1,h2⟩:=Fx.near_spec n d hd
  rcases Int.lt_or_le (Fx.near n d) n with g|g
  ·exfalso
   have:=Int.mul_le_mul_of_nonneg_right (show Fx.near n d≤n-1 by omega) (show 0≤d by omega)
   have e:(n-1)*d=n*d-d:=by grind
   have:=Int.mul_le_mul_of_nonpos_left h (show 1≤d by omega)
   omega
  ·exact g
 ·rw[←z];exact Fx.near_mono hd h
theorem aTB {p q:Int × Int} {n d:Int} (h:p.1≤n∧n≤p.2) (g:q.1≤d∧d≤q.2):gG.has (aPv p q) (Fx.near n d):=by
 unfold aPv
 split
 ·rename_i h0
  split
  ·rename_i e
   have:d=q.1:=by omega
   subst this
   exact⟨Fx.near_mono h0 h.1,Fx.near_mono h0 h.2⟩
  ·obtain⟨k1,k2⟩:=jE n d (by omega)
   simp only[gG.has,lQ,nB]
   rcases Int.le_total 0 n with hn|hn
   ·have:=k1 hn;split<;>split<;>omega
   ·have:=k2 hn;split<;>split<;>omega
 ·trivial
theorem w30:∀ xs:List Int,0≤wG 30 xs∧wG 30 xs≤65535
 |[n,m]=>by have:=Nu.dg_bd n m;show 0≤Nu.dg n m∧Nu.dg n m≤65535;omega
 |[]=>by decide
 |[_]=>⟨Int.le_refl 0,(by decide:(0:Int)≤65535)⟩
 |_::_::_::_=>⟨Int.le_refl 0,(by decide:(0:Int)≤65535)⟩
theorem w32:∀ xs:List Int,0≤wG 32 xs∧wG 32 xs≤1
 |[a,b,m]=>by show 0≤Nu.lent a b m∧Nu.lent a b m≤1;unfold Nu.lent;split<;>omega
 |[]=>by decide
 |[_]=>⟨Int.le_refl 0,(by decide:(0:Int)≤1)⟩
 |[_,_]=>⟨Int.le_refl 0,(by decide:(0:Int)≤1)⟩
 |_::_::_::_::_=>⟨Int.le_refl 0,(by decide:(0:Int)≤1)⟩
theorem bCn:∀ g is xs,eM is xs→(wGI g is).has (wG g xs):=by
 intro g is xs h
 unfold wGI
 split
 ·match xs,h with
  |[x],h=>exact bAH h.1
  |[],h=>simp [eM]at h
  |_::_::_,h=>simp [eM]at h
 ·match xs,h with
  |[x],h=>exact bBw h.1
  |[],h=>simp [eM]at h
  |_::_::_,h=>simp [eM]at h
 ·match xs,h with
  |[x,y],h=>exact aTB h.1 h.2.1
  |[],h=>simp [eM]at h
  |[_],h=>simp [eM]at h
  |_::_::_::_,h=>simp [eM]at h
 ·exact w30 xs
 ·exact w32 xs
 ·match xs,h with
  |[n,m],h=>
   split
   ·rename_i hq
    have hm:=h.2.1
    simp only[gG.has]at hm
    have a0:=Int.emod_nonneg n (show m≠0 by omega)
    have a1:=Int.emod_lt_of_pos n (show 0<m by omega)
    show 0≤n % m∧n % m≤_-1
    omega
   ·trivial
  |[],h=>simp [eM]at h
  |[_],h=>simp [eM]at h
  |_::_::_::_,h=>simp [eM]at h
 ·rename_i h0 h1 h2 h3 h4 h5
  have e:wG g xs=Lc.fn g xs∨(∃ x,g=0∧xs=[x])∨(∃ x,g=1∧xs=[x])∨(∃ n d,g=2∧xs=[n,d])∨(∃ n m,g=33∧xs=[n,m])∨g=30∨g=32:=by
   unfold wG
   split
   ·exact .inr (.inl ⟨_,rfl,rfl⟩)
   ·exact .inr (.inr (.inl ⟨_,rfl,rfl⟩))
   ·exact .inr (.inr (.inr (.inl ⟨_,_,rfl,rfl⟩)))
   ·exact .inr (.inr (.inr (.inr (.inr (.inl rfl)))))
   ·exact .inr (.inr (.inr (.inr (.inr (.inr rfl)))))
   ·exact .inr (.inr (.inr (.inr (.inl ⟨_,_,rfl,rfl⟩))))
   ·exact .inl rfl
  rcases e with e|⟨x,rfl,rfl⟩|⟨x,rfl,rfl⟩|⟨n,d,rfl,rfl⟩|⟨n,m,rfl,rfl⟩|rfl|rfl
  ·rw[e];exact Lc.fnI_ok g xs
  all_goals trivial
theorem bBS:aMp wG:=by
 intro g xs h1 h2
 unfold wG
 split<;>first|omega|rfl
end Go.Proofs.Ytkpdiehbaiepaaa
namespace Bz
def near (n d:Int):Int:=(2*n+d) / (2*d)
def w0 (i m:Int):Int:=(m-i)*(m-i)*(m-i)
def w1 (i m:Int):Int:=3*(m-i)*(m-i)*i
def w2 (i m:Int):Int:=3*(m-i)*i*i
def w3 (i:Int):Int:=i*i*i
def sum (p0 p1 p2 p3 i m:Int):Int:=p0*w0 i m+p1*w1 i m+p2*w2 i m+p3*w3 i
def edge (p0 p1 p2 p3 i m:Int):Int:=near (sum p0 p1 p2 p3 i m) (256*(m*m*m))
def sum2 (n:Nat→Int) (i j m:Int):Int:=
 sum (sum (n 0) (n 1) (n 2) (n 3) j m) (sum (n 4) (n 5) (n 6) (n 7) j m) (sum (n 8) (n 9) (n 10) (n 11) j m) (sum (n 12) (n 13) (n 14) (n 15) j m) i m
def at_ (n:Nat→Int) (i j m:Int):Int:=near (sum2 n i j m) (256*(m*m*m*(m*m*m)))
theorem zN (n d k:Int) (hk:0<k):near (n*k) (d*k)=near n d:=by
 unfold near
 have e1:2*(n*k)+d*k=(2*n+d)*k:=by grind
 have e2:2*(d*k)=2*d*k:=by grind
 rw[e1,e2,Int.mul_ediv_mul_of_pos_left _ _ hk]
theorem near_mono {m n d:Int} (hd:0<d) (h:m≤n):near m d≤near n d:=by
 unfold near;exact Int.ediv_le_ediv (by omega) (by omega)
theorem aZ7 (i m:Int):w0 i m+w1 i m+w2 i m+w3 i=m*m*m:=by unfold w0 w1 w2 w3;grind
theorem aGU (n:Int):near n 256=(n+128) / 256:=by unfold near;omega
theorem aIm (i m:Int) (h0:0≤i) (h:i≤m):0≤w0 i m∧0≤w1 i m∧0≤w2 i m∧0≤w3 i:=by
 have a:0≤m-i:=by omega
 have b:0≤3*(m-i):=by omega
 exact⟨Int.mul_nonneg (Int.mul_nonneg a a) a,Int.mul_nonneg (Int.mul_nonneg b a) h0,Int.mul_nonneg (Int.mul_nonneg b h0) h0,Int.mul_nonneg (Int.mul_nonneg h0 h0) h0⟩
theorem sum_le (p0 p1 p2 p3 i m c:Int) (h0:0≤i) (h:i≤m) (a0:p0≤c) (a1:p1≤c) (a2:p2≤c) (a3:p3≤c):sum p0 p1 p2 p3 i m≤c*(m*m*m):=by
 obtain⟨k0,k1,k2,k3⟩:=aIm i m h0 h
 rw[←aZ7 i m]
 have b0:=Int.mul_le_mul_of_nonneg_right a0 k0;have b1:=Int.mul_le_mul_of_nonneg_right a1 k1;have b2:=Int.mul_le_mul_of_nonneg_right a2 k2;have b3:=Int.mul_le_mul_of_nonneg_right a3 k3
 have e:c*(w0 i m+w1 i m+w2 i m+w3 i)=c*w0 i m+c*w1 i m+c*w2 i m+c*w3 i:=by grind
 unfold sum;omega
theorem sum_ge (p0 p1 p2 p3 i m c:Int) (h0:0≤i) (h:i≤m) (a0:c≤p0) (a1:c≤p1) (a2:c≤p2) (a3:c≤p3):c*(m*m*m)≤sum p0 p1 p2 p3 i m:=by
 obtain⟨k0,k1,k2,k3⟩:=aIm i m h0 h
 rw[←aZ7 i m]
 have b0:=Int.mul_le_mul_of_nonneg_right a0 k0;have b1:=Int.mul_le_mul_of_nonneg_right a1 k1;have b2:=Int.mul_le_mul_of_nonneg_right a2 k2;have b3:=Int.mul_le_mul_of_nonneg_right a3 k3
 have e:c*(w0 i m+w1 i m+w2 i m+w3 i)=c*w0 i m+c*w1 i m+c*w2 i m+c*w3 i:=by grind
 unfold sum;omega
theorem edge_le (p0 p1 p2 p3 i m c:Int) (h0:0≤i) (h:i≤m) (hm:0<m) (a0:p0≤c) (a1:p1≤c) (a2:p2≤c) (a3:p3≤c):edge p0 p1 p2 p3 i m≤(c+128) / 256:=by
 have hp:0<m*m*m:=Int.mul_pos (Int.mul_pos hm hm) hm
 rw[←aGU,←zN c 256 (m*m*m) hp]
 exact near_mono (by omega) (sum_le _ _ _ _ _ _ _ h0 h a0 a1 a2 a3)
theorem edge_ge (p0 p1 p2 p3 i m c:Int) (h0:0≤i) (h:i≤m) (hm:0<m) (a0:c≤p0) (a1:c≤p1) (a2:c≤p2) (a3:c≤p3):(c+128) / 256≤edge p0 p1 p2 p3 i m:=by
 have hp:0<m*m*m:=Int.mul_pos (Int.mul_pos hm hm) hm
 rw[←aGU,←zN c 256 (m*m*m) hp]
 exact near_mono (by omega) (sum_ge _ _ _ _ _ _ _ h0 h a0 a1 a2 a3)
end Bz
namespace Go.Proofs.Ytkpdiehbaiepaaa
open Go Go.RowKit Sx Wi
def p2 (k:Int):Int:=1*2 ^ k.toNat
theorem zzp (k:Int):1*2 ^ k.toNat=p2 k:=rfl
def dI (x:Int):Prop := -1099511627776≤x∧x≤1099511627776
def eOk (a b c d i k:Int):Prop:=(0≤k∧k≤6)∧(0≤i∧i≤p2 k)∧dI a∧dI b∧dI c∧dI d
instance (x:Int):Decidable (dI x):=by unfold dI;infer_instance
instance (a b c d i k:Int):Decidable (eOk a b c d i k):=by unfold eOk;infer_instance
def eX (a b c d i k:Int):Int:=if eOk a b c d i k then Bz.edge a b c d i (p2 k) else 0
def aQR (n:Nat→Int):Prop:=∀ j,j<16→dI (n j)
def aOk (n:Nat→Int) (i j k:Int):Prop:=(0≤k∧k≤6)∧(0≤i∧i≤p2 k)∧(0≤j∧j≤p2 k)∧aQR n
instance (n:Nat→Int):Decidable (aQR n):=by unfold aQR;infer_instance
instance (n:Nat→Int) (i j k:Int):Decidable (aOk n i j k):=by unfold aOk;infer_instance
def aX (n:Nat→Int) (i j k:Int):Int:=if aOk n i j k then Bz.at_ n i j (p2 k) else 0
def nZ (l:List Int):Nat→Int:=fun j=>l.getD j 0
theorem aHo (k:Int) (h:0≤k) (h':k≤6):(k=0∧p2 k=1)∨(k=1∧p2 k=2)∨(k=2∧p2 k=4)∨(k=3∧p2 k=8)∨(k=4∧p2 k=16)∨(k=5∧p2 k=32)∨(k=6∧p2 k=64):=by
 have:k=0∨k=1∨k=2∨k=3∨k=4∨k=5∨k=6:=by omega
 rcases this with rfl|rfl|rfl|rfl|rfl|rfl|rfl<;>simp [p2]
theorem aTo (k:Int) (h:0≤k) (h':k≤6):0<p2 k:=by have:=aHo k h h';omega
theorem aZr (a b c d i m:Int) (h0:0≤i) (h:i≤m) (hm:0<m) (ha:dI a) (hb:dI b) (hc:dI c) (hd:dI d) : -4294967296≤Bz.edge a b c d i m∧Bz.edge a b c d i m≤4294967296:=by
 unfold dI at *
 have:=Bz.edge_le a b c d i m 1099511627776 h0 h hm ha.2 hb.2 hc.2 hd.2
 have:=Bz.edge_ge a b c d i m (-1099511627776) h0 h hm ha.1 hb.1 hc.1 hd.1
 omega
theorem bDO (a b c d i k:Int) : -4294967296≤eX a b c d i k∧eX a b c d i k≤4294967296:=by
 unfold eX;split
 ·rename_i h
  exact aZr a b c d i _ h.2.1.1 h.2.1.2 (aTo k h.1.1 h.1.2) h.2.2.1 h.2.2.2.1 h.2.2.2.2.1 h.2.2.2.2.2
 ·omega
theorem bDP (n:Nat→Int) (i j m:Int) (h0:0≤i) (h:i≤m) (g0:0≤j) (g:j≤m) (hm:0<m) (hn:aQR n) : -4294967296≤Bz.at_ n i j m∧Bz.at_ n i j m≤4294967296:=by
 have hp:0<m*m*m:=Int.mul_pos (Int.mul_pos hm hm) hm
 have hb:∀ k,k<16 → -1099511627776≤n k∧n k≤1099511627776:=hn
 have s:∀ a b c d,a<16→b<16→c<16→d<16 → -1099511627776*(m*m*m)≤Bz.sum (n a) (n b) (n c) (n d) j m∧Bz.sum (n a) (n b) (n c) (n d) j m≤1099511627776*(m*m*m):=fun a b c d ha hb' hc hd=>
  ⟨Bz.sum_ge _ _ _ _ _ _ _ g0 g (hb a ha).1 (hb b hb').1 (hb c hc).1 (hb d hd).1,Bz.sum_le _ _ _ _ _ _ _ g0 g (hb a ha).2 (hb b hb').2 (hb c hc).2 (hb d hd).2⟩
 have s0:=s 0 1 2 3 (by omega) (by omega) (by omega) (by omega)
 have s1:=s 4 5 6 7 (by omega) (by omega) (by omega) (by omega)
 have s2:=s 8 9 10 11 (by omega) (by omega) (by omega) (by omega)
 have s3:=s 12 13 14 15 (by omega) (by omega) (by omega) (by omega)
 have u:=Bz.sum_le _ _ _ _ i m _ h0 h s0.2 s1.2 s2.2 s3.2
 have l:=Bz.sum_ge _ _ _ _ i m _ h0 h s0.1 s1.1 s2.1 s3.1
 unfold Bz.at_ Bz.sum2
 generalize Bz.sum _ _ _ _ i m=S at *
 rw[show 1099511627776*(m*m*m)*(m*m*m)=4294967296*(256*(m*m*m*(m*m*m)))by grind]at u
 rw[show -1099511627776*(m*m*m)*(m*m*m) = -4294967296*(256*(m*m*m*(m*m*m)))by grind]at l
 have hq:0<256*(m*m*m*(m*m*m)):=by have:=Int.mul_pos hp hp;omega
 generalize 256*(m*m*m*(m*m*m))=q at *
 have k1:Bz.near (-4294967296*q) q = -4294967296:=Fx.near_whole (-4294967296) q hq
 have k2:Bz.near (4294967296*q) q=4294967296:=Fx.near_whole 4294967296 q hq
 have:=Bz.near_mono hq u
 have:=Bz.near_mono hq l
 omega
theorem iU (n:Nat→Int) (i j k:Int) : -4294967296≤aX n i j k∧aX n i j k≤4294967296:=by
 unfold aX;split
 ·rename_i h
  exact bDP n i j _ h.2.1.1 h.2.1.2 h.2.2.1.1 h.2.2.1.2 (aTo k h.1.1 h.1.2) h.2.2.2
 ·omega
def cO:List Int→Int
 |[a,b,c,d,i,k]=>eX a b c d i k
 |_=>0
def cN:List Int→Int
 |[a0,a1,a2,a3,a4,a5,a6,a7,a8,a9,a10,a11,a12,a13,a14,a15,i,j,k]=>aX (nZ [a0,a1,a2,a3,a4,a5,a6,a7,a8,a9,a10,a11,a12,a13,a14,a15]) i j k
 |_=>0
def bI:Nat→Nat→Nat
 |0,j=>4*j
 |1,j=>12+j
 |2,j=>15-4*j
 |_,j=>3-j
def nX (xs:List Int) (j:Nat):Int:=xs.getD (2*j) 0
def nY (xs:List Int) (j:Nat):Int:=xs.getD (2*j+1) 0
def kX (xs:List Int) (edge:Int) (side:Nat) (a:Int):List Int:=
 [eX (nX xs (bI side 0)) (nX xs (bI side 1)) (nX xs (bI side 2)) (nX xs (bI side 3)) a edge,eX (nY xs (bI side 0)) (nY xs (bI side 1)) (nY xs (bI side 2)) (nY xs (bI side 3)) a edge]
def wT (xs:List Int) (edge:Int) (side a:Nat):List (List Int):=(List.range a).map fun (i:Nat)=>kX xs edge side (i:Int)
def xT (xs:List Int) (edge:Int):Nat→List (List Int)
 |0=>[]
 |s+1=>xT xs edge s++wT xs edge s (p2 edge).toNat
def bDr (xs:List Int) (o:Nat):List Int:=[xs.getD o 0,xs.getD (2+o) 0,xs.getD (4+o) 0,xs.getD (6+o) 0,xs.getD (8+o) 0,xs.getD (10+o) 0,xs.getD (12+o) 0,xs.getD (14+o) 0,xs.getD (16+o) 0,xs.getD (18+o) 0,xs.getD (20+o) 0,xs.getD (22+o) 0,xs.getD (24+o) 0,xs.getD (26+o) 0,xs.getD (28+o) 0,xs.getD (30+o) 0]
def aBj (k:Int):Int:=Int.fdiv 65536 (p2 k)
def oD (xs:List Int) (k i j:Int):List Int:=[aX (nZ (bDr xs 0)) i j k,aX (nZ (bDr xs 1)) i j k,aBj k*i,aBj k*j]
def aYJ (a b c:List Int):List Int:=[a.getD 0 0,a.getD 1 0,b.getD 0 0,b.getD 1 0,c.getD 0 0,c.getD 1 0,a.getD 2 0,b.getD 2 0,c.getD 2 0,a.getD 3 0,b.getD 3 0,c.getD 3 0]
def sqR (xs:List Int) (k i j:Int):List (List Int):=[aYJ (oD xs k i j) (oD xs k (i+1) j) (oD xs k (i+1) (j+1)),aYJ (oD xs k i j) (oD xs k (i+1) (j+1)) (oD xs k i (j+1))]
def ofJ (xs:List Int) (k i:Int):Nat→List (List Int)
 |0=>[]
 |j+1=>ofJ xs k i j++sqR xs k i ((j:Int)+1)
def ofI (xs:List Int) (k:Int):Nat→List (List Int)
 |0=>[]
 |i+1=>ofI xs k i++ofJ xs k ((i:Int)+1) (p2 k-2).toNat
def aQi (xs:List Int) (edge:Int) (side:Nat) (a:Int):List Int:=
 kX xs edge side a++(match side with
  |0=>[aBj edge*a,0]
  |1=>[65536,aBj edge*a]
  |2=>[65536-aBj edge*a,65536]
  |_=>[0,65536-aBj edge*a])
def aQ6 (xs:List Int) (k:Int) (side:Nat) (b:Int):List Int:=
 match side with
 |0=>oD xs k b 1
 |1=>oD xs k (p2 k-1) b
 |2=>oD xs k (p2 k-b) (p2 k-1)
 |_=>oD xs k 1 (p2 k-b)
def aSp (xs:List Int) (k edge:Int) (side:Nat):Nat→Int→Int→List (List Int)
 |0,_,_=>[]
 |f+1,a,b=>
  if a<p2 edge∨b<p2 k-1 then
   if a<p2 edge∧(b=p2 k-1∨(2*a+1)*p2 k≤(2*b+1)*p2 edge) then aYJ (aQi xs edge side a) (aQi xs edge side (a+1)) (aQ6 xs k side b)::aSp xs k edge side f (a+1) b
   else aYJ (aQi xs edge side a) (aQ6 xs k side (b+1)) (aQ6 xs k side b)::aSp xs k edge side f a (b+1)
  else []
def bDo (xs:List Int) (k edge:Int) (side:Nat):List (List Int):=aSp xs k edge side (p2 edge+p2 k).toNat 0 1
def bEa (xs:List Int):Int:=Lc.enc (ofI (xs.take 32) (xs.getD 32 0) (xs.getD 33 0-1).toNat)
def aR5 (xs:List Int) (k edge:Int):Nat→List (List Int)
 |0=>ofI xs k (p2 k-2).toNat
 |s+1=>aR5 xs k edge s++bDo xs k edge s
def bD6 (xs:List Int):Int:=Lc.enc (aR5 (xs.take 32) (xs.getD 32 0) (xs.getD 33 0) (xs.getD 34 0).toNat)
def bD8 (xs:List Int):Int:=Lc.enc (xT (xs.take 32) (xs.getD 32 0) (xs.getD 33 0).toNat)
def G (g:Nat) (xs:List Int):Int:=
 match g with
 |10=>cO xs
 |11=>cN xs
 |40=>bD8 xs
 |41=>bEa xs
 |42=>bD6 xs
 |g=>wG g xs
def GI (g:Nat) (l:List gG):gG:=
 match g with
 |10=>some (-4294967296,4294967296)
 |11=>some (-4294967296,4294967296)
 |40=>none
 |41=>none
 |42=>none
 |g=>wGI g l
theorem bBe:∀ g is xs,eM is xs→(GI g is).has (G g xs):=by
 intro g is xs h
 unfold G GI
 split
 ·unfold cO;split
  ·exact bDO _ _ _ _ _ _
  ·exact⟨by decide,by decide⟩
 ·unfold cN;split
  ·exact iU _ _ _ _
  ·exact⟨by decide,by decide⟩
 ·trivial
 ·trivial
 ·trivial
 ·exact bCn _ is xs h
theorem qF:aMp G:=by
 intro g xs h1 h2
 unfold G
 split
 ·omega
 ·omega
 ·omega
 ·omega
 ·omega
 ·exact bBS _ xs h1 h2
theorem dY:GiOk G GI:=⟨bBe,qF⟩
def GB:dT:=[]
theorem aMl (n d:Int):Fx.near n d=Bz.near n d:=rfl
theorem aMe {a b c d i k m q:Int} (h:eOk a b c d i k) (hm:p2 k=m) (hq:256*(m*m*m)=q):
  Fx.near (0+a*((m-i)*(m-i)*(m-i))+b*(3*(m-i)*(m-i)*i)+c*(3*(m-i)*i*i)+d*(i*i*i)) q=eX a b c d i k:=by
 unfold eX;rw[if_pos h,hm,aMl,Int.zero_add,←hq];rfl
theorem eP {n:Nat→Int} {i j k m q:Int} (h:aOk n i j k) (hm:p2 k=m) (hq:256*(m*m*m*(m*m*m))=q) (A0 A1 A2 A3 B0 B1 B2 B3:Int)
  (a0:A0=(m-i)*(m-i)*(m-i)) (a1:A1=3*(m-i)*(m-i)*i) (a2:A2=3*(m-i)*i*i) (a3:A3=i*i*i)
  (b0:B0=(m-j)*(m-j)*(m-j)) (b1:B1=3*(m-j)*(m-j)*j) (b2:B2=3*(m-j)*j*j) (b3:B3=j*j*j):
  Fx.near (0+n 0*(A0*B0)+n 1*(A0*B1)+n 2*(A0*B2)+n 3*(A0*B3)+n 4*(A1*B0)+n 5*(A1*B1)+n 6*(A1*B2)+n 7*(A1*B3)
   + n 8*(A2*B0)+n 9*(A2*B1)+n 10*(A2*B2)+n 11*(A2*B3)+n 12*(A3*B0)+n 13*(A3*B1)+n 14*(A3*B2)+n 15*(A3*B3)) q=aX n i j k:=by
 unfold aX;rw[if_pos h,hm,aMl,←hq]
 unfold Bz.at_ Bz.sum2
 congr 1
 have e:∀ p0 p1 p2 p3:Int,Bz.sum p0 p1 p2 p3 j m=p0*B0+p1*B1+p2*B2+p3*B3:=fun _ _ _ _=>by subst b0;subst b1;subst b2;subst b3;rfl
 have e':∀ p0 p1 p2 p3:Int,Bz.sum p0 p1 p2 p3 i m=p0*A0+p1*A1+p2*A2+p3*A3:=fun _ _ _ _=>by subst a0;subst a1;subst a2;subst a3;rfl
 simp only[e,e']
 grind
theorem bBI (k:Int) (h:0≤k) (h':k≤6):256*(p2 k*p2 k*p2 k)=256*2 ^ (3*k).toNat:=by
 have:k=0∨k=1∨k=2∨k=3∨k=4∨k=5∨k=6:=by omega
 rcases this with rfl|rfl|rfl|rfl|rfl|rfl|rfl<;>rfl
theorem mI (k:Int) (h:0≤k) (h':k≤6):256*(p2 k*p2 k*p2 k*(p2 k*p2 k*p2 k))=256*2 ^ (6*k).toNat:=by
 have:k=0∨k=1∨k=2∨k=3∨k=4∨k=5∨k=6:=by omega
 rcases this with rfl|rfl|rfl|rfl|rfl|rfl|rfl<;>rfl
def eQ (x0 x1 x2 x3 x4 x5 x6 x7 i k:Int):Prop:=(0≤k∧k≤6)∧(0≤i∧i≤p2 k)∧dI x0∧dI x1∧dI x2∧dI x3∧dI x4∧dI x5∧dI x6∧dI x7
instance (x0 x1 x2 x3 x4 x5 x6 x7 i k:Int):Decidable (eQ x0 x1 x2 x3 x4 x5 x6 x7 i k):=by unfold eQ;infer_instance
theorem aS8 {x0 x1 x2 x3 x4 x5 x6 x7 i k:Int} (h:eQ x0 x1 x2 x3 x4 x5 x6 x7 i k):eOk x0 x2 x4 x6 i k:=by
 obtain⟨h1,h2,a0,a1,a2,a3,a4,a5,a6,a7⟩:=h
 exact⟨h1,h2,a0,a2,a4,a6⟩
theorem aSl {x0 x1 x2 x3 x4 x5 x6 x7 i k:Int} (h:eQ x0 x1 x2 x3 x4 x5 x6 x7 i k):eOk x1 x3 x5 x7 i k:=by
 obtain⟨h1,h2,a0,a1,a2,a3,a4,a5,a6,a7⟩:=h
 exact⟨h1,h2,a1,a3,a5,a7⟩
def cS (a0 a1 a2 a3 a4 a5 a6 a7 a8 a9 a10 a11 a12 a13 a14 a15:Int):Prop:=dI a0∧dI a1∧dI a2∧dI a3∧dI a4∧dI a5∧dI a6∧dI a7∧dI a8∧dI a9∧dI a10∧dI a11∧dI a12∧dI a13∧dI a14∧dI a15
instance (a0 a1 a2 a3 a4 a5 a6 a7 a8 a9 a10 a11 a12 a13 a14 a15:Int):Decidable (cS a0 a1 a2 a3 a4 a5 a6 a7 a8 a9 a10 a11 a12 a13 a14 a15):=by unfold cS;infer_instance
theorem aKX {a0 a1 a2 a3 a4 a5 a6 a7 a8 a9 a10 a11 a12 a13 a14 a15:Int} (h:cS a0 a1 a2 a3 a4 a5 a6 a7 a8 a9 a10 a11 a12 a13 a14 a15):aQR (nZ [a0,a1,a2,a3,a4,a5,a6,a7,a8,a9,a10,a11,a12,a13,a14,a15]):=by
 obtain⟨h0,h1,h2,h3,h4,h5,h6,h7,h8,h9,h10,h11,h12,h13,h14,h15⟩:=h
 intro j hj
 have:j=0∨j=1∨j=2∨j=3∨j=4∨j=5∨j=6∨j=7∨j=8∨j=9∨j=10∨j=11∨j=12∨j=13∨j=14∨j=15:=by omega
 rcases this with rfl|rfl|rfl|rfl|rfl|rfl|rfl|rfl|rfl|rfl|rfl|rfl|rfl|rfl|rfl|rfl<;>assumption
def dN (a0 a1 a2 a3 a4 a5 a6 a7 a8 a9 a10 a11 a12 a13 a14 a15 b0 b1 b2 b3 b4 b5 b6 b7 b8 b9 b10 b11 b12 b13 b14 b15 i j k:Int):Prop:=(0≤k∧k≤6)∧(0≤i∧i≤p2 k)∧(0≤j∧j≤p2 k)∧cS a0 a1 a2 a3 a4 a5 a6 a7 a8 a9 a10 a11 a12 a13 a14 a15∧cS b0 b1 b2 b3 b4 b5 b6 b7 b8 b9 b10 b11 b12 b13 b14 b15
instance (a0 a1 a2 a3 a4 a5 a6 a7 a8 a9 a10 a11 a12 a13 a14 a15 b0 b1 b2 b3 b4 b5 b6 b7 b8 b9 b10 b11 b12 b13 b14 b15 i j k:Int):Decidable (dN a0 a1 a2 a3 a4 a5 a6 a7 a8 a9 a10 a11 a12 a13 a14 a15 b0 b1 b2 b3 b4 b5 b6 b7 b8 b9 b10 b11 b12 b13 b14 b15 i j k):=by unfold dN;infer_instance
theorem lK {a0 a1 a2 a3 a4 a5 a6 a7 a8 a9 a10 a11 a12 a13 a14 a15 b0 b1 b2 b3 b4 b5 b6 b7 b8 b9 b10 b11 b12 b13 b14 b15 i j k:Int} (h:dN a0 a1 a2 a3 a4 a5 a6 a7 a8 a9 a10 a11 a12 a13 a14 a15 b0 b1 b2 b3 b4 b5 b6 b7 b8 b9 b10 b11 b12 b13 b14 b15 i j k):aOk (nZ [a0,a1,a2,a3,a4,a5,a6,a7,a8,a9,a10,a11,a12,a13,a14,a15]) i j k:=⟨h.1,h.2.1,h.2.2.1,aKX h.2.2.2.1⟩
theorem lZ {a0 a1 a2 a3 a4 a5 a6 a7 a8 a9 a10 a11 a12 a13 a14 a15 b0 b1 b2 b3 b4 b5 b6 b7 b8 b9 b10 b11 b12 b13 b14 b15 i j k:Int} (h:dN a0 a1 a2 a3 a4 a5 a6 a7 a8 a9 a10 a11 a12 a13 a14 a15 b0 b1 b2 b3 b4 b5 b6 b7 b8 b9 b10 b11 b12 b13 b14 b15 i j k):aOk (nZ [b0,b1,b2,b3,b4,b5,b6,b7,b8,b9,b10,b11,b12,b13,b14,b15]) i j k:=⟨h.1,h.2.1,h.2.2.1,aKX h.2.2.2.2⟩
theorem fits:iY Try.prog:=⟨by kernel_rfl,fun _=>rfl⟩
def wide? (a b:E):Option E:=
 match a,b with
 | .app 0 (.cons e .nil),.app 1 (.cons f .nil)=>if e.eqb f then some e else none
 | .lit x,.lit y=>if decide (0≤y) && decide (y<18446744073709551616) then some (.lit (x*18446744073709551616+y)) else none
 |_,_=>none
theorem wide?_den {ρ:Nat→Int} {a b e:E} (h:wide? a b=some e):a.den G ρ=hi (e.den G ρ)∧b.den G ρ=lo (e.den G ρ):=by
 unfold wide? at h
 split at h
 ·split at h
  ·rename_i hf
   cases h
   have:=E.eqb_eq _ _ hf
   subst this
   exact⟨rfl,rfl⟩
  ·cases h
 ·split at h
  ·rename_i x y hf
   cases h
   simp only[Bool.and_eq_true,decide_eq_true_eq]at hf
   simp only[E.den]
   unfold hi lo
   omega
  ·cases h
 ·cases h
def W2 (e:E):SV := .agg [.int .i64 (.app 0 (.cons e .nil)),.int .u64 (.app 1 (.cons e .nil))]
def aA3 (X:Ctx) (e:E):Bool:=e.lies X (-170141183460469231731687303715884105728) 170141183460469231731687303715884105727
theorem jG {X:Ctx} {ρ:Nat→Int} (hX:X.Ok ρ) {e:E} (h:aA3 X e=true):iF (e.den X.G ρ):=by
 have:=E.lies_in hX h
 unfold iF;omega
def pA:eU:=fun X args=>
 match args with
 |[.int .i64 a,.int .i64 n]=>if a.fits X .i64 && n.fits X .i64 then .ok (W2 (.op .mul a n)) else .fail 200
 |_ => .fail 201
theorem aYI {X:Ctx} {ρ:Nat→Int} (hX:X.Ok ρ) (hG:X.G=G):dD Try.prog X ρ GB 104 pA:=by
 obtain⟨XG,XI,XV,XF⟩:=X
 simp only at hG
 subst hG
 have hk:dM Try.prog 104:=⟨_,Try.func104,by kernel_rfl,by kernel_rfl⟩
 intro args s h α w vals hv hw
 unfold pA at h
 split at h
 ·split at h
  ·rename_i hg
   simp only[Bool.and_eq_true]at hg
   cases h
   exact bC hv rfl rfl ⟨hk,aYp _ _ (E.fits_in hX hg.1) (E.fits_in hX hg.2) w⟩
  ·cases h
 ·cases h
def sO:eU:=fun X args=>
 match args with
 |[.int .i64 a]=>if a.fits X .i64 then .ok (W2 a) else .fail 200
 |_ => .fail 201
theorem bAq {X:Ctx} {ρ:Nat→Int} (hX:X.Ok ρ) (hG:X.G=G):dD Try.prog X ρ GB 119 sO:=by
 obtain⟨XG,XI,XV,XF⟩:=X
 simp only at hG
 subst hG
 have hk:dM Try.prog 119:=⟨_,Try.func119,by kernel_rfl,by kernel_rfl⟩
 intro args s h α w vals hv hw
 unfold sO at h
 split at h
 ·split at h
  ·rename_i hg
   cases h
   exact bC hv rfl rfl ⟨hk,rR _ (E.fits_in hX hg) w⟩
  ·cases h
 ·cases h
def oO:eU:=fun X args=>
 match args with
 |[.agg [.int .i64 a,.int .u64 b],.agg [.int .i64 c,.int .u64 d]]=>match wide? a b,wide? c d with
  |some e,some f=>if aA3 X e && (aA3 X f && aA3 X (.op .add e f)) then .ok (.tuple [W2 (.op .add e f),.int .i64 (.lit 0)]) else .fail 200
  |_,_ => .fail 202
 |_ => .fail 201
theorem aXV {X:Ctx} {ρ:Nat→Int} (hX:X.Ok ρ) (hG:X.G=G):dD Try.prog X ρ GB 103 oO:=by
 obtain⟨XG,XI,XV,XF⟩:=X
 simp only at hG
 subst hG
 have hk:dM Try.prog 103:=⟨_,Try.func103,by kernel_rfl,by kernel_rfl⟩
 intro args s h α w vals hv hw
 unfold oO at h
 split at h
 ·split at h
  ·rename_i a b c d _ _ e f he hf
   split at h
   ·rename_i hg
    simp only[Bool.and_eq_true]at hg
    cases h
    obtain⟨e1,e2⟩:=wide?_den (ρ:=ρ) he
    obtain⟨f1,f2⟩:=wide?_den (ρ:=ρ) hf
    refine bC hv rfl rfl ⟨hk,?_⟩
    have k:=aLr (e.den G ρ) (f.den G ρ) (jG hX hg.1) (jG hX hg.2.1) (jG hX hg.2.2) w
    rw[←e1,←e2,←f1,←f2]at k
    exact k
   ·cases h
  ·cases h
 ·cases h
def lJ:eU:=fun X args=>
 match args with
 |[.agg [.int .i64 a,.int .u64 b],.int .i64 n]=>match wide? a b with
  |some e=>if aA3 X e && (n.fits X .i64 && aA3 X (.op .mul e n)) then .ok (.tuple [W2 (.op .mul e n),.int .i64 (.lit 0)]) else .fail 200
  |_ => .fail 202
 |_ => .fail 201
theorem aNA {X:Ctx} {ρ:Nat→Int} (hX:X.Ok ρ) (hG:X.G=G):dD Try.prog X ρ GB 118 lJ:=by
 obtain⟨XG,XI,XV,XF⟩:=X
 simp only at hG
 subst hG
 have hk:dM Try.prog 118:=⟨_,Try.func118,by kernel_rfl,by kernel_rfl⟩
 intro args s h α w vals hv hw
 unfold lJ at h
 split at h
 ·split at h
  ·rename_i a b n _ e he
   split at h
   ·rename_i hg
    simp only[Bool.and_eq_true]at hg
    cases h
    obtain⟨e1,e2⟩:=wide?_den (ρ:=ρ) he
    refine bC hv rfl rfl ⟨hk,?_⟩
    have k:=aBh (e.den G ρ) (n.den G ρ) _ _ rfl rfl (jG hX hg.1) (E.fits_in hX hg.2.1) (jG hX hg.2.2) w
    rw[←e1,←e2]at k
    exact k
   ·cases h
  ·cases h
 ·cases h
def nA:eU:=fun X args=>
 match args with
 |[.agg [.int .i64 a,.int .u64 b],.int .i64 d]=>match wide? a b with
  |some e=>if aA3 X e && d.lies X 1 9223372036854775807 then .ok (.tuple [W2 (.app 2 (.cons e (.cons d .nil))),.int .i64 (.lit 0)]) else .fail 200
  |_ => .fail 202
 |_ => .fail 201
theorem aOH {X:Ctx} {ρ:Nat→Int} (hX:X.Ok ρ) (hG:X.G=G):dD Try.prog X ρ GB 105 nA:=by
 obtain⟨XG,XI,XV,XF⟩:=X
 simp only at hG
 subst hG
 have hk:dM Try.prog 105:=⟨_,Try.func105,by kernel_rfl,by kernel_rfl⟩
 intro args s h α w vals hv hw
 unfold nA at h
 split at h
 ·split at h
  ·rename_i a b d _ e he
   split at h
   ·rename_i hg
    simp only[Bool.and_eq_true]at hg
    cases h
    obtain⟨e1,e2⟩:=wide?_den (ρ:=ρ) he
    refine bC hv rfl rfl ⟨hk,?_⟩
    obtain⟨d1,d2⟩:=E.lies_in hX hg.2
    have k:=aVz (e.den G ρ) (d.den G ρ) (jG hX hg.1) (show 0<d.den G ρ from d1) d2 w
    rw[←e1,←e2]at k
    exact k
   ·cases h
  ·cases h
 ·cases h
def oW:eU:=fun X args=>
 match args with
 |[.agg [.int .i64 a,.int .u64 b]]=>match wide? a b with
  |some e=>if aA3 X e then (Res.test X (.cmp .le (.lit (-9223372036854775808)) e)).bind fun t=>if t then ((Res.test X (.cmp .le e (.lit 9223372036854775807))).bind fun u=>if u then .ok (.tuple [.int .i64 e,.bool (.lit true)]) else .ok (.tuple [.int .i64 (.lit 0),.bool (.lit false)])) else .ok (.tuple [.int .i64 (.lit 0),.bool (.lit false)]) else .fail 200
  |_ => .fail 202
 |_ => .fail 201
theorem aYv {X:Ctx} {ρ:Nat→Int} (hX:X.Ok ρ) (hG:X.G=G):dD Try.prog X ρ GB 106 oW:=by
 obtain⟨XG,XI,XV,XF⟩:=X
 simp only at hG
 subst hG
 have hk:dM Try.prog 106:=⟨_,Try.func106,by kernel_rfl,by kernel_rfl⟩
 intro args s h α w vals hv hw
 unfold oW at h
 split at h
 ·split at h
  ·rename_i a b _ e he
   split at h
   ·rename_i hg
    obtain⟨e1,e2⟩:=wide?_den (ρ:=ρ) he
    have hb:=jG hX hg
    obtain⟨t,ht,h⟩:=Res.bind_ok h
    have ht:=Res.test_ok hX ht
    simp only[B.den,kJ,E.den]at ht
    have no:¬I64 (e.den G ρ)→s = .tuple [.int .i64 (.lit 0),.bool (.lit false)]→dM Try.prog 106∧Calls Try.prog 106 vals.toArray w (fun e w'=>∃ v,e = .returned v∧SV.R G ρ α s v∧Below w.heap.size w w'):=by
     rintro hn rfl
     refine bC hv rfl rfl ⟨hk,?_⟩
     have k:=bAI (e.den G ρ) hn hb w
     rw[←e1,←e2]at k
     exact k
    cases t with
    |false=>cases h;exact no (by unfold I64;simp at ht;omega) rfl
    |true=>
     simp only[if_true]at h
     obtain⟨u,hu,h⟩:=Res.bind_ok h
     have hu:=Res.test_ok hX hu
     simp only[B.den,kJ,E.den]at hu
     cases u with
     |false=>cases h;exact no (by unfold I64;simp at hu;omega) rfl
     |true=>
      cases h
      refine bC hv rfl rfl ⟨hk,?_⟩
      have k:=aYQ (e.den G ρ) ⟨of_decide_eq_true ht,of_decide_eq_true hu⟩ w
      rw[←e1,←e2]at k
      exact k
   ·cases h
  ·cases h
 ·cases h
def aKh:aZ:=dR 104 pA jZ
theorem aJ5 {X:Ctx} {ρ:Nat→Int} (hX:X.Ok ρ) (hG:X.G=G):eO Try.prog X ρ GB aKh:=cD (aYI hX hG) (gC)
def aSQ:aZ:=dR 119 sO aKh
theorem aMC {X:Ctx} {ρ:Nat→Int} (hX:X.Ok ρ) (hG:X.G=G):eO Try.prog X ρ GB aSQ:=cD (bAq hX hG) (aJ5 hX hG)
def aLl:aZ:=dR 103 oO aSQ
theorem aJB {X:Ctx} {ρ:Nat→Int} (hX:X.Ok ρ) (hG:X.G=G):eO Try.prog X ρ GB aLl:=cD (aXV hX hG) (aMC hX hG)
def aBS:aZ:=dR 118 lJ aLl
theorem aCR {X:Ctx} {ρ:Nat→Int} (hX:X.Ok ρ) (hG:X.G=G):eO Try.prog X ρ GB aBS:=cD (aNA hX hG) (aJB hX hG)
def aGO:aZ:=dR 105 nA aBS
theorem aHH {X:Ctx} {ρ:Nat→Int} (hX:X.Ok ρ) (hG:X.G=G):eO Try.prog X ρ GB aGO:=cD (aOH hX hG) (aCR hX hG)
def aKd:aZ:=dR 106 oW aGO
theorem aI4 {X:Ctx} {ρ:Nat→Int} (hX:X.Ok ρ) (hG:X.G=G):eO Try.prog X ρ GB aKd:=cD (aYv hX hG) (aHH hX hG)
def aPT:aZ:=aKd
theorem yV {X:Ctx} {ρ:Nat→Int} (hX:X.Ok ρ) (hG:X.G=G):eO Try.prog X ρ GB aPT:=aI4 hX hG
end Go.Proofs.Ytkpdiehbaiepaaa
