/- What is proved: what wides.Add,Sub and Int return: sums and differences that are numbers of 128 bits. -/
import Derived.Test.YtdldallkeheciaaQg5
import Derived.Lib.ItoaNum
import Derived.Test.YtdldallkeheciaaQg3
import Derived.Test.YtdldallkeheciaaQLk
import Derived.Test.YtdldallkeheciaaProg
set_option linter.unusedSimpArgs false
set_option linter.unusedVariables false
namespace Go.Proofs.Ytdldallkeheciaa
open Go.RowKit Wi
set_option maxHeartbeats 800000 in
theorem aHF (a b:Int) (ha:kH a) (hb:kH b) (hr:kH (a+b)) (w:World):Calls Try.prog 30 #[.agg #[.int .i64 (hi (a)),.int .u64 (lo (a))],.agg #[.int .i64 (hi (b)),.int .u64 (lo (b))]] w fun e w'=>e = .returned (.tuple #[.agg #[.int .i64 (hi (a+b)),.int .u64 (lo (a+b))],.int .i64 0])∧Below w.heap.size w w':=by
 obtain⟨l1,l2⟩:=tV a
 obtain⟨l3,l4⟩:=tV b
 have q1:=rY a
 have q2:=rY b
 have q3:=rY (a+b)
 have i0:IntKind.i64.wrap ((lo a+lo b) / 18446744073709551616)=(lo a+lo b) / 18446744073709551616:=IntWalk.i64_in _ (by omega)
 have i1:wrap64 (wrap64 (hi a+hi b)+(lo a+lo b) / 18446744073709551616)=hi (a+b):=by unfold wrap64;unfold kH at hr;unfold hi lo;omega
 have i2:(lo a+lo b) % 18446744073709551616=lo (a+b):=by unfold lo;omega
 clear hr ha hb
 rcases Int.lt_or_le a 0 with ga|ga<;>rcases Int.lt_or_le b 0 with gb|gb
 ·have t1:hi a<0:=q1.2 ga
  have t2:hi b<0:=q2.2 gb
  have t3:hi (a+b)<0:=q3.2 (by omega)
  clear q1 q2 q3 ga gb
  go_enter Try.func30,Try.ntmps30
  go_wp2_with (simp only[nO (lo a) (lo b) l1 l3])
  exact bodyPost_ret (v := .tuple #[.agg #[.int .i64 (hi (a+b)),.int .u64 (lo (a+b))],.int .i64 0]) (by simp [results,Try.results30,go_sem, *]) rfl ⟨rfl,by repeat (with_reducible first|exact aD _|refine bO _ (by omega) ?_|apply aA|apply aC)⟩
 ·have t1:hi a<0:=q1.2 ga
  have t2:¬hi b<0:=fun h=>by have:=q2.1 h;omega
  clear q1 q2 q3 ga gb
  go_enter Try.func30,Try.ntmps30
  go_wp2_with (simp only[nO (lo a) (lo b) l1 l3])
  exact bodyPost_ret (v := .tuple #[.agg #[.int .i64 (hi (a+b)),.int .u64 (lo (a+b))],.int .i64 0]) (by simp [results,Try.results30,go_sem, *]) rfl ⟨rfl,by repeat (with_reducible first|exact aD _|refine bO _ (by omega) ?_|apply aA|apply aC)⟩
 ·have t1:¬hi a<0:=fun h=>by have:=q1.1 h;omega
  have t2:hi b<0:=q2.2 gb
  clear q1 q2 q3 ga gb
  go_enter Try.func30,Try.ntmps30
  go_wp2_with (simp only[nO (lo a) (lo b) l1 l3])
  exact bodyPost_ret (v := .tuple #[.agg #[.int .i64 (hi (a+b)),.int .u64 (lo (a+b))],.int .i64 0]) (by simp [results,Try.results30,go_sem, *]) rfl ⟨rfl,by repeat (with_reducible first|exact aD _|refine bO _ (by omega) ?_|apply aA|apply aC)⟩
 ·have t1:¬hi a<0:=fun h=>by have:=q1.1 h;omega
  have t2:¬hi b<0:=fun h=>by have:=q2.1 h;omega
  have t3:¬hi (a+b)<0:=fun h=>by have:=q3.1 h;omega
  clear q1 q2 q3 ga gb
  go_enter Try.func30,Try.ntmps30
  go_wp2_with (simp only[nO (lo a) (lo b) l1 l3])
  exact bodyPost_ret (v := .tuple #[.agg #[.int .i64 (hi (a+b)),.int .u64 (lo (a+b))],.int .i64 0]) (by simp [results,Try.results30,go_sem, *]) rfl ⟨rfl,by repeat (with_reducible first|exact aD _|refine bO _ (by omega) ?_|apply aA|apply aC)⟩
set_option maxHeartbeats 800000 in
theorem aQe (a b:Int) (ha:kH a) (hb:kH b) (hr:kH (a-b)) (w:World):Calls Try.prog 82 #[.agg #[.int .i64 (hi (a)),.int .u64 (lo (a))],.agg #[.int .i64 (hi (b)),.int .u64 (lo (b))]] w fun e w'=>e = .returned (.tuple #[.agg #[.int .i64 (hi (a-b)),.int .u64 (lo (a-b))],.int .i64 0])∧Below w.heap.size w w':=by
 obtain⟨l1,l2⟩:=tV a
 obtain⟨l3,l4⟩:=tV b
 have q1:=rY a
 have q2:=rY b
 have q3:=rY (a-b)
 have b0:0≤bor (lo a) (lo b)∧bor (lo a) (lo b)≤1:=by unfold bor;split<;>omega
 have i0:IntKind.i64.wrap (bor (lo a) (lo b))=bor (lo a) (lo b):=IntWalk.i64_in _ (by omega)
 have i1:wrap64 (wrap64 (hi a-hi b)-bor (lo a) (lo b))=hi (a-b):=by unfold wrap64 bor;unfold kH at hr;unfold hi lo;split<;>omega
 have i2:(lo a-lo b) % 18446744073709551616=lo (a-b):=by unfold lo;omega
 clear b0
 clear hr ha hb
 rcases Int.lt_or_le a 0 with ga|ga<;>rcases Int.lt_or_le b 0 with gb|gb
 ·have t1:hi a<0:=q1.2 ga
  have t2:hi b<0:=q2.2 gb
  clear q1 q2 q3 ga gb
  go_enter Try.func82,Try.ntmps82
  go_wp2_with (simp only[xI (lo a) (lo b) l1 l3 l4])
  exact bodyPost_ret (v := .tuple #[.agg #[.int .i64 (hi (a-b)),.int .u64 (lo (a-b))],.int .i64 0]) (by simp [results,Try.results82,go_sem, *]) rfl ⟨rfl,by repeat (with_reducible first|exact aD _|refine bO _ (by omega) ?_|apply aA|apply aC)⟩
 ·have t1:hi a<0:=q1.2 ga
  have t2:¬hi b<0:=fun h=>by have:=q2.1 h;omega
  have t3:hi (a-b)<0:=q3.2 (by omega)
  clear q1 q2 q3 ga gb
  go_enter Try.func82,Try.ntmps82
  go_wp2_with (simp only[xI (lo a) (lo b) l1 l3 l4])
  exact bodyPost_ret (v := .tuple #[.agg #[.int .i64 (hi (a-b)),.int .u64 (lo (a-b))],.int .i64 0]) (by simp [results,Try.results82,go_sem, *]) rfl ⟨rfl,by repeat (with_reducible first|exact aD _|refine bO _ (by omega) ?_|apply aA|apply aC)⟩
 ·have t1:¬hi a<0:=fun h=>by have:=q1.1 h;omega
  have t2:hi b<0:=q2.2 gb
  have t3:¬hi (a-b)<0:=fun h=>by have:=q3.1 h;omega
  clear q1 q2 q3 ga gb
  go_enter Try.func82,Try.ntmps82
  go_wp2_with (simp only[xI (lo a) (lo b) l1 l3 l4])
  exact bodyPost_ret (v := .tuple #[.agg #[.int .i64 (hi (a-b)),.int .u64 (lo (a-b))],.int .i64 0]) (by simp [results,Try.results82,go_sem, *]) rfl ⟨rfl,by repeat (with_reducible first|exact aD _|refine bO _ (by omega) ?_|apply aA|apply aC)⟩
 ·have t1:¬hi a<0:=fun h=>by have:=q1.1 h;omega
  have t2:¬hi b<0:=fun h=>by have:=q2.1 h;omega
  clear q1 q2 q3 ga gb
  go_enter Try.func82,Try.ntmps82
  go_wp2_with (simp only[xI (lo a) (lo b) l1 l3 l4])
  exact bodyPost_ret (v := .tuple #[.agg #[.int .i64 (hi (a-b)),.int .u64 (lo (a-b))],.int .i64 0]) (by simp [results,Try.results82,go_sem, *]) rfl ⟨rfl,by repeat (with_reducible first|exact aD _|refine bO _ (by omega) ?_|apply aA|apply aC)⟩
theorem aPN (n:Int) (h:I64 n) (w:World):Calls Try.prog 47 #[.agg #[.int .i64 (hi (n)),.int .u64 (lo (n))]] w fun e w'=>e = .returned (.tuple #[.int .i64 n,.bool true])∧Below w.heap.size w w':=by
 have i1:IntKind.i64.wrap (lo n)=n:=by rw[IntKind.wrap_i64];unfold I64 at h;unfold lo;omega
 go_enter Try.func47,Try.ntmps47
 go_wp2
 obtain⟨w0,hw0⟩:∃ x:World,x=(w.alloc (.cells #[.int .i64 (hi (n)),.int .u64 (lo (n))] 53)):=⟨_,rfl⟩
 have k0:w0.cell? ⟨w.heap.size,0,none⟩=some (.int .i64 (hi (n))):=by rw[hw0];repeat (first|(refine aS ?_ rfl;(simp;done))|refine aR ?_)
 have k1:w0.cell? ⟨w.heap.size,1,none⟩=some (.int .u64 (lo (n))):=by rw[hw0];repeat (first|(refine aS ?_ rfl;(simp;done))|refine aR ?_)
 have z0:w.heap.size<w0.heap.size:=World.block_lt_of_cell? _ _ k0
 have hB:Below w.heap.size w w0:=by rw[hw0];repeat (with_reducible first|exact aD _|apply aA)
 rw[←hw0]
 clear hw0
 go_region_held3 (fun w'=>Below w.heap.size w w'∧(w.heap.size<w'.heap.size)∧w'.cell? ⟨w.heap.size,0,none⟩=some (.int .i64 (hi (n)))∧w'.cell? ⟨w.heap.size,1,none⟩=some (.int .u64 (lo (n))))
  ((exact⟨by repeat (with_reducible first|exact aD _|exact hB|(simp only[*];done)|apply aC|apply aA|apply hx),by first|omega|(simp only[World.size_alloc,World.size_drew];omega)|(simp;omega),by first|(simp;done)|(simp [*];done)|(simp [*,World.cell?_setCell_far];done)|(simp (disch:=omega) [World.cell?_alloc_past, *];done)⟩))
  (first
   |(go_at_call 27;refine(uG _ h _).mono ?_;rintro e w1 ⟨rfl,hb⟩;have hx:=fun h=>aE hb h (w:=w);obtain⟨hc,hf⟩:=aTc hb;have hz:=hb.size))
 go_wp2
 exact bodyPost_ret (v := .tuple #[.int .i64 n,.bool true]) (by simp [results,Try.results47,go_sem]) rfl ⟨rfl,by simp [*]⟩
theorem aUi (n:Int) (h:¬I64 n) (hb:kH n) (w:World):Calls Try.prog 47 #[.agg #[.int .i64 (hi (n)),.int .u64 (lo (n))]] w fun e w'=>e = .returned (.tuple #[.int .i64 0,.bool false])∧Below w.heap.size w w':=by
 obtain⟨m,hm⟩:∃ m,m=IntKind.i64.wrap (lo n):=⟨_,rfl⟩
 have i1:IntKind.i64.wrap (lo n)=m:=hm.symm
 have hI:I64 m:=by rw[hm,IntKind.wrap_i64];unfold I64 lo;omega
 have i2:lo m=lo n:=by rw[hm,IntKind.wrap_i64];unfold lo;omega
 have i3:¬hi n=hi m:=by
  intro e
  have:=aS4 n
  have:=aS4 m
  have:n=m:=by omega
  rw[this]at h;exact h hI
 clear hm h hb
 go_enter Try.func47,Try.ntmps47
 go_wp2
 obtain⟨w0,hw0⟩:∃ x:World,x=(w.alloc (.cells #[.int .i64 (hi (n)),.int .u64 (lo (n))] 53)):=⟨_,rfl⟩
 have k0:w0.cell? ⟨w.heap.size,0,none⟩=some (.int .i64 (hi (n))):=by rw[hw0];repeat (first|(refine aS ?_ rfl;(simp;done))|refine aR ?_)
 have k1:w0.cell? ⟨w.heap.size,1,none⟩=some (.int .u64 (lo (n))):=by rw[hw0];repeat (first|(refine aS ?_ rfl;(simp;done))|refine aR ?_)
 have z0:w.heap.size<w0.heap.size:=World.block_lt_of_cell? _ _ k0
 have hB:Below w.heap.size w w0:=by rw[hw0];repeat (with_reducible first|exact aD _|apply aA)
 rw[←hw0]
 clear hw0
 go_region_held3 (fun w'=>Below w.heap.size w w'∧(w.heap.size<w'.heap.size)∧w'.cell? ⟨w.heap.size,0,none⟩=some (.int .i64 (hi (n)))∧w'.cell? ⟨w.heap.size,1,none⟩=some (.int .u64 (lo (n))))
  ((exact⟨by repeat (with_reducible first|exact aD _|exact hB|(simp only[*];done)|apply aC|apply aA|apply hx),by first|omega|(simp only[World.size_alloc,World.size_drew];omega)|(simp;omega),by first|(simp;done)|(simp [*];done)|(simp [*,World.cell?_setCell_far];done)|(simp (disch:=omega) [World.cell?_alloc_past, *];done)⟩))
  (first
   |(go_at_call 27;refine(uG _ hI _).mono ?_;rintro e w1 ⟨rfl,hb⟩;have hx:=fun h=>aE hb h (w:=w);obtain⟨hc,hf⟩:=aTc hb;have hz:=hb.size))
 go_wp2
 exact bodyPost_ret (v := .tuple #[.int .i64 0,.bool false]) (by simp [results,Try.results47,go_sem]) rfl ⟨rfl,by simp [*]⟩
end Go.Proofs.Ytdldallkeheciaa
namespace Go.Proofs.Ytdldallkeheciaa
open Go.RowKit Wi Dv
theorem aA7 (lo y:Int) (hl:dX lo) (hy:0<y∧y<18446744073709551616) (w:World):Calls Try.prog 95 #[.int .u64 0,.int .u64 lo,.int .u64 y] w fun e w'=>e = .returned (.tuple #[.int .u64 (lo / y),.int .u64 (lo % y)])∧Below w.heap.size w w':=by
 obtain⟨l1,l2⟩:=hl
 obtain⟨y1,y2⟩:=hy
 have n0:¬y=0:=by omega
 have n1:¬y≤0:=by omega
 have d0:0≤lo / y:=Int.ediv_nonneg l1 (by omega)
 have d1:lo / y≤lo:=Int.ediv_le_self _ l1
 have d2:=Int.emod_nonneg lo n0
 have d3:=Int.emod_lt_of_pos lo y1
 have td:lo.tdiv y=lo / y:=Int.tdiv_eq_ediv_of_nonneg l1
 have tm:lo.tmod y=lo % y:=Int.tmod_eq_emod_of_nonneg l1
 go_enter Try.func95,Try.ntmps95
 go_wp2
 go_quiet (fail)
 go_wp2
 exact bodyPost_ret (v := .tuple #[.int .u64 (lo / y),.int .u64 (lo % y)]) (by simp [results,Try.results95,go_sem]) rfl ⟨rfl,below_drewN (aD _) _⟩
theorem aR9 (y:Int) (y1:0<y) (y2:y<18446744073709551616):∃ s:Nat,(64-(Lib.bitLen y.toNat:Int))=s∧s≤64∧9223372036854775808≤y*2 ^ s∧y*2 ^ s<18446744073709551616:=by
 obtain⟨n,rfl⟩:=Int.eq_ofNat_of_zero_le (Int.le_of_lt y1)
 have h:=Lib.bitLenAux_bounds 64 n (by omega) (by omega)
 have hb:Lib.bitLen n≤64:=Lib.bitLen_le n 64 (by omega) (by omega)
 have e:Lib.bitLen n=Lib.bitLenAux 64 n:=rfl
 rw[←e]at h
 obtain⟨h1,h2,h3⟩:=h
 rw[Int.toNat_natCast]
 generalize Lib.bitLen n=L at *
 refine⟨64-L,by omega,by omega,?_⟩
 have k1:2 ^ (L-1)*2 ^ (64-L)≤n*2 ^ (64-L):=Nat.mul_le_mul_right _ h2
 have k2:n*2 ^ (64-L)<2 ^ L*2 ^ (64-L):=Nat.mul_lt_mul_of_pos_right h3 (Nat.two_pow_pos _)
 rw[←Nat.pow_add]at k1 k2
 rw[show L-1+(64-L)=63 by omega]at k1
 rw[show L+(64-L)=64 by omega]at k2
 have c:((n*2 ^ (64-L):Nat):Int)=(n:Int)*2 ^ (64-L):=by rw[Int.natCast_mul,Int.natCast_pow];rfl
 rw[←c]
 omega
theorem aM5 (x:Int) (h0:0≤x) (h1:x<18446744073709551616):bits .and .u64 x 4294967295=x % 4294967296:=by
 obtain⟨n,rfl⟩:=Int.eq_ofNat_of_zero_le h0
 rw[Mul64.maskN n (by omega)];omega
theorem aJ4 (h lo:Int) (s:Nat) (h0:0≤h) (l0:0≤lo) (g1:h*2 ^ s<18446744073709551616) (g2:lo / 2 ^ (64-s)<2 ^ s) (hs:s≤64):
  bits .or .u64 (IntKind.u64.wrap (h*2 ^ s)) (lo / 2 ^ (64-s))=h*2 ^ s+lo / 2 ^ (64-s):=by
 obtain⟨a,rfl⟩:=Int.eq_ofNat_of_zero_le h0
 obtain⟨b,rfl⟩:=Int.eq_ofNat_of_zero_le l0
 have c1:((a*2 ^ s:Nat):Int)=(a:Int)*2 ^ s:=by rw[Int.natCast_mul,Int.natCast_pow];rfl
 have c2:((b / 2 ^ (64-s):Nat):Int)=(b:Int) / 2 ^ (64-s):=by rw[Int.natCast_ediv,Int.natCast_pow];rfl
 have c3:((2 ^ s:Nat):Int)=2 ^ s:=by rw[Int.natCast_pow];rfl
 have p:(2:Nat) ^ s≤2 ^ 64:=Nat.pow_le_pow_right (by decide) hs
 rw[IntKind.wrap_u64,←c1,←c2]
 rw[←c1]at g1
 rw[←c2,←c3]at g2
 rw[Int.emod_eq_of_lt (by omega) g1,bits_or_u64_nat _ _ (by omega) (by omega)]
 have k:=Nat.shiftLeft_add_eq_or_of_lt (b:=b / 2 ^ (64-s)) (i:=s) (by omega) a
 rw[Nat.shiftLeft_eq]at k
 rw[←k,Int.natCast_add]
set_option maxHeartbeats 1600000 in
theorem aFP (h lo y:Int) (hh:0<h∧h<y) (hl:dX lo) (hy:0<y∧y<18446744073709551616) (w:World):Calls Try.prog 95 #[.int .u64 h,.int .u64 lo,.int .u64 y] w fun e w'=>e = .returned (.tuple #[.int .u64 ((h*18446744073709551616+lo) / y),.int .u64 ((h*18446744073709551616+lo) % y)])∧Below w.heap.size w w':=by
 obtain⟨l1,l2⟩:=hl
 obtain⟨y1,y2⟩:=hy
 obtain⟨h1,h2⟩:=hh
 have n0:¬y=0:=by omega
 have n1:¬y≤h:=by omega
 have n2:¬h=0:=by omega
 obtain⟨s,hs',s64,ys1,ys2⟩:=aR9 y y1 y2
 obtain⟨p1,p2,p3,p4,p5,p6,p7⟩:=aXi h lo y s s64 ys1 ys2 (by omega) h2 l1 l2
 have f4:=aJ4 h lo s (by omega) l1 p3 p5 s64
 have bk:=aCy (h*18446744073709551616+lo) y (2 ^ s) p7
 have f1:IntKind.u64.wrap (y*2 ^ s)=y*2 ^ s:=by rw[IntKind.wrap_u64];omega
 have f5:IntKind.u64.wrap (lo*2 ^ s)=lo*2 ^ s % 18446744073709551616:=IntKind.wrap_u64 _
 have hV:0≤lo*2 ^ s % 18446744073709551616∧lo*2 ^ s % 18446744073709551616<18446744073709551616:=by omega
 rw[←p1]at bk
 generalize hYe:y*2 ^ s=Y at *
 generalize hVe:lo*2 ^ s % 18446744073709551616=V at *
 have hU0:0≤h*2 ^ s+lo / 2 ^ (64-s):=by omega
 generalize h*2 ^ s+lo / 2 ^ (64-s)=U at *
 have kn1:Kn (Y / 4294967296) (Y % 4294967296) U (V / 4294967296):=aSY Y U _ ys1 ys2 hU0 p6 (by omega) (by omega)
 have f2:=aM5 Y (by omega) ys2
 have f3:=aM5 V hV.1 hV.2
 have kY:Y / 4294967296*4294967296+Y % 4294967296=Y:=by omega
 have rb1:=aHL Y U (V / 4294967296) (by omega)
 have re1:=aGQ Y U (V / 4294967296)
 have tq1:=aWP Y U (V / 4294967296)
 have ts:=aIJ Y U (V / 4294967296) (V % 4294967296) (by omega)
 have hVV:V / 4294967296*4294967296+V % 4294967296=V:=by omega
 rw[Int.add_assoc,hVV]at ts
 generalize (U*4294967296+V / 4294967296) % Y=R at *
 have kn2:Kn (Y / 4294967296) (Y % 4294967296) R (V % 4294967296):=aSY Y R _ ys1 ys2 rb1.1 rb1.2 (by omega) (by omega)
 have rb2:=aHL Y R (V % 4294967296) (by omega)
 have re2:=aGQ Y R (V % 4294967296)
 have tq2:=aWP Y R (V % 4294967296)
 have tb1:=aKT kn1
 have tb2:=aKT kn2
 rw[tq1]at tb1
 rw[tq2]at tb2
 generalize hT1:(U*4294967296+V / 4294967296) / Y=T1 at *
 generalize hT2:(R*4294967296+V % 4294967296) / Y=T2 at *
 generalize (R*4294967296+V % 4294967296) % Y=R2 at *
 have st1:=Inv.start kn1
 have st2:=Inv.start kn2
 have hV1:0≤V / 4294967296∧V / 4294967296<4294967296:=by omega
 have hV0:0≤V % 4294967296∧V % 4294967296<4294967296:=by omega
 generalize fV1:V / 4294967296=V1 at *
 generalize V % 4294967296=V0 at *
 have hY1:2147483648≤Y / 4294967296:=by omega
 generalize fY1:Y / 4294967296=Y1 at *
 generalize Y % 4294967296=Y0 at *
 have nY:¬Y1=0:=by omega
 have q1:IntKind.u64.wrap (U.tdiv Y1)=U / Y1:=by
  rw[IntKind.wrap_u64,Int.tdiv_eq_ediv_of_nonneg hU0]
  have:=(Inv.bd kn1 st1).2.2.2.2.2.2;exact Int.emod_eq_of_lt this.1 this.2.1
 have r1:IntKind.u64.wrap (U-IntKind.u64.wrap (U / Y1*Y1))=U % Y1:=by
  have e:=st1.e
  have l1:=st1.r0
  have l2:=st1.r1
  rw[IntKind.wrap_u64,IntKind.wrap_u64]
  generalize U / Y1*Y1=P at *
  omega
 have q2:IntKind.u64.wrap (R.tdiv Y1)=R / Y1:=by
  rw[IntKind.wrap_u64,Int.tdiv_eq_ediv_of_nonneg rb1.1]
  have:=(Inv.bd kn2 st2).2.2.2.2.2.2;exact Int.emod_eq_of_lt this.1 this.2.1
 have r2:IntKind.u64.wrap (R-IntKind.u64.wrap (R / Y1*Y1))=R % Y1:=by
  have e:=st2.e
  have l1:=st2.r0
  have l2:=st2.r1
  rw[IntKind.wrap_u64,IntKind.wrap_u64]
  generalize R / Y1*Y1=P at *
  omega
 have u1:IntKind.u64.wrap (IntKind.u64.wrap (IntKind.u64.wrap (U*4294967296)+V1)-IntKind.u64.wrap (T1*Y))=R:=by
  rw[IntKind.wrap_u64,IntKind.wrap_u64,IntKind.wrap_u64,IntKind.wrap_u64]
  generalize T1*Y=P at *
  omega
 have u2:IntKind.u64.wrap (IntKind.u64.wrap (IntKind.u64.wrap (R*4294967296)+V0)-IntKind.u64.wrap (T2*Y))=R2:=by
  rw[IntKind.wrap_u64,IntKind.wrap_u64,IntKind.wrap_u64,IntKind.wrap_u64]
  generalize T2*Y=P at *
  omega
 have qq:IntKind.u64.wrap (IntKind.u64.wrap (T1*4294967296)+T2)=(h*18446744073709551616+lo) / y:=by
  rw[IntKind.wrap_u64,IntKind.wrap_u64,←bk.1,ts.1];omega
 have rr:R2 / 2 ^ s=(h*18446744073709551616+lo) % y:=by rw[←bk.2,ts.2]
 replace f1:IntKind.u64.wrap (y*2 ^ s)=Y:=by rw[hYe];exact f1
 have Hk1:=Lib.hid kn1
 have Hk2:=Lib.hid kn2
 have Hs1:=Lib.hid st1
 have Hs2:=Lib.hid st2
 have HT1:=Lib.hid tq1
 have HT2:=Lib.hid tq2
 clear kn1 kn2 st1 st2 tq1 tq2 tb1 tb2 ts bk hT1 hT2 re1 re2 rb1 rb2 kY hVV hYe hVe p1 p2 p3 p4 p5 p6 p7 hU0 ys1
 generalize (h*18446744073709551616+lo) / y=QQ at *
 generalize (h*18446744073709551616+lo) % y=RR at *
 go_enter Try.func95,Try.ntmps95
 go_wp2_with (go_at_call 99;refine(Try.bits_LeadingZeros64 y _ (by omega) (by omega)).mono ?_;rintro e w1 ⟨rfl,rfl⟩;rw[hs'])
 go_loopw [15,16] (fun qv rv wl=>∃ q r:Int,qv = .int .u64 q∧rv = .int .u64 r∧wl=w1∧Hid (Inv Y1 Y0 U V1 q r)) (fun qv _ _=>(intOf qv).toNat)
 case atStart=>exact⟨_,_,rfl,rfl,rfl,Hs1⟩
 case round=>
  obtain⟨q,r,rfl,rfl,rfl,hI⟩:=hrel
  have hI':=hI.out
  have ⟨m1,m2,m3,m4,m5,m6,m7,m8,m9,m10⟩:=Inv.bd Hk1.out hI'
  have i1:IntKind.u64.wrap (q*Y0)=q*Y0:=by rw[IntKind.wrap_u64];exact Int.emod_eq_of_lt m1 m2
  have i2:IntKind.u64.wrap (4294967296*r)=4294967296*r:=by rw[IntKind.wrap_u64];exact Int.emod_eq_of_lt m3 m4
  have i3:IntKind.u64.wrap (4294967296*r+V1)=4294967296*r+V1:=by rw[IntKind.wrap_u64];exact Int.emod_eq_of_lt m5 m6
  have i4:IntKind.u64.wrap (r+Y1)=r+Y1:=by rw[IntKind.wrap_u64];exact Int.emod_eq_of_lt m9 m10
  by_cases hd:Due Y0 V1 q r
  ·by_cases hl:r+Y1<4294967296
   ·have ⟨hN,hp⟩:=Inv.more Hk1.out hI' hd hl
    have i5:IntKind.u64.wrap (q-1)=q-1:=by rw[IntKind.wrap_u64];omega
    have HN:=Lib.hid hN
    have hn1:¬4294967296≤r+Y1:=by omega
    clear hN hI' m1 m2 m3 m4 m5 m6 m9 m10
    rcases hd with g|g
    ·go_wp2
     go_roundw
     case rel=>exact⟨_,_,rfl,rfl,by trivial,HN⟩
     case measure=>simp [intOf];omega
    ·by_cases g2:4294967296≤q
     ·go_wp2
      go_roundw
      case rel=>exact⟨_,_,rfl,rfl,by trivial,HN⟩
      case measure=>simp [intOf];omega
     ·go_wp2
      go_roundw
      case rel=>exact⟨_,_,rfl,rfl,by trivial,HN⟩
      case measure=>simp [intOf];omega
   ·have ⟨hT,hp⟩:=Inv.broke Hk1.out hI' hd (by omega)
    have i5:IntKind.u64.wrap (q-1)=T1:=by rw[IntKind.wrap_u64,←HT1.out,←hT];omega
    have hn1:4294967296≤r+Y1:=by omega
    clear hT hI' m1 m2 m3 m4 m5 m6 m9 m10
    by_cases g2:4294967296≤q
    ·clear hd
     go_wp2
     try clear i5
     try clear i4
     try clear i3
     try clear i2
     try clear i1
     try clear hn1
     try clear g1
     try clear g2
     try clear g3
     try clear hl
     try clear hp
     try clear hI
     try clear m7
     try clear m8
     go_loopw [18,16] (fun qv rv wl=>∃ q r:Int,qv = .int .u64 q∧rv = .int .u64 r∧wl=wr∧Hid (Inv Y1 Y0 R V0 q r)) (fun qv _ _=>(intOf qv).toNat)
     case atStart=>exact⟨_,_,rfl,rfl,rfl,Hs2⟩
     case round=>
      obtain⟨q,r,rfl,rfl,rfl,hI⟩:=hrel
      have hI':=hI.out
      have ⟨m1,m2,m3,m4,m5,m6,m7,m8,m9,m10⟩:=Inv.bd Hk2.out hI'
      have i1:IntKind.u64.wrap (q*Y0)=q*Y0:=by rw[IntKind.wrap_u64];exact Int.emod_eq_of_lt m1 m2
      have i2:IntKind.u64.wrap (4294967296*r)=4294967296*r:=by rw[IntKind.wrap_u64];exact Int.emod_eq_of_lt m3 m4
      have i3:IntKind.u64.wrap (4294967296*r+V0)=4294967296*r+V0:=by rw[IntKind.wrap_u64];exact Int.emod_eq_of_lt m5 m6
      have i4:IntKind.u64.wrap (r+Y1)=r+Y1:=by rw[IntKind.wrap_u64];exact Int.emod_eq_of_lt m9 m10
      by_cases hd:Due Y0 V0 q r
      ·by_cases hl:r+Y1<4294967296
       ·have ⟨hN,hp⟩:=Inv.more Hk2.out hI' hd hl
        have i5:IntKind.u64.wrap (q-1)=q-1:=by rw[IntKind.wrap_u64];omega
        have HN:=Lib.hid hN
        have hn1:¬4294967296≤r+Y1:=by omega
        clear hN hI' m1 m2 m3 m4 m5 m6 m9 m10
        rcases hd with g|g
        ·go_wp2
         go_roundw
         case rel=>exact⟨_,_,rfl,rfl,by trivial,HN⟩
         case measure=>simp [intOf];omega
        ·by_cases g2:4294967296≤q
         ·go_wp2
          go_roundw
          case rel=>exact⟨_,_,rfl,rfl,by trivial,HN⟩
          case measure=>simp [intOf];omega
         ·go_wp2
          go_roundw
          case rel=>exact⟨_,_,rfl,rfl,by trivial,HN⟩
          case measure=>simp [intOf];omega
       ·have ⟨hT,hp⟩:=Inv.broke Hk2.out hI' hd (by omega)
        have i5:IntKind.u64.wrap (q-1)=T2:=by rw[IntKind.wrap_u64,←HT2.out,←hT];omega
        have hn1:4294967296≤r+Y1:=by omega
        clear hT hI' m1 m2 m3 m4 m5 m6 m9 m10
        by_cases g2:4294967296≤q
        ·clear hd
         go_wp2
         exact bodyPost_ret (v := .tuple #[.int .u64 QQ,.int .u64 RR]) (by simp [results,Try.results95,go_sem]) rfl ⟨rfl,aD _⟩
        ·have g3:4294967296*r+V0<q*Y0:=by rcases hd with g|g;exact absurd g g2;exact g
         clear hd
         go_wp2
         exact bodyPost_ret (v := .tuple #[.int .u64 QQ,.int .u64 RR]) (by simp [results,Try.results95,go_sem]) rfl ⟨rfl,aD _⟩
      ·have g1:¬4294967296≤q:=fun g=>hd (Or.inl g)
       have g2:¬4294967296*r+V0<q*Y0:=fun g=>hd (Or.inr g)
       have hT:q=T2:=(Inv.done Hk2.out hI' (by omega)).trans HT2.out
       clear hd hI' m1 m2 m3 m4 m5 m6 m9 m10
       subst hT
       go_wp2
       exact bodyPost_ret (v := .tuple #[.int .u64 QQ,.int .u64 RR]) (by simp [results,Try.results95,go_sem]) rfl ⟨rfl,aD _⟩
    ·have g3:4294967296*r+V1<q*Y0:=by rcases hd with g|g;exact absurd g g2;exact g
     clear hd
     go_wp2
     try clear i5
     try clear i4
     try clear i3
     try clear i2
     try clear i1
     try clear hn1
     try clear g1
     try clear g2
     try clear g3
     try clear hl
     try clear hp
     try clear hI
     try clear m7
     try clear m8
     go_loopw [18,16] (fun qv rv wl=>∃ q r:Int,qv = .int .u64 q∧rv = .int .u64 r∧wl=wr∧Hid (Inv Y1 Y0 R V0 q r)) (fun qv _ _=>(intOf qv).toNat)
     case atStart=>exact⟨_,_,rfl,rfl,rfl,Hs2⟩
     case round=>
      obtain⟨q,r,rfl,rfl,rfl,hI⟩:=hrel
      have hI':=hI.out
      have ⟨m1,m2,m3,m4,m5,m6,m7,m8,m9,m10⟩:=Inv.bd Hk2.out hI'
      have i1:IntKind.u64.wrap (q*Y0)=q*Y0:=by rw[IntKind.wrap_u64];exact Int.emod_eq_of_lt m1 m2
      have i2:IntKind.u64.wrap (4294967296*r)=4294967296*r:=by rw[IntKind.wrap_u64];exact Int.emod_eq_of_lt m3 m4
      have i3:IntKind.u64.wrap (4294967296*r+V0)=4294967296*r+V0:=by rw[IntKind.wrap_u64];exact Int.emod_eq_of_lt m5 m6
      have i4:IntKind.u64.wrap (r+Y1)=r+Y1:=by rw[IntKind.wrap_u64];exact Int.emod_eq_of_lt m9 m10
      by_cases hd:Due Y0 V0 q r
      ·by_cases hl:r+Y1<4294967296
       ·have ⟨hN,hp⟩:=Inv.more Hk2.out hI' hd hl
        have i5:IntKind.u64.wrap (q-1)=q-1:=by rw[IntKind.wrap_u64];omega
        have HN:=Lib.hid hN
        have hn1:¬4294967296≤r+Y1:=by omega
        clear hN hI' m1 m2 m3 m4 m5 m6 m9 m10
        rcases hd with g|g
        ·go_wp2
         go_roundw
         case rel=>exact⟨_,_,rfl,rfl,by trivial,HN⟩
         case measure=>simp [intOf];omega
        ·by_cases g2:4294967296≤q
         ·go_wp2
          go_roundw
          case rel=>exact⟨_,_,rfl,rfl,by trivial,HN⟩
          case measure=>simp [intOf];omega
         ·go_wp2
          go_roundw
          case rel=>exact⟨_,_,rfl,rfl,by trivial,HN⟩
          case measure=>simp [intOf];omega
       ·have ⟨hT,hp⟩:=Inv.broke Hk2.out hI' hd (by omega)
        have i5:IntKind.u64.wrap (q-1)=T2:=by rw[IntKind.wrap_u64,←HT2.out,←hT];omega
        have hn1:4294967296≤r+Y1:=by omega
        clear hT hI' m1 m2 m3 m4 m5 m6 m9 m10
        by_cases g2:4294967296≤q
        ·clear hd
         go_wp2
         exact bodyPost_ret (v := .tuple #[.int .u64 QQ,.int .u64 RR]) (by simp [results,Try.results95,go_sem]) rfl ⟨rfl,aD _⟩
        ·have g3:4294967296*r+V0<q*Y0:=by rcases hd with g|g;exact absurd g g2;exact g
         clear hd
         go_wp2
         exact bodyPost_ret (v := .tuple #[.int .u64 QQ,.int .u64 RR]) (by simp [results,Try.results95,go_sem]) rfl ⟨rfl,aD _⟩
      ·have g1:¬4294967296≤q:=fun g=>hd (Or.inl g)
       have g2:¬4294967296*r+V0<q*Y0:=fun g=>hd (Or.inr g)
       have hT:q=T2:=(Inv.done Hk2.out hI' (by omega)).trans HT2.out
       clear hd hI' m1 m2 m3 m4 m5 m6 m9 m10
       subst hT
       go_wp2
       exact bodyPost_ret (v := .tuple #[.int .u64 QQ,.int .u64 RR]) (by simp [results,Try.results95,go_sem]) rfl ⟨rfl,aD _⟩
  ·have g1:¬4294967296≤q:=fun g=>hd (Or.inl g)
   have g2:¬4294967296*r+V1<q*Y0:=fun g=>hd (Or.inr g)
   have hT:q=T1:=(Inv.done Hk1.out hI' (by omega)).trans HT1.out
   clear hd hI' m1 m2 m3 m4 m5 m6 m9 m10
   subst hT
   go_wp2
   try clear i5
   try clear i4
   try clear i3
   try clear i2
   try clear i1
   try clear hn1
   try clear g1
   try clear g2
   try clear g3
   try clear hl
   try clear hp
   try clear hI
   try clear m7
   try clear m8
   go_loopw [18,16] (fun qv rv wl=>∃ q r:Int,qv = .int .u64 q∧rv = .int .u64 r∧wl=wr∧Hid (Inv Y1 Y0 R V0 q r)) (fun qv _ _=>(intOf qv).toNat)
   case atStart=>exact⟨_,_,rfl,rfl,rfl,Hs2⟩
   case round=>
    obtain⟨q,r,rfl,rfl,rfl,hI⟩:=hrel
    have hI':=hI.out
    have ⟨m1,m2,m3,m4,m5,m6,m7,m8,m9,m10⟩:=Inv.bd Hk2.out hI'
    have i1:IntKind.u64.wrap (q*Y0)=q*Y0:=by rw[IntKind.wrap_u64];exact Int.emod_eq_of_lt m1 m2
    have i2:IntKind.u64.wrap (4294967296*r)=4294967296*r:=by rw[IntKind.wrap_u64];exact Int.emod_eq_of_lt m3 m4
    have i3:IntKind.u64.wrap (4294967296*r+V0)=4294967296*r+V0:=by rw[IntKind.wrap_u64];exact Int.emod_eq_of_lt m5 m6
    have i4:IntKind.u64.wrap (r+Y1)=r+Y1:=by rw[IntKind.wrap_u64];exact Int.emod_eq_of_lt m9 m10
    by_cases hd:Due Y0 V0 q r
    ·by_cases hl:r+Y1<4294967296
     ·have ⟨hN,hp⟩:=Inv.more Hk2.out hI' hd hl
      have i5:IntKind.u64.wrap (q-1)=q-1:=by rw[IntKind.wrap_u64];omega
      have HN:=Lib.hid hN
      have hn1:¬4294967296≤r+Y1:=by omega
      clear hN hI' m1 m2 m3 m4 m5 m6 m9 m10
      rcases hd with g|g
      ·go_wp2
       go_roundw
       case rel=>exact⟨_,_,rfl,rfl,by trivial,HN⟩
       case measure=>simp [intOf];omega
      ·by_cases g2:4294967296≤q
       ·go_wp2
        go_roundw
        case rel=>exact⟨_,_,rfl,rfl,by trivial,HN⟩
        case measure=>simp [intOf];omega
       ·go_wp2
        go_roundw
        case rel=>exact⟨_,_,rfl,rfl,by trivial,HN⟩
        case measure=>simp [intOf];omega
     ·have ⟨hT,hp⟩:=Inv.broke Hk2.out hI' hd (by omega)
      have i5:IntKind.u64.wrap (q-1)=T2:=by rw[IntKind.wrap_u64,←HT2.out,←hT];omega
      have hn1:4294967296≤r+Y1:=by omega
      clear hT hI' m1 m2 m3 m4 m5 m6 m9 m10
      by_cases g2:4294967296≤q
      ·clear hd
       go_wp2
       exact bodyPost_ret (v := .tuple #[.int .u64 QQ,.int .u64 RR]) (by simp [results,Try.results95,go_sem]) rfl ⟨rfl,aD _⟩
      ·have g3:4294967296*r+V0<q*Y0:=by rcases hd with g|g;exact absurd g g2;exact g
       clear hd
       go_wp2
       exact bodyPost_ret (v := .tuple #[.int .u64 QQ,.int .u64 RR]) (by simp [results,Try.results95,go_sem]) rfl ⟨rfl,aD _⟩
    ·have g1:¬4294967296≤q:=fun g=>hd (Or.inl g)
     have g2:¬4294967296*r+V0<q*Y0:=fun g=>hd (Or.inr g)
     have hT:q=T2:=(Inv.done Hk2.out hI' (by omega)).trans HT2.out
     clear hd hI' m1 m2 m3 m4 m5 m6 m9 m10
     subst hT
     go_wp2
     exact bodyPost_ret (v := .tuple #[.int .u64 QQ,.int .u64 RR]) (by simp [results,Try.results95,go_sem]) rfl ⟨rfl,aD _⟩
theorem aIk (h lo y:Int) (hh:0≤h∧h<y) (hl:dX lo) (hy:0<y∧y<18446744073709551616) (w:World):Calls Try.prog 95 #[.int .u64 h,.int .u64 lo,.int .u64 y] w fun e w'=>e = .returned (.tuple #[.int .u64 ((h*18446744073709551616+lo) / y),.int .u64 ((h*18446744073709551616+lo) % y)])∧Below w.heap.size w w':=by
 by_cases h0:h=0
 ·subst h0
  have e:0*18446744073709551616+lo=lo:=by omega
  rw[e];exact aA7 lo y hl hy w
 ·exact aFP h lo y ⟨by omega,hh.2⟩ hl hy w
set_option maxHeartbeats 800000 in
theorem mQ (x0 x1 d:Int) (h0:dX x0) (h1:dX x1) (hd:0<d∧d<18446744073709551616) (w:World):Calls Try.prog 81 #[.agg #[.int .u64 x0,.int .u64 x1,.int .u64 0],.int .u64 d] w fun e w'=>e = .returned (.tuple #[.agg #[.int .u64 ((x1 % d*18446744073709551616+x0) / d),.int .u64 (x1 / d),.int .u64 0],.int .u64 ((x1 % d*18446744073709551616+x0) % d)])∧Below w.heap.size w w':=by
 have hm:0≤x1 % d∧x1 % d<d:=⟨Int.emod_nonneg _ (by omega),Int.emod_lt_of_pos _ hd.1⟩
 go_enter Try.func81,Try.ntmps81
 go_wp2
 obtain⟨w0,hw0⟩:∃ x:World,x=((w.alloc (.cells #[.int .u64 x0,.int .u64 x1,.int .u64 0] 93)).alloc (.cells #[.int .u64 0,.int .u64 0,.int .u64 0] 93)):=⟨_,rfl⟩
 have k0:w0.cell? ⟨w.heap.size,0,none⟩=some (.int .u64 x0):=by rw[hw0];repeat (first|(refine aS ?_ rfl;(simp;done))|refine aR ?_)
 have k1:w0.cell? ⟨w.heap.size,1,none⟩=some (.int .u64 x1):=by rw[hw0];repeat (first|(refine aS ?_ rfl;(simp;done))|refine aR ?_)
 have k2:w0.cell? ⟨w.heap.size,2,none⟩=some (.int .u64 0):=by rw[hw0];repeat (first|(refine aS ?_ rfl;(simp;done))|refine aR ?_)
 have k3:w0.cell? ⟨w.heap.size+1,0,none⟩=some (.int .u64 0):=by rw[hw0];repeat (first|(refine aS ?_ rfl;(simp;done))|refine aR ?_)
 have k4:w0.cell? ⟨w.heap.size+1,1,none⟩=some (.int .u64 0):=by rw[hw0];repeat (first|(refine aS ?_ rfl;(simp;done))|refine aR ?_)
 have k5:w0.cell? ⟨w.heap.size+1,2,none⟩=some (.int .u64 0):=by rw[hw0];repeat (first|(refine aS ?_ rfl;(simp;done))|refine aR ?_)
 have z0:w.heap.size<w0.heap.size:=World.block_lt_of_cell? _ _ k0
 have z1:w.heap.size+1<w0.heap.size:=World.block_lt_of_cell? _ _ k3
 have hB:Below w.heap.size w w0:=by rw[hw0];repeat (with_reducible first|exact aD _|apply aA)
 have f1_0:w0.frozen? ⟨w.heap.size+1,0,none⟩=false:=by rw[hw0];repeat (first|(refine bG ?_;(simp;done))|(refine bH (by first|(simp;done)|(simp;omega)) ?_))
 have f1_1:w0.frozen? ⟨w.heap.size+1,1,none⟩=false:=by rw[hw0];repeat (first|(refine bG ?_;(simp;done))|(refine bH (by first|(simp;done)|(simp;omega)) ?_))
 have f1_2:w0.frozen? ⟨w.heap.size+1,2,none⟩=false:=by rw[hw0];repeat (first|(refine bG ?_;(simp;done))|(refine bH (by first|(simp;done)|(simp;omega)) ?_))
 rw[←hw0]
 clear hw0
 go_loopw [6,5] (fun i r wl=>(i = .int .i64 1∧r = .int .u64 0∧wl=w0)
   ∨(i = .int .i64 0∧r = .int .u64 (x1 % d)∧Hid (wl.cell? ⟨w.heap.size,0,none⟩=some (.int .u64 x0)∧wl.cell? ⟨w.heap.size,1,none⟩=some (.int .u64 x1)∧wl.cell? ⟨w.heap.size,2,none⟩=some (.int .u64 0)∧wl.cell? ⟨w.heap.size+1,0,none⟩=some (.int .u64 0)∧wl.cell? ⟨w.heap.size+1,1,none⟩=some (.int .u64 (x1 / d))∧wl.cell? ⟨w.heap.size+1,2,none⟩=some (.int .u64 0)∧wl.frozen? ⟨w.heap.size+1,0,none⟩=false∧wl.frozen? ⟨w.heap.size+1,1,none⟩=false∧wl.frozen? ⟨w.heap.size+1,2,none⟩=false∧Below w.heap.size w wl))
   ∨(i = .int .i64 (-1)∧r = .int .u64 ((x1 % d*18446744073709551616+x0) % d)∧Hid (wl.cell? ⟨w.heap.size,0,none⟩=some (.int .u64 x0)∧wl.cell? ⟨w.heap.size,1,none⟩=some (.int .u64 x1)∧wl.cell? ⟨w.heap.size,2,none⟩=some (.int .u64 0)∧wl.cell? ⟨w.heap.size+1,0,none⟩=some (.int .u64 ((x1 % d*18446744073709551616+x0) / d))∧wl.cell? ⟨w.heap.size+1,1,none⟩=some (.int .u64 (x1 / d))∧wl.cell? ⟨w.heap.size+1,2,none⟩=some (.int .u64 0)∧wl.frozen? ⟨w.heap.size+1,0,none⟩=false∧wl.frozen? ⟨w.heap.size+1,1,none⟩=false∧wl.frozen? ⟨w.heap.size+1,2,none⟩=false∧Below w.heap.size w wl)))
  (fun i _ _=>(intOf i+1).toNat)
 case atStart=>exact Or.inl ⟨rfl,rfl,rfl⟩
 case round=>
  rcases hrel with⟨rfl,rfl,rfl⟩|⟨rfl,rfl,hP⟩|⟨rfl,rfl,hP⟩
  ·go_wp2_with (go_at_call 95;refine(aA7 x1 d h1 hd _).mono ?_;rintro e w1 ⟨rfl,hb1⟩;replace f1_0:=aL (aE hb1 (by repeat (with_reducible first|exact aD _|apply aA|apply aC))) k3 f1_0;replace f1_1:=aL (aE hb1 (by repeat (with_reducible first|exact aD _|apply aA|apply aC))) k4 f1_1;replace f1_2:=aL (aE hb1 (by repeat (with_reducible first|exact aD _|apply aA|apply aC))) k5 f1_2;replace hB:=aE hb1 (by repeat (with_reducible first|exact hB|apply aA|apply aC));replace k0:=cell_later (aE hb1 (by repeat (with_reducible first|exact aD _|apply aA|apply aC))) k0;replace k1:=cell_later (aE hb1 (by repeat (with_reducible first|exact aD _|apply aA|apply aC))) k1;replace k2:=cell_later (aE hb1 (by repeat (with_reducible first|exact aD _|apply aA|apply aC))) k2;replace k3:=cell_later (aE hb1 (by repeat (with_reducible first|exact aD _|apply aA|apply aC))) k3;replace k4:=cell_later (aE hb1 (by repeat (with_reducible first|exact aD _|apply aA|apply aC))) k4;replace k5:=cell_later (aE hb1 (by repeat (with_reducible first|exact aD _|apply aA|apply aC))) k5;replace z0:=World.block_lt_of_cell? _ _ k0;replace z1:=World.block_lt_of_cell? _ _ k3;simp only[]at z0 z1;clear hb1)
   go_roundw
   case rel=>exact Or.inr (Or.inl ⟨rfl,by trivial,Lib.hid ⟨(aB (by omega) k0),(aB (by omega) k1),(aB (by omega) k2),(aB (by omega) k3),(aX k4),(aB (by omega) k5),(by (repeat rw[World.frozen?_setCell]);exact f1_0),(by (repeat rw[World.frozen?_setCell]);exact f1_1),(by (repeat rw[World.frozen?_setCell]);exact f1_2),(by repeat (with_reducible first|exact hB|refine bO _ (by omega) ?_))⟩⟩)
   case measure=>simp [intOf]
  ·clear k0 k1 k2 k3 k4 k5 z0 z1 f1_0 f1_1 f1_2 hB
   obtain⟨k0,k1,k2,k3,k4,k5,f1_0,f1_1,f1_2,hB⟩:=hP.out
   clear hP
   have z0:w.heap.size<wr.heap.size:=World.block_lt_of_cell? _ _ k0
   have z1:w.heap.size+1<wr.heap.size:=World.block_lt_of_cell? _ _ k3
   go_wp2_with (go_at_call 95;refine(aIk (x1 % d) x0 d hm h0 hd _).mono ?_;rintro e w1 ⟨rfl,hb1⟩;replace f1_0:=aL (aE hb1 (by repeat (with_reducible first|exact aD _|apply aA|apply aC))) k3 f1_0;replace f1_1:=aL (aE hb1 (by repeat (with_reducible first|exact aD _|apply aA|apply aC))) k4 f1_1;replace f1_2:=aL (aE hb1 (by repeat (with_reducible first|exact aD _|apply aA|apply aC))) k5 f1_2;replace hB:=aE hb1 (by repeat (with_reducible first|exact hB|apply aA|apply aC));replace k0:=cell_later (aE hb1 (by repeat (with_reducible first|exact aD _|apply aA|apply aC))) k0;replace k1:=cell_later (aE hb1 (by repeat (with_reducible first|exact aD _|apply aA|apply aC))) k1;replace k2:=cell_later (aE hb1 (by repeat (with_reducible first|exact aD _|apply aA|apply aC))) k2;replace k3:=cell_later (aE hb1 (by repeat (with_reducible first|exact aD _|apply aA|apply aC))) k3;replace k4:=cell_later (aE hb1 (by repeat (with_reducible first|exact aD _|apply aA|apply aC))) k4;replace k5:=cell_later (aE hb1 (by repeat (with_reducible first|exact aD _|apply aA|apply aC))) k5;replace z0:=World.block_lt_of_cell? _ _ k0;replace z1:=World.block_lt_of_cell? _ _ k3;simp only[]at z0 z1;clear hb1)
   go_roundw
   case rel=>exact Or.inr (Or.inr ⟨rfl,by trivial,Lib.hid ⟨(aB (by omega) k0),(aB (by omega) k1),(aB (by omega) k2),(aX k3),(aB (by omega) k4),(aB (by omega) k5),(by (repeat rw[World.frozen?_setCell]);exact f1_0),(by (repeat rw[World.frozen?_setCell]);exact f1_1),(by (repeat rw[World.frozen?_setCell]);exact f1_2),(by repeat (with_reducible first|exact hB|refine bO _ (by omega) ?_))⟩⟩)
   case measure=>simp [intOf]
  ·clear k0 k1 k2 k3 k4 k5 z0 z1 f1_0 f1_1 f1_2 hB
   obtain⟨k0,k1,k2,k3,k4,k5,f1_0,f1_1,f1_2,hB⟩:=hP.out
   clear hP
   have z0:w.heap.size<wr.heap.size:=World.block_lt_of_cell? _ _ k0
   have z1:w.heap.size+1<wr.heap.size:=World.block_lt_of_cell? _ _ k3
   go_wp2
   exact bodyPost_ret (v := .tuple #[.agg #[.int .u64 ((x1 % d*18446744073709551616+x0) / d),.int .u64 (x1 / d),.int .u64 0],.int .u64 ((x1 % d*18446744073709551616+x0) % d)]) (by simp [results,Try.results81,go_sem, *]) rfl ⟨rfl,by repeat (with_reducible first|exact hB|refine bO _ (by omega) ?_|apply aA|apply aC)⟩
set_option maxHeartbeats 800000 in
theorem aIy (a d q r:Int) (ha:kH a) (hd:0<d) (hd':d≤9223372036854775807) (hn:¬a<0) (hq0:q=a / d) (hr0:r=a % d) (w:World):Calls Try.prog 57 #[.agg #[.int .i64 (hi (a)),.int .u64 (lo (a))],.int .i64 d] w fun e w'=>e = .returned (.tuple #[.agg #[.int .i64 (hi (q)),.int .u64 (lo (q))],.int .i64 r,.int .i64 0])∧Below w.heap.size w w':=by
 have l1:dX (d0 (cC a)):=by unfold dX d0;omega
 have l2:dX (d1 (cC a)):=by unfold dX d1;omega
 have hmb:cC a<340282366920938463463374607431768211456:=by unfold cC;unfold kH at ha;split<;>omega
 obtain⟨q0,q1,q2⟩:=uQ (cC a) d (kP a) hmb hd
 have c1:IntKind.u64.wrap d=d:=by rw[IntKind.wrap_u64];omega
 have r0:=Int.emod_nonneg (cC a) (show d≠0 by omega)
 have r1:=Int.emod_lt_of_pos (cC a) hd
 have m0:0≤cC a / d:=Int.ediv_nonneg (kP a) (by omega)
 have m1:cC a / d≤cC a:=Int.ediv_le_self _ (kP a)
 have hs:decide (a<0)=false:=decide_eq_false hn
 have hma:cC a=a:=if_neg hn
 have ha2:a<170141183460469231731687303715884105728:=ha.2
 have hf:kT false (cC a / d):=⟨m0,Or.inl (by omega)⟩
 have es:sgn false (cC a / d)=q:=by rw[hma,hq0];rfl
 have er:cC a % d=r:=by rw[hma,hr0]
 rw[er]at r0 r1 q2
 have nd:¬d<1:=by omega
 have c2:IntKind.i64.wrap r=r:=IntWalk.i64_in _ (by omega)
 clear hma hmb m0 m1 hq0 hr0 ha2
 go_enter Try.func57,Try.ntmps57
 go_wp2_with fail
 obtain⟨w0,hw0⟩:∃ x:World,x=((w.alloc (.cells #[.int .i64 (hi (a)),.int .u64 (lo (a))] 53)).alloc (.cells #[.int .i64 0,.int .u64 0] 53)):=⟨_,rfl⟩
 have k0:w0.cell? ⟨w.heap.size,0,none⟩=some (.int .i64 (hi (a))):=by rw[hw0];repeat (first|(refine aS ?_ rfl;(simp;done))|refine aR ?_)
 have k1:w0.cell? ⟨w.heap.size,1,none⟩=some (.int .u64 (lo (a))):=by rw[hw0];repeat (first|(refine aS ?_ rfl;(simp;done))|refine aR ?_)
 have k2:w0.cell? ⟨w.heap.size+1,0,none⟩=some (.int .i64 0):=by rw[hw0];repeat (first|(refine aS ?_ rfl;(simp;done))|refine aR ?_)
 have k3:w0.cell? ⟨w.heap.size+1,1,none⟩=some (.int .u64 0):=by rw[hw0];repeat (first|(refine aS ?_ rfl;(simp;done))|refine aR ?_)
 have z0:w.heap.size<w0.heap.size:=World.block_lt_of_cell? _ _ k0
 have z1:w.heap.size+1<w0.heap.size:=World.block_lt_of_cell? _ _ k2
 have hB:Below w.heap.size w w0:=by rw[hw0];repeat (with_reducible first|exact aD _|apply aA)
 have f1_0:w0.frozen? ⟨w.heap.size+1,0,none⟩=false:=by rw[hw0];repeat (first|(refine bG ?_;(simp;done))|(refine bH (by first|(simp;done)|(simp;omega)) ?_))
 have f1_1:w0.frozen? ⟨w.heap.size+1,1,none⟩=false:=by rw[hw0];repeat (first|(refine bG ?_;(simp;done))|(refine bH (by first|(simp;done)|(simp;omega)) ?_))
 rw[←hw0]
 clear hw0
 refine(tG a ha _).mono ?_
 rintro e w1 ⟨rfl,hb1⟩
 replace f1_0:=aL (aE hb1 (by repeat (with_reducible first|exact aD _|apply aA|apply aC))) k2 f1_0
 replace f1_1:=aL (aE hb1 (by repeat (with_reducible first|exact aD _|apply aA|apply aC))) k3 f1_1
 replace hB:=aE hb1 (by repeat (with_reducible first|exact hB|apply aA|apply aC))
 replace k0:=cell_later (aE hb1 (by repeat (with_reducible first|exact aD _|apply aA|apply aC))) k0
 replace k1:=cell_later (aE hb1 (by repeat (with_reducible first|exact aD _|apply aA|apply aC))) k1
 replace k2:=cell_later (aE hb1 (by repeat (with_reducible first|exact aD _|apply aA|apply aC))) k2
 replace k3:=cell_later (aE hb1 (by repeat (with_reducible first|exact aD _|apply aA|apply aC))) k3
 replace z0:=World.block_lt_of_cell? _ _ k0
 replace z1:=World.block_lt_of_cell? _ _ k2
 simp only[]at z0 z1
 clear hb1
 rw[hs]
 go_wp2_with fail
 obtain⟨w2,hw0⟩:∃ x:World,x=(w1.alloc (.cells #[.bool false,.int .u64 (d0 (cC a)),.int .u64 (d1 (cC a)),.int .u64 0] 95)):=⟨_,rfl⟩
 replace f1_0:w2.frozen? ⟨w.heap.size+1,0,none⟩=false:=by rw[hw0];exact aL (by repeat (with_reducible first|exact aD _|apply aA|apply aC)) k2 f1_0
 replace f1_1:w2.frozen? ⟨w.heap.size+1,1,none⟩=false:=by rw[hw0];exact aL (by repeat (with_reducible first|exact aD _|apply aA|apply aC)) k3 f1_1
 replace k0:w2.cell? ⟨w.heap.size,0,none⟩=some (.int .i64 (hi (a))):=by rw[hw0];exact cell_later (by repeat (with_reducible first|exact aD _|apply aA|apply aC)) k0
 replace k1:w2.cell? ⟨w.heap.size,1,none⟩=some (.int .u64 (lo (a))):=by rw[hw0];exact cell_later (by repeat (with_reducible first|exact aD _|apply aA|apply aC)) k1
 replace k2:w2.cell? ⟨w.heap.size+1,0,none⟩=some (.int .i64 0):=by rw[hw0];exact cell_later (by repeat (with_reducible first|exact aD _|apply aA|apply aC)) k2
 replace k3:w2.cell? ⟨w.heap.size+1,1,none⟩=some (.int .u64 0):=by rw[hw0];exact cell_later (by repeat (with_reducible first|exact aD _|apply aA|apply aC)) k3
 have k4:w2.cell? ⟨w1.heap.size,0,none⟩=some (.bool false):=by rw[hw0];repeat (first|(refine aS ?_ rfl;(simp;done))|refine aR ?_)
 have k5:w2.cell? ⟨w1.heap.size,1,none⟩=some (.int .u64 (d0 (cC a))):=by rw[hw0];repeat (first|(refine aS ?_ rfl;(simp;done))|refine aR ?_)
 have k6:w2.cell? ⟨w1.heap.size,2,none⟩=some (.int .u64 (d1 (cC a))):=by rw[hw0];repeat (first|(refine aS ?_ rfl;(simp;done))|refine aR ?_)
 have k7:w2.cell? ⟨w1.heap.size,3,none⟩=some (.int .u64 0):=by rw[hw0];repeat (first|(refine aS ?_ rfl;(simp;done))|refine aR ?_)
 have z0:w.heap.size<w2.heap.size:=World.block_lt_of_cell? _ _ k0
 have z1:w.heap.size+1<w2.heap.size:=World.block_lt_of_cell? _ _ k2
 have z2:w1.heap.size<w2.heap.size:=World.block_lt_of_cell? _ _ k4
 replace hB:Below w.heap.size w w2:=by rw[hw0];repeat (with_reducible first|exact hB|apply aA)
 rw[←hw0]
 clear hw0
 refine(mQ _ _ d l1 l2 ⟨by omega,by omega⟩ _).mono ?_
 rintro e w3 ⟨rfl,hb1⟩
 replace f1_0:=aL (aE hb1 (by repeat (with_reducible first|exact aD _|apply aA|apply aC))) k2 f1_0
 replace f1_1:=aL (aE hb1 (by repeat (with_reducible first|exact aD _|apply aA|apply aC))) k3 f1_1
 replace hB:=aE hb1 (by repeat (with_reducible first|exact hB|apply aA|apply aC))
 replace k0:=cell_later (aE hb1 (by repeat (with_reducible first|exact aD _|apply aA|apply aC))) k0
 replace k1:=cell_later (aE hb1 (by repeat (with_reducible first|exact aD _|apply aA|apply aC))) k1
 replace k2:=cell_later (aE hb1 (by repeat (with_reducible first|exact aD _|apply aA|apply aC))) k2
 replace k3:=cell_later (aE hb1 (by repeat (with_reducible first|exact aD _|apply aA|apply aC))) k3
 replace k4:=cell_later (aE hb1 (by repeat (with_reducible first|exact aD _|apply aA|apply aC))) k4
 replace k5:=cell_later (aE hb1 (by repeat (with_reducible first|exact aD _|apply aA|apply aC))) k5
 replace k6:=cell_later (aE hb1 (by repeat (with_reducible first|exact aD _|apply aA|apply aC))) k6
 replace k7:=cell_later (aE hb1 (by repeat (with_reducible first|exact aD _|apply aA|apply aC))) k7
 replace z0:=World.block_lt_of_cell? _ _ k0
 replace z1:=World.block_lt_of_cell? _ _ k2
 replace z2:=World.block_lt_of_cell? _ _ k4
 simp only[]at z0 z1 z2
 clear hb1
 rw[q0,q1,q2]
 go_wp2_with fail
 obtain⟨w4,hw0⟩:∃ x:World,x=(w3.alloc (.cells #[.int .u64 (d0 (cC a / d)),.int .u64 (d1 (cC a / d)),.int .u64 0] 93)):=⟨_,rfl⟩
 replace f1_0:w4.frozen? ⟨w.heap.size+1,0,none⟩=false:=by rw[hw0];exact aL (by repeat (with_reducible first|exact aD _|apply aA|apply aC)) k2 f1_0
 replace f1_1:w4.frozen? ⟨w.heap.size+1,1,none⟩=false:=by rw[hw0];exact aL (by repeat (with_reducible first|exact aD _|apply aA|apply aC)) k3 f1_1
 replace k0:w4.cell? ⟨w.heap.size,0,none⟩=some (.int .i64 (hi (a))):=by rw[hw0];exact cell_later (by repeat (with_reducible first|exact aD _|apply aA|apply aC)) k0
 replace k1:w4.cell? ⟨w.heap.size,1,none⟩=some (.int .u64 (lo (a))):=by rw[hw0];exact cell_later (by repeat (with_reducible first|exact aD _|apply aA|apply aC)) k1
 replace k2:w4.cell? ⟨w.heap.size+1,0,none⟩=some (.int .i64 0):=by rw[hw0];exact cell_later (by repeat (with_reducible first|exact aD _|apply aA|apply aC)) k2
 replace k3:w4.cell? ⟨w.heap.size+1,1,none⟩=some (.int .u64 0):=by rw[hw0];exact cell_later (by repeat (with_reducible first|exact aD _|apply aA|apply aC)) k3
 replace k4:w4.cell? ⟨w1.heap.size,0,none⟩=some (.bool false):=by rw[hw0];exact cell_later (by repeat (with_reducible first|exact aD _|apply aA|apply aC)) k4
 replace k5:w4.cell? ⟨w1.heap.size,1,none⟩=some (.int .u64 (d0 (cC a))):=by rw[hw0];exact cell_later (by repeat (with_reducible first|exact aD _|apply aA|apply aC)) k5
 replace k6:w4.cell? ⟨w1.heap.size,2,none⟩=some (.int .u64 (d1 (cC a))):=by rw[hw0];exact cell_later (by repeat (with_reducible first|exact aD _|apply aA|apply aC)) k6
 replace k7:w4.cell? ⟨w1.heap.size,3,none⟩=some (.int .u64 0):=by rw[hw0];exact cell_later (by repeat (with_reducible first|exact aD _|apply aA|apply aC)) k7
 have k8:w4.cell? ⟨w3.heap.size,0,none⟩=some (.int .u64 (d0 (cC a / d))):=by rw[hw0];repeat (first|(refine aS ?_ rfl;(simp;done))|refine aR ?_)
 have k9:w4.cell? ⟨w3.heap.size,1,none⟩=some (.int .u64 (d1 (cC a / d))):=by rw[hw0];repeat (first|(refine aS ?_ rfl;(simp;done))|refine aR ?_)
 have k10:w4.cell? ⟨w3.heap.size,2,none⟩=some (.int .u64 0):=by rw[hw0];repeat (first|(refine aS ?_ rfl;(simp;done))|refine aR ?_)
 have z0:w.heap.size<w4.heap.size:=World.block_lt_of_cell? _ _ k0
 have z1:w.heap.size+1<w4.heap.size:=World.block_lt_of_cell? _ _ k2
 have z2:w1.heap.size<w4.heap.size:=World.block_lt_of_cell? _ _ k4
 have z3:w3.heap.size<w4.heap.size:=World.block_lt_of_cell? _ _ k8
 replace hB:Below w.heap.size w w4:=by rw[hw0];repeat (with_reducible first|exact hB|apply aA)
 rw[←hw0]
 clear hw0
 refine(nJ _ _ hf _).mono ?_
 rintro e w5 ⟨rfl,hb1⟩
 replace f1_0:=aL (aE hb1 (by repeat (with_reducible first|exact aD _|apply aA|apply aC))) k2 f1_0
 replace f1_1:=aL (aE hb1 (by repeat (with_reducible first|exact aD _|apply aA|apply aC))) k3 f1_1
 replace hB:=aE hb1 (by repeat (with_reducible first|exact hB|apply aA|apply aC))
 replace k0:=cell_later (aE hb1 (by repeat (with_reducible first|exact aD _|apply aA|apply aC))) k0
 replace k1:=cell_later (aE hb1 (by repeat (with_reducible first|exact aD _|apply aA|apply aC))) k1
 replace k2:=cell_later (aE hb1 (by repeat (with_reducible first|exact aD _|apply aA|apply aC))) k2
 replace k3:=cell_later (aE hb1 (by repeat (with_reducible first|exact aD _|apply aA|apply aC))) k3
 replace k4:=cell_later (aE hb1 (by repeat (with_reducible first|exact aD _|apply aA|apply aC))) k4
 replace k5:=cell_later (aE hb1 (by repeat (with_reducible first|exact aD _|apply aA|apply aC))) k5
 replace k6:=cell_later (aE hb1 (by repeat (with_reducible first|exact aD _|apply aA|apply aC))) k6
 replace k7:=cell_later (aE hb1 (by repeat (with_reducible first|exact aD _|apply aA|apply aC))) k7
 replace k8:=cell_later (aE hb1 (by repeat (with_reducible first|exact aD _|apply aA|apply aC))) k8
 replace k9:=cell_later (aE hb1 (by repeat (with_reducible first|exact aD _|apply aA|apply aC))) k9
 replace k10:=cell_later (aE hb1 (by repeat (with_reducible first|exact aD _|apply aA|apply aC))) k10
 replace z0:=World.block_lt_of_cell? _ _ k0
 replace z1:=World.block_lt_of_cell? _ _ k2
 replace z2:=World.block_lt_of_cell? _ _ k4
 replace z3:=World.block_lt_of_cell? _ _ k8
 simp only[]at z0 z1 z2 z3
 clear hb1
 rw[es]
 go_wp2
 obtain⟨w9,hw0⟩:∃ x:World,x=((((w5.setCell ⟨w.heap.size+1,0,none⟩ (.int .i64 (hi q))).setCell ⟨w.heap.size+1,1,none⟩ (.int .u64 (lo q))).setCell ⟨w.heap.size+1,0,none⟩ (.int .i64 (hi q))).setCell ⟨w.heap.size+1,1,none⟩ (.int .u64 (lo q))):=⟨_,rfl⟩
 have new_k0:w9.cell? ⟨w.heap.size,0,none⟩=some (.int .i64 (hi (a))):=by rw[hw0];exact(aB (by omega) (aB (by omega) (aB (by omega) (aB (by omega) k0))))
 have new_k1:w9.cell? ⟨w.heap.size,1,none⟩=some (.int .u64 (lo (a))):=by rw[hw0];exact(aB (by omega) (aB (by omega) (aB (by omega) (aB (by omega) k1))))
 have new_k2:w9.cell? ⟨w.heap.size+1,0,none⟩=some (.int .i64 (hi q)):=by rw[hw0];exact(aB (by omega) (aX (aB (by omega) (aX k2))))
 have new_k3:w9.cell? ⟨w.heap.size+1,1,none⟩=some (.int .u64 (lo q)):=by rw[hw0];exact(aX (aB (by omega) (aX (aB (by omega) k3))))
 have new_k4:w9.cell? ⟨w1.heap.size,0,none⟩=some (.bool false):=by rw[hw0];exact(aB (by omega) (aB (by omega) (aB (by omega) (aB (by omega) k4))))
 have new_k5:w9.cell? ⟨w1.heap.size,1,none⟩=some (.int .u64 (d0 (cC a))):=by rw[hw0];exact(aB (by omega) (aB (by omega) (aB (by omega) (aB (by omega) k5))))
 have new_k6:w9.cell? ⟨w1.heap.size,2,none⟩=some (.int .u64 (d1 (cC a))):=by rw[hw0];exact(aB (by omega) (aB (by omega) (aB (by omega) (aB (by omega) k6))))
 have new_k7:w9.cell? ⟨w1.heap.size,3,none⟩=some (.int .u64 0):=by rw[hw0];exact(aB (by omega) (aB (by omega) (aB (by omega) (aB (by omega) k7))))
 have new_k8:w9.cell? ⟨w3.heap.size,0,none⟩=some (.int .u64 (d0 (cC a / d))):=by rw[hw0];exact(aB (by omega) (aB (by omega) (aB (by omega) (aB (by omega) k8))))
 have new_k9:w9.cell? ⟨w3.heap.size,1,none⟩=some (.int .u64 (d1 (cC a / d))):=by rw[hw0];exact(aB (by omega) (aB (by omega) (aB (by omega) (aB (by omega) k9))))
 have new_k10:w9.cell? ⟨w3.heap.size,2,none⟩=some (.int .u64 0):=by rw[hw0];exact(aB (by omega) (aB (by omega) (aB (by omega) (aB (by omega) k10))))
 replace f1_0:w9.frozen? ⟨w.heap.size+1,0,none⟩=false:=by rw[hw0];(repeat rw[World.frozen?_setCell]);exact f1_0
 replace f1_1:w9.frozen? ⟨w.heap.size+1,1,none⟩=false:=by rw[hw0];(repeat rw[World.frozen?_setCell]);exact f1_1
 replace hB:Below w.heap.size w w9:=by rw[hw0];repeat (with_reducible first|exact hB|refine bO _ (by omega) ?_)
 clear k0 k1 k2 k3 k4 k5 k6 k7 k8 k9 k10
 have k0:=new_k0;clear new_k0
 have k1:=new_k1;clear new_k1
 have k2:=new_k2;clear new_k2
 have k3:=new_k3;clear new_k3
 have k4:=new_k4;clear new_k4
 have k5:=new_k5;clear new_k5
 have k6:=new_k6;clear new_k6
 have k7:=new_k7;clear new_k7
 have k8:=new_k8;clear new_k8
 have k9:=new_k9;clear new_k9
 have k10:=new_k10;clear new_k10
 replace z0:w.heap.size<w9.heap.size:=World.block_lt_of_cell? _ _ k0
 replace z1:w.heap.size+1<w9.heap.size:=World.block_lt_of_cell? _ _ k2
 replace z2:w1.heap.size<w9.heap.size:=World.block_lt_of_cell? _ _ k4
 replace z3:w3.heap.size<w9.heap.size:=World.block_lt_of_cell? _ _ k8
 rw[←hw0]
 clear hw0
 exact bodyPost_ret (v := .tuple #[.agg #[.int .i64 (hi (q)),.int .u64 (lo (q))],.int .i64 r,.int .i64 0]) (by simp [results,Try.results57,go_sem, *]) rfl ⟨rfl,by repeat (with_reducible first|exact hB|refine bO _ (by omega) ?_|apply aA|apply aC)⟩
set_option maxHeartbeats 800000 in
theorem aIY (a d q r:Int) (ha:kH a) (hd:0<d) (hd':d≤9223372036854775807) (hn:a<0) (hz:cC a % d=0) (hq0:q=a / d) (hr0:r=a % d) (w:World):Calls Try.prog 57 #[.agg #[.int .i64 (hi (a)),.int .u64 (lo (a))],.int .i64 d] w fun e w'=>e = .returned (.tuple #[.agg #[.int .i64 (hi (q)),.int .u64 (lo (q))],.int .i64 r,.int .i64 0])∧Below w.heap.size w w':=by
 have l1:dX (d0 (cC a)):=by unfold dX d0;omega
 have l2:dX (d1 (cC a)):=by unfold dX d1;omega
 have hmb:cC a<340282366920938463463374607431768211456:=by unfold cC;unfold kH at ha;split<;>omega
 obtain⟨q0,q1,q2⟩:=uQ (cC a) d (kP a) hmb hd
 have c1:IntKind.u64.wrap d=d:=by rw[IntKind.wrap_u64];omega
 have r0:=Int.emod_nonneg (cC a) (show d≠0 by omega)
 have r1:=Int.emod_lt_of_pos (cC a) hd
 have m0:0≤cC a / d:=Int.ediv_nonneg (kP a) (by omega)
 have m1:cC a / d≤cC a:=Int.ediv_le_self _ (kP a)
 have hs:decide (a<0)=true:=decide_eq_true hn
 have hma:cC a = -a:=if_pos hn
 have ha2 : -170141183460469231731687303715884105728≤a:=ha.1
 have hf:kT true (cC a / d):=aCS _ _ m0 (by unfold kH sgn;rw[if_pos rfl];omega)
 have nf:=aIb (cC a) d hd hz
 have es:sgn true (cC a / d)=q:=by rw[hq0];show -(cC a / d)=a / d;rw[←nf.1,hma,Int.neg_neg]
 have er:r=0:=by rw[hr0,←nf.2,hma,Int.neg_neg]
 subst er
 rw[hz]at q2
 have nd:¬d<1:=by omega
 clear hma hmb m0 m1 hq0 hr0 ha2 nf hz r0 r1
 go_enter Try.func57,Try.ntmps57
 go_wp2_with fail
 obtain⟨w0,hw0⟩:∃ x:World,x=((w.alloc (.cells #[.int .i64 (hi (a)),.int .u64 (lo (a))] 53)).alloc (.cells #[.int .i64 0,.int .u64 0] 53)):=⟨_,rfl⟩
 have k0:w0.cell? ⟨w.heap.size,0,none⟩=some (.int .i64 (hi (a))):=by rw[hw0];repeat (first|(refine aS ?_ rfl;(simp;done))|refine aR ?_)
 have k1:w0.cell? ⟨w.heap.size,1,none⟩=some (.int .u64 (lo (a))):=by rw[hw0];repeat (first|(refine aS ?_ rfl;(simp;done))|refine aR ?_)
 have k2:w0.cell? ⟨w.heap.size+1,0,none⟩=some (.int .i64 0):=by rw[hw0];repeat (first|(refine aS ?_ rfl;(simp;done))|refine aR ?_)
 have k3:w0.cell? ⟨w.heap.size+1,1,none⟩=some (.int .u64 0):=by rw[hw0];repeat (first|(refine aS ?_ rfl;(simp;done))|refine aR ?_)
 have z0:w.heap.size<w0.heap.size:=World.block_lt_of_cell? _ _ k0
 have z1:w.heap.size+1<w0.heap.size:=World.block_lt_of_cell? _ _ k2
 have hB:Below w.heap.size w w0:=by rw[hw0];repeat (with_reducible first|exact aD _|apply aA)
 have f1_0:w0.frozen? ⟨w.heap.size+1,0,none⟩=false:=by rw[hw0];repeat (first|(refine bG ?_;(simp;done))|(refine bH (by first|(simp;done)|(simp;omega)) ?_))
 have f1_1:w0.frozen? ⟨w.heap.size+1,1,none⟩=false:=by rw[hw0];repeat (first|(refine bG ?_;(simp;done))|(refine bH (by first|(simp;done)|(simp;omega)) ?_))
 rw[←hw0]
 clear hw0
 refine(tG a ha _).mono ?_
 rintro e w1 ⟨rfl,hb1⟩
 replace f1_0:=aL (aE hb1 (by repeat (with_reducible first|exact aD _|apply aA|apply aC))) k2 f1_0
 replace f1_1:=aL (aE hb1 (by repeat (with_reducible first|exact aD _|apply aA|apply aC))) k3 f1_1
 replace hB:=aE hb1 (by repeat (with_reducible first|exact hB|apply aA|apply aC))
 replace k0:=cell_later (aE hb1 (by repeat (with_reducible first|exact aD _|apply aA|apply aC))) k0
 replace k1:=cell_later (aE hb1 (by repeat (with_reducible first|exact aD _|apply aA|apply aC))) k1
 replace k2:=cell_later (aE hb1 (by repeat (with_reducible first|exact aD _|apply aA|apply aC))) k2
 replace k3:=cell_later (aE hb1 (by repeat (with_reducible first|exact aD _|apply aA|apply aC))) k3
 replace z0:=World.block_lt_of_cell? _ _ k0
 replace z1:=World.block_lt_of_cell? _ _ k2
 simp only[]at z0 z1
 clear hb1
 rw[hs]
 go_wp2_with fail
 obtain⟨w2,hw0⟩:∃ x:World,x=(w1.alloc (.cells #[.bool true,.int .u64 (d0 (cC a)),.int .u64 (d1 (cC a)),.int .u64 0] 95)):=⟨_,rfl⟩
 replace f1_0:w2.frozen? ⟨w.heap.size+1,0,none⟩=false:=by rw[hw0];exact aL (by repeat (with_reducible first|exact aD _|apply aA|apply aC)) k2 f1_0
 replace f1_1:w2.frozen? ⟨w.heap.size+1,1,none⟩=false:=by rw[hw0];exact aL (by repeat (with_reducible first|exact aD _|apply aA|apply aC)) k3 f1_1
 replace k0:w2.cell? ⟨w.heap.size,0,none⟩=some (.int .i64 (hi (a))):=by rw[hw0];exact cell_later (by repeat (with_reducible first|exact aD _|apply aA|apply aC)) k0
 replace k1:w2.cell? ⟨w.heap.size,1,none⟩=some (.int .u64 (lo (a))):=by rw[hw0];exact cell_later (by repeat (with_reducible first|exact aD _|apply aA|apply aC)) k1
 replace k2:w2.cell? ⟨w.heap.size+1,0,none⟩=some (.int .i64 0):=by rw[hw0];exact cell_later (by repeat (with_reducible first|exact aD _|apply aA|apply aC)) k2
 replace k3:w2.cell? ⟨w.heap.size+1,1,none⟩=some (.int .u64 0):=by rw[hw0];exact cell_later (by repeat (with_reducible first|exact aD _|apply aA|apply aC)) k3
 have k4:w2.cell? ⟨w1.heap.size,0,none⟩=some (.bool true):=by rw[hw0];repeat (first|(refine aS ?_ rfl;(simp;done))|refine aR ?_)
 have k5:w2.cell? ⟨w1.heap.size,1,none⟩=some (.int .u64 (d0 (cC a))):=by rw[hw0];repeat (first|(refine aS ?_ rfl;(simp;done))|refine aR ?_)
 have k6:w2.cell? ⟨w1.heap.size,2,none⟩=some (.int .u64 (d1 (cC a))):=by rw[hw0];repeat (first|(refine aS ?_ rfl;(simp;done))|refine aR ?_)
 have k7:w2.cell? ⟨w1.heap.size,3,none⟩=some (.int .u64 0):=by rw[hw0];repeat (first|(refine aS ?_ rfl;(simp;done))|refine aR ?_)
 have z0:w.heap.size<w2.heap.size:=World.block_lt_of_cell? _ _ k0
 have z1:w.heap.size+1<w2.heap.size:=World.block_lt_of_cell? _ _ k2
 have z2:w1.heap.size<w2.heap.size:=World.block_lt_of_cell? _ _ k4
 replace hB:Below w.heap.size w w2:=by rw[hw0];repeat (with_reducible first|exact hB|apply aA)
 rw[←hw0]
 clear hw0
 refine(mQ _ _ d l1 l2 ⟨by omega,by omega⟩ _).mono ?_
 rintro e w3 ⟨rfl,hb1⟩
 replace f1_0:=aL (aE hb1 (by repeat (with_reducible first|exact aD _|apply aA|apply aC))) k2 f1_0
 replace f1_1:=aL (aE hb1 (by repeat (with_reducible first|exact aD _|apply aA|apply aC))) k3 f1_1
 replace hB:=aE hb1 (by repeat (with_reducible first|exact hB|apply aA|apply aC))
 replace k0:=cell_later (aE hb1 (by repeat (with_reducible first|exact aD _|apply aA|apply aC))) k0
 replace k1:=cell_later (aE hb1 (by repeat (with_reducible first|exact aD _|apply aA|apply aC))) k1
 replace k2:=cell_later (aE hb1 (by repeat (with_reducible first|exact aD _|apply aA|apply aC))) k2
 replace k3:=cell_later (aE hb1 (by repeat (with_reducible first|exact aD _|apply aA|apply aC))) k3
 replace k4:=cell_later (aE hb1 (by repeat (with_reducible first|exact aD _|apply aA|apply aC))) k4
 replace k5:=cell_later (aE hb1 (by repeat (with_reducible first|exact aD _|apply aA|apply aC))) k5
 replace k6:=cell_later (aE hb1 (by repeat (with_reducible first|exact aD _|apply aA|apply aC))) k6
 replace k7:=cell_later (aE hb1 (by repeat (with_reducible first|exact aD _|apply aA|apply aC))) k7
 replace z0:=World.block_lt_of_cell? _ _ k0
 replace z1:=World.block_lt_of_cell? _ _ k2
 replace z2:=World.block_lt_of_cell? _ _ k4
 simp only[]at z0 z1 z2
 clear hb1
 rw[q0,q1,q2]
 go_wp2_with fail
 obtain⟨w4,hw0⟩:∃ x:World,x=(w3.alloc (.cells #[.int .u64 (d0 (cC a / d)),.int .u64 (d1 (cC a / d)),.int .u64 0] 93)):=⟨_,rfl⟩
 replace f1_0:w4.frozen? ⟨w.heap.size+1,0,none⟩=false:=by rw[hw0];exact aL (by repeat (with_reducible first|exact aD _|apply aA|apply aC)) k2 f1_0
 replace f1_1:w4.frozen? ⟨w.heap.size+1,1,none⟩=false:=by rw[hw0];exact aL (by repeat (with_reducible first|exact aD _|apply aA|apply aC)) k3 f1_1
 replace k0:w4.cell? ⟨w.heap.size,0,none⟩=some (.int .i64 (hi (a))):=by rw[hw0];exact cell_later (by repeat (with_reducible first|exact aD _|apply aA|apply aC)) k0
 replace k1:w4.cell? ⟨w.heap.size,1,none⟩=some (.int .u64 (lo (a))):=by rw[hw0];exact cell_later (by repeat (with_reducible first|exact aD _|apply aA|apply aC)) k1
 replace k2:w4.cell? ⟨w.heap.size+1,0,none⟩=some (.int .i64 0):=by rw[hw0];exact cell_later (by repeat (with_reducible first|exact aD _|apply aA|apply aC)) k2
 replace k3:w4.cell? ⟨w.heap.size+1,1,none⟩=some (.int .u64 0):=by rw[hw0];exact cell_later (by repeat (with_reducible first|exact aD _|apply aA|apply aC)) k3
 replace k4:w4.cell? ⟨w1.heap.size,0,none⟩=some (.bool true):=by rw[hw0];exact cell_later (by repeat (with_reducible first|exact aD _|apply aA|apply aC)) k4
 replace k5:w4.cell? ⟨w1.heap.size,1,none⟩=some (.int .u64 (d0 (cC a))):=by rw[hw0];exact cell_later (by repeat (with_reducible first|exact aD _|apply aA|apply aC)) k5
 replace k6:w4.cell? ⟨w1.heap.size,2,none⟩=some (.int .u64 (d1 (cC a))):=by rw[hw0];exact cell_later (by repeat (with_reducible first|exact aD _|apply aA|apply aC)) k6
 replace k7:w4.cell? ⟨w1.heap.size,3,none⟩=some (.int .u64 0):=by rw[hw0];exact cell_later (by repeat (with_reducible first|exact aD _|apply aA|apply aC)) k7
 have k8:w4.cell? ⟨w3.heap.size,0,none⟩=some (.int .u64 (d0 (cC a / d))):=by rw[hw0];repeat (first|(refine aS ?_ rfl;(simp;done))|refine aR ?_)
 have k9:w4.cell? ⟨w3.heap.size,1,none⟩=some (.int .u64 (d1 (cC a / d))):=by rw[hw0];repeat (first|(refine aS ?_ rfl;(simp;done))|refine aR ?_)
 have k10:w4.cell? ⟨w3.heap.size,2,none⟩=some (.int .u64 0):=by rw[hw0];repeat (first|(refine aS ?_ rfl;(simp;done))|refine aR ?_)
 have z0:w.heap.size<w4.heap.size:=World.block_lt_of_cell? _ _ k0
 have z1:w.heap.size+1<w4.heap.size:=World.block_lt_of_cell? _ _ k2
 have z2:w1.heap.size<w4.heap.size:=World.block_lt_of_cell? _ _ k4
 have z3:w3.heap.size<w4.heap.size:=World.block_lt_of_cell? _ _ k8
 replace hB:Below w.heap.size w w4:=by rw[hw0];repeat (with_reducible first|exact hB|apply aA)
 rw[←hw0]
 clear hw0
 refine(nJ _ _ hf _).mono ?_
 rintro e w5 ⟨rfl,hb1⟩
 replace f1_0:=aL (aE hb1 (by repeat (with_reducible first|exact aD _|apply aA|apply aC))) k2 f1_0
 replace f1_1:=aL (aE hb1 (by repeat (with_reducible first|exact aD _|apply aA|apply aC))) k3 f1_1
 replace hB:=aE hb1 (by repeat (with_reducible first|exact hB|apply aA|apply aC))
 replace k0:=cell_later (aE hb1 (by repeat (with_reducible first|exact aD _|apply aA|apply aC))) k0
 replace k1:=cell_later (aE hb1 (by repeat (with_reducible first|exact aD _|apply aA|apply aC))) k1
 replace k2:=cell_later (aE hb1 (by repeat (with_reducible first|exact aD _|apply aA|apply aC))) k2
 replace k3:=cell_later (aE hb1 (by repeat (with_reducible first|exact aD _|apply aA|apply aC))) k3
 replace k4:=cell_later (aE hb1 (by repeat (with_reducible first|exact aD _|apply aA|apply aC))) k4
 replace k5:=cell_later (aE hb1 (by repeat (with_reducible first|exact aD _|apply aA|apply aC))) k5
 replace k6:=cell_later (aE hb1 (by repeat (with_reducible first|exact aD _|apply aA|apply aC))) k6
 replace k7:=cell_later (aE hb1 (by repeat (with_reducible first|exact aD _|apply aA|apply aC))) k7
 replace k8:=cell_later (aE hb1 (by repeat (with_reducible first|exact aD _|apply aA|apply aC))) k8
 replace k9:=cell_later (aE hb1 (by repeat (with_reducible first|exact aD _|apply aA|apply aC))) k9
 replace k10:=cell_later (aE hb1 (by repeat (with_reducible first|exact aD _|apply aA|apply aC))) k10
 replace z0:=World.block_lt_of_cell? _ _ k0
 replace z1:=World.block_lt_of_cell? _ _ k2
 replace z2:=World.block_lt_of_cell? _ _ k4
 replace z3:=World.block_lt_of_cell? _ _ k8
 simp only[]at z0 z1 z2 z3
 clear hb1
 rw[es]
 go_wp2
 obtain⟨w9,hw0⟩:∃ x:World,x=((((w5.setCell ⟨w.heap.size+1,0,none⟩ (.int .i64 (hi q))).setCell ⟨w.heap.size+1,1,none⟩ (.int .u64 (lo q))).setCell ⟨w.heap.size+1,0,none⟩ (.int .i64 (hi q))).setCell ⟨w.heap.size+1,1,none⟩ (.int .u64 (lo q))):=⟨_,rfl⟩
 have new_k0:w9.cell? ⟨w.heap.size,0,none⟩=some (.int .i64 (hi (a))):=by rw[hw0];exact(aB (by omega) (aB (by omega) (aB (by omega) (aB (by omega) k0))))
 have new_k1:w9.cell? ⟨w.heap.size,1,none⟩=some (.int .u64 (lo (a))):=by rw[hw0];exact(aB (by omega) (aB (by omega) (aB (by omega) (aB (by omega) k1))))
 have new_k2:w9.cell? ⟨w.heap.size+1,0,none⟩=some (.int .i64 (hi q)):=by rw[hw0];exact(aB (by omega) (aX (aB (by omega) (aX k2))))
 have new_k3:w9.cell? ⟨w.heap.size+1,1,none⟩=some (.int .u64 (lo q)):=by rw[hw0];exact(aX (aB (by omega) (aX (aB (by omega) k3))))
 have new_k4:w9.cell? ⟨w1.heap.size,0,none⟩=some (.bool true):=by rw[hw0];exact(aB (by omega) (aB (by omega) (aB (by omega) (aB (by omega) k4))))
 have new_k5:w9.cell? ⟨w1.heap.size,1,none⟩=some (.int .u64 (d0 (cC a))):=by rw[hw0];exact(aB (by omega) (aB (by omega) (aB (by omega) (aB (by omega) k5))))
 have new_k6:w9.cell? ⟨w1.heap.size,2,none⟩=some (.int .u64 (d1 (cC a))):=by rw[hw0];exact(aB (by omega) (aB (by omega) (aB (by omega) (aB (by omega) k6))))
 have new_k7:w9.cell? ⟨w1.heap.size,3,none⟩=some (.int .u64 0):=by rw[hw0];exact(aB (by omega) (aB (by omega) (aB (by omega) (aB (by omega) k7))))
 have new_k8:w9.cell? ⟨w3.heap.size,0,none⟩=some (.int .u64 (d0 (cC a / d))):=by rw[hw0];exact(aB (by omega) (aB (by omega) (aB (by omega) (aB (by omega) k8))))
 have new_k9:w9.cell? ⟨w3.heap.size,1,none⟩=some (.int .u64 (d1 (cC a / d))):=by rw[hw0];exact(aB (by omega) (aB (by omega) (aB (by omega) (aB (by omega) k9))))
 have new_k10:w9.cell? ⟨w3.heap.size,2,none⟩=some (.int .u64 0):=by rw[hw0];exact(aB (by omega) (aB (by omega) (aB (by omega) (aB (by omega) k10))))
 replace f1_0:w9.frozen? ⟨w.heap.size+1,0,none⟩=false:=by rw[hw0];(repeat rw[World.frozen?_setCell]);exact f1_0
 replace f1_1:w9.frozen? ⟨w.heap.size+1,1,none⟩=false:=by rw[hw0];(repeat rw[World.frozen?_setCell]);exact f1_1
 replace hB:Below w.heap.size w w9:=by rw[hw0];repeat (with_reducible first|exact hB|refine bO _ (by omega) ?_)
 clear k0 k1 k2 k3 k4 k5 k6 k7 k8 k9 k10
 have k0:=new_k0;clear new_k0
 have k1:=new_k1;clear new_k1
 have k2:=new_k2;clear new_k2
 have k3:=new_k3;clear new_k3
 have k4:=new_k4;clear new_k4
 have k5:=new_k5;clear new_k5
 have k6:=new_k6;clear new_k6
 have k7:=new_k7;clear new_k7
 have k8:=new_k8;clear new_k8
 have k9:=new_k9;clear new_k9
 have k10:=new_k10;clear new_k10
 replace z0:w.heap.size<w9.heap.size:=World.block_lt_of_cell? _ _ k0
 replace z1:w.heap.size+1<w9.heap.size:=World.block_lt_of_cell? _ _ k2
 replace z2:w1.heap.size<w9.heap.size:=World.block_lt_of_cell? _ _ k4
 replace z3:w3.heap.size<w9.heap.size:=World.block_lt_of_cell? _ _ k8
 rw[←hw0]
 clear hw0
 exact bodyPost_ret (v := .tuple #[.agg #[.int .i64 (hi (q)),.int .u64 (lo (q))],.int .i64 0,.int .i64 0]) (by simp [results,Try.results57,go_sem, *]) rfl ⟨rfl,by repeat (with_reducible first|exact hB|refine bO _ (by omega) ?_|apply aA|apply aC)⟩
set_option maxHeartbeats 800000 in
theorem aE0 (a d q r:Int) (ha:kH a) (hd:0<d) (hd':d≤9223372036854775807) (hn:a<0) (hz:0<cC a % d) (hq0:q=a / d) (hr0:r=a % d) (w:World):Calls Try.prog 57 #[.agg #[.int .i64 (hi (a)),.int .u64 (lo (a))],.int .i64 d] w fun e w'=>e = .returned (.tuple #[.agg #[.int .i64 (hi (q)),.int .u64 (lo (q))],.int .i64 r,.int .i64 0])∧Below w.heap.size w w':=by
 have l1:dX (d0 (cC a)):=by unfold dX d0;omega
 have l2:dX (d1 (cC a)):=by unfold dX d1;omega
 have hmb:cC a<340282366920938463463374607431768211456:=by unfold cC;unfold kH at ha;split<;>omega
 obtain⟨q0,q1,q2⟩:=uQ (cC a) d (kP a) hmb hd
 have c1:IntKind.u64.wrap d=d:=by rw[IntKind.wrap_u64];omega
 have r0:=Int.emod_nonneg (cC a) (show d≠0 by omega)
 have r1:=Int.emod_lt_of_pos (cC a) hd
 have m0:0≤cC a / d:=Int.ediv_nonneg (kP a) (by omega)
 have m1:cC a / d≤cC a:=Int.ediv_le_self _ (kP a)
 have hs:decide (a<0)=true:=decide_eq_true hn
 have hma:cC a = -a:=if_pos hn
 have ha2 : -170141183460469231731687303715884105728≤a:=ha.1
 have hf:kT true (cC a / d):=aCS _ _ m0 (by unfold kH sgn;rw[if_pos rfl];omega)
 have nf:=aEL (cC a) d hd hz
 have es:sgn true (cC a / d) = -(cC a / d):=rfl
 have eq2 : -(cC a / d)-1=q:=by rw[hq0,←nf.1,hma,Int.neg_neg]
 have er:d-cC a % d=r:=by rw[hr0,←nf.2,hma,Int.neg_neg]
 have hq:kH (-(cC a / d)):=by unfold kH;omega
 have hone:kH 1:=by unfold kH;omega
 have kd:cC a / d<cC a:=by
  rcases Int.lt_or_le 1 d with g|g
  ·have:=Int.mul_le_mul_of_nonneg_left (show 2≤d by omega) (kP a)
   exact(Int.ediv_lt_iff_lt_mul hd).2 (by omega)
  ·have:d=1:=by omega
   subst this;simp at hz
 have hr:kH (-(cC a / d)-1):=by unfold kH;omega
 have c3:IntKind.u64.wrap (d-cC a % d)=r:=by rw[er,IntKind.wrap_u64];omega
 have nd:¬d<1:=by omega
 have c2:IntKind.i64.wrap r=r:=IntWalk.i64_in _ (by omega)
 clear hma hmb m0 m1 hq0 hr0 ha2 nf kd er
 go_enter Try.func57,Try.ntmps57
 go_wp2_with fail
 obtain⟨w0,hw0⟩:∃ x:World,x=((w.alloc (.cells #[.int .i64 (hi (a)),.int .u64 (lo (a))] 53)).alloc (.cells #[.int .i64 0,.int .u64 0] 53)):=⟨_,rfl⟩
 have k0:w0.cell? ⟨w.heap.size,0,none⟩=some (.int .i64 (hi (a))):=by rw[hw0];repeat (first|(refine aS ?_ rfl;(simp;done))|refine aR ?_)
 have k1:w0.cell? ⟨w.heap.size,1,none⟩=some (.int .u64 (lo (a))):=by rw[hw0];repeat (first|(refine aS ?_ rfl;(simp;done))|refine aR ?_)
 have k2:w0.cell? ⟨w.heap.size+1,0,none⟩=some (.int .i64 0):=by rw[hw0];repeat (first|(refine aS ?_ rfl;(simp;done))|refine aR ?_)
 have k3:w0.cell? ⟨w.heap.size+1,1,none⟩=some (.int .u64 0):=by rw[hw0];repeat (first|(refine aS ?_ rfl;(simp;done))|refine aR ?_)
 have z0:w.heap.size<w0.heap.size:=World.block_lt_of_cell? _ _ k0
 have z1:w.heap.size+1<w0.heap.size:=World.block_lt_of_cell? _ _ k2
 have hB:Below w.heap.size w w0:=by rw[hw0];repeat (with_reducible first|exact aD _|apply aA)
 have f1_0:w0.frozen? ⟨w.heap.size+1,0,none⟩=false:=by rw[hw0];repeat (first|(refine bG ?_;(simp;done))|(refine bH (by first|(simp;done)|(simp;omega)) ?_))
 have f1_1:w0.frozen? ⟨w.heap.size+1,1,none⟩=false:=by rw[hw0];repeat (first|(refine bG ?_;(simp;done))|(refine bH (by first|(simp;done)|(simp;omega)) ?_))
 rw[←hw0]
 clear hw0
 refine(tG a ha _).mono ?_
 rintro e w1 ⟨rfl,hb1⟩
 replace f1_0:=aL (aE hb1 (by repeat (with_reducible first|exact aD _|apply aA|apply aC))) k2 f1_0
 replace f1_1:=aL (aE hb1 (by repeat (with_reducible first|exact aD _|apply aA|apply aC))) k3 f1_1
 replace hB:=aE hb1 (by repeat (with_reducible first|exact hB|apply aA|apply aC))
 replace k0:=cell_later (aE hb1 (by repeat (with_reducible first|exact aD _|apply aA|apply aC))) k0
 replace k1:=cell_later (aE hb1 (by repeat (with_reducible first|exact aD _|apply aA|apply aC))) k1
 replace k2:=cell_later (aE hb1 (by repeat (with_reducible first|exact aD _|apply aA|apply aC))) k2
 replace k3:=cell_later (aE hb1 (by repeat (with_reducible first|exact aD _|apply aA|apply aC))) k3
 replace z0:=World.block_lt_of_cell? _ _ k0
 replace z1:=World.block_lt_of_cell? _ _ k2
 simp only[]at z0 z1
 clear hb1
 rw[hs]
 go_wp2_with fail
 obtain⟨w2,hw0⟩:∃ x:World,x=(w1.alloc (.cells #[.bool true,.int .u64 (d0 (cC a)),.int .u64 (d1 (cC a)),.int .u64 0] 95)):=⟨_,rfl⟩
 replace f1_0:w2.frozen? ⟨w.heap.size+1,0,none⟩=false:=by rw[hw0];exact aL (by repeat (with_reducible first|exact aD _|apply aA|apply aC)) k2 f1_0
 replace f1_1:w2.frozen? ⟨w.heap.size+1,1,none⟩=false:=by rw[hw0];exact aL (by repeat (with_reducible first|exact aD _|apply aA|apply aC)) k3 f1_1
 replace k0:w2.cell? ⟨w.heap.size,0,none⟩=some (.int .i64 (hi (a))):=by rw[hw0];exact cell_later (by repeat (with_reducible first|exact aD _|apply aA|apply aC)) k0
 replace k1:w2.cell? ⟨w.heap.size,1,none⟩=some (.int .u64 (lo (a))):=by rw[hw0];exact cell_later (by repeat (with_reducible first|exact aD _|apply aA|apply aC)) k1
 replace k2:w2.cell? ⟨w.heap.size+1,0,none⟩=some (.int .i64 0):=by rw[hw0];exact cell_later (by repeat (with_reducible first|exact aD _|apply aA|apply aC)) k2
 replace k3:w2.cell? ⟨w.heap.size+1,1,none⟩=some (.int .u64 0):=by rw[hw0];exact cell_later (by repeat (with_reducible first|exact aD _|apply aA|apply aC)) k3
 have k4:w2.cell? ⟨w1.heap.size,0,none⟩=some (.bool true):=by rw[hw0];repeat (first|(refine aS ?_ rfl;(simp;done))|refine aR ?_)
 have k5:w2.cell? ⟨w1.heap.size,1,none⟩=some (.int .u64 (d0 (cC a))):=by rw[hw0];repeat (first|(refine aS ?_ rfl;(simp;done))|refine aR ?_)
 have k6:w2.cell? ⟨w1.heap.size,2,none⟩=some (.int .u64 (d1 (cC a))):=by rw[hw0];repeat (first|(refine aS ?_ rfl;(simp;done))|refine aR ?_)
 have k7:w2.cell? ⟨w1.heap.size,3,none⟩=some (.int .u64 0):=by rw[hw0];repeat (first|(refine aS ?_ rfl;(simp;done))|refine aR ?_)
 have z0:w.heap.size<w2.heap.size:=World.block_lt_of_cell? _ _ k0
 have z1:w.heap.size+1<w2.heap.size:=World.block_lt_of_cell? _ _ k2
 have z2:w1.heap.size<w2.heap.size:=World.block_lt_of_cell? _ _ k4
 replace hB:Below w.heap.size w w2:=by rw[hw0];repeat (with_reducible first|exact hB|apply aA)
 rw[←hw0]
 clear hw0
 refine(mQ _ _ d l1 l2 ⟨by omega,by omega⟩ _).mono ?_
 rintro e w3 ⟨rfl,hb1⟩
 replace f1_0:=aL (aE hb1 (by repeat (with_reducible first|exact aD _|apply aA|apply aC))) k2 f1_0
 replace f1_1:=aL (aE hb1 (by repeat (with_reducible first|exact aD _|apply aA|apply aC))) k3 f1_1
 replace hB:=aE hb1 (by repeat (with_reducible first|exact hB|apply aA|apply aC))
 replace k0:=cell_later (aE hb1 (by repeat (with_reducible first|exact aD _|apply aA|apply aC))) k0
 replace k1:=cell_later (aE hb1 (by repeat (with_reducible first|exact aD _|apply aA|apply aC))) k1
 replace k2:=cell_later (aE hb1 (by repeat (with_reducible first|exact aD _|apply aA|apply aC))) k2
 replace k3:=cell_later (aE hb1 (by repeat (with_reducible first|exact aD _|apply aA|apply aC))) k3
 replace k4:=cell_later (aE hb1 (by repeat (with_reducible first|exact aD _|apply aA|apply aC))) k4
 replace k5:=cell_later (aE hb1 (by repeat (with_reducible first|exact aD _|apply aA|apply aC))) k5
 replace k6:=cell_later (aE hb1 (by repeat (with_reducible first|exact aD _|apply aA|apply aC))) k6
 replace k7:=cell_later (aE hb1 (by repeat (with_reducible first|exact aD _|apply aA|apply aC))) k7
 replace z0:=World.block_lt_of_cell? _ _ k0
 replace z1:=World.block_lt_of_cell? _ _ k2
 replace z2:=World.block_lt_of_cell? _ _ k4
 simp only[]at z0 z1 z2
 clear hb1
 rw[q0,q1,q2]
 go_wp2_with fail
 obtain⟨w4,hw0⟩:∃ x:World,x=(w3.alloc (.cells #[.int .u64 (d0 (cC a / d)),.int .u64 (d1 (cC a / d)),.int .u64 0] 93)):=⟨_,rfl⟩
 replace f1_0:w4.frozen? ⟨w.heap.size+1,0,none⟩=false:=by rw[hw0];exact aL (by repeat (with_reducible first|exact aD _|apply aA|apply aC)) k2 f1_0
 replace f1_1:w4.frozen? ⟨w.heap.size+1,1,none⟩=false:=by rw[hw0];exact aL (by repeat (with_reducible first|exact aD _|apply aA|apply aC)) k3 f1_1
 replace k0:w4.cell? ⟨w.heap.size,0,none⟩=some (.int .i64 (hi (a))):=by rw[hw0];exact cell_later (by repeat (with_reducible first|exact aD _|apply aA|apply aC)) k0
 replace k1:w4.cell? ⟨w.heap.size,1,none⟩=some (.int .u64 (lo (a))):=by rw[hw0];exact cell_later (by repeat (with_reducible first|exact aD _|apply aA|apply aC)) k1
 replace k2:w4.cell? ⟨w.heap.size+1,0,none⟩=some (.int .i64 0):=by rw[hw0];exact cell_later (by repeat (with_reducible first|exact aD _|apply aA|apply aC)) k2
 replace k3:w4.cell? ⟨w.heap.size+1,1,none⟩=some (.int .u64 0):=by rw[hw0];exact cell_later (by repeat (with_reducible first|exact aD _|apply aA|apply aC)) k3
 replace k4:w4.cell? ⟨w1.heap.size,0,none⟩=some (.bool true):=by rw[hw0];exact cell_later (by repeat (with_reducible first|exact aD _|apply aA|apply aC)) k4
 replace k5:w4.cell? ⟨w1.heap.size,1,none⟩=some (.int .u64 (d0 (cC a))):=by rw[hw0];exact cell_later (by repeat (with_reducible first|exact aD _|apply aA|apply aC)) k5
 replace k6:w4.cell? ⟨w1.heap.size,2,none⟩=some (.int .u64 (d1 (cC a))):=by rw[hw0];exact cell_later (by repeat (with_reducible first|exact aD _|apply aA|apply aC)) k6
 replace k7:w4.cell? ⟨w1.heap.size,3,none⟩=some (.int .u64 0):=by rw[hw0];exact cell_later (by repeat (with_reducible first|exact aD _|apply aA|apply aC)) k7
 have k8:w4.cell? ⟨w3.heap.size,0,none⟩=some (.int .u64 (d0 (cC a / d))):=by rw[hw0];repeat (first|(refine aS ?_ rfl;(simp;done))|refine aR ?_)
 have k9:w4.cell? ⟨w3.heap.size,1,none⟩=some (.int .u64 (d1 (cC a / d))):=by rw[hw0];repeat (first|(refine aS ?_ rfl;(simp;done))|refine aR ?_)
 have k10:w4.cell? ⟨w3.heap.size,2,none⟩=some (.int .u64 0):=by rw[hw0];repeat (first|(refine aS ?_ rfl;(simp;done))|refine aR ?_)
 have z0:w.heap.size<w4.heap.size:=World.block_lt_of_cell? _ _ k0
 have z1:w.heap.size+1<w4.heap.size:=World.block_lt_of_cell? _ _ k2
 have z2:w1.heap.size<w4.heap.size:=World.block_lt_of_cell? _ _ k4
 have z3:w3.heap.size<w4.heap.size:=World.block_lt_of_cell? _ _ k8
 replace hB:Below w.heap.size w w4:=by rw[hw0];repeat (with_reducible first|exact hB|apply aA)
 rw[←hw0]
 clear hw0
 refine(nJ _ _ hf _).mono ?_
 rintro e w5 ⟨rfl,hb1⟩
 replace f1_0:=aL (aE hb1 (by repeat (with_reducible first|exact aD _|apply aA|apply aC))) k2 f1_0
 replace f1_1:=aL (aE hb1 (by repeat (with_reducible first|exact aD _|apply aA|apply aC))) k3 f1_1
 replace hB:=aE hb1 (by repeat (with_reducible first|exact hB|apply aA|apply aC))
 replace k0:=cell_later (aE hb1 (by repeat (with_reducible first|exact aD _|apply aA|apply aC))) k0
 replace k1:=cell_later (aE hb1 (by repeat (with_reducible first|exact aD _|apply aA|apply aC))) k1
 replace k2:=cell_later (aE hb1 (by repeat (with_reducible first|exact aD _|apply aA|apply aC))) k2
 replace k3:=cell_later (aE hb1 (by repeat (with_reducible first|exact aD _|apply aA|apply aC))) k3
 replace k4:=cell_later (aE hb1 (by repeat (with_reducible first|exact aD _|apply aA|apply aC))) k4
 replace k5:=cell_later (aE hb1 (by repeat (with_reducible first|exact aD _|apply aA|apply aC))) k5
 replace k6:=cell_later (aE hb1 (by repeat (with_reducible first|exact aD _|apply aA|apply aC))) k6
 replace k7:=cell_later (aE hb1 (by repeat (with_reducible first|exact aD _|apply aA|apply aC))) k7
 replace k8:=cell_later (aE hb1 (by repeat (with_reducible first|exact aD _|apply aA|apply aC))) k8
 replace k9:=cell_later (aE hb1 (by repeat (with_reducible first|exact aD _|apply aA|apply aC))) k9
 replace k10:=cell_later (aE hb1 (by repeat (with_reducible first|exact aD _|apply aA|apply aC))) k10
 replace z0:=World.block_lt_of_cell? _ _ k0
 replace z1:=World.block_lt_of_cell? _ _ k2
 replace z2:=World.block_lt_of_cell? _ _ k4
 replace z3:=World.block_lt_of_cell? _ _ k8
 simp only[]at z0 z1 z2 z3
 clear hb1
 rw[es]
 go_wp2
 obtain⟨w6,hw0⟩:∃ x:World,x=((w5.setCell ⟨w.heap.size+1,0,none⟩ (.int .i64 (hi (-(cC a / d))))).setCell ⟨w.heap.size+1,1,none⟩ (.int .u64 (lo (-(cC a / d))))):=⟨_,rfl⟩
 have new_k0:w6.cell? ⟨w.heap.size,0,none⟩=some (.int .i64 (hi (a))):=by rw[hw0];exact(aB (by omega) (aB (by omega) k0))
 have new_k1:w6.cell? ⟨w.heap.size,1,none⟩=some (.int .u64 (lo (a))):=by rw[hw0];exact(aB (by omega) (aB (by omega) k1))
 have new_k2:w6.cell? ⟨w.heap.size+1,0,none⟩=some (.int .i64 (hi (-(cC a / d)))):=by rw[hw0];exact(aB (by omega) (aX k2))
 have new_k3:w6.cell? ⟨w.heap.size+1,1,none⟩=some (.int .u64 (lo (-(cC a / d)))):=by rw[hw0];exact(aX (aB (by omega) k3))
 have new_k4:w6.cell? ⟨w1.heap.size,0,none⟩=some (.bool true):=by rw[hw0];exact(aB (by omega) (aB (by omega) k4))
 have new_k5:w6.cell? ⟨w1.heap.size,1,none⟩=some (.int .u64 (d0 (cC a))):=by rw[hw0];exact(aB (by omega) (aB (by omega) k5))
 have new_k6:w6.cell? ⟨w1.heap.size,2,none⟩=some (.int .u64 (d1 (cC a))):=by rw[hw0];exact(aB (by omega) (aB (by omega) k6))
 have new_k7:w6.cell? ⟨w1.heap.size,3,none⟩=some (.int .u64 0):=by rw[hw0];exact(aB (by omega) (aB (by omega) k7))
 have new_k8:w6.cell? ⟨w3.heap.size,0,none⟩=some (.int .u64 (d0 (cC a / d))):=by rw[hw0];exact(aB (by omega) (aB (by omega) k8))
 have new_k9:w6.cell? ⟨w3.heap.size,1,none⟩=some (.int .u64 (d1 (cC a / d))):=by rw[hw0];exact(aB (by omega) (aB (by omega) k9))
 have new_k10:w6.cell? ⟨w3.heap.size,2,none⟩=some (.int .u64 0):=by rw[hw0];exact(aB (by omega) (aB (by omega) k10))
 replace f1_0:w6.frozen? ⟨w.heap.size+1,0,none⟩=false:=by rw[hw0];(repeat rw[World.frozen?_setCell]);exact f1_0
 replace f1_1:w6.frozen? ⟨w.heap.size+1,1,none⟩=false:=by rw[hw0];(repeat rw[World.frozen?_setCell]);exact f1_1
 replace hB:Below w.heap.size w w6:=by rw[hw0];repeat (with_reducible first|exact hB|refine bO _ (by omega) ?_)
 clear k0 k1 k2 k3 k4 k5 k6 k7 k8 k9 k10
 have k0:=new_k0;clear new_k0
 have k1:=new_k1;clear new_k1
 have k2:=new_k2;clear new_k2
 have k3:=new_k3;clear new_k3
 have k4:=new_k4;clear new_k4
 have k5:=new_k5;clear new_k5
 have k6:=new_k6;clear new_k6
 have k7:=new_k7;clear new_k7
 have k8:=new_k8;clear new_k8
 have k9:=new_k9;clear new_k9
 have k10:=new_k10;clear new_k10
 replace z0:w.heap.size<w6.heap.size:=World.block_lt_of_cell? _ _ k0
 replace z1:w.heap.size+1<w6.heap.size:=World.block_lt_of_cell? _ _ k2
 replace z2:w1.heap.size<w6.heap.size:=World.block_lt_of_cell? _ _ k4
 replace z3:w3.heap.size<w6.heap.size:=World.block_lt_of_cell? _ _ k8
 rw[←hw0]
 clear hw0
 go_region_with (first
  |(go_at_call 27;refine(uG 1 ⟨by omega,by omega⟩ _).mono ?_;rintro e w7 ⟨rfl,hb1⟩;replace f1_0:=aL (aE hb1 (by repeat (with_reducible first|exact aD _|apply aA|apply aC))) k2 f1_0;replace f1_1:=aL (aE hb1 (by repeat (with_reducible first|exact aD _|apply aA|apply aC))) k3 f1_1;replace hB:=aE hb1 (by repeat (with_reducible first|exact hB|apply aA|apply aC));replace k0:=cell_later (aE hb1 (by repeat (with_reducible first|exact aD _|apply aA|apply aC))) k0;replace k1:=cell_later (aE hb1 (by repeat (with_reducible first|exact aD _|apply aA|apply aC))) k1;replace k2:=cell_later (aE hb1 (by repeat (with_reducible first|exact aD _|apply aA|apply aC))) k2;replace k3:=cell_later (aE hb1 (by repeat (with_reducible first|exact aD _|apply aA|apply aC))) k3;replace k4:=cell_later (aE hb1 (by repeat (with_reducible first|exact aD _|apply aA|apply aC))) k4;replace k5:=cell_later (aE hb1 (by repeat (with_reducible first|exact aD _|apply aA|apply aC))) k5;replace k6:=cell_later (aE hb1 (by repeat (with_reducible first|exact aD _|apply aA|apply aC))) k6;replace k7:=cell_later (aE hb1 (by repeat (with_reducible first|exact aD _|apply aA|apply aC))) k7;replace k8:=cell_later (aE hb1 (by repeat (with_reducible first|exact aD _|apply aA|apply aC))) k8;replace k9:=cell_later (aE hb1 (by repeat (with_reducible first|exact aD _|apply aA|apply aC))) k9;replace k10:=cell_later (aE hb1 (by repeat (with_reducible first|exact aD _|apply aA|apply aC))) k10;replace z0:=World.block_lt_of_cell? _ _ k0;replace z1:=World.block_lt_of_cell? _ _ k2;replace z2:=World.block_lt_of_cell? _ _ k4;replace z3:=World.block_lt_of_cell? _ _ k8;simp only[]at z0 z1 z2 z3;clear hb1)
  |(go_at_call 82;refine(aQe _ _ hq hone hr _).mono ?_;rintro e w8 ⟨rfl,hb1⟩;replace f1_0:=aL (aE hb1 (by repeat (with_reducible first|exact aD _|apply aA|apply aC))) k2 f1_0;replace f1_1:=aL (aE hb1 (by repeat (with_reducible first|exact aD _|apply aA|apply aC))) k3 f1_1;replace hB:=aE hb1 (by repeat (with_reducible first|exact hB|apply aA|apply aC));replace k0:=cell_later (aE hb1 (by repeat (with_reducible first|exact aD _|apply aA|apply aC))) k0;replace k1:=cell_later (aE hb1 (by repeat (with_reducible first|exact aD _|apply aA|apply aC))) k1;replace k2:=cell_later (aE hb1 (by repeat (with_reducible first|exact aD _|apply aA|apply aC))) k2;replace k3:=cell_later (aE hb1 (by repeat (with_reducible first|exact aD _|apply aA|apply aC))) k3;replace k4:=cell_later (aE hb1 (by repeat (with_reducible first|exact aD _|apply aA|apply aC))) k4;replace k5:=cell_later (aE hb1 (by repeat (with_reducible first|exact aD _|apply aA|apply aC))) k5;replace k6:=cell_later (aE hb1 (by repeat (with_reducible first|exact aD _|apply aA|apply aC))) k6;replace k7:=cell_later (aE hb1 (by repeat (with_reducible first|exact aD _|apply aA|apply aC))) k7;replace k8:=cell_later (aE hb1 (by repeat (with_reducible first|exact aD _|apply aA|apply aC))) k8;replace k9:=cell_later (aE hb1 (by repeat (with_reducible first|exact aD _|apply aA|apply aC))) k9;replace k10:=cell_later (aE hb1 (by repeat (with_reducible first|exact aD _|apply aA|apply aC))) k10;replace z0:=World.block_lt_of_cell? _ _ k0;replace z1:=World.block_lt_of_cell? _ _ k2;replace z2:=World.block_lt_of_cell? _ _ k4;replace z3:=World.block_lt_of_cell? _ _ k8;simp only[]at z0 z1 z2 z3;clear hb1;rw[eq2]))
 all_goals go_wp2
 ·skip
  obtain⟨w9,hw0⟩:∃ x:World,x=((((w8.setCell ⟨w.heap.size+1,0,none⟩ (.int .i64 (hi q))).setCell ⟨w.heap.size+1,1,none⟩ (.int .u64 (lo q))).setCell ⟨w.heap.size+1,0,none⟩ (.int .i64 (hi q))).setCell ⟨w.heap.size+1,1,none⟩ (.int .u64 (lo q))):=⟨_,rfl⟩
  have new_k0:w9.cell? ⟨w.heap.size,0,none⟩=some (.int .i64 (hi (a))):=by rw[hw0];exact(aB (by omega) (aB (by omega) (aB (by omega) (aB (by omega) k0))))
  have new_k1:w9.cell? ⟨w.heap.size,1,none⟩=some (.int .u64 (lo (a))):=by rw[hw0];exact(aB (by omega) (aB (by omega) (aB (by omega) (aB (by omega) k1))))
  have new_k2:w9.cell? ⟨w.heap.size+1,0,none⟩=some (.int .i64 (hi q)):=by rw[hw0];exact(aB (by omega) (aX (aB (by omega) (aX k2))))
  have new_k3:w9.cell? ⟨w.heap.size+1,1,none⟩=some (.int .u64 (lo q)):=by rw[hw0];exact(aX (aB (by omega) (aX (aB (by omega) k3))))
  have new_k4:w9.cell? ⟨w1.heap.size,0,none⟩=some (.bool true):=by rw[hw0];exact(aB (by omega) (aB (by omega) (aB (by omega) (aB (by omega) k4))))
  have new_k5:w9.cell? ⟨w1.heap.size,1,none⟩=some (.int .u64 (d0 (cC a))):=by rw[hw0];exact(aB (by omega) (aB (by omega) (aB (by omega) (aB (by omega) k5))))
  have new_k6:w9.cell? ⟨w1.heap.size,2,none⟩=some (.int .u64 (d1 (cC a))):=by rw[hw0];exact(aB (by omega) (aB (by omega) (aB (by omega) (aB (by omega) k6))))
  have new_k7:w9.cell? ⟨w1.heap.size,3,none⟩=some (.int .u64 0):=by rw[hw0];exact(aB (by omega) (aB (by omega) (aB (by omega) (aB (by omega) k7))))
  have new_k8:w9.cell? ⟨w3.heap.size,0,none⟩=some (.int .u64 (d0 (cC a / d))):=by rw[hw0];exact(aB (by omega) (aB (by omega) (aB (by omega) (aB (by omega) k8))))
  have new_k9:w9.cell? ⟨w3.heap.size,1,none⟩=some (.int .u64 (d1 (cC a / d))):=by rw[hw0];exact(aB (by omega) (aB (by omega) (aB (by omega) (aB (by omega) k9))))
  have new_k10:w9.cell? ⟨w3.heap.size,2,none⟩=some (.int .u64 0):=by rw[hw0];exact(aB (by omega) (aB (by omega) (aB (by omega) (aB (by omega) k10))))
  replace f1_0:w9.frozen? ⟨w.heap.size+1,0,none⟩=false:=by rw[hw0];(repeat rw[World.frozen?_setCell]);exact f1_0
  replace f1_1:w9.frozen? ⟨w.heap.size+1,1,none⟩=false:=by rw[hw0];(repeat rw[World.frozen?_setCell]);exact f1_1
  replace hB:Below w.heap.size w w9:=by rw[hw0];repeat (with_reducible first|exact hB|refine bO _ (by omega) ?_)
  clear k0 k1 k2 k3 k4 k5 k6 k7 k8 k9 k10
  have k0:=new_k0;clear new_k0
  have k1:=new_k1;clear new_k1
  have k2:=new_k2;clear new_k2
  have k3:=new_k3;clear new_k3
  have k4:=new_k4;clear new_k4
  have k5:=new_k5;clear new_k5
  have k6:=new_k6;clear new_k6
  have k7:=new_k7;clear new_k7
  have k8:=new_k8;clear new_k8
  have k9:=new_k9;clear new_k9
  have k10:=new_k10;clear new_k10
  replace z0:w.heap.size<w9.heap.size:=World.block_lt_of_cell? _ _ k0
  replace z1:w.heap.size+1<w9.heap.size:=World.block_lt_of_cell? _ _ k2
  replace z2:w1.heap.size<w9.heap.size:=World.block_lt_of_cell? _ _ k4
  replace z3:w3.heap.size<w9.heap.size:=World.block_lt_of_cell? _ _ k8
  rw[←hw0]
  clear hw0
  exact bodyPost_ret (v := .tuple #[.agg #[.int .i64 (hi (q)),.int .u64 (lo (q))],.int .i64 r,.int .i64 0]) (by simp [results,Try.results57,go_sem, *]) rfl ⟨rfl,by repeat (with_reducible first|exact hB|refine bO _ (by omega) ?_|apply aA|apply aC)⟩
 ·skip
  obtain⟨w9,hw0⟩:∃ x:World,x=((((w8.setCell ⟨w.heap.size+1,0,none⟩ (.int .i64 (hi q))).setCell ⟨w.heap.size+1,1,none⟩ (.int .u64 (lo q))).setCell ⟨w.heap.size+1,0,none⟩ (.int .i64 (hi q))).setCell ⟨w.heap.size+1,1,none⟩ (.int .u64 (lo q))):=⟨_,rfl⟩
  have new_k0:w9.cell? ⟨w.heap.size,0,none⟩=some (.int .i64 (hi (a))):=by rw[hw0];exact(aB (by omega) (aB (by omega) (aB (by omega) (aB (by omega) k0))))
  have new_k1:w9.cell? ⟨w.heap.size,1,none⟩=some (.int .u64 (lo (a))):=by rw[hw0];exact(aB (by omega) (aB (by omega) (aB (by omega) (aB (by omega) k1))))
  have new_k2:w9.cell? ⟨w.heap.size+1,0,none⟩=some (.int .i64 (hi q)):=by rw[hw0];exact(aB (by omega) (aX (aB (by omega) (aX k2))))
  have new_k3:w9.cell? ⟨w.heap.size+1,1,none⟩=some (.int .u64 (lo q)):=by rw[hw0];exact(aX (aB (by omega) (aX (aB (by omega) k3))))
  have new_k4:w9.cell? ⟨w1.heap.size,0,none⟩=some (.bool true):=by rw[hw0];exact(aB (by omega) (aB (by omega) (aB (by omega) (aB (by omega) k4))))
  have new_k5:w9.cell? ⟨w1.heap.size,1,none⟩=some (.int .u64 (d0 (cC a))):=by rw[hw0];exact(aB (by omega) (aB (by omega) (aB (by omega) (aB (by omega) k5))))
  have new_k6:w9.cell? ⟨w1.heap.size,2,none⟩=some (.int .u64 (d1 (cC a))):=by rw[hw0];exact(aB (by omega) (aB (by omega) (aB (by omega) (aB (by omega) k6))))
  have new_k7:w9.cell? ⟨w1.heap.size,3,none⟩=some (.int .u64 0):=by rw[hw0];exact(aB (by omega) (aB (by omega) (aB (by omega) (aB (by omega) k7))))
  have new_k8:w9.cell? ⟨w3.heap.size,0,none⟩=some (.int .u64 (d0 (cC a / d))):=by rw[hw0];exact(aB (by omega) (aB (by omega) (aB (by omega) (aB (by omega) k8))))
  have new_k9:w9.cell? ⟨w3.heap.size,1,none⟩=some (.int .u64 (d1 (cC a / d))):=by rw[hw0];exact(aB (by omega) (aB (by omega) (aB (by omega) (aB (by omega) k9))))
  have new_k10:w9.cell? ⟨w3.heap.size,2,none⟩=some (.int .u64 0):=by rw[hw0];exact(aB (by omega) (aB (by omega) (aB (by omega) (aB (by omega) k10))))
  replace f1_0:w9.frozen? ⟨w.heap.size+1,0,none⟩=false:=by rw[hw0];(repeat rw[World.frozen?_setCell]);exact f1_0
  replace f1_1:w9.frozen? ⟨w.heap.size+1,1,none⟩=false:=by rw[hw0];(repeat rw[World.frozen?_setCell]);exact f1_1
  replace hB:Below w.heap.size w w9:=by rw[hw0];repeat (with_reducible first|exact hB|refine bO _ (by omega) ?_)
  clear k0 k1 k2 k3 k4 k5 k6 k7 k8 k9 k10
  have k0:=new_k0;clear new_k0
  have k1:=new_k1;clear new_k1
  have k2:=new_k2;clear new_k2
  have k3:=new_k3;clear new_k3
  have k4:=new_k4;clear new_k4
  have k5:=new_k5;clear new_k5
  have k6:=new_k6;clear new_k6
  have k7:=new_k7;clear new_k7
  have k8:=new_k8;clear new_k8
  have k9:=new_k9;clear new_k9
  have k10:=new_k10;clear new_k10
  replace z0:w.heap.size<w9.heap.size:=World.block_lt_of_cell? _ _ k0
  replace z1:w.heap.size+1<w9.heap.size:=World.block_lt_of_cell? _ _ k2
  replace z2:w1.heap.size<w9.heap.size:=World.block_lt_of_cell? _ _ k4
  replace z3:w3.heap.size<w9.heap.size:=World.block_lt_of_cell? _ _ k8
  rw[←hw0]
  clear hw0
  exact bodyPost_ret (v := .tuple #[.agg #[.int .i64 (hi (q)),.int .u64 (lo (q))],.int .i64 r,.int .i64 0]) (by simp [results,Try.results57,go_sem, *]) rfl ⟨rfl,by repeat (with_reducible first|exact hB|refine bO _ (by omega) ?_|apply aA|apply aC)⟩
theorem vG (a d:Int) (ha:kH a) (hd:0<d) (hd':d≤9223372036854775807) (w:World):Calls Try.prog 57 #[.agg #[.int .i64 (hi (a)),.int .u64 (lo (a))],.int .i64 d] w fun e w'=>e = .returned (.tuple #[.agg #[.int .i64 (hi (a / d)),.int .u64 (lo (a / d))],.int .i64 (a % d),.int .i64 0])∧Below w.heap.size w w':=by
 by_cases hn:a<0
 ·have r0:=Int.emod_nonneg (cC a) (show d≠0 by omega)
  by_cases hz:cC a % d=0
  ·exact aIY a d _ _ ha hd hd' hn hz rfl rfl w
  ·exact aE0 a d _ _ ha hd hd' hn (by omega) rfl rfl w
 ·exact aIy a d _ _ ha hd hd' hn rfl rfl w
theorem aGN (a d:Int) (ha:kH a) (hd:0<d):kH (a / d):=by
 unfold kH at *
 have e:=Int.emod_add_mul_ediv a d
 have r0:=Int.emod_nonneg a (show d≠0 by omega)
 have r1:=Int.emod_lt_of_pos a hd
 exact⟨(Int.le_ediv_iff_mul_le hd).2 (by omega),(Int.ediv_lt_iff_lt_mul hd).2 (by omega)⟩
theorem aMx (a d:Int) (ha:kH a) (hd:0<d) (h:d-a % d≤a % d):kH (a / d+1):=by
 have hb:=aGN a d ha hd
 unfold kH at *
 have r1:=Int.emod_lt_of_pos a hd
 have hd2:2≤d:=by
  rcases Int.lt_or_le 1 d with g|g
  ·omega
  ·have:d=1:=by omega
   subst this;simp at h
 have:a / d<170141183460469231731687303715884105727:=(Int.ediv_lt_iff_lt_mul hd).2 (by omega)
 omega
set_option maxHeartbeats 800000 in
theorem aDD (a d q:Int) (ha:kH a) (hd:0<d) (hd':d≤9223372036854775807) (hc:¬d-a % d≤a % d) (hq:q=near a d) (w:World):Calls Try.prog 46 #[.agg #[.int .i64 (hi (a)),.int .u64 (lo (a))],.int .i64 d] w fun e w'=>e = .returned (.tuple #[.agg #[.int .i64 (hi (q)),.int .u64 (lo (q))],.int .i64 0])∧Below w.heap.size w w':=by
 have r0:=Int.emod_nonneg a (show d≠0 by omega)
 have r1:=Int.emod_lt_of_pos a hd
 have c1:wrap64 (d-a % d)=d-a % d:=IntWalk.wrap64_in _ (by omega)
 have c2:IntKind.i64.wrap (d-a % d)=d-a % d:=IntWalk.i64_in _ (by omega)
 have eq:a / d=q:=by rw[hq,aSg a d hd hc]
 clear hq
 go_enter Try.func46,Try.ntmps46
 go_wp2_with fail
 obtain⟨w0,hw0⟩:∃ x:World,x=((w.alloc (.cells #[.int .i64 (hi (a)),.int .u64 (lo (a))] 53)).alloc (.cells #[.int .i64 0,.int .u64 0] 53)):=⟨_,rfl⟩
 have k0:w0.cell? ⟨w.heap.size,0,none⟩=some (.int .i64 (hi (a))):=by rw[hw0];repeat (first|(refine aS ?_ rfl;(simp;done))|refine aR ?_)
 have k1:w0.cell? ⟨w.heap.size,1,none⟩=some (.int .u64 (lo (a))):=by rw[hw0];repeat (first|(refine aS ?_ rfl;(simp;done))|refine aR ?_)
 have k2:w0.cell? ⟨w.heap.size+1,0,none⟩=some (.int .i64 0):=by rw[hw0];repeat (first|(refine aS ?_ rfl;(simp;done))|refine aR ?_)
 have k3:w0.cell? ⟨w.heap.size+1,1,none⟩=some (.int .u64 0):=by rw[hw0];repeat (first|(refine aS ?_ rfl;(simp;done))|refine aR ?_)
 have z0:w.heap.size<w0.heap.size:=World.block_lt_of_cell? _ _ k0
 have z1:w.heap.size+1<w0.heap.size:=World.block_lt_of_cell? _ _ k2
 have hB:Below w.heap.size w w0:=by rw[hw0];repeat (with_reducible first|exact aD _|apply aA)
 have f1_0:w0.frozen? ⟨w.heap.size+1,0,none⟩=false:=by rw[hw0];repeat (first|(refine bG ?_;(simp;done))|(refine bH (by first|(simp;done)|(simp;omega)) ?_))
 have f1_1:w0.frozen? ⟨w.heap.size+1,1,none⟩=false:=by rw[hw0];repeat (first|(refine bG ?_;(simp;done))|(refine bH (by first|(simp;done)|(simp;omega)) ?_))
 rw[←hw0]
 clear hw0
 refine(vG a d ha hd hd' _).mono ?_
 rintro e w1 ⟨rfl,hb1⟩
 replace f1_0:=aL (aE hb1 (by repeat (with_reducible first|exact aD _|apply aA|apply aC))) k2 f1_0
 replace f1_1:=aL (aE hb1 (by repeat (with_reducible first|exact aD _|apply aA|apply aC))) k3 f1_1
 replace hB:=aE hb1 (by repeat (with_reducible first|exact hB|apply aA|apply aC))
 replace k0:=cell_later (aE hb1 (by repeat (with_reducible first|exact aD _|apply aA|apply aC))) k0
 replace k1:=cell_later (aE hb1 (by repeat (with_reducible first|exact aD _|apply aA|apply aC))) k1
 replace k2:=cell_later (aE hb1 (by repeat (with_reducible first|exact aD _|apply aA|apply aC))) k2
 replace k3:=cell_later (aE hb1 (by repeat (with_reducible first|exact aD _|apply aA|apply aC))) k3
 replace z0:=World.block_lt_of_cell? _ _ k0
 replace z1:=World.block_lt_of_cell? _ _ k2
 simp only[]at z0 z1
 clear hb1
 generalize a % d=r at *
 rw[eq]
 go_wp2
 obtain⟨w9,hw0⟩:∃ x:World,x=((w1.setCell ⟨w.heap.size+1,0,none⟩ (.int .i64 (hi q))).setCell ⟨w.heap.size+1,1,none⟩ (.int .u64 (lo q))):=⟨_,rfl⟩
 have new_k0:w9.cell? ⟨w.heap.size,0,none⟩=some (.int .i64 (hi (a))):=by rw[hw0];exact(aB (by omega) (aB (by omega) k0))
 have new_k1:w9.cell? ⟨w.heap.size,1,none⟩=some (.int .u64 (lo (a))):=by rw[hw0];exact(aB (by omega) (aB (by omega) k1))
 have new_k2:w9.cell? ⟨w.heap.size+1,0,none⟩=some (.int .i64 (hi q)):=by rw[hw0];exact(aB (by omega) (aX k2))
 have new_k3:w9.cell? ⟨w.heap.size+1,1,none⟩=some (.int .u64 (lo q)):=by rw[hw0];exact(aX (aB (by omega) k3))
 replace f1_0:w9.frozen? ⟨w.heap.size+1,0,none⟩=false:=by rw[hw0];(repeat rw[World.frozen?_setCell]);exact f1_0
 replace f1_1:w9.frozen? ⟨w.heap.size+1,1,none⟩=false:=by rw[hw0];(repeat rw[World.frozen?_setCell]);exact f1_1
 replace hB:Below w.heap.size w w9:=by rw[hw0];repeat (with_reducible first|exact hB|refine bO _ (by omega) ?_)
 clear k0 k1 k2 k3
 have k0:=new_k0;clear new_k0
 have k1:=new_k1;clear new_k1
 have k2:=new_k2;clear new_k2
 have k3:=new_k3;clear new_k3
 replace z0:w.heap.size<w9.heap.size:=World.block_lt_of_cell? _ _ k0
 replace z1:w.heap.size+1<w9.heap.size:=World.block_lt_of_cell? _ _ k2
 rw[←hw0]
 clear hw0
 exact bodyPost_ret (v := .tuple #[.agg #[.int .i64 (hi (q)),.int .u64 (lo (q))],.int .i64 0]) (by simp [results,Try.results46,go_sem, *]) rfl ⟨rfl,by repeat (with_reducible first|exact hB|refine bO _ (by omega) ?_|apply aA|apply aC)⟩
set_option maxHeartbeats 800000 in
theorem aD8 (a d q:Int) (ha:kH a) (hd:0<d) (hd':d≤9223372036854775807) (hc:d-a % d≤a % d) (hq:q=near a d) (w:World):Calls Try.prog 46 #[.agg #[.int .i64 (hi (a)),.int .u64 (lo (a))],.int .i64 d] w fun e w'=>e = .returned (.tuple #[.agg #[.int .i64 (hi (q)),.int .u64 (lo (q))],.int .i64 0])∧Below w.heap.size w w':=by
 have r0:=Int.emod_nonneg a (show d≠0 by omega)
 have r1:=Int.emod_lt_of_pos a hd
 have c1:wrap64 (d-a % d)=d-a % d:=IntWalk.wrap64_in _ (by omega)
 have c2:IntKind.i64.wrap (d-a % d)=d-a % d:=IntWalk.i64_in _ (by omega)
 have eq:a / d+1=q:=by rw[hq,aO8 a d hd hc]
 have hb:=aGN a d ha hd
 have hone:kH 1:=by unfold kH;omega
 have hb1':=aMx a d ha hd hc
 clear hq
 go_enter Try.func46,Try.ntmps46
 go_wp2_with fail
 obtain⟨w0,hw0⟩:∃ x:World,x=((w.alloc (.cells #[.int .i64 (hi (a)),.int .u64 (lo (a))] 53)).alloc (.cells #[.int .i64 0,.int .u64 0] 53)):=⟨_,rfl⟩
 have k0:w0.cell? ⟨w.heap.size,0,none⟩=some (.int .i64 (hi (a))):=by rw[hw0];repeat (first|(refine aS ?_ rfl;(simp;done))|refine aR ?_)
 have k1:w0.cell? ⟨w.heap.size,1,none⟩=some (.int .u64 (lo (a))):=by rw[hw0];repeat (first|(refine aS ?_ rfl;(simp;done))|refine aR ?_)
 have k2:w0.cell? ⟨w.heap.size+1,0,none⟩=some (.int .i64 0):=by rw[hw0];repeat (first|(refine aS ?_ rfl;(simp;done))|refine aR ?_)
 have k3:w0.cell? ⟨w.heap.size+1,1,none⟩=some (.int .u64 0):=by rw[hw0];repeat (first|(refine aS ?_ rfl;(simp;done))|refine aR ?_)
 have z0:w.heap.size<w0.heap.size:=World.block_lt_of_cell? _ _ k0
 have z1:w.heap.size+1<w0.heap.size:=World.block_lt_of_cell? _ _ k2
 have hB:Below w.heap.size w w0:=by rw[hw0];repeat (with_reducible first|exact aD _|apply aA)
 have f1_0:w0.frozen? ⟨w.heap.size+1,0,none⟩=false:=by rw[hw0];repeat (first|(refine bG ?_;(simp;done))|(refine bH (by first|(simp;done)|(simp;omega)) ?_))
 have f1_1:w0.frozen? ⟨w.heap.size+1,1,none⟩=false:=by rw[hw0];repeat (first|(refine bG ?_;(simp;done))|(refine bH (by first|(simp;done)|(simp;omega)) ?_))
 rw[←hw0]
 clear hw0
 refine(vG a d ha hd hd' _).mono ?_
 rintro e w1 ⟨rfl,hb1⟩
 replace f1_0:=aL (aE hb1 (by repeat (with_reducible first|exact aD _|apply aA|apply aC))) k2 f1_0
 replace f1_1:=aL (aE hb1 (by repeat (with_reducible first|exact aD _|apply aA|apply aC))) k3 f1_1
 replace hB:=aE hb1 (by repeat (with_reducible first|exact hB|apply aA|apply aC))
 replace k0:=cell_later (aE hb1 (by repeat (with_reducible first|exact aD _|apply aA|apply aC))) k0
 replace k1:=cell_later (aE hb1 (by repeat (with_reducible first|exact aD _|apply aA|apply aC))) k1
 replace k2:=cell_later (aE hb1 (by repeat (with_reducible first|exact aD _|apply aA|apply aC))) k2
 replace k3:=cell_later (aE hb1 (by repeat (with_reducible first|exact aD _|apply aA|apply aC))) k3
 replace z0:=World.block_lt_of_cell? _ _ k0
 replace z1:=World.block_lt_of_cell? _ _ k2
 simp only[]at z0 z1
 clear hb1
 generalize a % d=r at *
 go_wp2
 obtain⟨w2,hw0⟩:∃ x:World,x=(w1.alloc (.cells #[.int .i64 (hi (a / d)),.int .u64 (lo (a / d))] 53)):=⟨_,rfl⟩
 replace f1_0:w2.frozen? ⟨w.heap.size+1,0,none⟩=false:=by rw[hw0];exact aL (by repeat (with_reducible first|exact aD _|apply aA|apply aC)) k2 f1_0
 replace f1_1:w2.frozen? ⟨w.heap.size+1,1,none⟩=false:=by rw[hw0];exact aL (by repeat (with_reducible first|exact aD _|apply aA|apply aC)) k3 f1_1
 replace k0:w2.cell? ⟨w.heap.size,0,none⟩=some (.int .i64 (hi (a))):=by rw[hw0];exact cell_later (by repeat (with_reducible first|exact aD _|apply aA|apply aC)) k0
 replace k1:w2.cell? ⟨w.heap.size,1,none⟩=some (.int .u64 (lo (a))):=by rw[hw0];exact cell_later (by repeat (with_reducible first|exact aD _|apply aA|apply aC)) k1
 replace k2:w2.cell? ⟨w.heap.size+1,0,none⟩=some (.int .i64 0):=by rw[hw0];exact cell_later (by repeat (with_reducible first|exact aD _|apply aA|apply aC)) k2
 replace k3:w2.cell? ⟨w.heap.size+1,1,none⟩=some (.int .u64 0):=by rw[hw0];exact cell_later (by repeat (with_reducible first|exact aD _|apply aA|apply aC)) k3
 have k4:w2.cell? ⟨w1.heap.size,0,none⟩=some (.int .i64 (hi (a / d))):=by rw[hw0];repeat (first|(refine aS ?_ rfl;(simp;done))|refine aR ?_)
 have k5:w2.cell? ⟨w1.heap.size,1,none⟩=some (.int .u64 (lo (a / d))):=by rw[hw0];repeat (first|(refine aS ?_ rfl;(simp;done))|refine aR ?_)
 have fz2_0:w2.frozen? ⟨w1.heap.size,0,none⟩=false:=by rw[hw0];repeat (first|(refine bG ?_;(simp;done))|(refine bH (by first|(simp;done)|(simp;omega)) ?_))
 have fz2_1:w2.frozen? ⟨w1.heap.size,1,none⟩=false:=by rw[hw0];repeat (first|(refine bG ?_;(simp;done))|(refine bH (by first|(simp;done)|(simp;omega)) ?_))
 have z0:w.heap.size<w2.heap.size:=World.block_lt_of_cell? _ _ k0
 have z1:w.heap.size+1<w2.heap.size:=World.block_lt_of_cell? _ _ k2
 have z2:w1.heap.size<w2.heap.size:=World.block_lt_of_cell? _ _ k4
 replace hB:Below w.heap.size w w2:=by rw[hw0];repeat (with_reducible first|exact hB|apply aA)
 rw[←hw0]
 clear hw0
 go_region_with (first
  |(go_at_call 27;refine(uG 1 ⟨by omega,by omega⟩ _).mono ?_;rintro e w7 ⟨rfl,hb1⟩;replace f1_0:=aL (aE hb1 (by repeat (with_reducible first|exact aD _|apply aA|apply aC))) k2 f1_0;replace f1_1:=aL (aE hb1 (by repeat (with_reducible first|exact aD _|apply aA|apply aC))) k3 f1_1;replace fz2_0:=aL (aE hb1 (by repeat (with_reducible first|exact aD _|apply aA|apply aC))) k4 fz2_0;replace fz2_1:=aL (aE hb1 (by repeat (with_reducible first|exact aD _|apply aA|apply aC))) k5 fz2_1;replace hB:=aE hb1 (by repeat (with_reducible first|exact hB|apply aA|apply aC));replace k0:=cell_later (aE hb1 (by repeat (with_reducible first|exact aD _|apply aA|apply aC))) k0;replace k1:=cell_later (aE hb1 (by repeat (with_reducible first|exact aD _|apply aA|apply aC))) k1;replace k2:=cell_later (aE hb1 (by repeat (with_reducible first|exact aD _|apply aA|apply aC))) k2;replace k3:=cell_later (aE hb1 (by repeat (with_reducible first|exact aD _|apply aA|apply aC))) k3;replace k4:=cell_later (aE hb1 (by repeat (with_reducible first|exact aD _|apply aA|apply aC))) k4;replace k5:=cell_later (aE hb1 (by repeat (with_reducible first|exact aD _|apply aA|apply aC))) k5;replace z0:=World.block_lt_of_cell? _ _ k0;replace z1:=World.block_lt_of_cell? _ _ k2;replace z2:=World.block_lt_of_cell? _ _ k4;simp only[]at z0 z1 z2;clear hb1)
  |(go_at_call 30;refine(aHF _ _ hb hone hb1' _).mono ?_;rintro e w8 ⟨rfl,hb1⟩;replace f1_0:=aL (aE hb1 (by repeat (with_reducible first|exact aD _|apply aA|apply aC))) k2 f1_0;replace f1_1:=aL (aE hb1 (by repeat (with_reducible first|exact aD _|apply aA|apply aC))) k3 f1_1;replace fz2_0:=aL (aE hb1 (by repeat (with_reducible first|exact aD _|apply aA|apply aC))) k4 fz2_0;replace fz2_1:=aL (aE hb1 (by repeat (with_reducible first|exact aD _|apply aA|apply aC))) k5 fz2_1;replace hB:=aE hb1 (by repeat (with_reducible first|exact hB|apply aA|apply aC));replace k0:=cell_later (aE hb1 (by repeat (with_reducible first|exact aD _|apply aA|apply aC))) k0;replace k1:=cell_later (aE hb1 (by repeat (with_reducible first|exact aD _|apply aA|apply aC))) k1;replace k2:=cell_later (aE hb1 (by repeat (with_reducible first|exact aD _|apply aA|apply aC))) k2;replace k3:=cell_later (aE hb1 (by repeat (with_reducible first|exact aD _|apply aA|apply aC))) k3;replace k4:=cell_later (aE hb1 (by repeat (with_reducible first|exact aD _|apply aA|apply aC))) k4;replace k5:=cell_later (aE hb1 (by repeat (with_reducible first|exact aD _|apply aA|apply aC))) k5;replace z0:=World.block_lt_of_cell? _ _ k0;replace z1:=World.block_lt_of_cell? _ _ k2;replace z2:=World.block_lt_of_cell? _ _ k4;simp only[]at z0 z1 z2;clear hb1;rw[eq]))
 all_goals go_wp2
 ·skip
  obtain⟨w9,hw0⟩:∃ x:World,x=((((w8.setCell ⟨w1.heap.size,0,none⟩ (.int .i64 (hi q))).setCell ⟨w1.heap.size,1,none⟩ (.int .u64 (lo q))).setCell ⟨w.heap.size+1,0,none⟩ (.int .i64 (hi q))).setCell ⟨w.heap.size+1,1,none⟩ (.int .u64 (lo q))):=⟨_,rfl⟩
  have new_k0:w9.cell? ⟨w.heap.size,0,none⟩=some (.int .i64 (hi (a))):=by rw[hw0];exact(aB (by omega) (aB (by omega) (aB (by omega) (aB (by omega) k0))))
  have new_k1:w9.cell? ⟨w.heap.size,1,none⟩=some (.int .u64 (lo (a))):=by rw[hw0];exact(aB (by omega) (aB (by omega) (aB (by omega) (aB (by omega) k1))))
  have new_k2:w9.cell? ⟨w.heap.size+1,0,none⟩=some (.int .i64 (hi q)):=by rw[hw0];exact(aB (by omega) (aX (aB (by omega) (aB (by omega) k2))))
  have new_k3:w9.cell? ⟨w.heap.size+1,1,none⟩=some (.int .u64 (lo q)):=by rw[hw0];exact(aX (aB (by omega) (aB (by omega) (aB (by omega) k3))))
  have new_k4:w9.cell? ⟨w1.heap.size,0,none⟩=some (.int .i64 (hi q)):=by rw[hw0];exact(aB (by omega) (aB (by omega) (aB (by omega) (aX k4))))
  have new_k5:w9.cell? ⟨w1.heap.size,1,none⟩=some (.int .u64 (lo q)):=by rw[hw0];exact(aB (by omega) (aB (by omega) (aX (aB (by omega) k5))))
  replace f1_0:w9.frozen? ⟨w.heap.size+1,0,none⟩=false:=by rw[hw0];(repeat rw[World.frozen?_setCell]);exact f1_0
  replace f1_1:w9.frozen? ⟨w.heap.size+1,1,none⟩=false:=by rw[hw0];(repeat rw[World.frozen?_setCell]);exact f1_1
  replace fz2_0:w9.frozen? ⟨w1.heap.size,0,none⟩=false:=by rw[hw0];(repeat rw[World.frozen?_setCell]);exact fz2_0
  replace fz2_1:w9.frozen? ⟨w1.heap.size,1,none⟩=false:=by rw[hw0];(repeat rw[World.frozen?_setCell]);exact fz2_1
  replace hB:Below w.heap.size w w9:=by rw[hw0];repeat (with_reducible first|exact hB|refine bO _ (by omega) ?_)
  clear k0 k1 k2 k3 k4 k5
  have k0:=new_k0;clear new_k0
  have k1:=new_k1;clear new_k1
  have k2:=new_k2;clear new_k2
  have k3:=new_k3;clear new_k3
  have k4:=new_k4;clear new_k4
  have k5:=new_k5;clear new_k5
  replace z0:w.heap.size<w9.heap.size:=World.block_lt_of_cell? _ _ k0
  replace z1:w.heap.size+1<w9.heap.size:=World.block_lt_of_cell? _ _ k2
  replace z2:w1.heap.size<w9.heap.size:=World.block_lt_of_cell? _ _ k4
  rw[←hw0]
  clear hw0
  exact bodyPost_ret (v := .tuple #[.agg #[.int .i64 (hi (q)),.int .u64 (lo (q))],.int .i64 0]) (by simp [results,Try.results46,go_sem, *]) rfl ⟨rfl,by repeat (with_reducible first|exact hB|refine bO _ (by omega) ?_|apply aA|apply aC)⟩
 ·skip
  obtain⟨w9,hw0⟩:∃ x:World,x=((((w8.setCell ⟨w1.heap.size,0,none⟩ (.int .i64 (hi q))).setCell ⟨w1.heap.size,1,none⟩ (.int .u64 (lo q))).setCell ⟨w.heap.size+1,0,none⟩ (.int .i64 (hi q))).setCell ⟨w.heap.size+1,1,none⟩ (.int .u64 (lo q))):=⟨_,rfl⟩
  have new_k0:w9.cell? ⟨w.heap.size,0,none⟩=some (.int .i64 (hi (a))):=by rw[hw0];exact(aB (by omega) (aB (by omega) (aB (by omega) (aB (by omega) k0))))
  have new_k1:w9.cell? ⟨w.heap.size,1,none⟩=some (.int .u64 (lo (a))):=by rw[hw0];exact(aB (by omega) (aB (by omega) (aB (by omega) (aB (by omega) k1))))
  have new_k2:w9.cell? ⟨w.heap.size+1,0,none⟩=some (.int .i64 (hi q)):=by rw[hw0];exact(aB (by omega) (aX (aB (by omega) (aB (by omega) k2))))
  have new_k3:w9.cell? ⟨w.heap.size+1,1,none⟩=some (.int .u64 (lo q)):=by rw[hw0];exact(aX (aB (by omega) (aB (by omega) (aB (by omega) k3))))
  have new_k4:w9.cell? ⟨w1.heap.size,0,none⟩=some (.int .i64 (hi q)):=by rw[hw0];exact(aB (by omega) (aB (by omega) (aB (by omega) (aX k4))))
  have new_k5:w9.cell? ⟨w1.heap.size,1,none⟩=some (.int .u64 (lo q)):=by rw[hw0];exact(aB (by omega) (aB (by omega) (aX (aB (by omega) k5))))
  replace f1_0:w9.frozen? ⟨w.heap.size+1,0,none⟩=false:=by rw[hw0];(repeat rw[World.frozen?_setCell]);exact f1_0
  replace f1_1:w9.frozen? ⟨w.heap.size+1,1,none⟩=false:=by rw[hw0];(repeat rw[World.frozen?_setCell]);exact f1_1
  replace fz2_0:w9.frozen? ⟨w1.heap.size,0,none⟩=false:=by rw[hw0];(repeat rw[World.frozen?_setCell]);exact fz2_0
  replace fz2_1:w9.frozen? ⟨w1.heap.size,1,none⟩=false:=by rw[hw0];(repeat rw[World.frozen?_setCell]);exact fz2_1
  replace hB:Below w.heap.size w w9:=by rw[hw0];repeat (with_reducible first|exact hB|refine bO _ (by omega) ?_)
  clear k0 k1 k2 k3 k4 k5
  have k0:=new_k0;clear new_k0
  have k1:=new_k1;clear new_k1
  have k2:=new_k2;clear new_k2
  have k3:=new_k3;clear new_k3
  have k4:=new_k4;clear new_k4
  have k5:=new_k5;clear new_k5
  replace z0:w.heap.size<w9.heap.size:=World.block_lt_of_cell? _ _ k0
  replace z1:w.heap.size+1<w9.heap.size:=World.block_lt_of_cell? _ _ k2
  replace z2:w1.heap.size<w9.heap.size:=World.block_lt_of_cell? _ _ k4
  rw[←hw0]
  clear hw0
  exact bodyPost_ret (v := .tuple #[.agg #[.int .i64 (hi (q)),.int .u64 (lo (q))],.int .i64 0]) (by simp [results,Try.results46,go_sem, *]) rfl ⟨rfl,by repeat (with_reducible first|exact hB|refine bO _ (by omega) ?_|apply aA|apply aC)⟩
theorem aJW (a d:Int) (ha:kH a) (hd:0<d) (hd':d≤9223372036854775807) (w:World):Calls Try.prog 46 #[.agg #[.int .i64 (hi (a)),.int .u64 (lo (a))],.int .i64 d] w fun e w'=>e = .returned (.tuple #[.agg #[.int .i64 (hi (near a d)),.int .u64 (lo (near a d))],.int .i64 0])∧Below w.heap.size w w':=by
 by_cases hc:d-a % d≤a % d
 ·exact aD8 a d _ ha hd hd' hc rfl w
 ·exact aDD a d _ ha hd hd' hc rfl w
end Go.Proofs.Ytdldallkeheciaa
namespace Fx
def near (n d:Int):Int:=(2*n+d) / (2*d)
def sat (n:Int):Int:=if n < -2147483648 then -2147483648 else if 2147483647<n then 2147483647 else n
def fix (a:Int):Prop := -2147483648≤a∧a≤2147483647
def mul (a b:Int):Int:=sat (near (a*b) 65536)
def line (x flo fhi tlo thi:Int):Int:=
 if fhi-flo<0 then sat (near (-(x-flo)*(thi-tlo)+tlo * -(fhi-flo)) (-(fhi-flo)))
 else sat (near ((x-flo)*(thi-tlo)+tlo*(fhi-flo)) (fhi-flo))
def down (a:Int):Int:=a / 65536*65536
def aXz (a:Int):Int:=sat (down a)
def round (a:Int):Int:=sat (down (a+32768))
theorem qT (n:Int):(n < -2147483648∧sat n = -2147483648)∨(2147483647<n∧sat n=2147483647)∨(fix n∧sat n=n):=by
 unfold sat fix;split
 ·omega
 ·split<;>omega
theorem sat_fix (n:Int):fix (sat n):=by rcases qT n with⟨_,h⟩|⟨_,h⟩|⟨h',h⟩<;>rw[h]<;>(unfold fix at *;omega)
theorem aTL {n:Int} (h:fix n):sat n=n:=by unfold fix at h;rcases qT n with⟨_,g⟩|⟨_,g⟩|⟨_,g⟩<;>omega
theorem near_spec (n d:Int) (hd:0<d):2*(near n d*d)≤2*n+d∧2*n+d<2*(near n d*d)+2*d:=by
 unfold near
 have e:=Int.emod_add_mul_ediv (2*n+d) (2*d)
 have l:=Int.emod_lt_of_pos (2*n+d) (show 0<2*d by omega)
 have z:=Int.emod_nonneg (2*n+d) (show 2*d≠0 by omega)
 generalize (2*n+d) / (2*d)=q at *
 have k:2*d*q=2*(q*d):=by grind
 omega
theorem near_uniq (n d q:Int) (hd:0<d) (h1:2*(q*d)≤2*n+d) (h2:2*n+d<2*(q*d)+2*d):near n d=q:=by
 have hp:0<2*d:=by omega
 unfold near
 apply Int.le_antisymm
 ·refine Int.le_of_lt_add_one ((Int.ediv_lt_iff_lt_mul hp).2 ?_)
  have k:(q+1)*(2*d)=2*(q*d)+2*d:=by grind
  omega
 ·refine(Int.le_ediv_iff_mul_le hp).2 ?_
  have k:q*(2*d)=2*(q*d):=by grind
  omega
theorem near_mono {m n d:Int} (hd:0<d) (h:m≤n):near m d≤near n d:=by
 unfold near;exact Int.ediv_le_ediv (by omega) (by omega)
theorem aEP (q d:Int) (hd:0<d):near (q*d) d=q:=near_uniq _ _ _ hd (by omega) (by omega)
theorem mul_comm (a b:Int):mul a b=mul b a:=by unfold mul;rw[Int.mul_comm]
theorem mul_one (a:Int) (ha:fix a):mul a 65536=a:=by unfold mul;rw[aEP a 65536 (by decide)];exact aTL ha
theorem mul_zero (a:Int):mul a 0=0:=by unfold mul;rw[Int.mul_zero];decide
theorem mul_neg (a b:Int) (hp':mul a b≠2147483647):
  (mul (-a) b = -mul a b∧a*b % 65536≠32768)∨(mul (-a) b = -mul a b+1∧a*b % 65536=32768)∨(mul (-a) b=2147483647∧mul a b < -2147483646):=by
 have e : -a*b = -(a*b):=by grind
 unfold mul at *
 rw[e];unfold near
 generalize a*b=p at *
 have s1:=qT ((2*p+65536) / (2*65536));have s2:=qT ((2 * -p+65536) / (2*65536))
 unfold near at hp'
 unfold fix at s1 s2
 omega
end Fx
namespace Nu
def dg (N:Int) (M:Int):Int:=N / M % 65536
theorem dg_bd (N M:Int):0≤dg N M∧dg N M<65536:=by unfold dg;omega
def aFh (A B M:Int):Int:=(A % M+B % M) / M
theorem aNS (A B M:Int) (hM:0<M):0≤aFh A B M∧aFh A B M≤1:=by
 have a0:=Int.emod_nonneg A (show M≠0 by omega)
 have a1:=Int.emod_lt_of_pos A hM
 have b0:=Int.emod_nonneg B (show M≠0 by omega)
 have b1:=Int.emod_lt_of_pos B hM
 unfold aFh
 refine⟨Int.ediv_nonneg (by omega) (by omega),?_⟩
 have:(A % M+B % M) / M<2:=Int.ediv_lt_of_lt_mul hM (by omega)
 omega
theorem aFn (A B M:Int) (hM:0<M):dg (A+B) M=(aFh A B M+dg A M+dg B M) % 65536:=by
 have ha:=Int.mul_ediv_add_emod A M
 have hb:=Int.mul_ediv_add_emod B M
 have e:A+B=(A % M+B % M)+M*(A / M+B / M):=by rw[Int.mul_add];omega
 have e2:(A+B) / M=aFh A B M+(A / M+B / M):=by
  unfold aFh
  conv=>lhs;rw[e]
  exact Int.add_mul_ediv_left _ _ (by omega)
 unfold dg
 rw[e2]
 omega
def lent (A B M:Int):Int:=if A % M<B % M then 1 else 0
end Nu
namespace Nu
theorem pr (A B M:Int) (hM:0<M):(aFh A B M+dg A M+dg B M).tmod 65536=dg (A+B) M:=by
 have a:=dg_bd A M
 have b:=dg_bd B M
 have k:=aNS A B M hM
 rw[Int.tmod_eq_emod_of_nonneg (by omega),aFn A B M hM]
end Nu
namespace Nu
end Nu
namespace Nu
end Nu
namespace Go.Proofs.Ytdldallkeheciaa
open Go Go.RowKit Sx Wi
def wG:Nat→List Int→Int
 |0,[x]=>hi x
 |1,[x]=>lo x
 |2,[n,d]=>Fx.near n d
 |30,[n,m]=>Nu.dg n m
 |32,[a,b,m]=>Nu.lent a b m
 |33,[n,m]=>n % m
 |g,xs=>Lc.fn g xs
def hiI (p:Int × Int):Int × Int:=(p.1 / 18446744073709551616,p.2 / 18446744073709551616)
def loI (p:Int × Int):Int × Int:=if p.1 / 18446744073709551616=p.2 / 18446744073709551616 then (p.1 % 18446744073709551616,p.2 % 18446744073709551616) else (0,18446744073709551615)
def aJ8 (p q:Int × Int):Option (Int × Int):=
 if 0<q.1 then (if q.1=q.2 then some (Fx.near p.1 q.1,Fx.near p.2 q.1) else some (lU p.1 0,nH p.2 0)) else none
def wGI:Nat→List fV→fV
 |0,[some p]=>some (hiI p)
 |1,[some p]=>some (loI p)
 |2,[some p,some q]=>aJ8 p q
 |30,_=>some (0,65535)
 |32,_=>some (0,1)
 |33,[_,some q]=>if 0<q.1 then some (0,q.2-1) else none
 |g,_=>Lc.fnI g
theorem aU9 {p:Int × Int} {x:Int} (h:p.1≤x∧x≤p.2):(hiI p).1≤hi x∧hi x≤(hiI p).2:=by
 unfold hiI hi;dsimp only;omega
theorem aUm {p:Int × Int} {x:Int} (h:p.1≤x∧x≤p.2):(loI p).1≤lo x∧lo x≤(loI p).2:=by
 unfold loI lo;split<;>dsimp only<;>omega
theorem aR6 (n d:Int) (hd:0<d):(0≤n→0≤Fx.near n d∧Fx.near n d≤n)∧(n≤0→n≤Fx.near n d∧Fx.near n d≤0):=by
 have z:Fx.near 0 d=0:=Fx.near_uniq _ _ _ hd (by omega) (by omega)
 have k:∀ m:Int,0≤m→Fx.near m d≤m:=by
  intro m hm
  obtain⟨h1,h2⟩:=Fx.near_spec m d hd
  rcases Int.lt_or_le m (Fx.near m d)with g|g
  ·exfalso
   have:=Int.mul_le_mul_of_nonneg_right (show m+1≤Fx.near m d by omega) (show 0≤d by omega)
   have e:(m+1)*d=m*d+d:=by grind
   have:=Int.mul_le_mul_of_nonneg_left (show 1≤d by omega) hm
   omega
  ·exact g
 refine⟨fun h=>⟨?_,k n h⟩,fun h=>⟨?_,?_⟩⟩
 ·rw[←z];exact Fx.near_mono hd h
 ·obtain⟨h1,h2⟩:=Fx.near_spec n d hd
  rcases Int.lt_or_le (Fx.near n d) n with g|g
  ·exfalso
   have:=Int.mul_le_mul_of_nonneg_right (show Fx.near n d≤n-1 by omega) (show 0≤d by omega)
   have e:(n-1)*d=n*d-d:=by grind
   have:=Int.mul_le_mul_of_nonpos_left h (show 1≤d by omega)
   omega
  ·exact g
 ·rw[←z];exact Fx.near_mono hd h
theorem aJI {p q:Int × Int} {n d:Int} (h:p.1≤n∧n≤p.2) (g:q.1≤d∧d≤q.2):fV.has (aJ8 p q) (Fx.near n d):=by
 unfold aJ8
 split
 ·rename_i h0
  split
  ·rename_i e
   have:d=q.1:=by omega
   subst this
   exact⟨Fx.near_mono h0 h.1,Fx.near_mono h0 h.2⟩
  ·obtain⟨k1,k2⟩:=aR6 n d (by omega)
   simp only[fV.has,lU,nH]
   rcases Int.le_total 0 n with hn|hn
   ·have:=k1 hn;split<;>split<;>omega
   ·have:=k2 hn;split<;>split<;>omega
 ·trivial
theorem w30:∀ xs:List Int,0≤wG 30 xs∧wG 30 xs≤65535
 |[n,m]=>by have:=Nu.dg_bd n m;show 0≤Nu.dg n m∧Nu.dg n m≤65535;omega
 |[]=>by decide
 |[_]=>⟨Int.le_refl 0,(by decide:(0:Int)≤65535)⟩
 |_::_::_::_=>⟨Int.le_refl 0,(by decide:(0:Int)≤65535)⟩
theorem w32:∀ xs:List Int,0≤wG 32 xs∧wG 32 xs≤1
 |[a,b,m]=>by show 0≤Nu.lent a b m∧Nu.lent a b m≤1;unfold Nu.lent;split<;>omega
 |[]=>by decide
 |[_]=>⟨Int.le_refl 0,(by decide:(0:Int)≤1)⟩
 |[_,_]=>⟨Int.le_refl 0,(by decide:(0:Int)≤1)⟩
 |_::_::_::_::_=>⟨Int.le_refl 0,(by decide:(0:Int)≤1)⟩
theorem aUI:∀ g is xs,dE is xs→(wGI g is).has (wG g xs):=by
 intro g is xs h
 unfold wGI
 split
 ·match xs,h with
  |[x],h=>exact aU9 h.1
  |[],h=>simp [dE]at h
  |_::_::_,h=>simp [dE]at h
 ·match xs,h with
  |[x],h=>exact aUm h.1
  |[],h=>simp [dE]at h
  |_::_::_,h=>simp [dE]at h
 ·match xs,h with
  |[x,y],h=>exact aJI h.1 h.2.1
  |[],h=>simp [dE]at h
  |[_],h=>simp [dE]at h
  |_::_::_::_,h=>simp [dE]at h
 ·exact w30 xs
 ·exact w32 xs
 ·match xs,h with
  |[n,m],h=>
   split
   ·rename_i hq
    have hm:=h.2.1
    simp only[fV.has]at hm
    have a0:=Int.emod_nonneg n (show m≠0 by omega)
    have a1:=Int.emod_lt_of_pos n (show 0<m by omega)
    show 0≤n % m∧n % m≤_-1
    omega
   ·trivial
  |[],h=>simp [dE]at h
  |[_],h=>simp [dE]at h
  |_::_::_::_,h=>simp [dE]at h
 ·rename_i h0 h1 h2 h3 h4 h5
  have e:wG g xs=Lc.fn g xs∨(∃ x,g=0∧xs=[x])∨(∃ x,g=1∧xs=[x])∨(∃ n d,g=2∧xs=[n,d])∨(∃ n m,g=33∧xs=[n,m])∨g=30∨g=32:=by
   unfold wG
   split
   ·exact .inr (.inl ⟨_,rfl,rfl⟩)
   ·exact .inr (.inr (.inl ⟨_,rfl,rfl⟩))
   ·exact .inr (.inr (.inr (.inl ⟨_,_,rfl,rfl⟩)))
   ·exact .inr (.inr (.inr (.inr (.inr (.inl rfl)))))
   ·exact .inr (.inr (.inr (.inr (.inr (.inr rfl)))))
   ·exact .inr (.inr (.inr (.inr (.inl ⟨_,_,rfl,rfl⟩))))
   ·exact .inl rfl
  rcases e with e|⟨x,rfl,rfl⟩|⟨x,rfl,rfl⟩|⟨n,d,rfl,rfl⟩|⟨n,m,rfl,rfl⟩|rfl|rfl
  ·rw[e];exact Lc.fnI_ok g xs
  all_goals trivial
theorem aUU:aJJ wG:=by
 intro g xs h1 h2
 unfold wG
 split<;>first|omega|rfl
end Go.Proofs.Ytdldallkeheciaa
namespace Go.Proofs.Ytdldallkeheciaa
open Go Go.RowKit Sx Wi Lk
def fq (n d:Int):Int:=if 1≤d then Int.fdiv n d else 0
def aRI:List Int→Int
 |[n,d]=>fq n d
 |_=>0
theorem aWj (n d:Int):min n 0≤fq n d∧fq n d≤max n 0:=by
 unfold fq
 split
 ·rename_i h
  rw[Int.fdiv_eq_ediv_of_nonneg _ (by omega)]
  rcases Int.le_total 0 n with hn|hn
  ·have h1:=Int.ediv_nonneg hn (show 0≤d by omega)
   have h2:=Int.ediv_le_self d hn
   omega
  ·have h1:n / d≤0:=by
    have:=Int.ediv_le_ediv (show 0<d by omega) hn
    rw[Int.zero_ediv]at this
    exact this
   have h2:n≤n / d:=by
    apply Int.le_ediv_of_mul_le (by omega)
    have:=Int.mul_le_mul_of_nonpos_left (a:=n) (b:=d) (c:=1) hn h
    omega
   omega
 ·omega
def nN (C i j:Int):Int:=Lc.fn 82 [C,i,j]
def kR (C i j:Int):Int:=Lc.fn 83 [C,i,j]
def r8 (C i j:Int):Int:=Lc.fn 84 [C,i,j]
def stY (lo hi n nE t0 t1 x:Int):Int:=min (max (Fx.line (min (max x lo) hi) lo hi (if 0<nE then t0 else 0) (if 0<nE then t1 else (n-1)*65536)) 0) ((n-1)*65536)
def stS (lo hi n nE t0 t1 x:Int):Int:=max 0 (min (stY lo hi n nE t0 t1 x / 65536) (n-2))
def gH (a b x:Int):Int:=max a (min b x)
theorem mC (a b x:Int) (h:a≤b):a≤gH a b x∧gH a b x≤b:=by unfold gH;omega
def xG4:List Int→Int
 |[x,a,b,c,d]=>Fx.line x a b c d
 |_=>0
def aEH:List Int→Int
 |[lo,hi,n,nE,t0,t1,x]=>gH 0 255 (stS lo hi n nE t0 t1 x)
 |_=>0
def aEE:List Int→Int
 |[lo,hi,n,nE,t0,t1,x]=>gH 0 255 (min (stS lo hi n nE t0 t1 x+1) (n-1))
 |_=>0
def aFT:List Int→Int
 |[lo,hi,n,nE,t0,t1,x]=>gH 0 65536 (stY lo hi n nE t0 t1 x-stS lo hi n nE t0 t1 x*65536)
 |_=>0
def aK (nR bits S:Int):Nat→Int
 |0=>nR*bits
 |k+1=>aK nR bits S k*kR S k 0
def aXv:List Int→Int
 |[nR,bits,S,m]=>aK nR bits S m.toNat
 |_=>0
def pR (B off:Int):Nat→Int
 |0=>0
 |k+1=>pR B off k*256+r8 B (off+k) 0
def mS (B nB at_ n:Int):Int:=
 if at_<0∨n<1∨16<n∨8*nB-n<at_ then 0
 else gH 0 65535 (pR B (at_ / 8) ((at_+n+7) / 8-at_ / 8).toNat / 2 ^ ((0-(at_+n)) % 8).toNat % 2 ^ n.toNat)
theorem aBB (B nB a n:Int):0≤mS B nB a n∧mS B nB a n≤65535:=by
 unfold mS;split
 ·omega
 ·exact mC _ _ _ (by decide)
def aQh:List Int→Int
 |[B,nB,a,n]=>mS B nB a n
 |_=>0
def fqN:Nat→Int→Int
 |0,n=>n
 |k+1,n=>fqN k (fq n 65536)
def wU (m bits lo hi s:Int):Int:=Fx.sat (lo+fq (fqN m.toNat (s*(2*(hi-lo))+(2 ^ bits.toNat-1)*65536 ^ m.toNat)) (2*(2 ^ bits.toNat-1)))
def aPO:List Int→Int
 |[m,bits,lo,hi,s]=>wU m bits lo hi s
 |_=>0
def aOb:List Int→Int
 |[nB,a,n]=>if 8*nB-n<a then 5 else 0
 |_=>0
def aXx (S:Int) (ps:List Int):Ax:=⟨fun i=>ps.getD (3*i) 0,fun i=>ps.getD (3*i+1) 0,fun i=>ps.getD (3*i+2) 0,fun i=>kR S i 0⟩
def aXu (S B nB bits nR:Int) (ps:List Int) (m:Nat) (j:Int):Int:=sS (aXx S ps) (fun a=>mS B nB ((a*nR+j)*bits) bits) m (2 ^ m)
def aXs (S B nB bits C R nR:Int) (ps:List Int) (j:Int):Int:=min (max (wU (ps.length / 3:Nat) bits (nN C j 0) (nN C j 1) (aXu S B nB bits nR ps (ps.length / 3) j)) (nN R j 0)) (nN R j 1)
def aW9:List Int→Int
 |S::B::nB::bits::C::R::nR::j::ps=>Lc.enc (gC 1 (fun (i:Nat)=>[aXs S B nB bits C R nR ps i]) nR.toNat j.toNat)
 |_=>0
def wK (D S En nE IN:Int) (i:Int):List Int:=let xs:=[nN D i 0,nN D i 1,kR S i 0,nE,nN En i 0,nN En i 1,nN IN i 0];[aEH xs,aEE xs,aFT xs]
def aXh:List Int→Int
 |[D,S,En,nE,IN,m,k]=>Lc.enc (gC 3 (fun (i:Nat)=>wK D S En nE IN i) m.toNat k.toNat)
 |_=>0
def iB (S L:Int):Ax:=⟨fun i=>kR L i 0,fun i=>kR L i 1,fun i=>kR L i 2,fun i=>kR S i 0⟩
def aNF:List Int→Int
 |[S,L,t,i]=>gH 0 18446744073709551616 (wM (iB S L) t.toNat i.toNat)
 |_=>0
def aSs:List Int→Int
 |[S,L,t,i]=>gH 0 8589934592 (pC (iB S L) t.toNat i.toNat)
 |_=>0
def aRV:List Int→Int
 |[S,L,i]=>gH 0 4294967296 (dL (iB S L) i.toNat)
 |_=>0
def aEe (S B nB bits nR L m j:Int) (t:Nat):Int:=sS (iB S L) (fun a=>mS B nB ((a*nR+j)*bits) bits) m.toNat t
def aKy:List Int→Int
 |[S,B,nB,bits,nR,L,m,j,t]=>gH 0 19342813113834066795298816 (aEe S B nB bits nR L m j t.toNat)
 |_=>0
def oZ (S B nB bits C R nR L m:Int) (j:Int):Int:=min (max (wU m bits (nN C j 0) (nN C j 1) (aKy [S,B,nB,bits,nR,L,m,j,1*2 ^ m.toNat])) (nN R j 0)) (nN R j 1)
def aXd:List Int→Int
 |[S,B,nB,bits,C,R,nR,L,m,j]=>Lc.enc (gC 1 (fun (i:Nat)=>[oZ S B nB bits C R nR L m i]) nR.toNat j.toNat)
 |_=>0
def bV:B:=(.and (.cmp .eq (.var 0) (.lit 1)) (.and (.cmp .lt (.lit 0) (.var 1)) (.and (.cmp .le (.var 1) (.lit 4)) (.and (B.neg (.or (.and (.cmp .lt (.lit 0) (.var 1)) (.cmp .le (.app 82 (.cons (.var 8) (.cons (.lit 0) (.cons (.lit 1) .nil)))) (.app 82 (.cons (.var 8) (.cons (.lit 0) (.cons (.lit 0) .nil)))))) (.or (.and (.cmp .lt (.lit 1) (.var 1)) (.cmp .le (.app 82 (.cons (.var 8) (.cons (.lit 1) (.cons (.lit 1) .nil)))) (.app 82 (.cons (.var 8) (.cons (.lit 1) (.cons (.lit 0) .nil)))))) (.or (.and (.cmp .lt (.lit 2) (.var 1)) (.cmp .le (.app 82 (.cons (.var 8) (.cons (.lit 2) (.cons (.lit 1) .nil)))) (.app 82 (.cons (.var 8) (.cons (.lit 2) (.cons (.lit 0) .nil)))))) (.and (.cmp .lt (.lit 3) (.var 1)) (.cmp .le (.app 82 (.cons (.var 8) (.cons (.lit 3) (.cons (.lit 1) .nil)))) (.app 82 (.cons (.var 8) (.cons (.lit 3) (.cons (.lit 0) .nil)))))))))) (.and (.cmp .lt (.lit 0) (.var 2)) (.and (.cmp .le (.var 2) (.lit 4)) (.and (B.neg (.or (.and (.cmp .lt (.lit 0) (.var 2)) (.cmp .lt (.app 82 (.cons (.var 9) (.cons (.lit 0) (.cons (.lit 1) .nil)))) (.app 82 (.cons (.var 9) (.cons (.lit 0) (.cons (.lit 0) .nil)))))) (.or (.and (.cmp .lt (.lit 1) (.var 2)) (.cmp .lt (.app 82 (.cons (.var 9) (.cons (.lit 1) (.cons (.lit 1) .nil)))) (.app 82 (.cons (.var 9) (.cons (.lit 1) (.cons (.lit 0) .nil)))))) (.or (.and (.cmp .lt (.lit 2) (.var 2)) (.cmp .lt (.app 82 (.cons (.var 9) (.cons (.lit 2) (.cons (.lit 1) .nil)))) (.app 82 (.cons (.var 9) (.cons (.lit 2) (.cons (.lit 0) .nil)))))) (.and (.cmp .lt (.lit 3) (.var 2)) (.cmp .lt (.app 82 (.cons (.var 9) (.cons (.lit 3) (.cons (.lit 1) .nil)))) (.app 82 (.cons (.var 9) (.cons (.lit 3) (.cons (.lit 0) .nil)))))))))) (.and (.cmp .eq (.var 3) (.var 1)) (.and (B.neg (.or (.and (.cmp .lt (.lit 0) (.var 3)) (.or (.cmp .lt (.app 83 (.cons (.var 10) (.cons (.lit 0) (.cons (.lit 0) .nil)))) (.lit 1)) (.cmp .lt (.lit 256) (.app 83 (.cons (.var 10) (.cons (.lit 0) (.cons (.lit 0) .nil))))))) (.or (.and (.cmp .lt (.lit 1) (.var 3)) (.or (.cmp .lt (.app 83 (.cons (.var 10) (.cons (.lit 1) (.cons (.lit 0) .nil)))) (.lit 1)) (.cmp .lt (.lit 256) (.app 83 (.cons (.var 10) (.cons (.lit 1) (.cons (.lit 0) .nil))))))) (.or (.and (.cmp .lt (.lit 2) (.var 3)) (.or (.cmp .lt (.app 83 (.cons (.var 10) (.cons (.lit 2) (.cons (.lit 0) .nil)))) (.lit 1)) (.cmp .lt (.lit 256) (.app 83 (.cons (.var 10) (.cons (.lit 2) (.cons (.lit 0) .nil))))))) (.or (.and (.cmp .lt (.lit 3) (.var 3)) (.or (.cmp .lt (.app 83 (.cons (.var 10) (.cons (.lit 3) (.cons (.lit 0) .nil)))) (.lit 1)) (.cmp .lt (.lit 256) (.app 83 (.cons (.var 10) (.cons (.lit 3) (.cons (.lit 0) .nil))))))) (.or (.and (.cmp .lt (.lit 4) (.var 3)) (.or (.cmp .lt (.app 83 (.cons (.var 10) (.cons (.lit 4) (.cons (.lit 0) .nil)))) (.lit 1)) (.cmp .lt (.lit 256) (.app 83 (.cons (.var 10) (.cons (.lit 4) (.cons (.lit 0) .nil))))))) (.or (.and (.cmp .lt (.lit 5) (.var 3)) (.or (.cmp .lt (.app 83 (.cons (.var 10) (.cons (.lit 5) (.cons (.lit 0) .nil)))) (.lit 1)) (.cmp .lt (.lit 256) (.app 83 (.cons (.var 10) (.cons (.lit 5) (.cons (.lit 0) .nil))))))) (.or (.and (.cmp .lt (.lit 6) (.var 3)) (.or (.cmp .lt (.app 83 (.cons (.var 10) (.cons (.lit 6) (.cons (.lit 0) .nil)))) (.lit 1)) (.cmp .lt (.lit 256) (.app 83 (.cons (.var 10) (.cons (.lit 6) (.cons (.lit 0) .nil))))))) (.and (.cmp .lt (.lit 7) (.var 3)) (.or (.cmp .lt (.app 83 (.cons (.var 10) (.cons (.lit 7) (.cons (.lit 0) .nil)))) (.lit 1)) (.cmp .lt (.lit 256) (.app 83 (.cons (.var 10) (.cons (.lit 7) (.cons (.lit 0) .nil))))))))))))))) (.and (.or (.cmp .eq (.var 4) (.lit 1)) (.or (.cmp .eq (.var 4) (.lit 2)) (.or (.cmp .eq (.var 4) (.lit 4)) (.or (.cmp .eq (.var 4) (.lit 8)) (.or (.cmp .eq (.var 4) (.lit 12)) (.cmp .eq (.var 4) (.lit 16))))))) (.and (.or (.cmp .eq (.var 5) (.lit 0)) (.cmp .eq (.var 5) (.var 1))) (.or (.cmp .eq (.var 6) (.lit 0)) (.cmp .eq (.var 6) (.var 2))))))))))))))
def aQH:List Int→Int
 |[x0,x1,x2,x3,x4,x5,x6,x7,D,R,S]=>if B.den wG (cR [x0,x1,x2,x3,x4,x5,x6,x7,D,R,S]) bV=true then (if 524288<aK x2 x4 S x3.toNat then 3 else 5) else 4
 |_=>4
def aKX (S:Int) (k:Nat):List Int:=[0,65536*max 1 (min 255 (IntKind.i64.wrap (kR S k 0-1)))]
def aXa:List Int→Int
 |[S,n]=>Lc.enc ((List.range n.toNat).map (aKX S))
 |_=>0
def aXn:List Int→Int
 |[b,n,i]=>Lc.enc (gC 1 (fun _=>[b]) n.toNat i.toNat)
 |_=>0
def G (g:Nat) (xs:List Int):Int:=
 match g with
 |4=>xG4 xs
 |60=>aEH xs
 |61=>aEE xs
 |62=>aFT xs
 |63=>aXv xs
 |65=>aXh xs
 |67=>aQh xs
 |68=>aPO xs
 |69=>aOb xs
 |70=>aW9 xs
 |71=>aRI xs
 |72=>aQH xs
 |73=>aXd xs
 |74=>aXa xs
 |75=>aXn xs
 |76=>aKy xs
 |77=>aNF xs
 |78=>aSs xs
 |79=>aRV xs
 |g=>wG g xs
theorem aUQ (xs:List Int):(-2147483648)≤xG4 xs∧xG4 xs≤2147483647:=by
 unfold xG4;split
 ·rename_i x a b c d;unfold Fx.line;split<;>exact Fx.sat_fix _
 ·omega
theorem aCO (xs:List Int):0≤aEH xs∧aEH xs≤255:=by
 unfold aEH;split
 ·exact mC _ _ _ (by decide)
 ·omega
theorem aCQ (xs:List Int):0≤aEE xs∧aEE xs≤255:=by
 unfold aEE;split
 ·exact mC _ _ _ (by decide)
 ·omega
theorem aBI (xs:List Int):0≤aFT xs∧aFT xs≤65536:=by
 unfold aFT;split
 ·exact mC _ _ _ (by decide)
 ·omega
theorem aP3 (xs:List Int):0≤aQh xs∧aQh xs≤65535:=by
 unfold aQh;split
 ·exact aBB _ _ _ _
 ·omega
theorem aO2 (xs:List Int):(-2147483648)≤aPO xs∧aPO xs≤2147483647:=by
 unfold aPO;split
 ·exact Fx.sat_fix _
 ·omega
theorem aOS (xs:List Int):0≤aOb xs∧aOb xs≤5:=by
 unfold aOb;split
 ·split<;>omega
 ·omega
theorem aSh (xs:List Int):3≤aQH xs∧aQH xs≤5:=by
 unfold aQH;split
 ·(repeat' split)<;>omega
 ·omega
theorem aGY (xs:List Int):0≤aKy xs∧aKy xs≤19342813113834066795298816:=by
 unfold aKy;split
 ·exact mC _ _ _ (by decide)
 ·omega
theorem aF3 (xs:List Int):0≤aNF xs∧aNF xs≤18446744073709551616:=by
 unfold aNF;split
 ·exact mC _ _ _ (by decide)
 ·omega
theorem aHQ (xs:List Int):0≤aSs xs∧aSs xs≤8589934592:=by
 unfold aSs;split
 ·exact mC _ _ _ (by decide)
 ·omega
theorem aGp (xs:List Int):0≤aRV xs∧aRV xs≤4294967296:=by
 unfold aRV;split
 ·exact mC _ _ _ (by decide)
 ·omega
def aK9:List fV→Option (List Int)
 |[]=>some []
 |some (a,b)::l=>if a=b then (aK9 l).map (a::·) else none
 |none::_=>none
theorem aBC:∀ {is:List fV} {xs ys:List Int},dE is xs→aK9 is=some ys→xs=ys
 |[],[],ys,_,e=>by cases e;rfl
 |[],_::_,_,h,_=>h.elim
 |_::_,[],_,h,_=>h.elim
 |none::_,_::_,_,_,e=>by cases e
 |some (a,b)::l,x::xs,ys,h,e=>by
  unfold aK9 at e
  split at e
  ·rename_i hab
   obtain⟨zs,hz,rfl⟩:=Option.map_eq_some_iff.1 e
   have h1:a≤x∧x≤b:=h.1
   rw[aBC h.2 hz,show x=a by omega]
  ·cases e
def aLN (l:List fV):fV:=
 match aK9 l with
 |some ys=>some (aRI ys,aRI ys)
 |none=>match l with
  |[some p,_]=>some (lU p.1 0,nH p.2 0)
  |_=>none
theorem aIK {is:List fV} {xs:List Int} (h:dE is xs):(aLN is).has (aRI xs):=by
 unfold aLN
 split
 ·rename_i ys e
  rw[aBC h e]
  exact⟨Int.le_refl _,Int.le_refl _⟩
 ·split
  ·rename_i p q _
   match xs,h with
   |[x,y],h=>
    have h1:p.1≤x∧x≤p.2:=h.1
    have:=aWj x y
    show lU p.1 0≤fq x y∧fq x y≤nH p.2 0
    unfold lU nH
    (repeat' split)<;>omega
  ·trivial
def aFZ (f:List Int→Int) (p:Int × Int) (l:List fV):fV:=
 match aK9 l with
 |some ys=>some (f ys,f ys)
 |none=>some p
theorem aFq {f:List Int→Int} {p:Int × Int} (hf:∀ xs,p.1≤f xs∧f xs≤p.2) {is:List fV} {xs:List Int} (h:dE is xs):(aFZ f p is).has (f xs):=by
 unfold aFZ
 split
 ·rename_i ys e
  rw[aBC h e]
  exact⟨Int.le_refl _,Int.le_refl _⟩
 ·exact hf xs
def GI (g:Nat) (l:List fV):fV:=
 match g with
 |4=>aFZ xG4 (-2147483648,2147483647) l
 |60=>some (0,255)
 |61=>some (0,255)
 |62=>some (0,65536)
 |63=>none
 |65=>none
 |67=>some (0,65535)
 |68=>some (-2147483648,2147483647)
 |69=>some (0,5)
 |70=>none
 |71=>aLN l
 |72=>some (3,5)
 |73=>none
 |74=>none
 |75=>none
 |76=>some (0,19342813113834066795298816)
 |77=>some (0,18446744073709551616)
 |78=>some (0,8589934592)
 |79=>some (0,4294967296)
 |g=>wGI g l
theorem aUn:∀ g is xs,dE is xs→(GI g is).has (G g xs):=by
 intro g is xs h
 unfold G GI
 split
 ·exact aFq (p:=(-2147483648,2147483647)) aUQ h
 ·exact aCO xs
 ·exact aCQ xs
 ·exact aBI xs
 ·trivial
 ·trivial
 ·exact aP3 xs
 ·exact aO2 xs
 ·exact aOS xs
 ·trivial
 ·exact aIK h
 ·exact aSh xs
 ·trivial
 ·trivial
 ·trivial
 ·exact aGY xs
 ·exact aF3 xs
 ·exact aHQ xs
 ·exact aGp xs
 ·exact aUI _ is xs h
theorem aWv:aJJ G:=by
 intro g xs h1 h2
 unfold G
 split
 ·omega
 ·omega
 ·omega
 ·omega
 ·omega
 ·omega
 ·omega
 ·omega
 ·omega
 ·omega
 ·omega
 ·omega
 ·omega
 ·omega
 ·omega
 ·omega
 ·omega
 ·omega
 ·omega
 ·exact aUU _ xs h1 h2
theorem eS:GiOk G GI:=⟨aUn,aWv⟩
def GB:dF:=[]
theorem iE (n:Int):max (-2147483648) (min 2147483647 n)=Fx.sat n:=by unfold Fx.sat;split<;>(try split)<;>omega
theorem iU {n:Int} (h:9223372036854775807<n):Fx.sat n=2147483647:=by unfold Fx.sat;split<;>(try split)<;>omega
theorem iS {n:Int} (h:n < -9223372036854775808):Fx.sat n = -2147483648:=by unfold Fx.sat;split<;>(try split)<;>omega
theorem rQ (x a b c d:Int) (h:b-a<0):Fx.line x a b c d=Fx.sat (Fx.near ((0-(x-a))*(d-c)+c*(0-(b-a))) (0-(b-a))):=by
 unfold Fx.line;rw[if_pos h,Int.zero_sub,Int.zero_sub]
theorem rU (x a b c d:Int) (h:0≤b-a):Fx.line x a b c d=Fx.sat (Fx.near ((x-a)*(d-c)+c*(b-a)) (b-a)):=by
 unfold Fx.line;rw[if_neg (by omega)]
theorem aVg (n:Int):Fx.near n 1=n:=Fx.near_uniq n 1 n (by decide) (by omega) (by omega)
theorem fits:kT Try.prog:=⟨by kernel_rfl,fun _=>rfl⟩
end Go.Proofs.Ytdldallkeheciaa
namespace Go.Proofs.Ytdldallkeheciaa
open Go Go.RowKit Sx Wi
def wide? (a b:E):Option E:=
 match a,b with
 | .app 0 (.cons e .nil),.app 1 (.cons f .nil)=>if e.eqb f then some e else none
 | .lit x,.lit y=>if decide (0≤y) && decide (y<18446744073709551616) then some (.lit (x*18446744073709551616+y)) else none
 |_,_=>none
theorem wide?_den {ρ:Nat→Int} {a b e:E} (h:wide? a b=some e):a.den G ρ=hi (e.den G ρ)∧b.den G ρ=lo (e.den G ρ):=by
 unfold wide? at h
 split at h
 ·split at h
  ·rename_i hf
   cases h
   have:=E.eqb_eq _ _ hf
   subst this
   exact⟨rfl,rfl⟩
  ·cases h
 ·split at h
  ·rename_i x y hf
   cases h
   simp only[Bool.and_eq_true,decide_eq_true_eq]at hf
   simp only[E.den]
   unfold hi lo
   omega
  ·cases h
 ·cases h
def W2 (e:E):SV := .agg [.int .i64 (.app 0 (.cons e .nil)),.int .u64 (.app 1 (.cons e .nil))]
def aBu (X:Ctx) (e:E):Bool:=e.lies X (-170141183460469231731687303715884105728) 170141183460469231731687303715884105727
theorem mG {X:Ctx} {ρ:Nat→Int} (hX:X.Ok ρ) {e:E} (h:aBu X e=true):kH (e.den X.G ρ):=by
 have:=E.lies_in hX h
 unfold kH;omega
def rP:nL:=fun X args=>
 match args with
 |[.int .i64 a,.int .i64 n]=>if a.fits X .i64 && n.fits X .i64 then .ok (W2 (.op .mul a n)) else .fail 200
 |_ => .fail 201
theorem aRE {X:Ctx} {ρ:Nat→Int} (hX:X.Ok ρ) (hG:X.G=G):iW Try.prog X ρ GB 76 rP:=by
 obtain⟨XG,XI,XV,XF⟩:=X
 simp only at hG
 subst hG
 have hk:fU Try.prog 76:=⟨_,Try.func76,by kernel_rfl,by kernel_rfl⟩
 intro args s h α w vals hv hw
 unfold rP at h
 split at h
 ·split at h
  ·rename_i hg
   simp only[Bool.and_eq_true]at hg
   cases h
   exact dB hv rfl rfl ⟨hk,aP7 _ _ (E.fits_in hX hg.1) (E.fits_in hX hg.2) w⟩
  ·cases h
 ·cases h
def uB:nL:=fun X args=>
 match args with
 |[.int .i64 a]=>if a.fits X .i64 then .ok (W2 a) else .fail 200
 |_ => .fail 201
theorem aT6 {X:Ctx} {ρ:Nat→Int} (hX:X.Ok ρ) (hG:X.G=G):iW Try.prog X ρ GB 27 uB:=by
 obtain⟨XG,XI,XV,XF⟩:=X
 simp only at hG
 subst hG
 have hk:fU Try.prog 27:=⟨_,Try.func27,by kernel_rfl,by kernel_rfl⟩
 intro args s h α w vals hv hw
 unfold uB at h
 split at h
 ·split at h
  ·rename_i hg
   cases h
   exact dB hv rfl rfl ⟨hk,uG _ (E.fits_in hX hg) w⟩
  ·cases h
 ·cases h
def rK:nL:=fun X args=>
 match args with
 |[.agg [.int .i64 a,.int .u64 b],.agg [.int .i64 c,.int .u64 d]]=>match wide? a b,wide? c d with
  |some e,some f=>if aBu X e && (aBu X f && aBu X (.op .add e f)) then .ok (.tuple [W2 (.op .add e f),.int .i64 (.lit 0)]) else .fail 200
  |_,_ => .fail 202
 |_ => .fail 201
theorem aON {X:Ctx} {ρ:Nat→Int} (hX:X.Ok ρ) (hG:X.G=G):iW Try.prog X ρ GB 30 rK:=by
 obtain⟨XG,XI,XV,XF⟩:=X
 simp only at hG
 subst hG
 have hk:fU Try.prog 30:=⟨_,Try.func30,by kernel_rfl,by kernel_rfl⟩
 intro args s h α w vals hv hw
 unfold rK at h
 split at h
 ·split at h
  ·rename_i a b c d _ _ e f he hf
   split at h
   ·rename_i hg
    simp only[Bool.and_eq_true]at hg
    cases h
    obtain⟨e1,e2⟩:=wide?_den (ρ:=ρ) he
    obtain⟨f1,f2⟩:=wide?_den (ρ:=ρ) hf
    refine dB hv rfl rfl ⟨hk,?_⟩
    have k:=aHF (e.den G ρ) (f.den G ρ) (mG hX hg.1) (mG hX hg.2.1) (mG hX hg.2.2) w
    rw[←e1,←e2,←f1,←f2]at k
    exact k
   ·cases h
  ·cases h
 ·cases h
def nP:nL:=fun X args=>
 match args with
 |[.agg [.int .i64 a,.int .u64 b],.int .i64 n]=>match wide? a b with
  |some e=>if aBu X e && (n.fits X .i64 && aBu X (.op .mul e n)) then .ok (.tuple [W2 (.op .mul e n),.int .i64 (.lit 0)]) else .fail 200
  |_ => .fail 202
 |_ => .fail 201
theorem aIx {X:Ctx} {ρ:Nat→Int} (hX:X.Ok ρ) (hG:X.G=G):iW Try.prog X ρ GB 29 nP:=by
 obtain⟨XG,XI,XV,XF⟩:=X
 simp only at hG
 subst hG
 have hk:fU Try.prog 29:=⟨_,Try.func29,by kernel_rfl,by kernel_rfl⟩
 intro args s h α w vals hv hw
 unfold nP at h
 split at h
 ·split at h
  ·rename_i a b n _ e he
   split at h
   ·rename_i hg
    simp only[Bool.and_eq_true]at hg
    cases h
    obtain⟨e1,e2⟩:=wide?_den (ρ:=ρ) he
    refine dB hv rfl rfl ⟨hk,?_⟩
    have k:=aAN (e.den G ρ) (n.den G ρ) _ _ rfl rfl (mG hX hg.1) (E.fits_in hX hg.2.1) (mG hX hg.2.2) w
    rw[←e1,←e2]at k
    exact k
   ·cases h
  ·cases h
 ·cases h
def qH:nL:=fun X args=>
 match args with
 |[.agg [.int .i64 a,.int .u64 b],.int .i64 d]=>match wide? a b with
  |some e=>if aBu X e && d.lies X 1 9223372036854775807 then .ok (.tuple [W2 (.app 2 (.cons e (.cons d .nil))),.int .i64 (.lit 0)]) else .fail 200
  |_ => .fail 202
 |_ => .fail 201
theorem aNt {X:Ctx} {ρ:Nat→Int} (hX:X.Ok ρ) (hG:X.G=G):iW Try.prog X ρ GB 46 qH:=by
 obtain⟨XG,XI,XV,XF⟩:=X
 simp only at hG
 subst hG
 have hk:fU Try.prog 46:=⟨_,Try.func46,by kernel_rfl,by kernel_rfl⟩
 intro args s h α w vals hv hw
 unfold qH at h
 split at h
 ·split at h
  ·rename_i a b d _ e he
   split at h
   ·rename_i hg
    simp only[Bool.and_eq_true]at hg
    cases h
    obtain⟨e1,e2⟩:=wide?_den (ρ:=ρ) he
    refine dB hv rfl rfl ⟨hk,?_⟩
    obtain⟨d1,d2⟩:=E.lies_in hX hg.2
    have k:=aJW (e.den G ρ) (d.den G ρ) (mG hX hg.1) (show 0<d.den G ρ from d1) d2 w
    rw[←e1,←e2]at k
    exact k
   ·cases h
  ·cases h
 ·cases h
def sG:nL:=fun X args=>
 match args with
 |[.agg [.int .i64 a,.int .u64 b]]=>match wide? a b with
  |some e=>if aBu X e then (Res.test X (.cmp .le (.lit (-9223372036854775808)) e)).bind fun t=>if t then ((Res.test X (.cmp .le e (.lit 9223372036854775807))).bind fun u=>if u then .ok (.tuple [.int .i64 e,.bool (.lit true)]) else .ok (.tuple [.int .i64 (.lit 0),.bool (.lit false)])) else .ok (.tuple [.int .i64 (.lit 0),.bool (.lit false)]) else .fail 200
  |_ => .fail 202
 |_ => .fail 201
theorem aSA {X:Ctx} {ρ:Nat→Int} (hX:X.Ok ρ) (hG:X.G=G):iW Try.prog X ρ GB 47 sG:=by
 obtain⟨XG,XI,XV,XF⟩:=X
 simp only at hG
 subst hG
 have hk:fU Try.prog 47:=⟨_,Try.func47,by kernel_rfl,by kernel_rfl⟩
 intro args s h α w vals hv hw
 unfold sG at h
 split at h
 ·split at h
  ·rename_i a b _ e he
   split at h
   ·rename_i hg
    obtain⟨e1,e2⟩:=wide?_den (ρ:=ρ) he
    have hb:=mG hX hg
    obtain⟨t,ht,h⟩:=Res.bind_ok h
    have ht:=Res.test_ok hX ht
    simp only[B.den,aFR,E.den]at ht
    have no:¬I64 (e.den G ρ)→s = .tuple [.int .i64 (.lit 0),.bool (.lit false)]→fU Try.prog 47∧Calls Try.prog 47 vals.toArray w (fun e w'=>∃ v,e = .returned v∧SV.R G ρ α s v∧Below w.heap.size w w'):=by
     rintro hn rfl
     refine dB hv rfl rfl ⟨hk,?_⟩
     have k:=aUi (e.den G ρ) hn hb w
     rw[←e1,←e2]at k
     exact k
    cases t with
    |false=>cases h;exact no (by unfold I64;simp at ht;omega) rfl
    |true=>
     simp only[if_true]at h
     obtain⟨u,hu,h⟩:=Res.bind_ok h
     have hu:=Res.test_ok hX hu
     simp only[B.den,aFR,E.den]at hu
     cases u with
     |false=>cases h;exact no (by unfold I64;simp at hu;omega) rfl
     |true=>
      cases h
      refine dB hv rfl rfl ⟨hk,?_⟩
      have k:=aPN (e.den G ρ) ⟨of_decide_eq_true ht,of_decide_eq_true hu⟩ w
      rw[←e1,←e2]at k
      exact k
   ·cases h
  ·cases h
 ·cases h
def oL:nL:=fun X args=>
 match args with
 |[.agg [.int .i64 a,.int .u64 b],.int .i64 d]=>match wide? a b with
  |some e=>if aBu X e then (Res.test X (.cmp .le (.lit 1) d)).bind fun t=>(Res.test X (.cmp .le d (.lit 9223372036854775807))).bind fun u=>if t && u then .ok (.tuple [W2 (.app 71 (.cons e (.cons d .nil))),.int .i64 (.op .sub e (.op .mul d (.app 71 (.cons e (.cons d .nil))))),.int .i64 (.lit 0)]) else .fail 203 else .fail 200
  |_ => .fail 202
 |_ => .fail 201
theorem aIR {X:Ctx} {ρ:Nat→Int} (hX:X.Ok ρ) (hG:X.G=G):iW Try.prog X ρ GB 57 oL:=by
 obtain⟨XG,XI,XV,XF⟩:=X
 simp only at hG
 subst hG
 have hk:fU Try.prog 57:=⟨_,Try.func57,by kernel_rfl,by kernel_rfl⟩
 intro args s h α w vals hv hw
 unfold oL at h
 split at h
 ·split at h
  ·rename_i a b d _ e he
   split at h
   ·rename_i hg
    obtain⟨t,ht,h⟩:=Res.bind_ok h
    have ht:=Res.test_ok hX ht
    obtain⟨u,hu,h⟩:=Res.bind_ok h
    have hu:=Res.test_ok hX hu
    cases t
    ·cases h
    cases u
    ·cases h
    cases h
    obtain⟨e1,e2⟩:=wide?_den (ρ:=ρ) he
    refine dB hv rfl rfl ⟨hk,?_⟩
    have d2:d.den G ρ≤9223372036854775807:=of_decide_eq_true hu
    have d1:1≤d.den G ρ:=of_decide_eq_true ht
    have k:=vG (e.den G ρ) (d.den G ρ) (mG hX hg) (show 0<d.den G ρ from d1) d2 w
    have q1:e.den G ρ / d.den G ρ=fq (e.den G ρ) (d.den G ρ):=by unfold fq;rw[if_pos d1];exact(Int.fdiv_eq_ediv_of_nonneg _ (by omega)).symm
    have q2:e.den G ρ % d.den G ρ=e.den G ρ-d.den G ρ*fq (e.den G ρ) (d.den G ρ):=by rw[←q1,Int.emod_def]
    rw[q2,q1,←e1,←e2]at k
    exact k
   ·cases h
  ·cases h
 ·cases h
def aF2:bA:=kJ 76 rP aLI
theorem aET {X:Ctx} {ρ:Nat→Int} (hX:X.Ok ρ) (hG:X.G=G):fF Try.prog X ρ GB aF2:=fJ (aRE hX hG) (aM1)
def aKE:bA:=kJ 27 uB aF2
theorem aIU {X:Ctx} {ρ:Nat→Int} (hX:X.Ok ρ) (hG:X.G=G):fF Try.prog X ρ GB aKE:=fJ (aT6 hX hG) (aET hX hG)
def aHo:bA:=kJ 30 rK aKE
theorem aFl {X:Ctx} {ρ:Nat→Int} (hX:X.Ok ρ) (hG:X.G=G):fF Try.prog X ρ GB aHo:=fJ (aON hX hG) (aIU hX hG)
def aBk:bA:=kJ 29 nP aHo
theorem aCr {X:Ctx} {ρ:Nat→Int} (hX:X.Ok ρ) (hG:X.G=G):fF Try.prog X ρ GB aBk:=fJ (aIx hX hG) (aFl hX hG)
def aDS:bA:=kJ 46 qH aBk
theorem aEx {X:Ctx} {ρ:Nat→Int} (hX:X.Ok ρ) (hG:X.G=G):fF Try.prog X ρ GB aDS:=fJ (aNt hX hG) (aCr hX hG)
def aHs:bA:=kJ 47 sG aDS
theorem aEG {X:Ctx} {ρ:Nat→Int} (hX:X.Ok ρ) (hG:X.G=G):fF Try.prog X ρ GB aHs:=fJ (aSA hX hG) (aEx hX hG)
def aAL:bA:=kJ 57 oL aHs
theorem aB7 {X:Ctx} {ρ:Nat→Int} (hX:X.Ok ρ) (hG:X.G=G):fF Try.prog X ρ GB aAL:=fJ (aIR hX hG) (aEG hX hG)
def aOo:bA:=aAL
theorem aCm {X:Ctx} {ρ:Nat→Int} (hX:X.Ok ρ) (hG:X.G=G):fF Try.prog X ρ GB aOo:=aB7 hX hG
end Go.Proofs.Ytdldallkeheciaa
