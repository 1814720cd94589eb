/- What is proved: what wides.Add,Sub and Int return: sums and differences that are numbers of 128 bits. -/
import Derived.Test.YtoiecphddchknaaQg5
import Derived.Lib.ItoaNum
import Derived.Test.YtoiecphddchknaaQg3
import Derived.Test.YtoiecphddchknaaQa1
import Derived.Test.YtoiecphddchknaaProg
set_option linter.unusedSimpArgs false
set_option linter.unusedVariables false
namespace Go.Proofs.Ytoiecphddchknaa
open Go.RowKit Wi
set_option maxHeartbeats 800000 in
theorem aFM (a b:Int) (ha:jW a) (hb:jW b) (hr:jW (a+b)) (w:World):Calls Try.prog 19 #[.agg #[.int .i64 (hi (a)),.int .u64 (lo (a))],.agg #[.int .i64 (hi (b)),.int .u64 (lo (b))]] w fun e w'=>e = .returned (.tuple #[.agg #[.int .i64 (hi (a+b)),.int .u64 (lo (a+b))],.int .i64 0])∧Below w.heap.size w w':=by
 obtain⟨l1,l2⟩:=mH a
 obtain⟨l3,l4⟩:=mH b
 have q1:=pN a
 have q2:=pN b
 have q3:=pN (a+b)
 have i0:IntKind.i64.wrap ((lo a+lo b) / 18446744073709551616)=(lo a+lo b) / 18446744073709551616:=IntWalk.i64_in _ (by omega)
 have i1:wrap64 (wrap64 (hi a+hi b)+(lo a+lo b) / 18446744073709551616)=hi (a+b):=by unfold wrap64;unfold jW at hr;unfold hi lo;omega
 have i2:(lo a+lo b) % 18446744073709551616=lo (a+b):=by unfold lo;omega
 clear hr ha hb
 rcases Int.lt_or_le a 0 with ga|ga<;>rcases Int.lt_or_le b 0 with gb|gb
 ·have t1:hi a<0:=q1.2 ga
  have t2:hi b<0:=q2.2 gb
  have t3:hi (a+b)<0:=q3.2 (by omega)
  clear q1 q2 q3 ga gb
  go_enter Try.func19,Try.ntmps19
  go_wp2_with (simp only[nB (lo a) (lo b) l1 l3])
  exact bodyPost_ret (v := .tuple #[.agg #[.int .i64 (hi (a+b)),.int .u64 (lo (a+b))],.int .i64 0]) (by simp [results,Try.results19,go_sem, *]) rfl ⟨rfl,by repeat (with_reducible first|exact aD _|refine bP _ (by omega) ?_|apply aA|apply aC)⟩
 ·have t1:hi a<0:=q1.2 ga
  have t2:¬hi b<0:=fun h=>by have:=q2.1 h;omega
  clear q1 q2 q3 ga gb
  go_enter Try.func19,Try.ntmps19
  go_wp2_with (simp only[nB (lo a) (lo b) l1 l3])
  exact bodyPost_ret (v := .tuple #[.agg #[.int .i64 (hi (a+b)),.int .u64 (lo (a+b))],.int .i64 0]) (by simp [results,Try.results19,go_sem, *]) rfl ⟨rfl,by repeat (with_reducible first|exact aD _|refine bP _ (by omega) ?_|apply aA|apply aC)⟩
 ·have t1:¬hi a<0:=fun h=>by have:=q1.1 h;omega
  have t2:hi b<0:=q2.2 gb
  clear q1 q2 q3 ga gb
  go_enter Try.func19,Try.ntmps19
  go_wp2_with (simp only[nB (lo a) (lo b) l1 l3])
  exact bodyPost_ret (v := .tuple #[.agg #[.int .i64 (hi (a+b)),.int .u64 (lo (a+b))],.int .i64 0]) (by simp [results,Try.results19,go_sem, *]) rfl ⟨rfl,by repeat (with_reducible first|exact aD _|refine bP _ (by omega) ?_|apply aA|apply aC)⟩
 ·have t1:¬hi a<0:=fun h=>by have:=q1.1 h;omega
  have t2:¬hi b<0:=fun h=>by have:=q2.1 h;omega
  have t3:¬hi (a+b)<0:=fun h=>by have:=q3.1 h;omega
  clear q1 q2 q3 ga gb
  go_enter Try.func19,Try.ntmps19
  go_wp2_with (simp only[nB (lo a) (lo b) l1 l3])
  exact bodyPost_ret (v := .tuple #[.agg #[.int .i64 (hi (a+b)),.int .u64 (lo (a+b))],.int .i64 0]) (by simp [results,Try.results19,go_sem, *]) rfl ⟨rfl,by repeat (with_reducible first|exact aD _|refine bP _ (by omega) ?_|apply aA|apply aC)⟩
set_option maxHeartbeats 800000 in
theorem aFq (a b:Int) (ha:jW a) (hb:jW b) (hr:jW (a-b)) (w:World):Calls Try.prog 21 #[.agg #[.int .i64 (hi (a)),.int .u64 (lo (a))],.agg #[.int .i64 (hi (b)),.int .u64 (lo (b))]] w fun e w'=>e = .returned (.tuple #[.agg #[.int .i64 (hi (a-b)),.int .u64 (lo (a-b))],.int .i64 0])∧Below w.heap.size w w':=by
 obtain⟨l1,l2⟩:=mH a
 obtain⟨l3,l4⟩:=mH b
 have q1:=pN a
 have q2:=pN b
 have q3:=pN (a-b)
 have b0:0≤bor (lo a) (lo b)∧bor (lo a) (lo b)≤1:=by unfold bor;split<;>omega
 have i0:IntKind.i64.wrap (bor (lo a) (lo b))=bor (lo a) (lo b):=IntWalk.i64_in _ (by omega)
 have i1:wrap64 (wrap64 (hi a-hi b)-bor (lo a) (lo b))=hi (a-b):=by unfold wrap64 bor;unfold jW at hr;unfold hi lo;split<;>omega
 have i2:(lo a-lo b) % 18446744073709551616=lo (a-b):=by unfold lo;omega
 clear b0
 clear hr ha hb
 rcases Int.lt_or_le a 0 with ga|ga<;>rcases Int.lt_or_le b 0 with gb|gb
 ·have t1:hi a<0:=q1.2 ga
  have t2:hi b<0:=q2.2 gb
  clear q1 q2 q3 ga gb
  go_enter Try.func21,Try.ntmps21
  go_wp2_with (simp only[vG (lo a) (lo b) l1 l3 l4])
  exact bodyPost_ret (v := .tuple #[.agg #[.int .i64 (hi (a-b)),.int .u64 (lo (a-b))],.int .i64 0]) (by simp [results,Try.results21,go_sem, *]) rfl ⟨rfl,by repeat (with_reducible first|exact aD _|refine bP _ (by omega) ?_|apply aA|apply aC)⟩
 ·have t1:hi a<0:=q1.2 ga
  have t2:¬hi b<0:=fun h=>by have:=q2.1 h;omega
  have t3:hi (a-b)<0:=q3.2 (by omega)
  clear q1 q2 q3 ga gb
  go_enter Try.func21,Try.ntmps21
  go_wp2_with (simp only[vG (lo a) (lo b) l1 l3 l4])
  exact bodyPost_ret (v := .tuple #[.agg #[.int .i64 (hi (a-b)),.int .u64 (lo (a-b))],.int .i64 0]) (by simp [results,Try.results21,go_sem, *]) rfl ⟨rfl,by repeat (with_reducible first|exact aD _|refine bP _ (by omega) ?_|apply aA|apply aC)⟩
 ·have t1:¬hi a<0:=fun h=>by have:=q1.1 h;omega
  have t2:hi b<0:=q2.2 gb
  have t3:¬hi (a-b)<0:=fun h=>by have:=q3.1 h;omega
  clear q1 q2 q3 ga gb
  go_enter Try.func21,Try.ntmps21
  go_wp2_with (simp only[vG (lo a) (lo b) l1 l3 l4])
  exact bodyPost_ret (v := .tuple #[.agg #[.int .i64 (hi (a-b)),.int .u64 (lo (a-b))],.int .i64 0]) (by simp [results,Try.results21,go_sem, *]) rfl ⟨rfl,by repeat (with_reducible first|exact aD _|refine bP _ (by omega) ?_|apply aA|apply aC)⟩
 ·have t1:¬hi a<0:=fun h=>by have:=q1.1 h;omega
  have t2:¬hi b<0:=fun h=>by have:=q2.1 h;omega
  clear q1 q2 q3 ga gb
  go_enter Try.func21,Try.ntmps21
  go_wp2_with (simp only[vG (lo a) (lo b) l1 l3 l4])
  exact bodyPost_ret (v := .tuple #[.agg #[.int .i64 (hi (a-b)),.int .u64 (lo (a-b))],.int .i64 0]) (by simp [results,Try.results21,go_sem, *]) rfl ⟨rfl,by repeat (with_reducible first|exact aD _|refine bP _ (by omega) ?_|apply aA|apply aC)⟩
theorem aM2 (n:Int) (h:I64 n) (w:World):Calls Try.prog 32 #[.agg #[.int .i64 (hi (n)),.int .u64 (lo (n))]] w fun e w'=>e = .returned (.tuple #[.int .i64 n,.bool true])∧Below w.heap.size w w':=by
 have i1:IntKind.i64.wrap (lo n)=n:=by rw[IntKind.wrap_i64];unfold I64 at h;unfold lo;omega
 go_enter Try.func32,Try.ntmps32
 go_wp2
 obtain⟨w0,hw0⟩:∃ x:World,x=(w.alloc (.cells #[.int .i64 (hi (n)),.int .u64 (lo (n))] 35)):=⟨_,rfl⟩
 have k0:w0.cell? ⟨w.heap.size,0,none⟩=some (.int .i64 (hi (n))):=by rw[hw0];repeat (first|(refine aK ?_ rfl;(simp;done))|refine aJ ?_)
 have k1:w0.cell? ⟨w.heap.size,1,none⟩=some (.int .u64 (lo (n))):=by rw[hw0];repeat (first|(refine aK ?_ rfl;(simp;done))|refine aJ ?_)
 have z0:w.heap.size<w0.heap.size:=World.block_lt_of_cell? _ _ k0
 have hB:Below w.heap.size w w0:=by rw[hw0];repeat (with_reducible first|exact aD _|apply aA)
 rw[←hw0]
 clear hw0
 go_region_held3 (fun w'=>Below w.heap.size w w'∧(w.heap.size<w'.heap.size)∧w'.cell? ⟨w.heap.size,0,none⟩=some (.int .i64 (hi (n)))∧w'.cell? ⟨w.heap.size,1,none⟩=some (.int .u64 (lo (n))))
  ((exact⟨by repeat (with_reducible first|exact aD _|exact hB|(simp only[*];done)|apply aC|apply aA|apply hx),by first|omega|(simp only[World.size_alloc,World.size_drew];omega)|(simp;omega),by first|(simp;done)|(simp [*];done)|(simp [*,World.cell?_setCell_far];done)|(simp (disch:=omega) [World.cell?_alloc_past, *];done)⟩))
  (first
   |(go_at_call 17;refine(rZ _ h _).mono ?_;rintro e w1 ⟨rfl,hb⟩;have hx:=fun h=>aE hb h (w:=w);obtain⟨hc,hf⟩:=aN2 hb;have hz:=hb.size))
 go_wp2
 exact bodyPost_ret (v := .tuple #[.int .i64 n,.bool true]) (by simp [results,Try.results32,go_sem]) rfl ⟨rfl,by simp [*]⟩
theorem aN9 (n:Int) (h:¬I64 n) (hb:jW n) (w:World):Calls Try.prog 32 #[.agg #[.int .i64 (hi (n)),.int .u64 (lo (n))]] w fun e w'=>e = .returned (.tuple #[.int .i64 0,.bool false])∧Below w.heap.size w w':=by
 obtain⟨m,hm⟩:∃ m,m=IntKind.i64.wrap (lo n):=⟨_,rfl⟩
 have i1:IntKind.i64.wrap (lo n)=m:=hm.symm
 have hI:I64 m:=by rw[hm,IntKind.wrap_i64];unfold I64 lo;omega
 have i2:lo m=lo n:=by rw[hm,IntKind.wrap_i64];unfold lo;omega
 have i3:¬hi n=hi m:=by
  intro e
  have:=aNW n
  have:=aNW m
  have:n=m:=by omega
  rw[this]at h;exact h hI
 clear hm h hb
 go_enter Try.func32,Try.ntmps32
 go_wp2
 obtain⟨w0,hw0⟩:∃ x:World,x=(w.alloc (.cells #[.int .i64 (hi (n)),.int .u64 (lo (n))] 35)):=⟨_,rfl⟩
 have k0:w0.cell? ⟨w.heap.size,0,none⟩=some (.int .i64 (hi (n))):=by rw[hw0];repeat (first|(refine aK ?_ rfl;(simp;done))|refine aJ ?_)
 have k1:w0.cell? ⟨w.heap.size,1,none⟩=some (.int .u64 (lo (n))):=by rw[hw0];repeat (first|(refine aK ?_ rfl;(simp;done))|refine aJ ?_)
 have z0:w.heap.size<w0.heap.size:=World.block_lt_of_cell? _ _ k0
 have hB:Below w.heap.size w w0:=by rw[hw0];repeat (with_reducible first|exact aD _|apply aA)
 rw[←hw0]
 clear hw0
 go_region_held3 (fun w'=>Below w.heap.size w w'∧(w.heap.size<w'.heap.size)∧w'.cell? ⟨w.heap.size,0,none⟩=some (.int .i64 (hi (n)))∧w'.cell? ⟨w.heap.size,1,none⟩=some (.int .u64 (lo (n))))
  ((exact⟨by repeat (with_reducible first|exact aD _|exact hB|(simp only[*];done)|apply aC|apply aA|apply hx),by first|omega|(simp only[World.size_alloc,World.size_drew];omega)|(simp;omega),by first|(simp;done)|(simp [*];done)|(simp [*,World.cell?_setCell_far];done)|(simp (disch:=omega) [World.cell?_alloc_past, *];done)⟩))
  (first
   |(go_at_call 17;refine(rZ _ hI _).mono ?_;rintro e w1 ⟨rfl,hb⟩;have hx:=fun h=>aE hb h (w:=w);obtain⟨hc,hf⟩:=aN2 hb;have hz:=hb.size))
 go_wp2
 exact bodyPost_ret (v := .tuple #[.int .i64 0,.bool false]) (by simp [results,Try.results32,go_sem]) rfl ⟨rfl,by simp [*]⟩
end Go.Proofs.Ytoiecphddchknaa
namespace Go.Proofs.Ytoiecphddchknaa
open Go.RowKit Wi Dv
theorem aAO (lo y:Int) (hl:dZ lo) (hy:0<y∧y<18446744073709551616) (w:World):Calls Try.prog 91 #[.int .u64 0,.int .u64 lo,.int .u64 y] w fun e w'=>e = .returned (.tuple #[.int .u64 (lo / y),.int .u64 (lo % y)])∧Below w.heap.size w w':=by
 obtain⟨l1,l2⟩:=hl
 obtain⟨y1,y2⟩:=hy
 have n0:¬y=0:=by omega
 have n1:¬y≤0:=by omega
 have d0:0≤lo / y:=Int.ediv_nonneg l1 (by omega)
 have d1:lo / y≤lo:=Int.ediv_le_self _ l1
 have d2:=Int.emod_nonneg lo n0
 have d3:=Int.emod_lt_of_pos lo y1
 have td:lo.tdiv y=lo / y:=Int.tdiv_eq_ediv_of_nonneg l1
 have tm:lo.tmod y=lo % y:=Int.tmod_eq_emod_of_nonneg l1
 go_enter Try.func91,Try.ntmps91
 go_wp2
 go_quiet (fail)
 go_wp2
 exact bodyPost_ret (v := .tuple #[.int .u64 (lo / y),.int .u64 (lo % y)]) (by simp [results,Try.results91,go_sem]) rfl ⟨rfl,below_drewN (aD _) _⟩
theorem aLN (y:Int) (y1:0<y) (y2:y<18446744073709551616):∃ s:Nat,(64-(Lib.bitLen y.toNat:Int))=s∧s≤64∧9223372036854775808≤y*2 ^ s∧y*2 ^ s<18446744073709551616:=by
 obtain⟨n,rfl⟩:=Int.eq_ofNat_of_zero_le (Int.le_of_lt y1)
 have h:=Lib.bitLenAux_bounds 64 n (by omega) (by omega)
 have hb:Lib.bitLen n≤64:=Lib.bitLen_le n 64 (by omega) (by omega)
 have e:Lib.bitLen n=Lib.bitLenAux 64 n:=rfl
 rw[←e]at h
 obtain⟨h1,h2,h3⟩:=h
 rw[Int.toNat_natCast]
 generalize Lib.bitLen n=L at *
 refine⟨64-L,by omega,by omega,?_⟩
 have k1:2 ^ (L-1)*2 ^ (64-L)≤n*2 ^ (64-L):=Nat.mul_le_mul_right _ h2
 have k2:n*2 ^ (64-L)<2 ^ L*2 ^ (64-L):=Nat.mul_lt_mul_of_pos_right h3 (Nat.two_pow_pos _)
 rw[←Nat.pow_add]at k1 k2
 rw[show L-1+(64-L)=63 by omega]at k1
 rw[show L+(64-L)=64 by omega]at k2
 have c:((n*2 ^ (64-L):Nat):Int)=(n:Int)*2 ^ (64-L):=by rw[Int.natCast_mul,Int.natCast_pow];rfl
 rw[←c]
 omega
theorem aJ7 (x:Int) (h0:0≤x) (h1:x<18446744073709551616):bits .and .u64 x 4294967295=x % 4294967296:=by
 obtain⟨n,rfl⟩:=Int.eq_ofNat_of_zero_le h0
 rw[Mul64.maskN n (by omega)];omega
theorem aLs (h lo:Int) (s:Nat) (h0:0≤h) (l0:0≤lo) (g1:h*2 ^ s<18446744073709551616) (g2:lo / 2 ^ (64-s)<2 ^ s) (hs:s≤64):
  bits .or .u64 (IntKind.u64.wrap (h*2 ^ s)) (lo / 2 ^ (64-s))=h*2 ^ s+lo / 2 ^ (64-s):=by
 obtain⟨a,rfl⟩:=Int.eq_ofNat_of_zero_le h0
 obtain⟨b,rfl⟩:=Int.eq_ofNat_of_zero_le l0
 have c1:((a*2 ^ s:Nat):Int)=(a:Int)*2 ^ s:=by rw[Int.natCast_mul,Int.natCast_pow];rfl
 have c2:((b / 2 ^ (64-s):Nat):Int)=(b:Int) / 2 ^ (64-s):=by rw[Int.natCast_ediv,Int.natCast_pow];rfl
 have c3:((2 ^ s:Nat):Int)=2 ^ s:=by rw[Int.natCast_pow];rfl
 have p:(2:Nat) ^ s≤2 ^ 64:=Nat.pow_le_pow_right (by decide) hs
 rw[IntKind.wrap_u64,←c1,←c2]
 rw[←c1]at g1
 rw[←c2,←c3]at g2
 rw[Int.emod_eq_of_lt (by omega) g1,bits_or_u64_nat _ _ (by omega) (by omega)]
 have k:=Nat.shiftLeft_add_eq_or_of_lt (b:=b / 2 ^ (64-s)) (i:=s) (by omega) a
 rw[Nat.shiftLeft_eq]at k
 rw[←k,Int.natCast_add]
set_option maxHeartbeats 1600000 in
theorem aD5 (h lo y:Int) (hh:0<h∧h<y) (hl:dZ lo) (hy:0<y∧y<18446744073709551616) (w:World):Calls Try.prog 91 #[.int .u64 h,.int .u64 lo,.int .u64 y] w fun e w'=>e = .returned (.tuple #[.int .u64 ((h*18446744073709551616+lo) / y),.int .u64 ((h*18446744073709551616+lo) % y)])∧Below w.heap.size w w':=by
 obtain⟨l1,l2⟩:=hl
 obtain⟨y1,y2⟩:=hy
 obtain⟨h1,h2⟩:=hh
 have n0:¬y=0:=by omega
 have n1:¬y≤h:=by omega
 have n2:¬h=0:=by omega
 obtain⟨s,hs',s64,ys1,ys2⟩:=aLN y y1 y2
 obtain⟨p1,p2,p3,p4,p5,p6,p7⟩:=aQR h lo y s s64 ys1 ys2 (by omega) h2 l1 l2
 have f4:=aLs h lo s (by omega) l1 p3 p5 s64
 have bk:=aA2 (h*18446744073709551616+lo) y (2 ^ s) p7
 have f1:IntKind.u64.wrap (y*2 ^ s)=y*2 ^ s:=by rw[IntKind.wrap_u64];omega
 have f5:IntKind.u64.wrap (lo*2 ^ s)=lo*2 ^ s % 18446744073709551616:=IntKind.wrap_u64 _
 have hV:0≤lo*2 ^ s % 18446744073709551616∧lo*2 ^ s % 18446744073709551616<18446744073709551616:=by omega
 rw[←p1]at bk
 generalize hYe:y*2 ^ s=Y at *
 generalize hVe:lo*2 ^ s % 18446744073709551616=V at *
 have hU0:0≤h*2 ^ s+lo / 2 ^ (64-s):=by omega
 generalize h*2 ^ s+lo / 2 ^ (64-s)=U at *
 have kn1:Kn (Y / 4294967296) (Y % 4294967296) U (V / 4294967296):=aN6 Y U _ ys1 ys2 hU0 p6 (by omega) (by omega)
 have f2:=aJ7 Y (by omega) ys2
 have f3:=aJ7 V hV.1 hV.2
 have kY:Y / 4294967296*4294967296+Y % 4294967296=Y:=by omega
 have rb1:=aFL Y U (V / 4294967296) (by omega)
 have re1:=aFx Y U (V / 4294967296)
 have tq1:=aQl Y U (V / 4294967296)
 have ts:=aH1 Y U (V / 4294967296) (V % 4294967296) (by omega)
 have hVV:V / 4294967296*4294967296+V % 4294967296=V:=by omega
 rw[Int.add_assoc,hVV]at ts
 generalize (U*4294967296+V / 4294967296) % Y=R at *
 have kn2:Kn (Y / 4294967296) (Y % 4294967296) R (V % 4294967296):=aN6 Y R _ ys1 ys2 rb1.1 rb1.2 (by omega) (by omega)
 have rb2:=aFL Y R (V % 4294967296) (by omega)
 have re2:=aFx Y R (V % 4294967296)
 have tq2:=aQl Y R (V % 4294967296)
 have tb1:=aIP kn1
 have tb2:=aIP kn2
 rw[tq1]at tb1
 rw[tq2]at tb2
 generalize hT1:(U*4294967296+V / 4294967296) / Y=T1 at *
 generalize hT2:(R*4294967296+V % 4294967296) / Y=T2 at *
 generalize (R*4294967296+V % 4294967296) % Y=R2 at *
 have st1:=Inv.start kn1
 have st2:=Inv.start kn2
 have hV1:0≤V / 4294967296∧V / 4294967296<4294967296:=by omega
 have hV0:0≤V % 4294967296∧V % 4294967296<4294967296:=by omega
 generalize fV1:V / 4294967296=V1 at *
 generalize V % 4294967296=V0 at *
 have hY1:2147483648≤Y / 4294967296:=by omega
 generalize fY1:Y / 4294967296=Y1 at *
 generalize Y % 4294967296=Y0 at *
 have nY:¬Y1=0:=by omega
 have q1:IntKind.u64.wrap (U.tdiv Y1)=U / Y1:=by
  rw[IntKind.wrap_u64,Int.tdiv_eq_ediv_of_nonneg hU0]
  have:=(Inv.bd kn1 st1).2.2.2.2.2.2;exact Int.emod_eq_of_lt this.1 this.2.1
 have r1:IntKind.u64.wrap (U-IntKind.u64.wrap (U / Y1*Y1))=U % Y1:=by
  have e:=st1.e
  have l1:=st1.r0
  have l2:=st1.r1
  rw[IntKind.wrap_u64,IntKind.wrap_u64]
  generalize U / Y1*Y1=P at *
  omega
 have q2:IntKind.u64.wrap (R.tdiv Y1)=R / Y1:=by
  rw[IntKind.wrap_u64,Int.tdiv_eq_ediv_of_nonneg rb1.1]
  have:=(Inv.bd kn2 st2).2.2.2.2.2.2;exact Int.emod_eq_of_lt this.1 this.2.1
 have r2:IntKind.u64.wrap (R-IntKind.u64.wrap (R / Y1*Y1))=R % Y1:=by
  have e:=st2.e
  have l1:=st2.r0
  have l2:=st2.r1
  rw[IntKind.wrap_u64,IntKind.wrap_u64]
  generalize R / Y1*Y1=P at *
  omega
 have u1:IntKind.u64.wrap (IntKind.u64.wrap (IntKind.u64.wrap (U*4294967296)+V1)-IntKind.u64.wrap (T1*Y))=R:=by
  rw[IntKind.wrap_u64,IntKind.wrap_u64,IntKind.wrap_u64,IntKind.wrap_u64]
  generalize T1*Y=P at *
  omega
 have u2:IntKind.u64.wrap (IntKind.u64.wrap (IntKind.u64.wrap (R*4294967296)+V0)-IntKind.u64.wrap (T2*Y))=R2:=by
  rw[IntKind.wrap_u64,IntKind.wrap_u64,IntKind.wrap_u64,IntKind.wrap_u64]
  generalize T2*Y=P at *
  omega
 have qq:IntKind.u64.wrap (IntKind.u64.wrap (T1*4294967296)+T2)=(h*18446744073709551616+lo) / y:=by
  rw[IntKind.wrap_u64,IntKind.wrap_u64,←bk.1,ts.1];omega
 have rr:R2 / 2 ^ s=(h*18446744073709551616+lo) % y:=by rw[←bk.2,ts.2]
 replace f1:IntKind.u64.wrap (y*2 ^ s)=Y:=by rw[hYe];exact f1
 have Hk1:=Lib.hid kn1
 have Hk2:=Lib.hid kn2
 have Hs1:=Lib.hid st1
 have Hs2:=Lib.hid st2
 have HT1:=Lib.hid tq1
 have HT2:=Lib.hid tq2
 clear kn1 kn2 st1 st2 tq1 tq2 tb1 tb2 ts bk hT1 hT2 re1 re2 rb1 rb2 kY hVV hYe hVe p1 p2 p3 p4 p5 p6 p7 hU0 ys1
 generalize (h*18446744073709551616+lo) / y=QQ at *
 generalize (h*18446744073709551616+lo) % y=RR at *
 go_enter Try.func91,Try.ntmps91
 go_wp2_with (go_at_call 98;refine(Try.bits_LeadingZeros64 y _ (by omega) (by omega)).mono ?_;rintro e w1 ⟨rfl,rfl⟩;rw[hs'])
 go_loopw [15,16] (fun qv rv wl=>∃ q r:Int,qv = .int .u64 q∧rv = .int .u64 r∧wl=w1∧Hid (Inv Y1 Y0 U V1 q r)) (fun qv _ _=>(intOf qv).toNat)
 case atStart=>exact⟨_,_,rfl,rfl,rfl,Hs1⟩
 case round=>
  obtain⟨q,r,rfl,rfl,rfl,hI⟩:=hrel
  have hI':=hI.out
  have ⟨m1,m2,m3,m4,m5,m6,m7,m8,m9,m10⟩:=Inv.bd Hk1.out hI'
  have i1:IntKind.u64.wrap (q*Y0)=q*Y0:=by rw[IntKind.wrap_u64];exact Int.emod_eq_of_lt m1 m2
  have i2:IntKind.u64.wrap (4294967296*r)=4294967296*r:=by rw[IntKind.wrap_u64];exact Int.emod_eq_of_lt m3 m4
  have i3:IntKind.u64.wrap (4294967296*r+V1)=4294967296*r+V1:=by rw[IntKind.wrap_u64];exact Int.emod_eq_of_lt m5 m6
  have i4:IntKind.u64.wrap (r+Y1)=r+Y1:=by rw[IntKind.wrap_u64];exact Int.emod_eq_of_lt m9 m10
  by_cases hd:Due Y0 V1 q r
  ·by_cases hl:r+Y1<4294967296
   ·have ⟨hN,hp⟩:=Inv.more Hk1.out hI' hd hl
    have i5:IntKind.u64.wrap (q-1)=q-1:=by rw[IntKind.wrap_u64];omega
    have HN:=Lib.hid hN
    have hn1:¬4294967296≤r+Y1:=by omega
    clear hN hI' m1 m2 m3 m4 m5 m6 m9 m10
    rcases hd with g|g
    ·go_wp2
     go_roundw
     case rel=>exact⟨_,_,rfl,rfl,by trivial,HN⟩
     case measure=>simp [intOf];omega
    ·by_cases g2:4294967296≤q
     ·go_wp2
      go_roundw
      case rel=>exact⟨_,_,rfl,rfl,by trivial,HN⟩
      case measure=>simp [intOf];omega
     ·go_wp2
      go_roundw
      case rel=>exact⟨_,_,rfl,rfl,by trivial,HN⟩
      case measure=>simp [intOf];omega
   ·have ⟨hT,hp⟩:=Inv.broke Hk1.out hI' hd (by omega)
    have i5:IntKind.u64.wrap (q-1)=T1:=by rw[IntKind.wrap_u64,←HT1.out,←hT];omega
    have hn1:4294967296≤r+Y1:=by omega
    clear hT hI' m1 m2 m3 m4 m5 m6 m9 m10
    by_cases g2:4294967296≤q
    ·clear hd
     go_wp2
     try clear i5
     try clear i4
     try clear i3
     try clear i2
     try clear i1
     try clear hn1
     try clear g1
     try clear g2
     try clear g3
     try clear hl
     try clear hp
     try clear hI
     try clear m7
     try clear m8
     go_loopw [18,16] (fun qv rv wl=>∃ q r:Int,qv = .int .u64 q∧rv = .int .u64 r∧wl=wr∧Hid (Inv Y1 Y0 R V0 q r)) (fun qv _ _=>(intOf qv).toNat)
     case atStart=>exact⟨_,_,rfl,rfl,rfl,Hs2⟩
     case round=>
      obtain⟨q,r,rfl,rfl,rfl,hI⟩:=hrel
      have hI':=hI.out
      have ⟨m1,m2,m3,m4,m5,m6,m7,m8,m9,m10⟩:=Inv.bd Hk2.out hI'
      have i1:IntKind.u64.wrap (q*Y0)=q*Y0:=by rw[IntKind.wrap_u64];exact Int.emod_eq_of_lt m1 m2
      have i2:IntKind.u64.wrap (4294967296*r)=4294967296*r:=by rw[IntKind.wrap_u64];exact Int.emod_eq_of_lt m3 m4
      have i3:IntKind.u64.wrap (4294967296*r+V0)=4294967296*r+V0:=by rw[IntKind.wrap_u64];exact Int.emod_eq_of_lt m5 m6
      have i4:IntKind.u64.wrap (r+Y1)=r+Y1:=by rw[IntKind.wrap_u64];exact Int.emod_eq_of_lt m9 m10
      by_cases hd:Due Y0 V0 q r
      ·by_cases hl:r+Y1<4294967296
       ·have ⟨hN,hp⟩:=Inv.more Hk2.out hI' hd hl
        have i5:IntKind.u64.wrap (q-1)=q-1:=by rw[IntKind.wrap_u64];omega
        have HN:=Lib.hid hN
        have hn1:¬4294967296≤r+Y1:=by omega
        clear hN hI' m1 m2 m3 m4 m5 m6 m9 m10
        rcases hd with g|g
        ·go_wp2
         go_roundw
         case rel=>exact⟨_,_,rfl,rfl,by trivial,HN⟩
         case measure=>simp [intOf];omega
        ·by_cases g2:4294967296≤q
         ·go_wp2
          go_roundw
          case rel=>exact⟨_,_,rfl,rfl,by trivial,HN⟩
          case measure=>simp [intOf];omega
         ·go_wp2
          go_roundw
          case rel=>exact⟨_,_,rfl,rfl,by trivial,HN⟩
          case measure=>simp [intOf];omega
       ·have ⟨hT,hp⟩:=Inv.broke Hk2.out hI' hd (by omega)
        have i5:IntKind.u64.wrap (q-1)=T2:=by rw[IntKind.wrap_u64,←HT2.out,←hT];omega
        have hn1:4294967296≤r+Y1:=by omega
        clear hT hI' m1 m2 m3 m4 m5 m6 m9 m10
        by_cases g2:4294967296≤q
        ·clear hd
         go_wp2
         exact bodyPost_ret (v := .tuple #[.int .u64 QQ,.int .u64 RR]) (by simp [results,Try.results91,go_sem]) rfl ⟨rfl,aD _⟩
        ·have g3:4294967296*r+V0<q*Y0:=by rcases hd with g|g;exact absurd g g2;exact g
         clear hd
         go_wp2
         exact bodyPost_ret (v := .tuple #[.int .u64 QQ,.int .u64 RR]) (by simp [results,Try.results91,go_sem]) rfl ⟨rfl,aD _⟩
      ·have g1:¬4294967296≤q:=fun g=>hd (Or.inl g)
       have g2:¬4294967296*r+V0<q*Y0:=fun g=>hd (Or.inr g)
       have hT:q=T2:=(Inv.done Hk2.out hI' (by omega)).trans HT2.out
       clear hd hI' m1 m2 m3 m4 m5 m6 m9 m10
       subst hT
       go_wp2
       exact bodyPost_ret (v := .tuple #[.int .u64 QQ,.int .u64 RR]) (by simp [results,Try.results91,go_sem]) rfl ⟨rfl,aD _⟩
    ·have g3:4294967296*r+V1<q*Y0:=by rcases hd with g|g;exact absurd g g2;exact g
     clear hd
     go_wp2
     try clear i5
     try clear i4
     try clear i3
     try clear i2
     try clear i1
     try clear hn1
     try clear g1
     try clear g2
     try clear g3
     try clear hl
     try clear hp
     try clear hI
     try clear m7
     try clear m8
     go_loopw [18,16] (fun qv rv wl=>∃ q r:Int,qv = .int .u64 q∧rv = .int .u64 r∧wl=wr∧Hid (Inv Y1 Y0 R V0 q r)) (fun qv _ _=>(intOf qv).toNat)
     case atStart=>exact⟨_,_,rfl,rfl,rfl,Hs2⟩
     case round=>
      obtain⟨q,r,rfl,rfl,rfl,hI⟩:=hrel
      have hI':=hI.out
      have ⟨m1,m2,m3,m4,m5,m6,m7,m8,m9,m10⟩:=Inv.bd Hk2.out hI'
      have i1:IntKind.u64.wrap (q*Y0)=q*Y0:=by rw[IntKind.wrap_u64];exact Int.emod_eq_of_lt m1 m2
      have i2:IntKind.u64.wrap (4294967296*r)=4294967296*r:=by rw[IntKind.wrap_u64];exact Int.emod_eq_of_lt m3 m4
      have i3:IntKind.u64.wrap (4294967296*r+V0)=4294967296*r+V0:=by rw[IntKind.wrap_u64];exact Int.emod_eq_of_lt m5 m6
      have i4:IntKind.u64.wrap (r+Y1)=r+Y1:=by rw[IntKind.wrap_u64];exact Int.emod_eq_of_lt m9 m10
      by_cases hd:Due Y0 V0 q r
      ·by_cases hl:r+Y1<4294967296
       ·have ⟨hN,hp⟩:=Inv.more Hk2.out hI' hd hl
        have i5:IntKind.u64.wrap (q-1)=q-1:=by rw[IntKind.wrap_u64];omega
        have HN:=Lib.hid hN
        have hn1:¬4294967296≤r+Y1:=by omega
        clear hN hI' m1 m2 m3 m4 m5 m6 m9 m10
        rcases hd with g|g
        ·go_wp2
         go_roundw
         case rel=>exact⟨_,_,rfl,rfl,by trivial,HN⟩
         case measure=>simp [intOf];omega
        ·by_cases g2:4294967296≤q
         ·go_wp2
          go_roundw
          case rel=>exact⟨_,_,rfl,rfl,by trivial,HN⟩
          case measure=>simp [intOf];omega
         ·go_wp2
          go_roundw
          case rel=>exact⟨_,_,rfl,rfl,by trivial,HN⟩
          case measure=>simp [intOf];omega
       ·have ⟨hT,hp⟩:=Inv.broke Hk2.out hI' hd (by omega)
        have i5:IntKind.u64.wrap (q-1)=T2:=by rw[IntKind.wrap_u64,←HT2.out,←hT];omega
        have hn1:4294967296≤r+Y1:=by omega
        clear hT hI' m1 m2 m3 m4 m5 m6 m9 m10
        by_cases g2:4294967296≤q
        ·clear hd
         go_wp2
         exact bodyPost_ret (v := .tuple #[.int .u64 QQ,.int .u64 RR]) (by simp [results,Try.results91,go_sem]) rfl ⟨rfl,aD _⟩
        ·have g3:4294967296*r+V0<q*Y0:=by rcases hd with g|g;exact absurd g g2;exact g
         clear hd
         go_wp2
         exact bodyPost_ret (v := .tuple #[.int .u64 QQ,.int .u64 RR]) (by simp [results,Try.results91,go_sem]) rfl ⟨rfl,aD _⟩
      ·have g1:¬4294967296≤q:=fun g=>hd (Or.inl g)
       have g2:¬4294967296*r+V0<q*Y0:=fun g=>hd (Or.inr g)
       have hT:q=T2:=(Inv.done Hk2.out hI' (by omega)).trans HT2.out
       clear hd hI' m1 m2 m3 m4 m5 m6 m9 m10
       subst hT
       go_wp2
       exact bodyPost_ret (v := .tuple #[.int .u64 QQ,.int .u64 RR]) (by simp [results,Try.results91,go_sem]) rfl ⟨rfl,aD _⟩
  ·have g1:¬4294967296≤q:=fun g=>hd (Or.inl g)
   have g2:¬4294967296*r+V1<q*Y0:=fun g=>hd (Or.inr g)
   have hT:q=T1:=(Inv.done Hk1.out hI' (by omega)).trans HT1.out
   clear hd hI' m1 m2 m3 m4 m5 m6 m9 m10
   subst hT
   go_wp2
   try clear i5
   try clear i4
   try clear i3
   try clear i2
   try clear i1
   try clear hn1
   try clear g1
   try clear g2
   try clear g3
   try clear hl
   try clear hp
   try clear hI
   try clear m7
   try clear m8
   go_loopw [18,16] (fun qv rv wl=>∃ q r:Int,qv = .int .u64 q∧rv = .int .u64 r∧wl=wr∧Hid (Inv Y1 Y0 R V0 q r)) (fun qv _ _=>(intOf qv).toNat)
   case atStart=>exact⟨_,_,rfl,rfl,rfl,Hs2⟩
   case round=>
    obtain⟨q,r,rfl,rfl,rfl,hI⟩:=hrel
    have hI':=hI.out
    have ⟨m1,m2,m3,m4,m5,m6,m7,m8,m9,m10⟩:=Inv.bd Hk2.out hI'
    have i1:IntKind.u64.wrap (q*Y0)=q*Y0:=by rw[IntKind.wrap_u64];exact Int.emod_eq_of_lt m1 m2
    have i2:IntKind.u64.wrap (4294967296*r)=4294967296*r:=by rw[IntKind.wrap_u64];exact Int.emod_eq_of_lt m3 m4
    have i3:IntKind.u64.wrap (4294967296*r+V0)=4294967296*r+V0:=by rw[IntKind.wrap_u64];exact Int.emod_eq_of_lt m5 m6
    have i4:IntKind.u64.wrap (r+Y1)=r+Y1:=by rw[IntKind.wrap_u64];exact Int.emod_eq_of_lt m9 m10
    by_cases hd:Due Y0 V0 q r
    ·by_cases hl:r+Y1<4294967296
     ·have ⟨hN,hp⟩:=Inv.more Hk2.out hI' hd hl
      have i5:IntKind.u64.wrap (q-1)=q-1:=by rw[IntKind.wrap_u64];omega
      have HN:=Lib.hid hN
      have hn1:¬4294967296≤r+Y1:=by omega
      clear hN hI' m1 m2 m3 m4 m5 m6 m9 m10
      rcases hd with g|g
      ·go_wp2
       go_roundw
       case rel=>exact⟨_,_,rfl,rfl,by trivial,HN⟩
       case measure=>simp [intOf];omega
      ·by_cases g2:4294967296≤q
       ·go_wp2
        go_roundw
        case rel=>exact⟨_,_,rfl,rfl,by trivial,HN⟩
        case measure=>simp [intOf];omega
       ·go_wp2
        go_roundw
        case rel=>exact⟨_,_,rfl,rfl,by trivial,HN⟩
        case measure=>simp [intOf];omega
     ·have ⟨hT,hp⟩:=Inv.broke Hk2.out hI' hd (by omega)
      have i5:IntKind.u64.wrap (q-1)=T2:=by rw[IntKind.wrap_u64,←HT2.out,←hT];omega
      have hn1:4294967296≤r+Y1:=by omega
      clear hT hI' m1 m2 m3 m4 m5 m6 m9 m10
      by_cases g2:4294967296≤q
      ·clear hd
       go_wp2
       exact bodyPost_ret (v := .tuple #[.int .u64 QQ,.int .u64 RR]) (by simp [results,Try.results91,go_sem]) rfl ⟨rfl,aD _⟩
      ·have g3:4294967296*r+V0<q*Y0:=by rcases hd with g|g;exact absurd g g2;exact g
       clear hd
       go_wp2
       exact bodyPost_ret (v := .tuple #[.int .u64 QQ,.int .u64 RR]) (by simp [results,Try.results91,go_sem]) rfl ⟨rfl,aD _⟩
    ·have g1:¬4294967296≤q:=fun g=>hd (Or.inl g)
     have g2:¬4294967296*r+V0<q*Y0:=fun g=>hd (Or.inr g)
     have hT:q=T2:=(Inv.done Hk2.out hI' (by omega)).trans HT2.out
     clear hd hI' m1 m2 m3 m4 m5 m6 m9 m10
     subst hT
     go_wp2
     exact bodyPost_ret (v := .tuple #[.int .u64 QQ,.int .u64 RR]) (by simp [results,Try.results91,go_sem]) rfl ⟨rfl,aD _⟩
theorem aGV (h lo y:Int) (hh:0≤h∧h<y) (hl:dZ lo) (hy:0<y∧y<18446744073709551616) (w:World):Calls Try.prog 91 #[.int .u64 h,.int .u64 lo,.int .u64 y] w fun e w'=>e = .returned (.tuple #[.int .u64 ((h*18446744073709551616+lo) / y),.int .u64 ((h*18446744073709551616+lo) % y)])∧Below w.heap.size w w':=by
 by_cases h0:h=0
 ·subst h0
  have e:0*18446744073709551616+lo=lo:=by omega
  rw[e];exact aAO lo y hl hy w
 ·exact aD5 h lo y ⟨by omega,hh.2⟩ hl hy w
set_option maxHeartbeats 800000 in
theorem lD (x0 x1 d:Int) (h0:dZ x0) (h1:dZ x1) (hd:0<d∧d<18446744073709551616) (w:World):Calls Try.prog 77 #[.agg #[.int .u64 x0,.int .u64 x1,.int .u64 0],.int .u64 d] w fun e w'=>e = .returned (.tuple #[.agg #[.int .u64 ((x1 % d*18446744073709551616+x0) / d),.int .u64 (x1 / d),.int .u64 0],.int .u64 ((x1 % d*18446744073709551616+x0) % d)])∧Below w.heap.size w w':=by
 have hm:0≤x1 % d∧x1 % d<d:=⟨Int.emod_nonneg _ (by omega),Int.emod_lt_of_pos _ hd.1⟩
 go_enter Try.func77,Try.ntmps77
 go_wp2
 obtain⟨w0,hw0⟩:∃ x:World,x=((w.alloc (.cells #[.int .u64 x0,.int .u64 x1,.int .u64 0] 105)).alloc (.cells #[.int .u64 0,.int .u64 0,.int .u64 0] 105)):=⟨_,rfl⟩
 have k0:w0.cell? ⟨w.heap.size,0,none⟩=some (.int .u64 x0):=by rw[hw0];repeat (first|(refine aK ?_ rfl;(simp;done))|refine aJ ?_)
 have k1:w0.cell? ⟨w.heap.size,1,none⟩=some (.int .u64 x1):=by rw[hw0];repeat (first|(refine aK ?_ rfl;(simp;done))|refine aJ ?_)
 have k2:w0.cell? ⟨w.heap.size,2,none⟩=some (.int .u64 0):=by rw[hw0];repeat (first|(refine aK ?_ rfl;(simp;done))|refine aJ ?_)
 have k3:w0.cell? ⟨w.heap.size+1,0,none⟩=some (.int .u64 0):=by rw[hw0];repeat (first|(refine aK ?_ rfl;(simp;done))|refine aJ ?_)
 have k4:w0.cell? ⟨w.heap.size+1,1,none⟩=some (.int .u64 0):=by rw[hw0];repeat (first|(refine aK ?_ rfl;(simp;done))|refine aJ ?_)
 have k5:w0.cell? ⟨w.heap.size+1,2,none⟩=some (.int .u64 0):=by rw[hw0];repeat (first|(refine aK ?_ rfl;(simp;done))|refine aJ ?_)
 have z0:w.heap.size<w0.heap.size:=World.block_lt_of_cell? _ _ k0
 have z1:w.heap.size+1<w0.heap.size:=World.block_lt_of_cell? _ _ k3
 have hB:Below w.heap.size w w0:=by rw[hw0];repeat (with_reducible first|exact aD _|apply aA)
 have f1_0:w0.frozen? ⟨w.heap.size+1,0,none⟩=false:=by rw[hw0];repeat (first|(refine bJ ?_;(simp;done))|(refine bI (by first|(simp;done)|(simp;omega)) ?_))
 have f1_1:w0.frozen? ⟨w.heap.size+1,1,none⟩=false:=by rw[hw0];repeat (first|(refine bJ ?_;(simp;done))|(refine bI (by first|(simp;done)|(simp;omega)) ?_))
 have f1_2:w0.frozen? ⟨w.heap.size+1,2,none⟩=false:=by rw[hw0];repeat (first|(refine bJ ?_;(simp;done))|(refine bI (by first|(simp;done)|(simp;omega)) ?_))
 rw[←hw0]
 clear hw0
 go_loopw [6,5] (fun i r wl=>(i = .int .i64 1∧r = .int .u64 0∧wl=w0)
   ∨(i = .int .i64 0∧r = .int .u64 (x1 % d)∧Hid (wl.cell? ⟨w.heap.size,0,none⟩=some (.int .u64 x0)∧wl.cell? ⟨w.heap.size,1,none⟩=some (.int .u64 x1)∧wl.cell? ⟨w.heap.size,2,none⟩=some (.int .u64 0)∧wl.cell? ⟨w.heap.size+1,0,none⟩=some (.int .u64 0)∧wl.cell? ⟨w.heap.size+1,1,none⟩=some (.int .u64 (x1 / d))∧wl.cell? ⟨w.heap.size+1,2,none⟩=some (.int .u64 0)∧wl.frozen? ⟨w.heap.size+1,0,none⟩=false∧wl.frozen? ⟨w.heap.size+1,1,none⟩=false∧wl.frozen? ⟨w.heap.size+1,2,none⟩=false∧Below w.heap.size w wl))
   ∨(i = .int .i64 (-1)∧r = .int .u64 ((x1 % d*18446744073709551616+x0) % d)∧Hid (wl.cell? ⟨w.heap.size,0,none⟩=some (.int .u64 x0)∧wl.cell? ⟨w.heap.size,1,none⟩=some (.int .u64 x1)∧wl.cell? ⟨w.heap.size,2,none⟩=some (.int .u64 0)∧wl.cell? ⟨w.heap.size+1,0,none⟩=some (.int .u64 ((x1 % d*18446744073709551616+x0) / d))∧wl.cell? ⟨w.heap.size+1,1,none⟩=some (.int .u64 (x1 / d))∧wl.cell? ⟨w.heap.size+1,2,none⟩=some (.int .u64 0)∧wl.frozen? ⟨w.heap.size+1,0,none⟩=false∧wl.frozen? ⟨w.heap.size+1,1,none⟩=false∧wl.frozen? ⟨w.heap.size+1,2,none⟩=false∧Below w.heap.size w wl)))
  (fun i _ _=>(intOf i+1).toNat)
 case atStart=>exact Or.inl ⟨rfl,rfl,rfl⟩
 case round=>
  rcases hrel with⟨rfl,rfl,rfl⟩|⟨rfl,rfl,hP⟩|⟨rfl,rfl,hP⟩
  ·go_wp2_with (go_at_call 91;refine(aAO x1 d h1 hd _).mono ?_;rintro e w1 ⟨rfl,hb1⟩;replace f1_0:=aG (aE hb1 (by repeat (with_reducible first|exact aD _|apply aA|apply aC))) k3 f1_0;replace f1_1:=aG (aE hb1 (by repeat (with_reducible first|exact aD _|apply aA|apply aC))) k4 f1_1;replace f1_2:=aG (aE hb1 (by repeat (with_reducible first|exact aD _|apply aA|apply aC))) k5 f1_2;replace hB:=aE hb1 (by repeat (with_reducible first|exact hB|apply aA|apply aC));replace k0:=cell_later (aE hb1 (by repeat (with_reducible first|exact aD _|apply aA|apply aC))) k0;replace k1:=cell_later (aE hb1 (by repeat (with_reducible first|exact aD _|apply aA|apply aC))) k1;replace k2:=cell_later (aE hb1 (by repeat (with_reducible first|exact aD _|apply aA|apply aC))) k2;replace k3:=cell_later (aE hb1 (by repeat (with_reducible first|exact aD _|apply aA|apply aC))) k3;replace k4:=cell_later (aE hb1 (by repeat (with_reducible first|exact aD _|apply aA|apply aC))) k4;replace k5:=cell_later (aE hb1 (by repeat (with_reducible first|exact aD _|apply aA|apply aC))) k5;replace z0:=World.block_lt_of_cell? _ _ k0;replace z1:=World.block_lt_of_cell? _ _ k3;simp only[]at z0 z1;clear hb1)
   go_roundw
   case rel=>exact Or.inr (Or.inl ⟨rfl,by trivial,Lib.hid ⟨(aB (by omega) k0),(aB (by omega) k1),(aB (by omega) k2),(aB (by omega) k3),(aV k4),(aB (by omega) k5),(by (repeat rw[World.frozen?_setCell]);exact f1_0),(by (repeat rw[World.frozen?_setCell]);exact f1_1),(by (repeat rw[World.frozen?_setCell]);exact f1_2),(by repeat (with_reducible first|exact hB|refine bP _ (by omega) ?_))⟩⟩)
   case measure=>simp [intOf]
  ·clear k0 k1 k2 k3 k4 k5 z0 z1 f1_0 f1_1 f1_2 hB
   obtain⟨k0,k1,k2,k3,k4,k5,f1_0,f1_1,f1_2,hB⟩:=hP.out
   clear hP
   have z0:w.heap.size<wr.heap.size:=World.block_lt_of_cell? _ _ k0
   have z1:w.heap.size+1<wr.heap.size:=World.block_lt_of_cell? _ _ k3
   go_wp2_with (go_at_call 91;refine(aGV (x1 % d) x0 d hm h0 hd _).mono ?_;rintro e w1 ⟨rfl,hb1⟩;replace f1_0:=aG (aE hb1 (by repeat (with_reducible first|exact aD _|apply aA|apply aC))) k3 f1_0;replace f1_1:=aG (aE hb1 (by repeat (with_reducible first|exact aD _|apply aA|apply aC))) k4 f1_1;replace f1_2:=aG (aE hb1 (by repeat (with_reducible first|exact aD _|apply aA|apply aC))) k5 f1_2;replace hB:=aE hb1 (by repeat (with_reducible first|exact hB|apply aA|apply aC));replace k0:=cell_later (aE hb1 (by repeat (with_reducible first|exact aD _|apply aA|apply aC))) k0;replace k1:=cell_later (aE hb1 (by repeat (with_reducible first|exact aD _|apply aA|apply aC))) k1;replace k2:=cell_later (aE hb1 (by repeat (with_reducible first|exact aD _|apply aA|apply aC))) k2;replace k3:=cell_later (aE hb1 (by repeat (with_reducible first|exact aD _|apply aA|apply aC))) k3;replace k4:=cell_later (aE hb1 (by repeat (with_reducible first|exact aD _|apply aA|apply aC))) k4;replace k5:=cell_later (aE hb1 (by repeat (with_reducible first|exact aD _|apply aA|apply aC))) k5;replace z0:=World.block_lt_of_cell? _ _ k0;replace z1:=World.block_lt_of_cell? _ _ k3;simp only[]at z0 z1;clear hb1)
   go_roundw
   case rel=>exact Or.inr (Or.inr ⟨rfl,by trivial,Lib.hid ⟨(aB (by omega) k0),(aB (by omega) k1),(aB (by omega) k2),(aV k3),(aB (by omega) k4),(aB (by omega) k5),(by (repeat rw[World.frozen?_setCell]);exact f1_0),(by (repeat rw[World.frozen?_setCell]);exact f1_1),(by (repeat rw[World.frozen?_setCell]);exact f1_2),(by repeat (with_reducible first|exact hB|refine bP _ (by omega) ?_))⟩⟩)
   case measure=>simp [intOf]
  ·clear k0 k1 k2 k3 k4 k5 z0 z1 f1_0 f1_1 f1_2 hB
   obtain⟨k0,k1,k2,k3,k4,k5,f1_0,f1_1,f1_2,hB⟩:=hP.out
   clear hP
   have z0:w.heap.size<wr.heap.size:=World.block_lt_of_cell? _ _ k0
   have z1:w.heap.size+1<wr.heap.size:=World.block_lt_of_cell? _ _ k3
   go_wp2
   exact bodyPost_ret (v := .tuple #[.agg #[.int .u64 ((x1 % d*18446744073709551616+x0) / d),.int .u64 (x1 / d),.int .u64 0],.int .u64 ((x1 % d*18446744073709551616+x0) % d)]) (by simp [results,Try.results77,go_sem, *]) rfl ⟨rfl,by repeat (with_reducible first|exact hB|refine bP _ (by omega) ?_|apply aA|apply aC)⟩
set_option maxHeartbeats 800000 in
theorem aHF (a d q r:Int) (ha:jW a) (hd:0<d) (hd':d≤9223372036854775807) (hn:¬a<0) (hq0:q=a / d) (hr0:r=a % d) (w:World):Calls Try.prog 64 #[.agg #[.int .i64 (hi (a)),.int .u64 (lo (a))],.int .i64 d] w fun e w'=>e = .returned (.tuple #[.agg #[.int .i64 (hi (q)),.int .u64 (lo (q))],.int .i64 r,.int .i64 0])∧Below w.heap.size w w':=by
 have l1:dZ (d0 (bY a)):=by unfold dZ d0;omega
 have l2:dZ (d1 (bY a)):=by unfold dZ d1;omega
 have hmb:bY a<340282366920938463463374607431768211456:=by unfold bY;unfold jW at ha;split<;>omega
 obtain⟨q0,q1,q2⟩:=tX (bY a) d (jX a) hmb hd
 have c1:IntKind.u64.wrap d=d:=by rw[IntKind.wrap_u64];omega
 have r0:=Int.emod_nonneg (bY a) (show d≠0 by omega)
 have r1:=Int.emod_lt_of_pos (bY a) hd
 have m0:0≤bY a / d:=Int.ediv_nonneg (jX a) (by omega)
 have m1:bY a / d≤bY a:=Int.ediv_le_self _ (jX a)
 have hs:decide (a<0)=false:=decide_eq_false hn
 have hma:bY a=a:=if_neg hn
 have ha2:a<170141183460469231731687303715884105728:=ha.2
 have hf:kM false (bY a / d):=⟨m0,Or.inl (by omega)⟩
 have es:sgn false (bY a / d)=q:=by rw[hma,hq0];rfl
 have er:bY a % d=r:=by rw[hma,hr0]
 rw[er]at r0 r1 q2
 have nd:¬d<1:=by omega
 have c2:IntKind.i64.wrap r=r:=IntWalk.i64_in _ (by omega)
 clear hma hmb m0 m1 hq0 hr0 ha2
 go_enter Try.func64,Try.ntmps64
 go_wp2_with fail
 obtain⟨w0,hw0⟩:∃ x:World,x=((w.alloc (.cells #[.int .i64 (hi (a)),.int .u64 (lo (a))] 35)).alloc (.cells #[.int .i64 0,.int .u64 0] 35)):=⟨_,rfl⟩
 have k0:w0.cell? ⟨w.heap.size,0,none⟩=some (.int .i64 (hi (a))):=by rw[hw0];repeat (first|(refine aK ?_ rfl;(simp;done))|refine aJ ?_)
 have k1:w0.cell? ⟨w.heap.size,1,none⟩=some (.int .u64 (lo (a))):=by rw[hw0];repeat (first|(refine aK ?_ rfl;(simp;done))|refine aJ ?_)
 have k2:w0.cell? ⟨w.heap.size+1,0,none⟩=some (.int .i64 0):=by rw[hw0];repeat (first|(refine aK ?_ rfl;(simp;done))|refine aJ ?_)
 have k3:w0.cell? ⟨w.heap.size+1,1,none⟩=some (.int .u64 0):=by rw[hw0];repeat (first|(refine aK ?_ rfl;(simp;done))|refine aJ ?_)
 have z0:w.heap.size<w0.heap.size:=World.block_lt_of_cell? _ _ k0
 have z1:w.heap.size+1<w0.heap.size:=World.block_lt_of_cell? _ _ k2
 have hB:Below w.heap.size w w0:=by rw[hw0];repeat (with_reducible first|exact aD _|apply aA)
 have f1_0:w0.frozen? ⟨w.heap.size+1,0,none⟩=false:=by rw[hw0];repeat (first|(refine bJ ?_;(simp;done))|(refine bI (by first|(simp;done)|(simp;omega)) ?_))
 have f1_1:w0.frozen? ⟨w.heap.size+1,1,none⟩=false:=by rw[hw0];repeat (first|(refine bJ ?_;(simp;done))|(refine bI (by first|(simp;done)|(simp;omega)) ?_))
 rw[←hw0]
 clear hw0
 refine(rI a ha _).mono ?_
 rintro e w1 ⟨rfl,hb1⟩
 replace f1_0:=aG (aE hb1 (by repeat (with_reducible first|exact aD _|apply aA|apply aC))) k2 f1_0
 replace f1_1:=aG (aE hb1 (by repeat (with_reducible first|exact aD _|apply aA|apply aC))) k3 f1_1
 replace hB:=aE hb1 (by repeat (with_reducible first|exact hB|apply aA|apply aC))
 replace k0:=cell_later (aE hb1 (by repeat (with_reducible first|exact aD _|apply aA|apply aC))) k0
 replace k1:=cell_later (aE hb1 (by repeat (with_reducible first|exact aD _|apply aA|apply aC))) k1
 replace k2:=cell_later (aE hb1 (by repeat (with_reducible first|exact aD _|apply aA|apply aC))) k2
 replace k3:=cell_later (aE hb1 (by repeat (with_reducible first|exact aD _|apply aA|apply aC))) k3
 replace z0:=World.block_lt_of_cell? _ _ k0
 replace z1:=World.block_lt_of_cell? _ _ k2
 simp only[]at z0 z1
 clear hb1
 rw[hs]
 go_wp2_with fail
 obtain⟨w2,hw0⟩:∃ x:World,x=(w1.alloc (.cells #[.bool false,.int .u64 (d0 (bY a)),.int .u64 (d1 (bY a)),.int .u64 0] 107)):=⟨_,rfl⟩
 replace f1_0:w2.frozen? ⟨w.heap.size+1,0,none⟩=false:=by rw[hw0];exact aG (by repeat (with_reducible first|exact aD _|apply aA|apply aC)) k2 f1_0
 replace f1_1:w2.frozen? ⟨w.heap.size+1,1,none⟩=false:=by rw[hw0];exact aG (by repeat (with_reducible first|exact aD _|apply aA|apply aC)) k3 f1_1
 replace k0:w2.cell? ⟨w.heap.size,0,none⟩=some (.int .i64 (hi (a))):=by rw[hw0];exact cell_later (by repeat (with_reducible first|exact aD _|apply aA|apply aC)) k0
 replace k1:w2.cell? ⟨w.heap.size,1,none⟩=some (.int .u64 (lo (a))):=by rw[hw0];exact cell_later (by repeat (with_reducible first|exact aD _|apply aA|apply aC)) k1
 replace k2:w2.cell? ⟨w.heap.size+1,0,none⟩=some (.int .i64 0):=by rw[hw0];exact cell_later (by repeat (with_reducible first|exact aD _|apply aA|apply aC)) k2
 replace k3:w2.cell? ⟨w.heap.size+1,1,none⟩=some (.int .u64 0):=by rw[hw0];exact cell_later (by repeat (with_reducible first|exact aD _|apply aA|apply aC)) k3
 have k4:w2.cell? ⟨w1.heap.size,0,none⟩=some (.bool false):=by rw[hw0];repeat (first|(refine aK ?_ rfl;(simp;done))|refine aJ ?_)
 have k5:w2.cell? ⟨w1.heap.size,1,none⟩=some (.int .u64 (d0 (bY a))):=by rw[hw0];repeat (first|(refine aK ?_ rfl;(simp;done))|refine aJ ?_)
 have k6:w2.cell? ⟨w1.heap.size,2,none⟩=some (.int .u64 (d1 (bY a))):=by rw[hw0];repeat (first|(refine aK ?_ rfl;(simp;done))|refine aJ ?_)
 have k7:w2.cell? ⟨w1.heap.size,3,none⟩=some (.int .u64 0):=by rw[hw0];repeat (first|(refine aK ?_ rfl;(simp;done))|refine aJ ?_)
 have z0:w.heap.size<w2.heap.size:=World.block_lt_of_cell? _ _ k0
 have z1:w.heap.size+1<w2.heap.size:=World.block_lt_of_cell? _ _ k2
 have z2:w1.heap.size<w2.heap.size:=World.block_lt_of_cell? _ _ k4
 replace hB:Below w.heap.size w w2:=by rw[hw0];repeat (with_reducible first|exact hB|apply aA)
 rw[←hw0]
 clear hw0
 refine(lD _ _ d l1 l2 ⟨by omega,by omega⟩ _).mono ?_
 rintro e w3 ⟨rfl,hb1⟩
 replace f1_0:=aG (aE hb1 (by repeat (with_reducible first|exact aD _|apply aA|apply aC))) k2 f1_0
 replace f1_1:=aG (aE hb1 (by repeat (with_reducible first|exact aD _|apply aA|apply aC))) k3 f1_1
 replace hB:=aE hb1 (by repeat (with_reducible first|exact hB|apply aA|apply aC))
 replace k0:=cell_later (aE hb1 (by repeat (with_reducible first|exact aD _|apply aA|apply aC))) k0
 replace k1:=cell_later (aE hb1 (by repeat (with_reducible first|exact aD _|apply aA|apply aC))) k1
 replace k2:=cell_later (aE hb1 (by repeat (with_reducible first|exact aD _|apply aA|apply aC))) k2
 replace k3:=cell_later (aE hb1 (by repeat (with_reducible first|exact aD _|apply aA|apply aC))) k3
 replace k4:=cell_later (aE hb1 (by repeat (with_reducible first|exact aD _|apply aA|apply aC))) k4
 replace k5:=cell_later (aE hb1 (by repeat (with_reducible first|exact aD _|apply aA|apply aC))) k5
 replace k6:=cell_later (aE hb1 (by repeat (with_reducible first|exact aD _|apply aA|apply aC))) k6
 replace k7:=cell_later (aE hb1 (by repeat (with_reducible first|exact aD _|apply aA|apply aC))) k7
 replace z0:=World.block_lt_of_cell? _ _ k0
 replace z1:=World.block_lt_of_cell? _ _ k2
 replace z2:=World.block_lt_of_cell? _ _ k4
 simp only[]at z0 z1 z2
 clear hb1
 rw[q0,q1,q2]
 go_wp2_with fail
 obtain⟨w4,hw0⟩:∃ x:World,x=(w3.alloc (.cells #[.int .u64 (d0 (bY a / d)),.int .u64 (d1 (bY a / d)),.int .u64 0] 105)):=⟨_,rfl⟩
 replace f1_0:w4.frozen? ⟨w.heap.size+1,0,none⟩=false:=by rw[hw0];exact aG (by repeat (with_reducible first|exact aD _|apply aA|apply aC)) k2 f1_0
 replace f1_1:w4.frozen? ⟨w.heap.size+1,1,none⟩=false:=by rw[hw0];exact aG (by repeat (with_reducible first|exact aD _|apply aA|apply aC)) k3 f1_1
 replace k0:w4.cell? ⟨w.heap.size,0,none⟩=some (.int .i64 (hi (a))):=by rw[hw0];exact cell_later (by repeat (with_reducible first|exact aD _|apply aA|apply aC)) k0
 replace k1:w4.cell? ⟨w.heap.size,1,none⟩=some (.int .u64 (lo (a))):=by rw[hw0];exact cell_later (by repeat (with_reducible first|exact aD _|apply aA|apply aC)) k1
 replace k2:w4.cell? ⟨w.heap.size+1,0,none⟩=some (.int .i64 0):=by rw[hw0];exact cell_later (by repeat (with_reducible first|exact aD _|apply aA|apply aC)) k2
 replace k3:w4.cell? ⟨w.heap.size+1,1,none⟩=some (.int .u64 0):=by rw[hw0];exact cell_later (by repeat (with_reducible first|exact aD _|apply aA|apply aC)) k3
 replace k4:w4.cell? ⟨w1.heap.size,0,none⟩=some (.bool false):=by rw[hw0];exact cell_later (by repeat (with_reducible first|exact aD _|apply aA|apply aC)) k4
 replace k5:w4.cell? ⟨w1.heap.size,1,none⟩=some (.int .u64 (d0 (bY a))):=by rw[hw0];exact cell_later (by repeat (with_reducible first|exact aD _|apply aA|apply aC)) k5
 replace k6:w4.cell? ⟨w1.heap.size,2,none⟩=some (.int .u64 (d1 (bY a))):=by rw[hw0];exact cell_later (by repeat (with_reducible first|exact aD _|apply aA|apply aC)) k6
 replace k7:w4.cell? ⟨w1.heap.size,3,none⟩=some (.int .u64 0):=by rw[hw0];exact cell_later (by repeat (with_reducible first|exact aD _|apply aA|apply aC)) k7
 have k8:w4.cell? ⟨w3.heap.size,0,none⟩=some (.int .u64 (d0 (bY a / d))):=by rw[hw0];repeat (first|(refine aK ?_ rfl;(simp;done))|refine aJ ?_)
 have k9:w4.cell? ⟨w3.heap.size,1,none⟩=some (.int .u64 (d1 (bY a / d))):=by rw[hw0];repeat (first|(refine aK ?_ rfl;(simp;done))|refine aJ ?_)
 have k10:w4.cell? ⟨w3.heap.size,2,none⟩=some (.int .u64 0):=by rw[hw0];repeat (first|(refine aK ?_ rfl;(simp;done))|refine aJ ?_)
 have z0:w.heap.size<w4.heap.size:=World.block_lt_of_cell? _ _ k0
 have z1:w.heap.size+1<w4.heap.size:=World.block_lt_of_cell? _ _ k2
 have z2:w1.heap.size<w4.heap.size:=World.block_lt_of_cell? _ _ k4
 have z3:w3.heap.size<w4.heap.size:=World.block_lt_of_cell? _ _ k8
 replace hB:Below w.heap.size w w4:=by rw[hw0];repeat (with_reducible first|exact hB|apply aA)
 rw[←hw0]
 clear hw0
 refine(lU _ _ hf _).mono ?_
 rintro e w5 ⟨rfl,hb1⟩
 replace f1_0:=aG (aE hb1 (by repeat (with_reducible first|exact aD _|apply aA|apply aC))) k2 f1_0
 replace f1_1:=aG (aE hb1 (by repeat (with_reducible first|exact aD _|apply aA|apply aC))) k3 f1_1
 replace hB:=aE hb1 (by repeat (with_reducible first|exact hB|apply aA|apply aC))
 replace k0:=cell_later (aE hb1 (by repeat (with_reducible first|exact aD _|apply aA|apply aC))) k0
 replace k1:=cell_later (aE hb1 (by repeat (with_reducible first|exact aD _|apply aA|apply aC))) k1
 replace k2:=cell_later (aE hb1 (by repeat (with_reducible first|exact aD _|apply aA|apply aC))) k2
 replace k3:=cell_later (aE hb1 (by repeat (with_reducible first|exact aD _|apply aA|apply aC))) k3
 replace k4:=cell_later (aE hb1 (by repeat (with_reducible first|exact aD _|apply aA|apply aC))) k4
 replace k5:=cell_later (aE hb1 (by repeat (with_reducible first|exact aD _|apply aA|apply aC))) k5
 replace k6:=cell_later (aE hb1 (by repeat (with_reducible first|exact aD _|apply aA|apply aC))) k6
 replace k7:=cell_later (aE hb1 (by repeat (with_reducible first|exact aD _|apply aA|apply aC))) k7
 replace k8:=cell_later (aE hb1 (by repeat (with_reducible first|exact aD _|apply aA|apply aC))) k8
 replace k9:=cell_later (aE hb1 (by repeat (with_reducible first|exact aD _|apply aA|apply aC))) k9
 replace k10:=cell_later (aE hb1 (by repeat (with_reducible first|exact aD _|apply aA|apply aC))) k10
 replace z0:=World.block_lt_of_cell? _ _ k0
 replace z1:=World.block_lt_of_cell? _ _ k2
 replace z2:=World.block_lt_of_cell? _ _ k4
 replace z3:=World.block_lt_of_cell? _ _ k8
 simp only[]at z0 z1 z2 z3
 clear hb1
 rw[es]
 go_wp2
 obtain⟨w9,hw0⟩:∃ x:World,x=((((w5.setCell ⟨w.heap.size+1,0,none⟩ (.int .i64 (hi q))).setCell ⟨w.heap.size+1,1,none⟩ (.int .u64 (lo q))).setCell ⟨w.heap.size+1,0,none⟩ (.int .i64 (hi q))).setCell ⟨w.heap.size+1,1,none⟩ (.int .u64 (lo q))):=⟨_,rfl⟩
 have new_k0:w9.cell? ⟨w.heap.size,0,none⟩=some (.int .i64 (hi (a))):=by rw[hw0];exact(aB (by omega) (aB (by omega) (aB (by omega) (aB (by omega) k0))))
 have new_k1:w9.cell? ⟨w.heap.size,1,none⟩=some (.int .u64 (lo (a))):=by rw[hw0];exact(aB (by omega) (aB (by omega) (aB (by omega) (aB (by omega) k1))))
 have new_k2:w9.cell? ⟨w.heap.size+1,0,none⟩=some (.int .i64 (hi q)):=by rw[hw0];exact(aB (by omega) (aV (aB (by omega) (aV k2))))
 have new_k3:w9.cell? ⟨w.heap.size+1,1,none⟩=some (.int .u64 (lo q)):=by rw[hw0];exact(aV (aB (by omega) (aV (aB (by omega) k3))))
 have new_k4:w9.cell? ⟨w1.heap.size,0,none⟩=some (.bool false):=by rw[hw0];exact(aB (by omega) (aB (by omega) (aB (by omega) (aB (by omega) k4))))
 have new_k5:w9.cell? ⟨w1.heap.size,1,none⟩=some (.int .u64 (d0 (bY a))):=by rw[hw0];exact(aB (by omega) (aB (by omega) (aB (by omega) (aB (by omega) k5))))
 have new_k6:w9.cell? ⟨w1.heap.size,2,none⟩=some (.int .u64 (d1 (bY a))):=by rw[hw0];exact(aB (by omega) (aB (by omega) (aB (by omega) (aB (by omega) k6))))
 have new_k7:w9.cell? ⟨w1.heap.size,3,none⟩=some (.int .u64 0):=by rw[hw0];exact(aB (by omega) (aB (by omega) (aB (by omega) (aB (by omega) k7))))
 have new_k8:w9.cell? ⟨w3.heap.size,0,none⟩=some (.int .u64 (d0 (bY a / d))):=by rw[hw0];exact(aB (by omega) (aB (by omega) (aB (by omega) (aB (by omega) k8))))
 have new_k9:w9.cell? ⟨w3.heap.size,1,none⟩=some (.int .u64 (d1 (bY a / d))):=by rw[hw0];exact(aB (by omega) (aB (by omega) (aB (by omega) (aB (by omega) k9))))
 have new_k10:w9.cell? ⟨w3.heap.size,2,none⟩=some (.int .u64 0):=by rw[hw0];exact(aB (by omega) (aB (by omega) (aB (by omega) (aB (by omega) k10))))
 replace f1_0:w9.frozen? ⟨w.heap.size+1,0,none⟩=false:=by rw[hw0];(repeat rw[World.frozen?_setCell]);exact f1_0
 replace f1_1:w9.frozen? ⟨w.heap.size+1,1,none⟩=false:=by rw[hw0];(repeat rw[World.frozen?_setCell]);exact f1_1
 replace hB:Below w.heap.size w w9:=by rw[hw0];repeat (with_reducible first|exact hB|refine bP _ (by omega) ?_)
 clear k0 k1 k2 k3 k4 k5 k6 k7 k8 k9 k10
 have k0:=new_k0;clear new_k0
 have k1:=new_k1;clear new_k1
 have k2:=new_k2;clear new_k2
 have k3:=new_k3;clear new_k3
 have k4:=new_k4;clear new_k4
 have k5:=new_k5;clear new_k5
 have k6:=new_k6;clear new_k6
 have k7:=new_k7;clear new_k7
 have k8:=new_k8;clear new_k8
 have k9:=new_k9;clear new_k9
 have k10:=new_k10;clear new_k10
 replace z0:w.heap.size<w9.heap.size:=World.block_lt_of_cell? _ _ k0
 replace z1:w.heap.size+1<w9.heap.size:=World.block_lt_of_cell? _ _ k2
 replace z2:w1.heap.size<w9.heap.size:=World.block_lt_of_cell? _ _ k4
 replace z3:w3.heap.size<w9.heap.size:=World.block_lt_of_cell? _ _ k8
 rw[←hw0]
 clear hw0
 exact bodyPost_ret (v := .tuple #[.agg #[.int .i64 (hi (q)),.int .u64 (lo (q))],.int .i64 r,.int .i64 0]) (by simp [results,Try.results64,go_sem, *]) rfl ⟨rfl,by repeat (with_reducible first|exact hB|refine bP _ (by omega) ?_|apply aA|apply aC)⟩
set_option maxHeartbeats 800000 in
theorem aG5 (a d q r:Int) (ha:jW a) (hd:0<d) (hd':d≤9223372036854775807) (hn:a<0) (hz:bY a % d=0) (hq0:q=a / d) (hr0:r=a % d) (w:World):Calls Try.prog 64 #[.agg #[.int .i64 (hi (a)),.int .u64 (lo (a))],.int .i64 d] w fun e w'=>e = .returned (.tuple #[.agg #[.int .i64 (hi (q)),.int .u64 (lo (q))],.int .i64 r,.int .i64 0])∧Below w.heap.size w w':=by
 have l1:dZ (d0 (bY a)):=by unfold dZ d0;omega
 have l2:dZ (d1 (bY a)):=by unfold dZ d1;omega
 have hmb:bY a<340282366920938463463374607431768211456:=by unfold bY;unfold jW at ha;split<;>omega
 obtain⟨q0,q1,q2⟩:=tX (bY a) d (jX a) hmb hd
 have c1:IntKind.u64.wrap d=d:=by rw[IntKind.wrap_u64];omega
 have r0:=Int.emod_nonneg (bY a) (show d≠0 by omega)
 have r1:=Int.emod_lt_of_pos (bY a) hd
 have m0:0≤bY a / d:=Int.ediv_nonneg (jX a) (by omega)
 have m1:bY a / d≤bY a:=Int.ediv_le_self _ (jX a)
 have hs:decide (a<0)=true:=decide_eq_true hn
 have hma:bY a = -a:=if_pos hn
 have ha2 : -170141183460469231731687303715884105728≤a:=ha.1
 have hf:kM true (bY a / d):=aBe _ _ m0 (by unfold jW sgn;rw[if_pos rfl];omega)
 have nf:=aHk (bY a) d hd hz
 have es:sgn true (bY a / d)=q:=by rw[hq0];show -(bY a / d)=a / d;rw[←nf.1,hma,Int.neg_neg]
 have er:r=0:=by rw[hr0,←nf.2,hma,Int.neg_neg]
 subst er
 rw[hz]at q2
 have nd:¬d<1:=by omega
 clear hma hmb m0 m1 hq0 hr0 ha2 nf hz r0 r1
 go_enter Try.func64,Try.ntmps64
 go_wp2_with fail
 obtain⟨w0,hw0⟩:∃ x:World,x=((w.alloc (.cells #[.int .i64 (hi (a)),.int .u64 (lo (a))] 35)).alloc (.cells #[.int .i64 0,.int .u64 0] 35)):=⟨_,rfl⟩
 have k0:w0.cell? ⟨w.heap.size,0,none⟩=some (.int .i64 (hi (a))):=by rw[hw0];repeat (first|(refine aK ?_ rfl;(simp;done))|refine aJ ?_)
 have k1:w0.cell? ⟨w.heap.size,1,none⟩=some (.int .u64 (lo (a))):=by rw[hw0];repeat (first|(refine aK ?_ rfl;(simp;done))|refine aJ ?_)
 have k2:w0.cell? ⟨w.heap.size+1,0,none⟩=some (.int .i64 0):=by rw[hw0];repeat (first|(refine aK ?_ rfl;(simp;done))|refine aJ ?_)
 have k3:w0.cell? ⟨w.heap.size+1,1,none⟩=some (.int .u64 0):=by rw[hw0];repeat (first|(refine aK ?_ rfl;(simp;done))|refine aJ ?_)
 have z0:w.heap.size<w0.heap.size:=World.block_lt_of_cell? _ _ k0
 have z1:w.heap.size+1<w0.heap.size:=World.block_lt_of_cell? _ _ k2
 have hB:Below w.heap.size w w0:=by rw[hw0];repeat (with_reducible first|exact aD _|apply aA)
 have f1_0:w0.frozen? ⟨w.heap.size+1,0,none⟩=false:=by rw[hw0];repeat (first|(refine bJ ?_;(simp;done))|(refine bI (by first|(simp;done)|(simp;omega)) ?_))
 have f1_1:w0.frozen? ⟨w.heap.size+1,1,none⟩=false:=by rw[hw0];repeat (first|(refine bJ ?_;(simp;done))|(refine bI (by first|(simp;done)|(simp;omega)) ?_))
 rw[←hw0]
 clear hw0
 refine(rI a ha _).mono ?_
 rintro e w1 ⟨rfl,hb1⟩
 replace f1_0:=aG (aE hb1 (by repeat (with_reducible first|exact aD _|apply aA|apply aC))) k2 f1_0
 replace f1_1:=aG (aE hb1 (by repeat (with_reducible first|exact aD _|apply aA|apply aC))) k3 f1_1
 replace hB:=aE hb1 (by repeat (with_reducible first|exact hB|apply aA|apply aC))
 replace k0:=cell_later (aE hb1 (by repeat (with_reducible first|exact aD _|apply aA|apply aC))) k0
 replace k1:=cell_later (aE hb1 (by repeat (with_reducible first|exact aD _|apply aA|apply aC))) k1
 replace k2:=cell_later (aE hb1 (by repeat (with_reducible first|exact aD _|apply aA|apply aC))) k2
 replace k3:=cell_later (aE hb1 (by repeat (with_reducible first|exact aD _|apply aA|apply aC))) k3
 replace z0:=World.block_lt_of_cell? _ _ k0
 replace z1:=World.block_lt_of_cell? _ _ k2
 simp only[]at z0 z1
 clear hb1
 rw[hs]
 go_wp2_with fail
 obtain⟨w2,hw0⟩:∃ x:World,x=(w1.alloc (.cells #[.bool true,.int .u64 (d0 (bY a)),.int .u64 (d1 (bY a)),.int .u64 0] 107)):=⟨_,rfl⟩
 replace f1_0:w2.frozen? ⟨w.heap.size+1,0,none⟩=false:=by rw[hw0];exact aG (by repeat (with_reducible first|exact aD _|apply aA|apply aC)) k2 f1_0
 replace f1_1:w2.frozen? ⟨w.heap.size+1,1,none⟩=false:=by rw[hw0];exact aG (by repeat (with_reducible first|exact aD _|apply aA|apply aC)) k3 f1_1
 replace k0:w2.cell? ⟨w.heap.size,0,none⟩=some (.int .i64 (hi (a))):=by rw[hw0];exact cell_later (by repeat (with_reducible first|exact aD _|apply aA|apply aC)) k0
 replace k1:w2.cell? ⟨w.heap.size,1,none⟩=some (.int .u64 (lo (a))):=by rw[hw0];exact cell_later (by repeat (with_reducible first|exact aD _|apply aA|apply aC)) k1
 replace k2:w2.cell? ⟨w.heap.size+1,0,none⟩=some (.int .i64 0):=by rw[hw0];exact cell_later (by repeat (with_reducible first|exact aD _|apply aA|apply aC)) k2
 replace k3:w2.cell? ⟨w.heap.size+1,1,none⟩=some (.int .u64 0):=by rw[hw0];exact cell_later (by repeat (with_reducible first|exact aD _|apply aA|apply aC)) k3
 have k4:w2.cell? ⟨w1.heap.size,0,none⟩=some (.bool true):=by rw[hw0];repeat (first|(refine aK ?_ rfl;(simp;done))|refine aJ ?_)
 have k5:w2.cell? ⟨w1.heap.size,1,none⟩=some (.int .u64 (d0 (bY a))):=by rw[hw0];repeat (first|(refine aK ?_ rfl;(simp;done))|refine aJ ?_)
 have k6:w2.cell? ⟨w1.heap.size,2,none⟩=some (.int .u64 (d1 (bY a))):=by rw[hw0];repeat (first|(refine aK ?_ rfl;(simp;done))|refine aJ ?_)
 have k7:w2.cell? ⟨w1.heap.size,3,none⟩=some (.int .u64 0):=by rw[hw0];repeat (first|(refine aK ?_ rfl;(simp;done))|refine aJ ?_)
 have z0:w.heap.size<w2.heap.size:=World.block_lt_of_cell? _ _ k0
 have z1:w.heap.size+1<w2.heap.size:=World.block_lt_of_cell? _ _ k2
 have z2:w1.heap.size<w2.heap.size:=World.block_lt_of_cell? _ _ k4
 replace hB:Below w.heap.size w w2:=by rw[hw0];repeat (with_reducible first|exact hB|apply aA)
 rw[←hw0]
 clear hw0
 refine(lD _ _ d l1 l2 ⟨by omega,by omega⟩ _).mono ?_
 rintro e w3 ⟨rfl,hb1⟩
 replace f1_0:=aG (aE hb1 (by repeat (with_reducible first|exact aD _|apply aA|apply aC))) k2 f1_0
 replace f1_1:=aG (aE hb1 (by repeat (with_reducible first|exact aD _|apply aA|apply aC))) k3 f1_1
 replace hB:=aE hb1 (by repeat (with_reducible first|exact hB|apply aA|apply aC))
 replace k0:=cell_later (aE hb1 (by repeat (with_reducible first|exact aD _|apply aA|apply aC))) k0
 replace k1:=cell_later (aE hb1 (by repeat (with_reducible first|exact aD _|apply aA|apply aC))) k1
 replace k2:=cell_later (aE hb1 (by repeat (with_reducible first|exact aD _|apply aA|apply aC))) k2
 replace k3:=cell_later (aE hb1 (by repeat (with_reducible first|exact aD _|apply aA|apply aC))) k3
 replace k4:=cell_later (aE hb1 (by repeat (with_reducible first|exact aD _|apply aA|apply aC))) k4
 replace k5:=cell_later (aE hb1 (by repeat (with_reducible first|exact aD _|apply aA|apply aC))) k5
 replace k6:=cell_later (aE hb1 (by repeat (with_reducible first|exact aD _|apply aA|apply aC))) k6
 replace k7:=cell_later (aE hb1 (by repeat (with_reducible first|exact aD _|apply aA|apply aC))) k7
 replace z0:=World.block_lt_of_cell? _ _ k0
 replace z1:=World.block_lt_of_cell? _ _ k2
 replace z2:=World.block_lt_of_cell? _ _ k4
 simp only[]at z0 z1 z2
 clear hb1
 rw[q0,q1,q2]
 go_wp2_with fail
 obtain⟨w4,hw0⟩:∃ x:World,x=(w3.alloc (.cells #[.int .u64 (d0 (bY a / d)),.int .u64 (d1 (bY a / d)),.int .u64 0] 105)):=⟨_,rfl⟩
 replace f1_0:w4.frozen? ⟨w.heap.size+1,0,none⟩=false:=by rw[hw0];exact aG (by repeat (with_reducible first|exact aD _|apply aA|apply aC)) k2 f1_0
 replace f1_1:w4.frozen? ⟨w.heap.size+1,1,none⟩=false:=by rw[hw0];exact aG (by repeat (with_reducible first|exact aD _|apply aA|apply aC)) k3 f1_1
 replace k0:w4.cell? ⟨w.heap.size,0,none⟩=some (.int .i64 (hi (a))):=by rw[hw0];exact cell_later (by repeat (with_reducible first|exact aD _|apply aA|apply aC)) k0
 replace k1:w4.cell? ⟨w.heap.size,1,none⟩=some (.int .u64 (lo (a))):=by rw[hw0];exact cell_later (by repeat (with_reducible first|exact aD _|apply aA|apply aC)) k1
 replace k2:w4.cell? ⟨w.heap.size+1,0,none⟩=some (.int .i64 0):=by rw[hw0];exact cell_later (by repeat (with_reducible first|exact aD _|apply aA|apply aC)) k2
 replace k3:w4.cell? ⟨w.heap.size+1,1,none⟩=some (.int .u64 0):=by rw[hw0];exact cell_later (by repeat (with_reducible first|exact aD _|apply aA|apply aC)) k3
 replace k4:w4.cell? ⟨w1.heap.size,0,none⟩=some (.bool true):=by rw[hw0];exact cell_later (by repeat (with_reducible first|exact aD _|apply aA|apply aC)) k4
 replace k5:w4.cell? ⟨w1.heap.size,1,none⟩=some (.int .u64 (d0 (bY a))):=by rw[hw0];exact cell_later (by repeat (with_reducible first|exact aD _|apply aA|apply aC)) k5
 replace k6:w4.cell? ⟨w1.heap.size,2,none⟩=some (.int .u64 (d1 (bY a))):=by rw[hw0];exact cell_later (by repeat (with_reducible first|exact aD _|apply aA|apply aC)) k6
 replace k7:w4.cell? ⟨w1.heap.size,3,none⟩=some (.int .u64 0):=by rw[hw0];exact cell_later (by repeat (with_reducible first|exact aD _|apply aA|apply aC)) k7
 have k8:w4.cell? ⟨w3.heap.size,0,none⟩=some (.int .u64 (d0 (bY a / d))):=by rw[hw0];repeat (first|(refine aK ?_ rfl;(simp;done))|refine aJ ?_)
 have k9:w4.cell? ⟨w3.heap.size,1,none⟩=some (.int .u64 (d1 (bY a / d))):=by rw[hw0];repeat (first|(refine aK ?_ rfl;(simp;done))|refine aJ ?_)
 have k10:w4.cell? ⟨w3.heap.size,2,none⟩=some (.int .u64 0):=by rw[hw0];repeat (first|(refine aK ?_ rfl;(simp;done))|refine aJ ?_)
 have z0:w.heap.size<w4.heap.size:=World.block_lt_of_cell? _ _ k0
 have z1:w.heap.size+1<w4.heap.size:=World.block_lt_of_cell? _ _ k2
 have z2:w1.heap.size<w4.heap.size:=World.block_lt_of_cell? _ _ k4
 have z3:w3.heap.size<w4.heap.size:=World.block_lt_of_cell? _ _ k8
 replace hB:Below w.heap.size w w4:=by rw[hw0];repeat (with_reducible first|exact hB|apply aA)
 rw[←hw0]
 clear hw0
 refine(lU _ _ hf _).mono ?_
 rintro e w5 ⟨rfl,hb1⟩
 replace f1_0:=aG (aE hb1 (by repeat (with_reducible first|exact aD _|apply aA|apply aC))) k2 f1_0
 replace f1_1:=aG (aE hb1 (by repeat (with_reducible first|exact aD _|apply aA|apply aC))) k3 f1_1
 replace hB:=aE hb1 (by repeat (with_reducible first|exact hB|apply aA|apply aC))
 replace k0:=cell_later (aE hb1 (by repeat (with_reducible first|exact aD _|apply aA|apply aC))) k0
 replace k1:=cell_later (aE hb1 (by repeat (with_reducible first|exact aD _|apply aA|apply aC))) k1
 replace k2:=cell_later (aE hb1 (by repeat (with_reducible first|exact aD _|apply aA|apply aC))) k2
 replace k3:=cell_later (aE hb1 (by repeat (with_reducible first|exact aD _|apply aA|apply aC))) k3
 replace k4:=cell_later (aE hb1 (by repeat (with_reducible first|exact aD _|apply aA|apply aC))) k4
 replace k5:=cell_later (aE hb1 (by repeat (with_reducible first|exact aD _|apply aA|apply aC))) k5
 replace k6:=cell_later (aE hb1 (by repeat (with_reducible first|exact aD _|apply aA|apply aC))) k6
 replace k7:=cell_later (aE hb1 (by repeat (with_reducible first|exact aD _|apply aA|apply aC))) k7
 replace k8:=cell_later (aE hb1 (by repeat (with_reducible first|exact aD _|apply aA|apply aC))) k8
 replace k9:=cell_later (aE hb1 (by repeat (with_reducible first|exact aD _|apply aA|apply aC))) k9
 replace k10:=cell_later (aE hb1 (by repeat (with_reducible first|exact aD _|apply aA|apply aC))) k10
 replace z0:=World.block_lt_of_cell? _ _ k0
 replace z1:=World.block_lt_of_cell? _ _ k2
 replace z2:=World.block_lt_of_cell? _ _ k4
 replace z3:=World.block_lt_of_cell? _ _ k8
 simp only[]at z0 z1 z2 z3
 clear hb1
 rw[es]
 go_wp2
 obtain⟨w9,hw0⟩:∃ x:World,x=((((w5.setCell ⟨w.heap.size+1,0,none⟩ (.int .i64 (hi q))).setCell ⟨w.heap.size+1,1,none⟩ (.int .u64 (lo q))).setCell ⟨w.heap.size+1,0,none⟩ (.int .i64 (hi q))).setCell ⟨w.heap.size+1,1,none⟩ (.int .u64 (lo q))):=⟨_,rfl⟩
 have new_k0:w9.cell? ⟨w.heap.size,0,none⟩=some (.int .i64 (hi (a))):=by rw[hw0];exact(aB (by omega) (aB (by omega) (aB (by omega) (aB (by omega) k0))))
 have new_k1:w9.cell? ⟨w.heap.size,1,none⟩=some (.int .u64 (lo (a))):=by rw[hw0];exact(aB (by omega) (aB (by omega) (aB (by omega) (aB (by omega) k1))))
 have new_k2:w9.cell? ⟨w.heap.size+1,0,none⟩=some (.int .i64 (hi q)):=by rw[hw0];exact(aB (by omega) (aV (aB (by omega) (aV k2))))
 have new_k3:w9.cell? ⟨w.heap.size+1,1,none⟩=some (.int .u64 (lo q)):=by rw[hw0];exact(aV (aB (by omega) (aV (aB (by omega) k3))))
 have new_k4:w9.cell? ⟨w1.heap.size,0,none⟩=some (.bool true):=by rw[hw0];exact(aB (by omega) (aB (by omega) (aB (by omega) (aB (by omega) k4))))
 have new_k5:w9.cell? ⟨w1.heap.size,1,none⟩=some (.int .u64 (d0 (bY a))):=by rw[hw0];exact(aB (by omega) (aB (by omega) (aB (by omega) (aB (by omega) k5))))
 have new_k6:w9.cell? ⟨w1.heap.size,2,none⟩=some (.int .u64 (d1 (bY a))):=by rw[hw0];exact(aB (by omega) (aB (by omega) (aB (by omega) (aB (by omega) k6))))
 have new_k7:w9.cell? ⟨w1.heap.size,3,none⟩=some (.int .u64 0):=by rw[hw0];exact(aB (by omega) (aB (by omega) (aB (by omega) (aB (by omega) k7))))
 have new_k8:w9.cell? ⟨w3.heap.size,0,none⟩=some (.int .u64 (d0 (bY a / d))):=by rw[hw0];exact(aB (by omega) (aB (by omega) (aB (by omega) (aB (by omega) k8))))
 have new_k9:w9.cell? ⟨w3.heap.size,1,none⟩=some (.int .u64 (d1 (bY a / d))):=by rw[hw0];exact(aB (by omega) (aB (by omega) (aB (by omega) (aB (by omega) k9))))
 have new_k10:w9.cell? ⟨w3.heap.size,2,none⟩=some (.int .u64 0):=by rw[hw0];exact(aB (by omega) (aB (by omega) (aB (by omega) (aB (by omega) k10))))
 replace f1_0:w9.frozen? ⟨w.heap.size+1,0,none⟩=false:=by rw[hw0];(repeat rw[World.frozen?_setCell]);exact f1_0
 replace f1_1:w9.frozen? ⟨w.heap.size+1,1,none⟩=false:=by rw[hw0];(repeat rw[World.frozen?_setCell]);exact f1_1
 replace hB:Below w.heap.size w w9:=by rw[hw0];repeat (with_reducible first|exact hB|refine bP _ (by omega) ?_)
 clear k0 k1 k2 k3 k4 k5 k6 k7 k8 k9 k10
 have k0:=new_k0;clear new_k0
 have k1:=new_k1;clear new_k1
 have k2:=new_k2;clear new_k2
 have k3:=new_k3;clear new_k3
 have k4:=new_k4;clear new_k4
 have k5:=new_k5;clear new_k5
 have k6:=new_k6;clear new_k6
 have k7:=new_k7;clear new_k7
 have k8:=new_k8;clear new_k8
 have k9:=new_k9;clear new_k9
 have k10:=new_k10;clear new_k10
 replace z0:w.heap.size<w9.heap.size:=World.block_lt_of_cell? _ _ k0
 replace z1:w.heap.size+1<w9.heap.size:=World.block_lt_of_cell? _ _ k2
 replace z2:w1.heap.size<w9.heap.size:=World.block_lt_of_cell? _ _ k4
 replace z3:w3.heap.size<w9.heap.size:=World.block_lt_of_cell? _ _ k8
 rw[←hw0]
 clear hw0
 exact bodyPost_ret (v := .tuple #[.agg #[.int .i64 (hi (q)),.int .u64 (lo (q))],.int .i64 0,.int .i64 0]) (by simp [results,Try.results64,go_sem, *]) rfl ⟨rfl,by repeat (with_reducible first|exact hB|refine bP _ (by omega) ?_|apply aA|apply aC)⟩
set_option maxHeartbeats 800000 in
theorem aDo (a d q r:Int) (ha:jW a) (hd:0<d) (hd':d≤9223372036854775807) (hn:a<0) (hz:0<bY a % d) (hq0:q=a / d) (hr0:r=a % d) (w:World):Calls Try.prog 64 #[.agg #[.int .i64 (hi (a)),.int .u64 (lo (a))],.int .i64 d] w fun e w'=>e = .returned (.tuple #[.agg #[.int .i64 (hi (q)),.int .u64 (lo (q))],.int .i64 r,.int .i64 0])∧Below w.heap.size w w':=by
 have l1:dZ (d0 (bY a)):=by unfold dZ d0;omega
 have l2:dZ (d1 (bY a)):=by unfold dZ d1;omega
 have hmb:bY a<340282366920938463463374607431768211456:=by unfold bY;unfold jW at ha;split<;>omega
 obtain⟨q0,q1,q2⟩:=tX (bY a) d (jX a) hmb hd
 have c1:IntKind.u64.wrap d=d:=by rw[IntKind.wrap_u64];omega
 have r0:=Int.emod_nonneg (bY a) (show d≠0 by omega)
 have r1:=Int.emod_lt_of_pos (bY a) hd
 have m0:0≤bY a / d:=Int.ediv_nonneg (jX a) (by omega)
 have m1:bY a / d≤bY a:=Int.ediv_le_self _ (jX a)
 have hs:decide (a<0)=true:=decide_eq_true hn
 have hma:bY a = -a:=if_pos hn
 have ha2 : -170141183460469231731687303715884105728≤a:=ha.1
 have hf:kM true (bY a / d):=aBe _ _ m0 (by unfold jW sgn;rw[if_pos rfl];omega)
 have nf:=aDG (bY a) d hd hz
 have es:sgn true (bY a / d) = -(bY a / d):=rfl
 have eq2 : -(bY a / d)-1=q:=by rw[hq0,←nf.1,hma,Int.neg_neg]
 have er:d-bY a % d=r:=by rw[hr0,←nf.2,hma,Int.neg_neg]
 have hq:jW (-(bY a / d)):=by unfold jW;omega
 have hone:jW 1:=by unfold jW;omega
 have kd:bY a / d<bY a:=by
  rcases Int.lt_or_le 1 d with g|g
  ·have:=Int.mul_le_mul_of_nonneg_left (show 2≤d by omega) (jX a)
   exact(Int.ediv_lt_iff_lt_mul hd).2 (by omega)
  ·have:d=1:=by omega
   subst this;simp at hz
 have hr:jW (-(bY a / d)-1):=by unfold jW;omega
 have c3:IntKind.u64.wrap (d-bY a % d)=r:=by rw[er,IntKind.wrap_u64];omega
 have nd:¬d<1:=by omega
 have c2:IntKind.i64.wrap r=r:=IntWalk.i64_in _ (by omega)
 clear hma hmb m0 m1 hq0 hr0 ha2 nf kd er
 go_enter Try.func64,Try.ntmps64
 go_wp2_with fail
 obtain⟨w0,hw0⟩:∃ x:World,x=((w.alloc (.cells #[.int .i64 (hi (a)),.int .u64 (lo (a))] 35)).alloc (.cells #[.int .i64 0,.int .u64 0] 35)):=⟨_,rfl⟩
 have k0:w0.cell? ⟨w.heap.size,0,none⟩=some (.int .i64 (hi (a))):=by rw[hw0];repeat (first|(refine aK ?_ rfl;(simp;done))|refine aJ ?_)
 have k1:w0.cell? ⟨w.heap.size,1,none⟩=some (.int .u64 (lo (a))):=by rw[hw0];repeat (first|(refine aK ?_ rfl;(simp;done))|refine aJ ?_)
 have k2:w0.cell? ⟨w.heap.size+1,0,none⟩=some (.int .i64 0):=by rw[hw0];repeat (first|(refine aK ?_ rfl;(simp;done))|refine aJ ?_)
 have k3:w0.cell? ⟨w.heap.size+1,1,none⟩=some (.int .u64 0):=by rw[hw0];repeat (first|(refine aK ?_ rfl;(simp;done))|refine aJ ?_)
 have z0:w.heap.size<w0.heap.size:=World.block_lt_of_cell? _ _ k0
 have z1:w.heap.size+1<w0.heap.size:=World.block_lt_of_cell? _ _ k2
 have hB:Below w.heap.size w w0:=by rw[hw0];repeat (with_reducible first|exact aD _|apply aA)
 have f1_0:w0.frozen? ⟨w.heap.size+1,0,none⟩=false:=by rw[hw0];repeat (first|(refine bJ ?_;(simp;done))|(refine bI (by first|(simp;done)|(simp;omega)) ?_))
 have f1_1:w0.frozen? ⟨w.heap.size+1,1,none⟩=false:=by rw[hw0];repeat (first|(refine bJ ?_;(simp;done))|(refine bI (by first|(simp;done)|(simp;omega)) ?_))
 rw[←hw0]
 clear hw0
 refine(rI a ha _).mono ?_
 rintro e w1 ⟨rfl,hb1⟩
 replace f1_0:=aG (aE hb1 (by repeat (with_reducible first|exact aD _|apply aA|apply aC))) k2 f1_0
 replace f1_1:=aG (aE hb1 (by repeat (with_reducible first|exact aD _|apply aA|apply aC))) k3 f1_1
 replace hB:=aE hb1 (by repeat (with_reducible first|exact hB|apply aA|apply aC))
 replace k0:=cell_later (aE hb1 (by repeat (with_reducible first|exact aD _|apply aA|apply aC))) k0
 replace k1:=cell_later (aE hb1 (by repeat (with_reducible first|exact aD _|apply aA|apply aC))) k1
 replace k2:=cell_later (aE hb1 (by repeat (with_reducible first|exact aD _|apply aA|apply aC))) k2
 replace k3:=cell_later (aE hb1 (by repeat (with_reducible first|exact aD _|apply aA|apply aC))) k3
 replace z0:=World.block_lt_of_cell? _ _ k0
 replace z1:=World.block_lt_of_cell? _ _ k2
 simp only[]at z0 z1
 clear hb1
 rw[hs]
 go_wp2_with fail
 obtain⟨w2,hw0⟩:∃ x:World,x=(w1.alloc (.cells #[.bool true,.int .u64 (d0 (bY a)),.int .u64 (d1 (bY a)),.int .u64 0] 107)):=⟨_,rfl⟩
 replace f1_0:w2.frozen? ⟨w.heap.size+1,0,none⟩=false:=by rw[hw0];exact aG (by repeat (with_reducible first|exact aD _|apply aA|apply aC)) k2 f1_0
 replace f1_1:w2.frozen? ⟨w.heap.size+1,1,none⟩=false:=by rw[hw0];exact aG (by repeat (with_reducible first|exact aD _|apply aA|apply aC)) k3 f1_1
 replace k0:w2.cell? ⟨w.heap.size,0,none⟩=some (.int .i64 (hi (a))):=by rw[hw0];exact cell_later (by repeat (with_reducible first|exact aD _|apply aA|apply aC)) k0
 replace k1:w2.cell? ⟨w.heap.size,1,none⟩=some (.int .u64 (lo (a))):=by rw[hw0];exact cell_later (by repeat (with_reducible first|exact aD _|apply aA|apply aC)) k1
 replace k2:w2.cell? ⟨w.heap.size+1,0,none⟩=some (.int .i64 0):=by rw[hw0];exact cell_later (by repeat (with_reducible first|exact aD _|apply aA|apply aC)) k2
 replace k3:w2.cell? ⟨w.heap.size+1,1,none⟩=some (.int .u64 0):=by rw[hw0];exact cell_later (by repeat (with_reducible first|exact aD _|apply aA|apply aC)) k3
 have k4:w2.cell? ⟨w1.heap.size,0,none⟩=some (.bool true):=by rw[hw0];repeat (first|(refine aK ?_ rfl;(simp;done))|refine aJ ?_)
 have k5:w2.cell? ⟨w1.heap.size,1,none⟩=some (.int .u64 (d0 (bY a))):=by rw[hw0];repeat (first|(refine aK ?_ rfl;(simp;done))|refine aJ ?_)
 have k6:w2.cell? ⟨w1.heap.size,2,none⟩=some (.int .u64 (d1 (bY a))):=by rw[hw0];repeat (first|(refine aK ?_ rfl;(simp;done))|refine aJ ?_)
 have k7:w2.cell? ⟨w1.heap.size,3,none⟩=some (.int .u64 0):=by rw[hw0];repeat (first|(refine aK ?_ rfl;(simp;done))|refine aJ ?_)
 have z0:w.heap.size<w2.heap.size:=World.block_lt_of_cell? _ _ k0
 have z1:w.heap.size+1<w2.heap.size:=World.block_lt_of_cell? _ _ k2
 have z2:w1.heap.size<w2.heap.size:=World.block_lt_of_cell? _ _ k4
 replace hB:Below w.heap.size w w2:=by rw[hw0];repeat (with_reducible first|exact hB|apply aA)
 rw[←hw0]
 clear hw0
 refine(lD _ _ d l1 l2 ⟨by omega,by omega⟩ _).mono ?_
 rintro e w3 ⟨rfl,hb1⟩
 replace f1_0:=aG (aE hb1 (by repeat (with_reducible first|exact aD _|apply aA|apply aC))) k2 f1_0
 replace f1_1:=aG (aE hb1 (by repeat (with_reducible first|exact aD _|apply aA|apply aC))) k3 f1_1
 replace hB:=aE hb1 (by repeat (with_reducible first|exact hB|apply aA|apply aC))
 replace k0:=cell_later (aE hb1 (by repeat (with_reducible first|exact aD _|apply aA|apply aC))) k0
 replace k1:=cell_later (aE hb1 (by repeat (with_reducible first|exact aD _|apply aA|apply aC))) k1
 replace k2:=cell_later (aE hb1 (by repeat (with_reducible first|exact aD _|apply aA|apply aC))) k2
 replace k3:=cell_later (aE hb1 (by repeat (with_reducible first|exact aD _|apply aA|apply aC))) k3
 replace k4:=cell_later (aE hb1 (by repeat (with_reducible first|exact aD _|apply aA|apply aC))) k4
 replace k5:=cell_later (aE hb1 (by repeat (with_reducible first|exact aD _|apply aA|apply aC))) k5
 replace k6:=cell_later (aE hb1 (by repeat (with_reducible first|exact aD _|apply aA|apply aC))) k6
 replace k7:=cell_later (aE hb1 (by repeat (with_reducible first|exact aD _|apply aA|apply aC))) k7
 replace z0:=World.block_lt_of_cell? _ _ k0
 replace z1:=World.block_lt_of_cell? _ _ k2
 replace z2:=World.block_lt_of_cell? _ _ k4
 simp only[]at z0 z1 z2
 clear hb1
 rw[q0,q1,q2]
 go_wp2_with fail
 obtain⟨w4,hw0⟩:∃ x:World,x=(w3.alloc (.cells #[.int .u64 (d0 (bY a / d)),.int .u64 (d1 (bY a / d)),.int .u64 0] 105)):=⟨_,rfl⟩
 replace f1_0:w4.frozen? ⟨w.heap.size+1,0,none⟩=false:=by rw[hw0];exact aG (by repeat (with_reducible first|exact aD _|apply aA|apply aC)) k2 f1_0
 replace f1_1:w4.frozen? ⟨w.heap.size+1,1,none⟩=false:=by rw[hw0];exact aG (by repeat (with_reducible first|exact aD _|apply aA|apply aC)) k3 f1_1
 replace k0:w4.cell? ⟨w.heap.size,0,none⟩=some (.int .i64 (hi (a))):=by rw[hw0];exact cell_later (by repeat (with_reducible first|exact aD _|apply aA|apply aC)) k0
 replace k1:w4.cell? ⟨w.heap.size,1,none⟩=some (.int .u64 (lo (a))):=by rw[hw0];exact cell_later (by repeat (with_reducible first|exact aD _|apply aA|apply aC)) k1
 replace k2:w4.cell? ⟨w.heap.size+1,0,none⟩=some (.int .i64 0):=by rw[hw0];exact cell_later (by repeat (with_reducible first|exact aD _|apply aA|apply aC)) k2
 replace k3:w4.cell? ⟨w.heap.size+1,1,none⟩=some (.int .u64 0):=by rw[hw0];exact cell_later (by repeat (with_reducible first|exact aD _|apply aA|apply aC)) k3
 replace k4:w4.cell? ⟨w1.heap.size,0,none⟩=some (.bool true):=by rw[hw0];exact cell_later (by repeat (with_reducible first|exact aD _|apply aA|apply aC)) k4
 replace k5:w4.cell? ⟨w1.heap.size,1,none⟩=some (.int .u64 (d0 (bY a))):=by rw[hw0];exact cell_later (by repeat (with_reducible first|exact aD _|apply aA|apply aC)) k5
 replace k6:w4.cell? ⟨w1.heap.size,2,none⟩=some (.int .u64 (d1 (bY a))):=by rw[hw0];exact cell_later (by repeat (with_reducible first|exact aD _|apply aA|apply aC)) k6
 replace k7:w4.cell? ⟨w1.heap.size,3,none⟩=some (.int .u64 0):=by rw[hw0];exact cell_later (by repeat (with_reducible first|exact aD _|apply aA|apply aC)) k7
 have k8:w4.cell? ⟨w3.heap.size,0,none⟩=some (.int .u64 (d0 (bY a / d))):=by rw[hw0];repeat (first|(refine aK ?_ rfl;(simp;done))|refine aJ ?_)
 have k9:w4.cell? ⟨w3.heap.size,1,none⟩=some (.int .u64 (d1 (bY a / d))):=by rw[hw0];repeat (first|(refine aK ?_ rfl;(simp;done))|refine aJ ?_)
 have k10:w4.cell? ⟨w3.heap.size,2,none⟩=some (.int .u64 0):=by rw[hw0];repeat (first|(refine aK ?_ rfl;(simp;done))|refine aJ ?_)
 have z0:w.heap.size<w4.heap.size:=World.block_lt_of_cell? _ _ k0
 have z1:w.heap.size+1<w4.heap.size:=World.block_lt_of_cell? _ _ k2
 have z2:w1.heap.size<w4.heap.size:=World.block_lt_of_cell? _ _ k4
 have z3:w3.heap.size<w4.heap.size:=World.block_lt_of_cell? _ _ k8
 replace hB:Below w.heap.size w w4:=by rw[hw0];repeat (with_reducible first|exact hB|apply aA)
 rw[←hw0]
 clear hw0
 refine(lU _ _ hf _).mono ?_
 rintro e w5 ⟨rfl,hb1⟩
 replace f1_0:=aG (aE hb1 (by repeat (with_reducible first|exact aD _|apply aA|apply aC))) k2 f1_0
 replace f1_1:=aG (aE hb1 (by repeat (with_reducible first|exact aD _|apply aA|apply aC))) k3 f1_1
 replace hB:=aE hb1 (by repeat (with_reducible first|exact hB|apply aA|apply aC))
 replace k0:=cell_later (aE hb1 (by repeat (with_reducible first|exact aD _|apply aA|apply aC))) k0
 replace k1:=cell_later (aE hb1 (by repeat (with_reducible first|exact aD _|apply aA|apply aC))) k1
 replace k2:=cell_later (aE hb1 (by repeat (with_reducible first|exact aD _|apply aA|apply aC))) k2
 replace k3:=cell_later (aE hb1 (by repeat (with_reducible first|exact aD _|apply aA|apply aC))) k3
 replace k4:=cell_later (aE hb1 (by repeat (with_reducible first|exact aD _|apply aA|apply aC))) k4
 replace k5:=cell_later (aE hb1 (by repeat (with_reducible first|exact aD _|apply aA|apply aC))) k5
 replace k6:=cell_later (aE hb1 (by repeat (with_reducible first|exact aD _|apply aA|apply aC))) k6
 replace k7:=cell_later (aE hb1 (by repeat (with_reducible first|exact aD _|apply aA|apply aC))) k7
 replace k8:=cell_later (aE hb1 (by repeat (with_reducible first|exact aD _|apply aA|apply aC))) k8
 replace k9:=cell_later (aE hb1 (by repeat (with_reducible first|exact aD _|apply aA|apply aC))) k9
 replace k10:=cell_later (aE hb1 (by repeat (with_reducible first|exact aD _|apply aA|apply aC))) k10
 replace z0:=World.block_lt_of_cell? _ _ k0
 replace z1:=World.block_lt_of_cell? _ _ k2
 replace z2:=World.block_lt_of_cell? _ _ k4
 replace z3:=World.block_lt_of_cell? _ _ k8
 simp only[]at z0 z1 z2 z3
 clear hb1
 rw[es]
 go_wp2
 obtain⟨w6,hw0⟩:∃ x:World,x=((w5.setCell ⟨w.heap.size+1,0,none⟩ (.int .i64 (hi (-(bY a / d))))).setCell ⟨w.heap.size+1,1,none⟩ (.int .u64 (lo (-(bY a / d))))):=⟨_,rfl⟩
 have new_k0:w6.cell? ⟨w.heap.size,0,none⟩=some (.int .i64 (hi (a))):=by rw[hw0];exact(aB (by omega) (aB (by omega) k0))
 have new_k1:w6.cell? ⟨w.heap.size,1,none⟩=some (.int .u64 (lo (a))):=by rw[hw0];exact(aB (by omega) (aB (by omega) k1))
 have new_k2:w6.cell? ⟨w.heap.size+1,0,none⟩=some (.int .i64 (hi (-(bY a / d)))):=by rw[hw0];exact(aB (by omega) (aV k2))
 have new_k3:w6.cell? ⟨w.heap.size+1,1,none⟩=some (.int .u64 (lo (-(bY a / d)))):=by rw[hw0];exact(aV (aB (by omega) k3))
 have new_k4:w6.cell? ⟨w1.heap.size,0,none⟩=some (.bool true):=by rw[hw0];exact(aB (by omega) (aB (by omega) k4))
 have new_k5:w6.cell? ⟨w1.heap.size,1,none⟩=some (.int .u64 (d0 (bY a))):=by rw[hw0];exact(aB (by omega) (aB (by omega) k5))
 have new_k6:w6.cell? ⟨w1.heap.size,2,none⟩=some (.int .u64 (d1 (bY a))):=by rw[hw0];exact(aB (by omega) (aB (by omega) k6))
 have new_k7:w6.cell? ⟨w1.heap.size,3,none⟩=some (.int .u64 0):=by rw[hw0];exact(aB (by omega) (aB (by omega) k7))
 have new_k8:w6.cell? ⟨w3.heap.size,0,none⟩=some (.int .u64 (d0 (bY a / d))):=by rw[hw0];exact(aB (by omega) (aB (by omega) k8))
 have new_k9:w6.cell? ⟨w3.heap.size,1,none⟩=some (.int .u64 (d1 (bY a / d))):=by rw[hw0];exact(aB (by omega) (aB (by omega) k9))
 have new_k10:w6.cell? ⟨w3.heap.size,2,none⟩=some (.int .u64 0):=by rw[hw0];exact(aB (by omega) (aB (by omega) k10))
 replace f1_0:w6.frozen? ⟨w.heap.size+1,0,none⟩=false:=by rw[hw0];(repeat rw[World.frozen?_setCell]);exact f1_0
 replace f1_1:w6.frozen? ⟨w.heap.size+1,1,none⟩=false:=by rw[hw0];(repeat rw[World.frozen?_setCell]);exact f1_1
 replace hB:Below w.heap.size w w6:=by rw[hw0];repeat (with_reducible first|exact hB|refine bP _ (by omega) ?_)
 clear k0 k1 k2 k3 k4 k5 k6 k7 k8 k9 k10
 have k0:=new_k0;clear new_k0
 have k1:=new_k1;clear new_k1
 have k2:=new_k2;clear new_k2
 have k3:=new_k3;clear new_k3
 have k4:=new_k4;clear new_k4
 have k5:=new_k5;clear new_k5
 have k6:=new_k6;clear new_k6
 have k7:=new_k7;clear new_k7
 have k8:=new_k8;clear new_k8
 have k9:=new_k9;clear new_k9
 have k10:=new_k10;clear new_k10
 replace z0:w.heap.size<w6.heap.size:=World.block_lt_of_cell? _ _ k0
 replace z1:w.heap.size+1<w6.heap.size:=World.block_lt_of_cell? _ _ k2
 replace z2:w1.heap.size<w6.heap.size:=World.block_lt_of_cell? _ _ k4
 replace z3:w3.heap.size<w6.heap.size:=World.block_lt_of_cell? _ _ k8
 rw[←hw0]
 clear hw0
 go_region_with (first
  |(go_at_call 17;refine(rZ 1 ⟨by omega,by omega⟩ _).mono ?_;rintro e w7 ⟨rfl,hb1⟩;replace f1_0:=aG (aE hb1 (by repeat (with_reducible first|exact aD _|apply aA|apply aC))) k2 f1_0;replace f1_1:=aG (aE hb1 (by repeat (with_reducible first|exact aD _|apply aA|apply aC))) k3 f1_1;replace hB:=aE hb1 (by repeat (with_reducible first|exact hB|apply aA|apply aC));replace k0:=cell_later (aE hb1 (by repeat (with_reducible first|exact aD _|apply aA|apply aC))) k0;replace k1:=cell_later (aE hb1 (by repeat (with_reducible first|exact aD _|apply aA|apply aC))) k1;replace k2:=cell_later (aE hb1 (by repeat (with_reducible first|exact aD _|apply aA|apply aC))) k2;replace k3:=cell_later (aE hb1 (by repeat (with_reducible first|exact aD _|apply aA|apply aC))) k3;replace k4:=cell_later (aE hb1 (by repeat (with_reducible first|exact aD _|apply aA|apply aC))) k4;replace k5:=cell_later (aE hb1 (by repeat (with_reducible first|exact aD _|apply aA|apply aC))) k5;replace k6:=cell_later (aE hb1 (by repeat (with_reducible first|exact aD _|apply aA|apply aC))) k6;replace k7:=cell_later (aE hb1 (by repeat (with_reducible first|exact aD _|apply aA|apply aC))) k7;replace k8:=cell_later (aE hb1 (by repeat (with_reducible first|exact aD _|apply aA|apply aC))) k8;replace k9:=cell_later (aE hb1 (by repeat (with_reducible first|exact aD _|apply aA|apply aC))) k9;replace k10:=cell_later (aE hb1 (by repeat (with_reducible first|exact aD _|apply aA|apply aC))) k10;replace z0:=World.block_lt_of_cell? _ _ k0;replace z1:=World.block_lt_of_cell? _ _ k2;replace z2:=World.block_lt_of_cell? _ _ k4;replace z3:=World.block_lt_of_cell? _ _ k8;simp only[]at z0 z1 z2 z3;clear hb1)
  |(go_at_call 21;refine(aFq _ _ hq hone hr _).mono ?_;rintro e w8 ⟨rfl,hb1⟩;replace f1_0:=aG (aE hb1 (by repeat (with_reducible first|exact aD _|apply aA|apply aC))) k2 f1_0;replace f1_1:=aG (aE hb1 (by repeat (with_reducible first|exact aD _|apply aA|apply aC))) k3 f1_1;replace hB:=aE hb1 (by repeat (with_reducible first|exact hB|apply aA|apply aC));replace k0:=cell_later (aE hb1 (by repeat (with_reducible first|exact aD _|apply aA|apply aC))) k0;replace k1:=cell_later (aE hb1 (by repeat (with_reducible first|exact aD _|apply aA|apply aC))) k1;replace k2:=cell_later (aE hb1 (by repeat (with_reducible first|exact aD _|apply aA|apply aC))) k2;replace k3:=cell_later (aE hb1 (by repeat (with_reducible first|exact aD _|apply aA|apply aC))) k3;replace k4:=cell_later (aE hb1 (by repeat (with_reducible first|exact aD _|apply aA|apply aC))) k4;replace k5:=cell_later (aE hb1 (by repeat (with_reducible first|exact aD _|apply aA|apply aC))) k5;replace k6:=cell_later (aE hb1 (by repeat (with_reducible first|exact aD _|apply aA|apply aC))) k6;replace k7:=cell_later (aE hb1 (by repeat (with_reducible first|exact aD _|apply aA|apply aC))) k7;replace k8:=cell_later (aE hb1 (by repeat (with_reducible first|exact aD _|apply aA|apply aC))) k8;replace k9:=cell_later (aE hb1 (by repeat (with_reducible first|exact aD _|apply aA|apply aC))) k9;replace k10:=cell_later (aE hb1 (by repeat (with_reducible first|exact aD _|apply aA|apply aC))) k10;replace z0:=World.block_lt_of_cell? _ _ k0;replace z1:=World.block_lt_of_cell? _ _ k2;replace z2:=World.block_lt_of_cell? _ _ k4;replace z3:=World.block_lt_of_cell? _ _ k8;simp only[]at z0 z1 z2 z3;clear hb1;rw[eq2]))
 all_goals go_wp2
 ·skip
  obtain⟨w9,hw0⟩:∃ x:World,x=((((w8.setCell ⟨w.heap.size+1,0,none⟩ (.int .i64 (hi q))).setCell ⟨w.heap.size+1,1,none⟩ (.int .u64 (lo q))).setCell ⟨w.heap.size+1,0,none⟩ (.int .i64 (hi q))).setCell ⟨w.heap.size+1,1,none⟩ (.int .u64 (lo q))):=⟨_,rfl⟩
  have new_k0:w9.cell? ⟨w.heap.size,0,none⟩=some (.int .i64 (hi (a))):=by rw[hw0];exact(aB (by omega) (aB (by omega) (aB (by omega) (aB (by omega) k0))))
  have new_k1:w9.cell? ⟨w.heap.size,1,none⟩=some (.int .u64 (lo (a))):=by rw[hw0];exact(aB (by omega) (aB (by omega) (aB (by omega) (aB (by omega) k1))))
  have new_k2:w9.cell? ⟨w.heap.size+1,0,none⟩=some (.int .i64 (hi q)):=by rw[hw0];exact(aB (by omega) (aV (aB (by omega) (aV k2))))
  have new_k3:w9.cell? ⟨w.heap.size+1,1,none⟩=some (.int .u64 (lo q)):=by rw[hw0];exact(aV (aB (by omega) (aV (aB (by omega) k3))))
  have new_k4:w9.cell? ⟨w1.heap.size,0,none⟩=some (.bool true):=by rw[hw0];exact(aB (by omega) (aB (by omega) (aB (by omega) (aB (by omega) k4))))
  have new_k5:w9.cell? ⟨w1.heap.size,1,none⟩=some (.int .u64 (d0 (bY a))):=by rw[hw0];exact(aB (by omega) (aB (by omega) (aB (by omega) (aB (by omega) k5))))
  have new_k6:w9.cell? ⟨w1.heap.size,2,none⟩=some (.int .u64 (d1 (bY a))):=by rw[hw0];exact(aB (by omega) (aB (by omega) (aB (by omega) (aB (by omega) k6))))
  have new_k7:w9.cell? ⟨w1.heap.size,3,none⟩=some (.int .u64 0):=by rw[hw0];exact(aB (by omega) (aB (by omega) (aB (by omega) (aB (by omega) k7))))
  have new_k8:w9.cell? ⟨w3.heap.size,0,none⟩=some (.int .u64 (d0 (bY a / d))):=by rw[hw0];exact(aB (by omega) (aB (by omega) (aB (by omega) (aB (by omega) k8))))
  have new_k9:w9.cell? ⟨w3.heap.size,1,none⟩=some (.int .u64 (d1 (bY a / d))):=by rw[hw0];exact(aB (by omega) (aB (by omega) (aB (by omega) (aB (by omega) k9))))
  have new_k10:w9.cell? ⟨w3.heap.size,2,none⟩=some (.int .u64 0):=by rw[hw0];exact(aB (by omega) (aB (by omega) (aB (by omega) (aB (by omega) k10))))
  replace f1_0:w9.frozen? ⟨w.heap.size+1,0,none⟩=false:=by rw[hw0];(repeat rw[World.frozen?_setCell]);exact f1_0
  replace f1_1:w9.frozen? ⟨w.heap.size+1,1,none⟩=false:=by rw[hw0];(repeat rw[World.frozen?_setCell]);exact f1_1
  replace hB:Below w.heap.size w w9:=by rw[hw0];repeat (with_reducible first|exact hB|refine bP _ (by omega) ?_)
  clear k0 k1 k2 k3 k4 k5 k6 k7 k8 k9 k10
  have k0:=new_k0;clear new_k0
  have k1:=new_k1;clear new_k1
  have k2:=new_k2;clear new_k2
  have k3:=new_k3;clear new_k3
  have k4:=new_k4;clear new_k4
  have k5:=new_k5;clear new_k5
  have k6:=new_k6;clear new_k6
  have k7:=new_k7;clear new_k7
  have k8:=new_k8;clear new_k8
  have k9:=new_k9;clear new_k9
  have k10:=new_k10;clear new_k10
  replace z0:w.heap.size<w9.heap.size:=World.block_lt_of_cell? _ _ k0
  replace z1:w.heap.size+1<w9.heap.size:=World.block_lt_of_cell? _ _ k2
  replace z2:w1.heap.size<w9.heap.size:=World.block_lt_of_cell? _ _ k4
  replace z3:w3.heap.size<w9.heap.size:=World.block_lt_of_cell? _ _ k8
  rw[←hw0]
  clear hw0
  exact bodyPost_ret (v := .tuple #[.agg #[.int .i64 (hi (q)),.int .u64 (lo (q))],.int .i64 r,.int .i64 0]) (by simp [results,Try.results64,go_sem, *]) rfl ⟨rfl,by repeat (with_reducible first|exact hB|refine bP _ (by omega) ?_|apply aA|apply aC)⟩
 ·skip
  obtain⟨w9,hw0⟩:∃ x:World,x=((((w8.setCell ⟨w.heap.size+1,0,none⟩ (.int .i64 (hi q))).setCell ⟨w.heap.size+1,1,none⟩ (.int .u64 (lo q))).setCell ⟨w.heap.size+1,0,none⟩ (.int .i64 (hi q))).setCell ⟨w.heap.size+1,1,none⟩ (.int .u64 (lo q))):=⟨_,rfl⟩
  have new_k0:w9.cell? ⟨w.heap.size,0,none⟩=some (.int .i64 (hi (a))):=by rw[hw0];exact(aB (by omega) (aB (by omega) (aB (by omega) (aB (by omega) k0))))
  have new_k1:w9.cell? ⟨w.heap.size,1,none⟩=some (.int .u64 (lo (a))):=by rw[hw0];exact(aB (by omega) (aB (by omega) (aB (by omega) (aB (by omega) k1))))
  have new_k2:w9.cell? ⟨w.heap.size+1,0,none⟩=some (.int .i64 (hi q)):=by rw[hw0];exact(aB (by omega) (aV (aB (by omega) (aV k2))))
  have new_k3:w9.cell? ⟨w.heap.size+1,1,none⟩=some (.int .u64 (lo q)):=by rw[hw0];exact(aV (aB (by omega) (aV (aB (by omega) k3))))
  have new_k4:w9.cell? ⟨w1.heap.size,0,none⟩=some (.bool true):=by rw[hw0];exact(aB (by omega) (aB (by omega) (aB (by omega) (aB (by omega) k4))))
  have new_k5:w9.cell? ⟨w1.heap.size,1,none⟩=some (.int .u64 (d0 (bY a))):=by rw[hw0];exact(aB (by omega) (aB (by omega) (aB (by omega) (aB (by omega) k5))))
  have new_k6:w9.cell? ⟨w1.heap.size,2,none⟩=some (.int .u64 (d1 (bY a))):=by rw[hw0];exact(aB (by omega) (aB (by omega) (aB (by omega) (aB (by omega) k6))))
  have new_k7:w9.cell? ⟨w1.heap.size,3,none⟩=some (.int .u64 0):=by rw[hw0];exact(aB (by omega) (aB (by omega) (aB (by omega) (aB (by omega) k7))))
  have new_k8:w9.cell? ⟨w3.heap.size,0,none⟩=some (.int .u64 (d0 (bY a / d))):=by rw[hw0];exact(aB (by omega) (aB (by omega) (aB (by omega) (aB (by omega) k8))))
  have new_k9:w9.cell? ⟨w3.heap.size,1,none⟩=some (.int .u64 (d1 (bY a / d))):=by rw[hw0];exact(aB (by omega) (aB (by omega) (aB (by omega) (aB (by omega) k9))))
  have new_k10:w9.cell? ⟨w3.heap.size,2,none⟩=some (.int .u64 0):=by rw[hw0];exact(aB (by omega) (aB (by omega) (aB (by omega) (aB (by omega) k10))))
  replace f1_0:w9.frozen? ⟨w.heap.size+1,0,none⟩=false:=by rw[hw0];(repeat rw[World.frozen?_setCell]);exact f1_0
  replace f1_1:w9.frozen? ⟨w.heap.size+1,1,none⟩=false:=by rw[hw0];(repeat rw[World.frozen?_setCell]);exact f1_1
  replace hB:Below w.heap.size w w9:=by rw[hw0];repeat (with_reducible first|exact hB|refine bP _ (by omega) ?_)
  clear k0 k1 k2 k3 k4 k5 k6 k7 k8 k9 k10
  have k0:=new_k0;clear new_k0
  have k1:=new_k1;clear new_k1
  have k2:=new_k2;clear new_k2
  have k3:=new_k3;clear new_k3
  have k4:=new_k4;clear new_k4
  have k5:=new_k5;clear new_k5
  have k6:=new_k6;clear new_k6
  have k7:=new_k7;clear new_k7
  have k8:=new_k8;clear new_k8
  have k9:=new_k9;clear new_k9
  have k10:=new_k10;clear new_k10
  replace z0:w.heap.size<w9.heap.size:=World.block_lt_of_cell? _ _ k0
  replace z1:w.heap.size+1<w9.heap.size:=World.block_lt_of_cell? _ _ k2
  replace z2:w1.heap.size<w9.heap.size:=World.block_lt_of_cell? _ _ k4
  replace z3:w3.heap.size<w9.heap.size:=World.block_lt_of_cell? _ _ k8
  rw[←hw0]
  clear hw0
  exact bodyPost_ret (v := .tuple #[.agg #[.int .i64 (hi (q)),.int .u64 (lo (q))],.int .i64 r,.int .i64 0]) (by simp [results,Try.results64,go_sem, *]) rfl ⟨rfl,by repeat (with_reducible first|exact hB|refine bP _ (by omega) ?_|apply aA|apply aC)⟩
theorem sQ (a d:Int) (ha:jW a) (hd:0<d) (hd':d≤9223372036854775807) (w:World):Calls Try.prog 64 #[.agg #[.int .i64 (hi (a)),.int .u64 (lo (a))],.int .i64 d] w fun e w'=>e = .returned (.tuple #[.agg #[.int .i64 (hi (a / d)),.int .u64 (lo (a / d))],.int .i64 (a % d),.int .i64 0])∧Below w.heap.size w w':=by
 by_cases hn:a<0
 ·have r0:=Int.emod_nonneg (bY a) (show d≠0 by omega)
  by_cases hz:bY a % d=0
  ·exact aG5 a d _ _ ha hd hd' hn hz rfl rfl w
  ·exact aDo a d _ _ ha hd hd' hn (by omega) rfl rfl w
 ·exact aHF a d _ _ ha hd hd' hn rfl rfl w
theorem aFP (a d:Int) (ha:jW a) (hd:0<d):jW (a / d):=by
 unfold jW at *
 have e:=Int.emod_add_mul_ediv a d
 have r0:=Int.emod_nonneg a (show d≠0 by omega)
 have r1:=Int.emod_lt_of_pos a hd
 exact⟨(Int.le_ediv_iff_mul_le hd).2 (by omega),(Int.ediv_lt_iff_lt_mul hd).2 (by omega)⟩
theorem aJk (a d:Int) (ha:jW a) (hd:0<d) (h:d-a % d≤a % d):jW (a / d+1):=by
 have hb:=aFP a d ha hd
 unfold jW at *
 have r1:=Int.emod_lt_of_pos a hd
 have hd2:2≤d:=by
  rcases Int.lt_or_le 1 d with g|g
  ·omega
  ·have:d=1:=by omega
   subst this;simp at h
 have:a / d<170141183460469231731687303715884105727:=(Int.ediv_lt_iff_lt_mul hd).2 (by omega)
 omega
set_option maxHeartbeats 800000 in
theorem aCV (a d q:Int) (ha:jW a) (hd:0<d) (hd':d≤9223372036854775807) (hc:¬d-a % d≤a % d) (hq:q=near a d) (w:World):Calls Try.prog 31 #[.agg #[.int .i64 (hi (a)),.int .u64 (lo (a))],.int .i64 d] w fun e w'=>e = .returned (.tuple #[.agg #[.int .i64 (hi (q)),.int .u64 (lo (q))],.int .i64 0])∧Below w.heap.size w w':=by
 have r0:=Int.emod_nonneg a (show d≠0 by omega)
 have r1:=Int.emod_lt_of_pos a hd
 have c1:wrap64 (d-a % d)=d-a % d:=IntWalk.wrap64_in _ (by omega)
 have c2:IntKind.i64.wrap (d-a % d)=d-a % d:=IntWalk.i64_in _ (by omega)
 have eq:a / d=q:=by rw[hq,aMy a d hd hc]
 clear hq
 go_enter Try.func31,Try.ntmps31
 go_wp2_with fail
 obtain⟨w0,hw0⟩:∃ x:World,x=((w.alloc (.cells #[.int .i64 (hi (a)),.int .u64 (lo (a))] 35)).alloc (.cells #[.int .i64 0,.int .u64 0] 35)):=⟨_,rfl⟩
 have k0:w0.cell? ⟨w.heap.size,0,none⟩=some (.int .i64 (hi (a))):=by rw[hw0];repeat (first|(refine aK ?_ rfl;(simp;done))|refine aJ ?_)
 have k1:w0.cell? ⟨w.heap.size,1,none⟩=some (.int .u64 (lo (a))):=by rw[hw0];repeat (first|(refine aK ?_ rfl;(simp;done))|refine aJ ?_)
 have k2:w0.cell? ⟨w.heap.size+1,0,none⟩=some (.int .i64 0):=by rw[hw0];repeat (first|(refine aK ?_ rfl;(simp;done))|refine aJ ?_)
 have k3:w0.cell? ⟨w.heap.size+1,1,none⟩=some (.int .u64 0):=by rw[hw0];repeat (first|(refine aK ?_ rfl;(simp;done))|refine aJ ?_)
 have z0:w.heap.size<w0.heap.size:=World.block_lt_of_cell? _ _ k0
 have z1:w.heap.size+1<w0.heap.size:=World.block_lt_of_cell? _ _ k2
 have hB:Below w.heap.size w w0:=by rw[hw0];repeat (with_reducible first|exact aD _|apply aA)
 have f1_0:w0.frozen? ⟨w.heap.size+1,0,none⟩=false:=by rw[hw0];repeat (first|(refine bJ ?_;(simp;done))|(refine bI (by first|(simp;done)|(simp;omega)) ?_))
 have f1_1:w0.frozen? ⟨w.heap.size+1,1,none⟩=false:=by rw[hw0];repeat (first|(refine bJ ?_;(simp;done))|(refine bI (by first|(simp;done)|(simp;omega)) ?_))
 rw[←hw0]
 clear hw0
 refine(sQ a d ha hd hd' _).mono ?_
 rintro e w1 ⟨rfl,hb1⟩
 replace f1_0:=aG (aE hb1 (by repeat (with_reducible first|exact aD _|apply aA|apply aC))) k2 f1_0
 replace f1_1:=aG (aE hb1 (by repeat (with_reducible first|exact aD _|apply aA|apply aC))) k3 f1_1
 replace hB:=aE hb1 (by repeat (with_reducible first|exact hB|apply aA|apply aC))
 replace k0:=cell_later (aE hb1 (by repeat (with_reducible first|exact aD _|apply aA|apply aC))) k0
 replace k1:=cell_later (aE hb1 (by repeat (with_reducible first|exact aD _|apply aA|apply aC))) k1
 replace k2:=cell_later (aE hb1 (by repeat (with_reducible first|exact aD _|apply aA|apply aC))) k2
 replace k3:=cell_later (aE hb1 (by repeat (with_reducible first|exact aD _|apply aA|apply aC))) k3
 replace z0:=World.block_lt_of_cell? _ _ k0
 replace z1:=World.block_lt_of_cell? _ _ k2
 simp only[]at z0 z1
 clear hb1
 generalize a % d=r at *
 rw[eq]
 go_wp2
 obtain⟨w9,hw0⟩:∃ x:World,x=((w1.setCell ⟨w.heap.size+1,0,none⟩ (.int .i64 (hi q))).setCell ⟨w.heap.size+1,1,none⟩ (.int .u64 (lo q))):=⟨_,rfl⟩
 have new_k0:w9.cell? ⟨w.heap.size,0,none⟩=some (.int .i64 (hi (a))):=by rw[hw0];exact(aB (by omega) (aB (by omega) k0))
 have new_k1:w9.cell? ⟨w.heap.size,1,none⟩=some (.int .u64 (lo (a))):=by rw[hw0];exact(aB (by omega) (aB (by omega) k1))
 have new_k2:w9.cell? ⟨w.heap.size+1,0,none⟩=some (.int .i64 (hi q)):=by rw[hw0];exact(aB (by omega) (aV k2))
 have new_k3:w9.cell? ⟨w.heap.size+1,1,none⟩=some (.int .u64 (lo q)):=by rw[hw0];exact(aV (aB (by omega) k3))
 replace f1_0:w9.frozen? ⟨w.heap.size+1,0,none⟩=false:=by rw[hw0];(repeat rw[World.frozen?_setCell]);exact f1_0
 replace f1_1:w9.frozen? ⟨w.heap.size+1,1,none⟩=false:=by rw[hw0];(repeat rw[World.frozen?_setCell]);exact f1_1
 replace hB:Below w.heap.size w w9:=by rw[hw0];repeat (with_reducible first|exact hB|refine bP _ (by omega) ?_)
 clear k0 k1 k2 k3
 have k0:=new_k0;clear new_k0
 have k1:=new_k1;clear new_k1
 have k2:=new_k2;clear new_k2
 have k3:=new_k3;clear new_k3
 replace z0:w.heap.size<w9.heap.size:=World.block_lt_of_cell? _ _ k0
 replace z1:w.heap.size+1<w9.heap.size:=World.block_lt_of_cell? _ _ k2
 rw[←hw0]
 clear hw0
 exact bodyPost_ret (v := .tuple #[.agg #[.int .i64 (hi (q)),.int .u64 (lo (q))],.int .i64 0]) (by simp [results,Try.results31,go_sem, *]) rfl ⟨rfl,by repeat (with_reducible first|exact hB|refine bP _ (by omega) ?_|apply aA|apply aC)⟩
set_option maxHeartbeats 800000 in
theorem aCG (a d q:Int) (ha:jW a) (hd:0<d) (hd':d≤9223372036854775807) (hc:d-a % d≤a % d) (hq:q=near a d) (w:World):Calls Try.prog 31 #[.agg #[.int .i64 (hi (a)),.int .u64 (lo (a))],.int .i64 d] w fun e w'=>e = .returned (.tuple #[.agg #[.int .i64 (hi (q)),.int .u64 (lo (q))],.int .i64 0])∧Below w.heap.size w w':=by
 have r0:=Int.emod_nonneg a (show d≠0 by omega)
 have r1:=Int.emod_lt_of_pos a hd
 have c1:wrap64 (d-a % d)=d-a % d:=IntWalk.wrap64_in _ (by omega)
 have c2:IntKind.i64.wrap (d-a % d)=d-a % d:=IntWalk.i64_in _ (by omega)
 have eq:a / d+1=q:=by rw[hq,aLP a d hd hc]
 have hb:=aFP a d ha hd
 have hone:jW 1:=by unfold jW;omega
 have hb1':=aJk a d ha hd hc
 clear hq
 go_enter Try.func31,Try.ntmps31
 go_wp2_with fail
 obtain⟨w0,hw0⟩:∃ x:World,x=((w.alloc (.cells #[.int .i64 (hi (a)),.int .u64 (lo (a))] 35)).alloc (.cells #[.int .i64 0,.int .u64 0] 35)):=⟨_,rfl⟩
 have k0:w0.cell? ⟨w.heap.size,0,none⟩=some (.int .i64 (hi (a))):=by rw[hw0];repeat (first|(refine aK ?_ rfl;(simp;done))|refine aJ ?_)
 have k1:w0.cell? ⟨w.heap.size,1,none⟩=some (.int .u64 (lo (a))):=by rw[hw0];repeat (first|(refine aK ?_ rfl;(simp;done))|refine aJ ?_)
 have k2:w0.cell? ⟨w.heap.size+1,0,none⟩=some (.int .i64 0):=by rw[hw0];repeat (first|(refine aK ?_ rfl;(simp;done))|refine aJ ?_)
 have k3:w0.cell? ⟨w.heap.size+1,1,none⟩=some (.int .u64 0):=by rw[hw0];repeat (first|(refine aK ?_ rfl;(simp;done))|refine aJ ?_)
 have z0:w.heap.size<w0.heap.size:=World.block_lt_of_cell? _ _ k0
 have z1:w.heap.size+1<w0.heap.size:=World.block_lt_of_cell? _ _ k2
 have hB:Below w.heap.size w w0:=by rw[hw0];repeat (with_reducible first|exact aD _|apply aA)
 have f1_0:w0.frozen? ⟨w.heap.size+1,0,none⟩=false:=by rw[hw0];repeat (first|(refine bJ ?_;(simp;done))|(refine bI (by first|(simp;done)|(simp;omega)) ?_))
 have f1_1:w0.frozen? ⟨w.heap.size+1,1,none⟩=false:=by rw[hw0];repeat (first|(refine bJ ?_;(simp;done))|(refine bI (by first|(simp;done)|(simp;omega)) ?_))
 rw[←hw0]
 clear hw0
 refine(sQ a d ha hd hd' _).mono ?_
 rintro e w1 ⟨rfl,hb1⟩
 replace f1_0:=aG (aE hb1 (by repeat (with_reducible first|exact aD _|apply aA|apply aC))) k2 f1_0
 replace f1_1:=aG (aE hb1 (by repeat (with_reducible first|exact aD _|apply aA|apply aC))) k3 f1_1
 replace hB:=aE hb1 (by repeat (with_reducible first|exact hB|apply aA|apply aC))
 replace k0:=cell_later (aE hb1 (by repeat (with_reducible first|exact aD _|apply aA|apply aC))) k0
 replace k1:=cell_later (aE hb1 (by repeat (with_reducible first|exact aD _|apply aA|apply aC))) k1
 replace k2:=cell_later (aE hb1 (by repeat (with_reducible first|exact aD _|apply aA|apply aC))) k2
 replace k3:=cell_later (aE hb1 (by repeat (with_reducible first|exact aD _|apply aA|apply aC))) k3
 replace z0:=World.block_lt_of_cell? _ _ k0
 replace z1:=World.block_lt_of_cell? _ _ k2
 simp only[]at z0 z1
 clear hb1
 generalize a % d=r at *
 go_wp2
 obtain⟨w2,hw0⟩:∃ x:World,x=(w1.alloc (.cells #[.int .i64 (hi (a / d)),.int .u64 (lo (a / d))] 35)):=⟨_,rfl⟩
 replace f1_0:w2.frozen? ⟨w.heap.size+1,0,none⟩=false:=by rw[hw0];exact aG (by repeat (with_reducible first|exact aD _|apply aA|apply aC)) k2 f1_0
 replace f1_1:w2.frozen? ⟨w.heap.size+1,1,none⟩=false:=by rw[hw0];exact aG (by repeat (with_reducible first|exact aD _|apply aA|apply aC)) k3 f1_1
 replace k0:w2.cell? ⟨w.heap.size,0,none⟩=some (.int .i64 (hi (a))):=by rw[hw0];exact cell_later (by repeat (with_reducible first|exact aD _|apply aA|apply aC)) k0
 replace k1:w2.cell? ⟨w.heap.size,1,none⟩=some (.int .u64 (lo (a))):=by rw[hw0];exact cell_later (by repeat (with_reducible first|exact aD _|apply aA|apply aC)) k1
 replace k2:w2.cell? ⟨w.heap.size+1,0,none⟩=some (.int .i64 0):=by rw[hw0];exact cell_later (by repeat (with_reducible first|exact aD _|apply aA|apply aC)) k2
 replace k3:w2.cell? ⟨w.heap.size+1,1,none⟩=some (.int .u64 0):=by rw[hw0];exact cell_later (by repeat (with_reducible first|exact aD _|apply aA|apply aC)) k3
 have k4:w2.cell? ⟨w1.heap.size,0,none⟩=some (.int .i64 (hi (a / d))):=by rw[hw0];repeat (first|(refine aK ?_ rfl;(simp;done))|refine aJ ?_)
 have k5:w2.cell? ⟨w1.heap.size,1,none⟩=some (.int .u64 (lo (a / d))):=by rw[hw0];repeat (first|(refine aK ?_ rfl;(simp;done))|refine aJ ?_)
 have fz2_0:w2.frozen? ⟨w1.heap.size,0,none⟩=false:=by rw[hw0];repeat (first|(refine bJ ?_;(simp;done))|(refine bI (by first|(simp;done)|(simp;omega)) ?_))
 have fz2_1:w2.frozen? ⟨w1.heap.size,1,none⟩=false:=by rw[hw0];repeat (first|(refine bJ ?_;(simp;done))|(refine bI (by first|(simp;done)|(simp;omega)) ?_))
 have z0:w.heap.size<w2.heap.size:=World.block_lt_of_cell? _ _ k0
 have z1:w.heap.size+1<w2.heap.size:=World.block_lt_of_cell? _ _ k2
 have z2:w1.heap.size<w2.heap.size:=World.block_lt_of_cell? _ _ k4
 replace hB:Below w.heap.size w w2:=by rw[hw0];repeat (with_reducible first|exact hB|apply aA)
 rw[←hw0]
 clear hw0
 go_region_with (first
  |(go_at_call 17;refine(rZ 1 ⟨by omega,by omega⟩ _).mono ?_;rintro e w7 ⟨rfl,hb1⟩;replace f1_0:=aG (aE hb1 (by repeat (with_reducible first|exact aD _|apply aA|apply aC))) k2 f1_0;replace f1_1:=aG (aE hb1 (by repeat (with_reducible first|exact aD _|apply aA|apply aC))) k3 f1_1;replace fz2_0:=aG (aE hb1 (by repeat (with_reducible first|exact aD _|apply aA|apply aC))) k4 fz2_0;replace fz2_1:=aG (aE hb1 (by repeat (with_reducible first|exact aD _|apply aA|apply aC))) k5 fz2_1;replace hB:=aE hb1 (by repeat (with_reducible first|exact hB|apply aA|apply aC));replace k0:=cell_later (aE hb1 (by repeat (with_reducible first|exact aD _|apply aA|apply aC))) k0;replace k1:=cell_later (aE hb1 (by repeat (with_reducible first|exact aD _|apply aA|apply aC))) k1;replace k2:=cell_later (aE hb1 (by repeat (with_reducible first|exact aD _|apply aA|apply aC))) k2;replace k3:=cell_later (aE hb1 (by repeat (with_reducible first|exact aD _|apply aA|apply aC))) k3;replace k4:=cell_later (aE hb1 (by repeat (with_reducible first|exact aD _|apply aA|apply aC))) k4;replace k5:=cell_later (aE hb1 (by repeat (with_reducible first|exact aD _|apply aA|apply aC))) k5;replace z0:=World.block_lt_of_cell? _ _ k0;replace z1:=World.block_lt_of_cell? _ _ k2;replace z2:=World.block_lt_of_cell? _ _ k4;simp only[]at z0 z1 z2;clear hb1)
  |(go_at_call 19;refine(aFM _ _ hb hone hb1' _).mono ?_;rintro e w8 ⟨rfl,hb1⟩;replace f1_0:=aG (aE hb1 (by repeat (with_reducible first|exact aD _|apply aA|apply aC))) k2 f1_0;replace f1_1:=aG (aE hb1 (by repeat (with_reducible first|exact aD _|apply aA|apply aC))) k3 f1_1;replace fz2_0:=aG (aE hb1 (by repeat (with_reducible first|exact aD _|apply aA|apply aC))) k4 fz2_0;replace fz2_1:=aG (aE hb1 (by repeat (with_reducible first|exact aD _|apply aA|apply aC))) k5 fz2_1;replace hB:=aE hb1 (by repeat (with_reducible first|exact hB|apply aA|apply aC));replace k0:=cell_later (aE hb1 (by repeat (with_reducible first|exact aD _|apply aA|apply aC))) k0;replace k1:=cell_later (aE hb1 (by repeat (with_reducible first|exact aD _|apply aA|apply aC))) k1;replace k2:=cell_later (aE hb1 (by repeat (with_reducible first|exact aD _|apply aA|apply aC))) k2;replace k3:=cell_later (aE hb1 (by repeat (with_reducible first|exact aD _|apply aA|apply aC))) k3;replace k4:=cell_later (aE hb1 (by repeat (with_reducible first|exact aD _|apply aA|apply aC))) k4;replace k5:=cell_later (aE hb1 (by repeat (with_reducible first|exact aD _|apply aA|apply aC))) k5;replace z0:=World.block_lt_of_cell? _ _ k0;replace z1:=World.block_lt_of_cell? _ _ k2;replace z2:=World.block_lt_of_cell? _ _ k4;simp only[]at z0 z1 z2;clear hb1;rw[eq]))
 all_goals go_wp2
 ·skip
  obtain⟨w9,hw0⟩:∃ x:World,x=((((w8.setCell ⟨w1.heap.size,0,none⟩ (.int .i64 (hi q))).setCell ⟨w1.heap.size,1,none⟩ (.int .u64 (lo q))).setCell ⟨w.heap.size+1,0,none⟩ (.int .i64 (hi q))).setCell ⟨w.heap.size+1,1,none⟩ (.int .u64 (lo q))):=⟨_,rfl⟩
  have new_k0:w9.cell? ⟨w.heap.size,0,none⟩=some (.int .i64 (hi (a))):=by rw[hw0];exact(aB (by omega) (aB (by omega) (aB (by omega) (aB (by omega) k0))))
  have new_k1:w9.cell? ⟨w.heap.size,1,none⟩=some (.int .u64 (lo (a))):=by rw[hw0];exact(aB (by omega) (aB (by omega) (aB (by omega) (aB (by omega) k1))))
  have new_k2:w9.cell? ⟨w.heap.size+1,0,none⟩=some (.int .i64 (hi q)):=by rw[hw0];exact(aB (by omega) (aV (aB (by omega) (aB (by omega) k2))))
  have new_k3:w9.cell? ⟨w.heap.size+1,1,none⟩=some (.int .u64 (lo q)):=by rw[hw0];exact(aV (aB (by omega) (aB (by omega) (aB (by omega) k3))))
  have new_k4:w9.cell? ⟨w1.heap.size,0,none⟩=some (.int .i64 (hi q)):=by rw[hw0];exact(aB (by omega) (aB (by omega) (aB (by omega) (aV k4))))
  have new_k5:w9.cell? ⟨w1.heap.size,1,none⟩=some (.int .u64 (lo q)):=by rw[hw0];exact(aB (by omega) (aB (by omega) (aV (aB (by omega) k5))))
  replace f1_0:w9.frozen? ⟨w.heap.size+1,0,none⟩=false:=by rw[hw0];(repeat rw[World.frozen?_setCell]);exact f1_0
  replace f1_1:w9.frozen? ⟨w.heap.size+1,1,none⟩=false:=by rw[hw0];(repeat rw[World.frozen?_setCell]);exact f1_1
  replace fz2_0:w9.frozen? ⟨w1.heap.size,0,none⟩=false:=by rw[hw0];(repeat rw[World.frozen?_setCell]);exact fz2_0
  replace fz2_1:w9.frozen? ⟨w1.heap.size,1,none⟩=false:=by rw[hw0];(repeat rw[World.frozen?_setCell]);exact fz2_1
  replace hB:Below w.heap.size w w9:=by rw[hw0];repeat (with_reducible first|exact hB|refine bP _ (by omega) ?_)
  clear k0 k1 k2 k3 k4 k5
  have k0:=new_k0;clear new_k0
  have k1:=new_k1;clear new_k1
  have k2:=new_k2;clear new_k2
  have k3:=new_k3;clear new_k3
  have k4:=new_k4;clear new_k4
  have k5:=new_k5;clear new_k5
  replace z0:w.heap.size<w9.heap.size:=World.block_lt_of_cell? _ _ k0
  replace z1:w.heap.size+1<w9.heap.size:=World.block_lt_of_cell? _ _ k2
  replace z2:w1.heap.size<w9.heap.size:=World.block_lt_of_cell? _ _ k4
  rw[←hw0]
  clear hw0
  exact bodyPost_ret (v := .tuple #[.agg #[.int .i64 (hi (q)),.int .u64 (lo (q))],.int .i64 0]) (by simp [results,Try.results31,go_sem, *]) rfl ⟨rfl,by repeat (with_reducible first|exact hB|refine bP _ (by omega) ?_|apply aA|apply aC)⟩
 ·skip
  obtain⟨w9,hw0⟩:∃ x:World,x=((((w8.setCell ⟨w1.heap.size,0,none⟩ (.int .i64 (hi q))).setCell ⟨w1.heap.size,1,none⟩ (.int .u64 (lo q))).setCell ⟨w.heap.size+1,0,none⟩ (.int .i64 (hi q))).setCell ⟨w.heap.size+1,1,none⟩ (.int .u64 (lo q))):=⟨_,rfl⟩
  have new_k0:w9.cell? ⟨w.heap.size,0,none⟩=some (.int .i64 (hi (a))):=by rw[hw0];exact(aB (by omega) (aB (by omega) (aB (by omega) (aB (by omega) k0))))
  have new_k1:w9.cell? ⟨w.heap.size,1,none⟩=some (.int .u64 (lo (a))):=by rw[hw0];exact(aB (by omega) (aB (by omega) (aB (by omega) (aB (by omega) k1))))
  have new_k2:w9.cell? ⟨w.heap.size+1,0,none⟩=some (.int .i64 (hi q)):=by rw[hw0];exact(aB (by omega) (aV (aB (by omega) (aB (by omega) k2))))
  have new_k3:w9.cell? ⟨w.heap.size+1,1,none⟩=some (.int .u64 (lo q)):=by rw[hw0];exact(aV (aB (by omega) (aB (by omega) (aB (by omega) k3))))
  have new_k4:w9.cell? ⟨w1.heap.size,0,none⟩=some (.int .i64 (hi q)):=by rw[hw0];exact(aB (by omega) (aB (by omega) (aB (by omega) (aV k4))))
  have new_k5:w9.cell? ⟨w1.heap.size,1,none⟩=some (.int .u64 (lo q)):=by rw[hw0];exact(aB (by omega) (aB (by omega) (aV (aB (by omega) k5))))
  replace f1_0:w9.frozen? ⟨w.heap.size+1,0,none⟩=false:=by rw[hw0];(repeat rw[World.frozen?_setCell]);exact f1_0
  replace f1_1:w9.frozen? ⟨w.heap.size+1,1,none⟩=false:=by rw[hw0];(repeat rw[World.frozen?_setCell]);exact f1_1
  replace fz2_0:w9.frozen? ⟨w1.heap.size,0,none⟩=false:=by rw[hw0];(repeat rw[World.frozen?_setCell]);exact fz2_0
  replace fz2_1:w9.frozen? ⟨w1.heap.size,1,none⟩=false:=by rw[hw0];(repeat rw[World.frozen?_setCell]);exact fz2_1
  replace hB:Below w.heap.size w w9:=by rw[hw0];repeat (with_reducible first|exact hB|refine bP _ (by omega) ?_)
  clear k0 k1 k2 k3 k4 k5
  have k0:=new_k0;clear new_k0
  have k1:=new_k1;clear new_k1
  have k2:=new_k2;clear new_k2
  have k3:=new_k3;clear new_k3
  have k4:=new_k4;clear new_k4
  have k5:=new_k5;clear new_k5
  replace z0:w.heap.size<w9.heap.size:=World.block_lt_of_cell? _ _ k0
  replace z1:w.heap.size+1<w9.heap.size:=World.block_lt_of_cell? _ _ k2
  replace z2:w1.heap.size<w9.heap.size:=World.block_lt_of_cell? _ _ k4
  rw[←hw0]
  clear hw0
  exact bodyPost_ret (v := .tuple #[.agg #[.int .i64 (hi (q)),.int .u64 (lo (q))],.int .i64 0]) (by simp [results,Try.results31,go_sem, *]) rfl ⟨rfl,by repeat (with_reducible first|exact hB|refine bP _ (by omega) ?_|apply aA|apply aC)⟩
theorem aJ8 (a d:Int) (ha:jW a) (hd:0<d) (hd':d≤9223372036854775807) (w:World):Calls Try.prog 31 #[.agg #[.int .i64 (hi (a)),.int .u64 (lo (a))],.int .i64 d] w fun e w'=>e = .returned (.tuple #[.agg #[.int .i64 (hi (near a d)),.int .u64 (lo (near a d))],.int .i64 0])∧Below w.heap.size w w':=by
 by_cases hc:d-a % d≤a % d
 ·exact aCG a d _ ha hd hd' hc rfl w
 ·exact aCV a d _ ha hd hd' hc rfl w
end Go.Proofs.Ytoiecphddchknaa
namespace Fx
def near (n d:Int):Int:=(2*n+d) / (2*d)
def sat (n:Int):Int:=if n < -2147483648 then -2147483648 else if 2147483647<n then 2147483647 else n
def fix (a:Int):Prop := -2147483648≤a∧a≤2147483647
def mul (a b:Int):Int:=sat (near (a*b) 65536)
def down (a:Int):Int:=a / 65536*65536
def aQU (a:Int):Int:=sat (down a)
def round (a:Int):Int:=sat (down (a+32768))
theorem sC (n:Int):(n < -2147483648∧sat n = -2147483648)∨(2147483647<n∧sat n=2147483647)∨(fix n∧sat n=n):=by
 unfold sat fix;split
 ·omega
 ·split<;>omega
theorem aPp {n:Int} (h:fix n):sat n=n:=by unfold fix at h;rcases sC n with⟨_,g⟩|⟨_,g⟩|⟨_,g⟩<;>omega
theorem near_spec (n d:Int) (hd:0<d):2*(near n d*d)≤2*n+d∧2*n+d<2*(near n d*d)+2*d:=by
 unfold near
 have e:=Int.emod_add_mul_ediv (2*n+d) (2*d)
 have l:=Int.emod_lt_of_pos (2*n+d) (show 0<2*d by omega)
 have z:=Int.emod_nonneg (2*n+d) (show 2*d≠0 by omega)
 generalize (2*n+d) / (2*d)=q at *
 have k:2*d*q=2*(q*d):=by grind
 omega
theorem near_uniq (n d q:Int) (hd:0<d) (h1:2*(q*d)≤2*n+d) (h2:2*n+d<2*(q*d)+2*d):near n d=q:=by
 have hp:0<2*d:=by omega
 unfold near
 apply Int.le_antisymm
 ·refine Int.le_of_lt_add_one ((Int.ediv_lt_iff_lt_mul hp).2 ?_)
  have k:(q+1)*(2*d)=2*(q*d)+2*d:=by grind
  omega
 ·refine(Int.le_ediv_iff_mul_le hp).2 ?_
  have k:q*(2*d)=2*(q*d):=by grind
  omega
theorem near_mono {m n d:Int} (hd:0<d) (h:m≤n):near m d≤near n d:=by
 unfold near;exact Int.ediv_le_ediv (by omega) (by omega)
theorem aE8 (q d:Int) (hd:0<d):near (q*d) d=q:=near_uniq _ _ _ hd (by omega) (by omega)
theorem mul_comm (a b:Int):mul a b=mul b a:=by unfold mul;rw[Int.mul_comm]
theorem mul_one (a:Int) (ha:fix a):mul a 65536=a:=by unfold mul;rw[aE8 a 65536 (by decide)];exact aPp ha
theorem mul_neg (a b:Int) (hp':mul a b≠2147483647):
  (mul (-a) b = -mul a b∧a*b % 65536≠32768)∨(mul (-a) b = -mul a b+1∧a*b % 65536=32768)∨(mul (-a) b=2147483647∧mul a b < -2147483646):=by
 have e : -a*b = -(a*b):=by grind
 unfold mul at *
 rw[e];unfold near
 generalize a*b=p at *
 have s1:=sC ((2*p+65536) / (2*65536));have s2:=sC ((2 * -p+65536) / (2*65536))
 unfold near at hp'
 unfold fix at s1 s2
 omega
end Fx
namespace Nu
def dg (N:Int) (M:Int):Int:=N / M % 65536
theorem dg_bd (N M:Int):0≤dg N M∧dg N M<65536:=by unfold dg;omega
def aDl (A B M:Int):Int:=(A % M+B % M) / M
theorem aMl (A B M:Int) (hM:0<M):0≤aDl A B M∧aDl A B M≤1:=by
 have a0:=Int.emod_nonneg A (show M≠0 by omega)
 have a1:=Int.emod_lt_of_pos A hM
 have b0:=Int.emod_nonneg B (show M≠0 by omega)
 have b1:=Int.emod_lt_of_pos B hM
 unfold aDl
 refine⟨Int.ediv_nonneg (by omega) (by omega),?_⟩
 have:(A % M+B % M) / M<2:=Int.ediv_lt_of_lt_mul hM (by omega)
 omega
theorem aE1 (A B M:Int) (hM:0<M):dg (A+B) M=(aDl A B M+dg A M+dg B M) % 65536:=by
 have ha:=Int.mul_ediv_add_emod A M
 have hb:=Int.mul_ediv_add_emod B M
 have e:A+B=(A % M+B % M)+M*(A / M+B / M):=by rw[Int.mul_add];omega
 have e2:(A+B) / M=aDl A B M+(A / M+B / M):=by
  unfold aDl
  conv=>lhs;rw[e]
  exact Int.add_mul_ediv_left _ _ (by omega)
 unfold dg
 rw[e2]
 omega
def lent (A B M:Int):Int:=if A % M<B % M then 1 else 0
end Nu
namespace Nu
theorem pr (A B M:Int) (hM:0<M):(aDl A B M+dg A M+dg B M).tmod 65536=dg (A+B) M:=by
 have a:=dg_bd A M
 have b:=dg_bd B M
 have k:=aMl A B M hM
 rw[Int.tmod_eq_emod_of_nonneg (by omega),aE1 A B M hM]
end Nu
namespace Nu
end Nu
namespace Nu
end Nu
namespace Go.Proofs.Ytoiecphddchknaa
open Go Go.RowKit Sx Wi
def wG:Nat→List Int→Int
 |0,[x]=>hi x
 |1,[x]=>lo x
 |2,[n,d]=>Fx.near n d
 |30,[n,m]=>Nu.dg n m
 |32,[a,b,m]=>Nu.lent a b m
 |33,[n,m]=>n % m
 |g,xs=>Lc.fn g xs
def hiI (p:Int × Int):Int × Int:=(p.1 / 18446744073709551616,p.2 / 18446744073709551616)
def loI (p:Int × Int):Int × Int:=if p.1 / 18446744073709551616=p.2 / 18446744073709551616 then (p.1 % 18446744073709551616,p.2 % 18446744073709551616) else (0,18446744073709551615)
def aLi (p q:Int × Int):Option (Int × Int):=
 if 0<q.1 then (if q.1=q.2 then some (Fx.near p.1 q.1,Fx.near p.2 q.1) else some (gM p.1 0,gV p.2 0)) else none
def wGI:Nat→List fT→fT
 |0,[some p]=>some (hiI p)
 |1,[some p]=>some (loI p)
 |2,[some p,some q]=>aLi p q
 |30,_=>some (0,65535)
 |32,_=>some (0,1)
 |33,[_,some q]=>if 0<q.1 then some (0,q.2-1) else none
 |g,_=>Lc.fnI g
theorem aOn {p:Int × Int} {x:Int} (h:p.1≤x∧x≤p.2):(hiI p).1≤hi x∧hi x≤(hiI p).2:=by
 unfold hiI hi;dsimp only;omega
theorem aOq {p:Int × Int} {x:Int} (h:p.1≤x∧x≤p.2):(loI p).1≤lo x∧lo x≤(loI p).2:=by
 unfold loI lo;split<;>dsimp only<;>omega
theorem aM0 (n d:Int) (hd:0<d):(0≤n→0≤Fx.near n d∧Fx.near n d≤n)∧(n≤0→n≤Fx.near n d∧Fx.near n d≤0):=by
 have z:Fx.near 0 d=0:=Fx.near_uniq _ _ _ hd (by omega) (by omega)
 have k:∀ m:Int,0≤m→Fx.near m d≤m:=by
  intro m hm
  obtain⟨h1,h2⟩:=Fx.near_spec m d hd
  rcases Int.lt_or_le m (Fx.near m d)with g|g
  ·exfalso
   have:=Int.mul_le_mul_of_nonneg_right (show m+1≤Fx.near m d by omega) (show 0≤d by omega)
   have e:(m+1)*d=m*d+d:=by grind
   have:=Int.mul_le_mul_of_nonneg_left (show 1≤d by omega) hm
   omega
  ·exact g
 refine⟨fun h=>⟨?_,k n h⟩,fun h=>⟨?_,?_⟩⟩
 ·rw[←z];exact Fx.near_mono hd h
 ·obtain⟨h1,h2⟩:=Fx.near_spec n d hd
  rcases Int.lt_or_le (Fx.near n d) n with g|g
  ·exfalso
   have:=Int.mul_le_mul_of_nonneg_right (show Fx.near n d≤n-1 by omega) (show 0≤d by omega)
   have e:(n-1)*d=n*d-d:=by grind
   have:=Int.mul_le_mul_of_nonpos_left h (show 1≤d by omega)
   omega
  ·exact g
 ·rw[←z];exact Fx.near_mono hd h
theorem aKw {p q:Int × Int} {n d:Int} (h:p.1≤n∧n≤p.2) (g:q.1≤d∧d≤q.2):fT.has (aLi p q) (Fx.near n d):=by
 unfold aLi
 split
 ·rename_i h0
  split
  ·rename_i e
   have:d=q.1:=by omega
   subst this
   exact⟨Fx.near_mono h0 h.1,Fx.near_mono h0 h.2⟩
  ·obtain⟨k1,k2⟩:=aM0 n d (by omega)
   simp only[fT.has,gM,gV]
   rcases Int.le_total 0 n with hn|hn
   ·have:=k1 hn;split<;>split<;>omega
   ·have:=k2 hn;split<;>split<;>omega
 ·trivial
theorem w30:∀ xs:List Int,0≤wG 30 xs∧wG 30 xs≤65535
 |[n,m]=>by have:=Nu.dg_bd n m;show 0≤Nu.dg n m∧Nu.dg n m≤65535;omega
 |[]=>by decide
 |[_]=>⟨Int.le_refl 0,(by decide:(0:Int)≤65535)⟩
 |_::_::_::_=>⟨Int.le_refl 0,(by decide:(0:Int)≤65535)⟩
theorem w32:∀ xs:List Int,0≤wG 32 xs∧wG 32 xs≤1
 |[a,b,m]=>by show 0≤Nu.lent a b m∧Nu.lent a b m≤1;unfold Nu.lent;split<;>omega
 |[]=>by decide
 |[_]=>⟨Int.le_refl 0,(by decide:(0:Int)≤1)⟩
 |[_,_]=>⟨Int.le_refl 0,(by decide:(0:Int)≤1)⟩
 |_::_::_::_::_=>⟨Int.le_refl 0,(by decide:(0:Int)≤1)⟩
theorem aOY:∀ g is xs,cU is xs→(wGI g is).has (wG g xs):=by
 intro g is xs h
 unfold wGI
 split
 ·match xs,h with
  |[x],h=>exact aOn h.1
  |[],h=>simp [cU]at h
  |_::_::_,h=>simp [cU]at h
 ·match xs,h with
  |[x],h=>exact aOq h.1
  |[],h=>simp [cU]at h
  |_::_::_,h=>simp [cU]at h
 ·match xs,h with
  |[x,y],h=>exact aKw h.1 h.2.1
  |[],h=>simp [cU]at h
  |[_],h=>simp [cU]at h
  |_::_::_::_,h=>simp [cU]at h
 ·exact w30 xs
 ·exact w32 xs
 ·match xs,h with
  |[n,m],h=>
   split
   ·rename_i hq
    have hm:=h.2.1
    simp only[fT.has]at hm
    have a0:=Int.emod_nonneg n (show m≠0 by omega)
    have a1:=Int.emod_lt_of_pos n (show 0<m by omega)
    show 0≤n % m∧n % m≤_-1
    omega
   ·trivial
  |[],h=>simp [cU]at h
  |[_],h=>simp [cU]at h
  |_::_::_::_,h=>simp [cU]at h
 ·rename_i h0 h1 h2 h3 h4 h5
  have e:wG g xs=Lc.fn g xs∨(∃ x,g=0∧xs=[x])∨(∃ x,g=1∧xs=[x])∨(∃ n d,g=2∧xs=[n,d])∨(∃ n m,g=33∧xs=[n,m])∨g=30∨g=32:=by
   unfold wG
   split
   ·exact .inr (.inl ⟨_,rfl,rfl⟩)
   ·exact .inr (.inr (.inl ⟨_,rfl,rfl⟩))
   ·exact .inr (.inr (.inr (.inl ⟨_,_,rfl,rfl⟩)))
   ·exact .inr (.inr (.inr (.inr (.inr (.inl rfl)))))
   ·exact .inr (.inr (.inr (.inr (.inr (.inr rfl)))))
   ·exact .inr (.inr (.inr (.inr (.inl ⟨_,_,rfl,rfl⟩))))
   ·exact .inl rfl
  rcases e with e|⟨x,rfl,rfl⟩|⟨x,rfl,rfl⟩|⟨n,d,rfl,rfl⟩|⟨n,m,rfl,rfl⟩|rfl|rfl
  ·rw[e];exact Lc.fnI_ok g xs
  all_goals trivial
theorem pO:aK5 wG:=by
 intro g xs h1 h2
 unfold wG
 split<;>first|omega|rfl
def fK:List Int→Int
 |[x]=>Ed.sg x
 |_=>0
def gU:List Int→Int
 |[a,b,c,d,e,f]=>sd a b c d e f
 |_=>0
def eV:List Int→Int
 |[a,b,c,d,e,f,g,h]=>Ed.claim ⟨a,b⟩ ⟨c,d⟩ ⟨e,f⟩ ⟨g,h⟩
 |_=>0
def cN (j:Nat):List Int→Int
 |[a,b,c,d,e,f,g,h]=>wt ⟨a,b⟩ ⟨c,d⟩ ⟨e,f⟩ ⟨g,h⟩ j
 |_=>0
def dX:List Int→Int
 |[a,b,c,d]=>if a<c then -1 else if c<a then 1 else if b<d then -1 else if d<b then 1 else 0
 |_=>0
theorem aMi (xs:List Int) : -1≤dX xs∧dX xs≤1:=by
 unfold dX;(repeat' split)<;>omega
def fq (n d:Int):Int:=if 1≤d then Int.fdiv n d else 0
def aNy:List Int→Int
 |[n,d]=>fq n d
 |_=>0
theorem aNI (n d:Int):min n 0≤fq n d∧fq n d≤max n 0:=by
 unfold fq
 split
 ·rename_i h
  rw[Int.fdiv_eq_ediv_of_nonneg _ (by omega)]
  rcases Int.le_total 0 n with hn|hn
  ·have h1:=Int.ediv_nonneg hn (show 0≤d by omega)
   have h2:=Int.ediv_le_self d hn
   omega
  ·have h1:n / d≤0:=by
    have:=Int.ediv_le_ediv (show 0<d by omega) hn
    rw[Int.zero_ediv]at this
    exact this
   have h2:n≤n / d:=by
    apply Int.le_ediv_of_mul_le (by omega)
    have:=Int.mul_le_mul_of_nonpos_left (a:=n) (b:=d) (c:=1) hn h
    omega
   omega
 ·omega
def vC (s a d:Int):Int:=max (-2147483648) (min 2147483647 (fq (fq (s*2+a*d) d) (2*a)))
def uZ (n0 n1 n2 w0 w1 w2:Int):Int:=0+n0*w0+n1*w1+n2*w2
def aEw:List Int→Int
 |[n0,n1,n2,d,w0,w1,w2]=>if w0+w1+w2<0 then vC (0-uZ n0 n1 n2 w0 w1 w2) (0-(w0+w1+w2)) d else vC (uZ n0 n1 n2 w0 w1 w2) (w0+w1+w2) d
 |_=>0
def nF (w0 w1 w2:Int):Prop:=(-3602879701896396800≤w0+w1+w2∧w0+w1+w2≤3602879701896396800)∧((0≤w0∧0≤w1∧0≤w2∧1≤w0+w1+w2)∨(w0≤0∧w1≤0∧w2≤0∧w0+w1+w2 ≤ -1))
instance (w0 w1 w2:Int):Decidable (nF w0 w1 w2):=by unfold nF;infer_instance
def cB:List Int→Int
 |[n0,n1,n2,w0,w1,w2]=>if nF w0 w1 w2 then aEw [n0,n1,n2,1,w0,w1,w2] else 0
 |_=>0
theorem aOL (n:Int):fq n 1=n:=by unfold fq;rw[if_pos (by decide),Int.fdiv_one]
theorem aNw {n d k:Int} (hd:1≤d) (h:n<(k+1)*d):fq n d≤k:=by
 unfold fq;rw[if_pos hd,Int.fdiv_eq_ediv_of_nonneg _ (by omega)]
 exact Int.le_of_lt_add_one (Int.ediv_lt_of_lt_mul (by omega) h)
theorem aLD {n d k:Int} (hd:1≤d) (h:k*d≤n):k≤fq n d:=by
 unfold fq;rw[if_pos hd,Int.fdiv_eq_ediv_of_nonneg _ (by omega)]
 exact Int.le_ediv_of_mul_le (by omega) h
theorem aAA {s a lo hi:Int} (ha:1≤a) (h1:lo*a≤s) (h2:s≤hi*a) (g1 : -2147483648≤lo) (g2:hi≤2147483647):lo≤vC s a 1∧vC s a 1≤hi:=by
 have e:s*2+a*1=2*s+a:=by omega
 have u1:lo*(2*a)=2*(lo*a):=by grind
 have u2:(hi+1)*(2*a)=2*(hi*a)+2*a:=by grind
 have q1:lo≤fq (2*s+a) (2*a):=aLD (by omega) (by omega)
 have q2:fq (2*s+a) (2*a)≤hi:=aNw (by omega) (by omega)
 unfold vC
 rw[aOL,e]
 omega
theorem aCI {n0 n1 n2 w0 w1 w2 lo hi:Int} (h0:lo≤n0∧n0≤hi) (h1:lo≤n1∧n1≤hi) (h2:lo≤n2∧n2≤hi) (g0:0≤w0) (g1:0≤w1) (g2:0≤w2):lo*(w0+w1+w2)≤uZ n0 n1 n2 w0 w1 w2∧uZ n0 n1 n2 w0 w1 w2≤hi*(w0+w1+w2):=by
 unfold uZ
 have a0:=Int.mul_le_mul_of_nonneg_right h0.1 g0;have c0:=Int.mul_le_mul_of_nonneg_right h0.2 g0
 have a1:=Int.mul_le_mul_of_nonneg_right h1.1 g1;have c1:=Int.mul_le_mul_of_nonneg_right h1.2 g1
 have a2:=Int.mul_le_mul_of_nonneg_right h2.1 g2;have c2:=Int.mul_le_mul_of_nonneg_right h2.2 g2
 have e1:lo*(w0+w1+w2)=lo*w0+lo*w1+lo*w2:=by rw[Int.mul_add,Int.mul_add]
 have e2:hi*(w0+w1+w2)=hi*w0+hi*w1+hi*w2:=by rw[Int.mul_add,Int.mul_add]
 omega
theorem aIo {n0 n1 n2 w0 w1 w2 lo hi:Int} (h0:lo≤n0∧n0≤hi) (h1:lo≤n1∧n1≤hi) (h2:lo≤n2∧n2≤hi) (g0:w0≤0) (g1:w1≤0) (g2:w2≤0):lo*(0-(w0+w1+w2))≤0-uZ n0 n1 n2 w0 w1 w2∧0-uZ n0 n1 n2 w0 w1 w2≤hi*(0-(w0+w1+w2)):=by
 have k:=aCI (w0 := -w0) (w1 := -w1) (w2 := -w2) h0 h1 h2 (by omega) (by omega) (by omega)
 have e:uZ n0 n1 n2 (-w0) (-w1) (-w2)=0-uZ n0 n1 n2 w0 w1 w2:=by unfold uZ;grind
 have e2 : -w0 + -w1 + -w2=0-(w0+w1+w2):=by omega
 rw[e,e2]at k
 exact k
theorem tW {n0 n1 n2 w0 w1 w2 lo hi:Int} (h0:lo≤n0∧n0≤hi) (h1:lo≤n1∧n1≤hi) (h2:lo≤n2∧n2≤hi) (g1 : -2147483648≤lo∧lo≤0) (g2:0≤hi∧hi≤2147483647):lo≤cB [n0,n1,n2,w0,w1,w2]∧cB [n0,n1,n2,w0,w1,w2]≤hi:=by
 show lo≤(if nF w0 w1 w2 then _ else _)∧(if nF w0 w1 w2 then _ else _)≤hi
 by_cases hf:nF w0 w1 w2
 ·rw[if_pos hf]
  show lo≤(if w0+w1+w2<0 then _ else _)∧(if w0+w1+w2<0 then _ else _)≤hi
  rcases hf.2 with⟨p0,p1,p2,p3⟩|⟨p0,p1,p2,p3⟩
  ·rw[if_neg (by omega)]
   obtain⟨q1,q2⟩:=aCI h0 h1 h2 p0 p1 p2
   exact aAA p3 q1 q2 g1.1 g2.2
  ·rw[if_pos (by omega)]
   obtain⟨q1,q2⟩:=aIo h0 h1 h2 p0 p1 p2
   exact aAA (by omega) q1 q2 g1.1 g2.2
 ·rw[if_neg hf];omega
theorem aBc (s a d:Int) : -2147483648≤vC s a d∧vC s a d≤2147483647:=by unfold vC;omega
theorem aFW (xs:List Int) : -2147483648≤aEw xs∧aEw xs≤2147483647:=by
 unfold aEw;split
 ·split<;>exact aBc _ _ _
 ·omega
theorem aMm (xs:List Int) : -1≤fK xs∧fK xs≤1:=by
 unfold fK;split
 ·exact aBY _
 ·omega
theorem aNA (xs:List Int) : -1≤gU xs∧gU xs≤1:=by
 unfold gU;split
 ·exact aPW _ _ _ _ _ _
 ·omega
theorem aLZ (xs:List Int) : -1≤eV xs∧eV xs≤1:=by
 unfold eV;split
 ·exact aJu _ _ _ _
 ·omega
theorem aF2 (j:Nat) (xs:List Int) : -3602879701896396800≤cN j xs∧cN j xs≤3602879701896396800:=by
 unfold cN;split
 ·exact aP5 _ _ _ _ _
 ·omega
def uM (a b c:Int):Int:=max 0 (Int.fdiv (min (min a b) c-128+256-1) 256)
def mC (m a b c:Int):Int:=min m (Int.fdiv (max (max a b) c-128) 256+1)
def aEr:List Int→Int
 |[j,k,n0,n1,n2,d,w0,w1,w2]=>if j<k then aEw [n0,n1,n2,d,w0,w1,w2] else 0
 |_=>0
theorem aNs (xs:List Int) : -2147483648≤aEr xs∧aEr xs≤2147483647:=by
 unfold aEr;split
 ·split
  ·exact aFW _
  ·omega
 ·omega
def aY (xs:List Int):Int:=uM (xs.getD 0 0) (xs.getD 2 0) (xs.getD 4 0)
def aL6 (xs:List Int):Int:=mC (xs.getD 24 0) (xs.getD 0 0) (xs.getD 2 0) (xs.getD 4 0)
def bA (xs:List Int):Int:=uM (xs.getD 1 0) (xs.getD 3 0) (xs.getD 5 0)
def aPL (xs:List Int):Int:=mC (xs.getD 25 0) (xs.getD 1 0) (xs.getD 3 0) (xs.getD 5 0)
def aQa (xs:List Int) (C y x:Int):Int:=
 let t:=xs.take 6
 let w:=fun j=>cN j (t++[x*256+128,y*256+128])
 let c:=fun j:Nat=>aEr [(j:Int),xs.getD 22 0,xs.getD (6+j) 0,xs.getD (10+j) 0,xs.getD (14+j) 0,xs.getD (18+j) 0,w 0,w 1,w 2]
 if eV (t++[x*256+128,y*256+128])=0 then C else
  wG 92 [C,y*xs.getD 24 0+x,1,xs.getD 23 0,0,0,c 0,c 1,c 2,c 3]
def aP1 (xs:List Int) (C y:Int):Nat→Int
 |0=>C
 |j+1=>aQa xs (aP1 xs C y j) y (aY xs+j)
def aDg (xs:List Int) (C:Int):Nat→Int
 |0=>C
 |i+1=>aP1 xs (aDg xs C i) (bA xs+i) (aL6 xs-aY xs).toNat
def aQK (xs:List Int):Int:=aDg (xs.take 26) (xs.getD 26 0) (xs.getD 27 0-bA (xs.take 26)).toNat
def aJn:List Int→Int
 |[n0,n1,n2,n3,d,w0,w1,w2,w3]=>vC (0+n0*w0+n1*w1+n2*w2+n3*w3) (w0+w1+w2+w3) d
 |_=>0
theorem aLR (xs:List Int) : -2147483648≤aJn xs∧aJn xs≤2147483647:=by
 unfold aJn;split
 ·exact aBc _ _ _
 ·omega
def aQG (u v:Int):Int:=(65536-u)*(65536-v)+(65536-u)*v+u*v+u*(65536-v)
def aQQ (a b c e u v:Int):Int:=0+a*((65536-u)*(65536-v))+b*((65536-u)*v)+c*(u*v)+e*(u*(65536-v))
def oW:List Int→Int
 |[n0,n1,n2,n3,d,u,v]=>vC (aQQ n0 n1 n2 n3 u v) (aQG u v) d
 |_=>0
theorem aF7 (xs:List Int) : -2147483648≤oW xs∧oW xs≤2147483647:=by
 unfold oW;split
 ·exact aBc _ _ _
 ·omega
def iZ:List Int→Int
 |[j,k,n0,n1,n2,n3,d,u,v]=>if j<k then oW [n0,n1,n2,n3,d,u,v] else 0
 |_=>0
theorem aMB (xs:List Int) : -2147483648≤iZ xs∧iZ xs≤2147483647:=by
 unfold iZ;split
 ·split
  ·exact aF7 _
  ·omega
 ·omega
def aZ (xs:List Int):Int:=mC (xs.getD 34 0) (xs.getD 0 0) (xs.getD 2 0) (xs.getD 4 0)
def eY (xs:List Int):Int:=mC (xs.getD 35 0) (xs.getD 1 0) (xs.getD 3 0) (xs.getD 5 0)
def yF (C i f u v:Int):Prop:=wG 88 [C,i,0]=0∨(¬f=wG 83 [C,i,1]∧wG 83 [C,i,1]<f)∨(f=wG 83 [C,i,1]∧¬v=wG 82 [C,i,3]∧wG 82 [C,i,3]<v)∨(f=wG 83 [C,i,1]∧v=wG 82 [C,i,3]∧wG 82 [C,i,2]≤u)
instance (C i f u v:Int):Decidable (yF C i f u v):=by unfold yF;infer_instance
def pE (xs:List Int) (C y x:Int):Int:=
 let t:=xs.take 6
 let w:=fun j=>cN j (t++[x*256+128,y*256+128])
 let u:=cB [xs.getD 6 0,xs.getD 7 0,xs.getD 8 0,w 0,w 1,w 2]
 let v:=cB [xs.getD 9 0,xs.getD 10 0,xs.getD 11 0,w 0,w 1,w 2]
 let c:=fun j:Nat=>iZ [(j:Int),xs.getD 32 0,xs.getD (12+j) 0,xs.getD (16+j) 0,xs.getD (20+j) 0,xs.getD (24+j) 0,xs.getD (28+j) 0,u,v]
 if eV (t++[x*256+128,y*256+128])=0 then C else
  if yF C (y*xs.getD 34 0+x) (xs.getD 33 0) u v then wG 92 [C,y*xs.getD 34 0+x,1,xs.getD 33 0,u,v,c 0,c 1,c 2,c 3] else C
def kA (xs:List Int) (C y:Int):Nat→Int
 |0=>C
 |j+1=>pE xs (kA xs C y j) y (aY xs+j)
def cD (xs:List Int) (C:Int):Nat→Int
 |0=>C
 |i+1=>kA xs (cD xs C i) (bA xs+i) (aZ xs-aY xs).toNat
def aQP (xs:List Int):Int:=cD (xs.take 36) (xs.getD 36 0) (xs.getD 37 0-bA (xs.take 36)).toNat
def dB (r:List Int) (k:Nat):Int:=r.getD k 0*18446744073709551616+r.getD (k+1) 0
def rF (a:Int):Prop := -1125899906842624≤a∧a≤1125899906842624
instance (a:Int):Decidable (rF a):=by unfold rF;infer_instance
def aBd (a:Int):Prop:=1≤a∧a≤65535
instance (a:Int):Decidable (aBd a):=by unfold aBd;infer_instance
def aNa (r:List Int):Prop:=∀ k,k<6 → -671088640≤r.getD k 0∧r.getD k 0≤671088640
instance (r:List Int):Decidable (aNa r):=by unfold aNa;infer_instance
def wT (r:List Int):Prop:=aNa r∧1≤r.getD 42 0∧r.getD 42 0≤4∧∀ j:Nat,j<4→(j:Int)<r.getD 42 0→aBd (r.getD (8+3*j) 0)∧r.getD (20+3*j) 0=r.getD (8+3*j) 0∧r.getD (32+3*j) 0=r.getD (8+3*j) 0∧rF (dB r (6+3*j))∧rF (dB r (18+3*j))∧rF (dB r (30+3*j))
instance (r:List Int):Decidable (wT r):=by unfold wT;infer_instance
def aA6 (r:List Int) (f w h:Int):List Int:=r.take 6++[dB r 6,dB r 9,dB r 12,dB r 15,dB r 18,dB r 21,dB r 24,dB r 27,dB r 30,dB r 33,dB r 36,dB r 39,r.getD 8 0,r.getD 11 0,r.getD 14 0,r.getD 17 0,r.getD 42 0,f,w,h]
def aLI (r:List Int) (f w h C:Int):Int:=if wT r then aDg (aA6 r f w h) C (max (bA (aA6 r f w h)) (aPL (aA6 r f w h))-bA (aA6 r f w h)).toNat else C
def aC4 (L:List (List Int)) (w h C:Int):Nat→Int
 |0=>C
 |k+1=>aLI (L.getD k []) k w h (aC4 L w h C k)
def aQH:List Int→Int
 |[L,k]=>aC4 (Lc.dec L) 12 12 (wG 96 [144,0,0,0,0,0,0,0,0]) k.toNat
 |_=>0
def oks (L:List (List Int)):Nat→List (List Int)
 |0=>List.replicate L.length [0]
 |k+1=>(oks L k).set k [if wT (L.getD k []) then 1 else 0]
def aQI:List Int→Int
 |[L,k]=>Lc.enc (oks (Lc.dec L) k.toNat)
 |_=>0
def zL (L:List (List Int)) (x y:Int):Nat→Int
 |0 => -1
 |k+1=>if wT (L.getD k [])∧eV ((L.getD k []).take 6++[x,y])≠0 then (k:Int) else zL L x y k
theorem aCE (L:List (List Int)) (x y:Int):∀ k:Nat,-1≤zL L x y k∧zL L x y k<max 1 k
 |0=>by unfold zL;omega
 |k+1=>by
  have:=aCE L x y k
  unfold zL;split<;>omega
def aMN:List Int→Int
 |[L,x,y,k]=>zL (Lc.dec L) x y (min 30 k.toNat)
 |_=>0
theorem aLK (xs:List Int) : -1≤aMN xs∧aMN xs≤29:=by
 unfold aMN;split
 ·rename_i L x y k
  have:=aCE (Lc.dec L) x y (min 30 k.toNat)
  omega
 ·omega
def iS (r:List Int):Prop:=aNa r∧(∀ k,6≤k→k<12→0≤r.getD k 0∧r.getD k 0≤65536)∧1≤r.getD 60 0∧r.getD 60 0≤4∧∀ j:Nat,j<4→(j:Int)<r.getD 60 0→aBd (r.getD (14+3*j) 0)∧r.getD (26+3*j) 0=r.getD (14+3*j) 0∧r.getD (38+3*j) 0=r.getD (14+3*j) 0∧r.getD (50+3*j) 0=r.getD (14+3*j) 0∧rF (dB r (12+3*j))∧rF (dB r (24+3*j))∧rF (dB r (36+3*j))∧rF (dB r (48+3*j))
instance (r:List Int):Decidable (iS r):=by
 unfold iS
 have e:Decidable (∀ k,6≤k→k<12→0≤r.getD k 0∧r.getD k 0≤65536):=decidable_of_iff (∀ k,k<12→6≤k→0≤r.getD k 0∧r.getD k 0≤65536) ⟨fun h k a b=>h k b a,fun h k a b=>h k b a⟩
 infer_instance
def bO (r:List Int) (w h:Int):List Int:=r.take 12++[dB r 12,dB r 15,dB r 18,dB r 21,dB r 24,dB r 27,dB r 30,dB r 33,dB r 36,dB r 39,dB r 42,dB r 45,dB r 48,dB r 51,dB r 54,dB r 57,r.getD 14 0,r.getD 17 0,r.getD 20 0,r.getD 23 0,r.getD 60 0,r.getD 61 0,w,h]
def jP (r:List Int) (w h C:Int):Int:=if iS r then cD (bO r w h) C (max (bA (bO r w h)) (eY (bO r w h))-bA (bO r w h)).toNat else C
def dS (L:List (List Int)) (w h C:Int):Nat→Int
 |0=>C
 |k+1=>jP (L.getD k []) w h (dS L w h C k)
def aW (r:List Int):List Int:=[IntKind.i64.wrap (r.getD 0 0),IntKind.i64.wrap (r.getD 1 0),IntKind.i64.wrap (r.getD 2 0),IntKind.i64.wrap (r.getD 3 0),IntKind.i64.wrap (r.getD 4 0),IntKind.i64.wrap (r.getD 5 0),IntKind.i32.wrap (r.getD 6 0),IntKind.i32.wrap (r.getD 7 0),IntKind.i32.wrap (r.getD 8 0),IntKind.i32.wrap (r.getD 9 0),IntKind.i32.wrap (r.getD 10 0),IntKind.i32.wrap (r.getD 11 0),IntKind.i64.wrap (r.getD 12 0),IntKind.u64.wrap (r.getD 13 0),IntKind.i64.wrap (r.getD 14 0),IntKind.i64.wrap (r.getD 15 0),IntKind.u64.wrap (r.getD 16 0),IntKind.i64.wrap (r.getD 17 0),IntKind.i64.wrap (r.getD 18 0),IntKind.u64.wrap (r.getD 19 0),IntKind.i64.wrap (r.getD 20 0),IntKind.i64.wrap (r.getD 21 0),IntKind.u64.wrap (r.getD 22 0),IntKind.i64.wrap (r.getD 23 0),IntKind.i64.wrap (r.getD 24 0),IntKind.u64.wrap (r.getD 25 0),IntKind.i64.wrap (r.getD 26 0),IntKind.i64.wrap (r.getD 27 0),IntKind.u64.wrap (r.getD 28 0),IntKind.i64.wrap (r.getD 29 0),IntKind.i64.wrap (r.getD 30 0),IntKind.u64.wrap (r.getD 31 0),IntKind.i64.wrap (r.getD 32 0),IntKind.i64.wrap (r.getD 33 0),IntKind.u64.wrap (r.getD 34 0),IntKind.i64.wrap (r.getD 35 0),IntKind.i64.wrap (r.getD 36 0),IntKind.u64.wrap (r.getD 37 0),IntKind.i64.wrap (r.getD 38 0),IntKind.i64.wrap (r.getD 39 0),IntKind.u64.wrap (r.getD 40 0),IntKind.i64.wrap (r.getD 41 0),IntKind.i64.wrap (r.getD 42 0),IntKind.u64.wrap (r.getD 43 0),IntKind.i64.wrap (r.getD 44 0),IntKind.i64.wrap (r.getD 45 0),IntKind.u64.wrap (r.getD 46 0),IntKind.i64.wrap (r.getD 47 0),IntKind.i64.wrap (r.getD 48 0),IntKind.u64.wrap (r.getD 49 0),IntKind.i64.wrap (r.getD 50 0),IntKind.i64.wrap (r.getD 51 0),IntKind.u64.wrap (r.getD 52 0),IntKind.i64.wrap (r.getD 53 0),IntKind.i64.wrap (r.getD 54 0),IntKind.u64.wrap (r.getD 55 0),IntKind.i64.wrap (r.getD 56 0),IntKind.i64.wrap (r.getD 57 0),IntKind.u64.wrap (r.getD 58 0),IntKind.i64.wrap (r.getD 59 0),IntKind.i64.wrap (r.getD 60 0),IntKind.i64.wrap (r.getD 61 0)]
def lP (L:List (List Int)):List (List Int):=(List.range 60).map fun i=>aW (L.getD i [])
def aQN:List Int→Int
 |[L,k]=>dS (lP (Lc.dec L)) 12 12 (wG 96 [144,0,0,0,0,0,0,0,0]) k.toNat
 |_=>0
def aBb (r cs:List Int):List Int:=(aW r).take 12++cs++[(aW r).getD 61 0]
def aQO:List Int→Int
 |L::k::cs=>Lc.enc ((List.range k.toNat).map fun i=>aBb ((Lc.dec L).getD i []) cs)
 |_=>0
def G (g:Nat) (xs:List Int):Int:=
 match g with
 |40=>aQH xs
 |41=>aQI xs
 |42=>aMN xs
 |43=>aQN xs
 |44=>aQO xs
 |60=>fK xs
 |62=>gU xs
 |63=>eV xs
 |64=>cN 0 xs
 |65=>cN 1 xs
 |66=>cN 2 xs
 |67=>dX xs
 |70=>aEw xs
 |71=>aNy xs
 |72=>cB xs
 |73=>aJn xs
 |74=>aEr xs
 |75=>oW xs
 |76=>iZ xs
 |77=>aQK xs
 |79=>aQP xs
 |g=>wG g xs
def aDz:List fT→Option (List Int)
 |[]=>some []
 |some (a,b)::l=>if a=b then (aDz l).map (a::·) else none
 |none::_=>none
theorem vH:∀ {is:List fT} {xs ys:List Int},cU is xs→aDz is=some ys→xs=ys
 |[],[],ys,_,e=>by cases e;rfl
 |[],_::_,_,h,_=>h.elim
 |_::_,[],_,h,_=>h.elim
 |none::_,_::_,_,_,e=>by cases e
 |some (a,b)::l,x::xs,ys,h,e=>by
  unfold aDz at e
  split at e
  ·rename_i hab
   obtain⟨zs,hz,rfl⟩:=Option.map_eq_some_iff.1 e
   have h1:a≤x∧x≤b:=h.1
   rw[vH h.2 hz,show x=a by omega]
  ·cases e
def jV (f:List Int→Int) (a b:Int) (l:List fT):fT:=
 match aDz l with
 |some ys=>some (f ys,f ys)
 |none=>some (a,b)
theorem eX {f:List Int→Int} {a b:Int} {is:List fT} {xs:List Int} (h:cU is xs) (hb:a≤f xs∧f xs≤b):(jV f a b is).has (f xs):=by
 unfold jV
 split
 ·rename_i ys e
  rw[vH h e]
  exact⟨Int.le_refl _,Int.le_refl _⟩
 ·exact hb
theorem tL (a b p:Ed.D) (ha:Ed.ok a) (hb:Ed.ok b) (hx : -65536≤p.x∧p.x≤65536) (hy : -65536≤p.y∧p.y≤65536) : -1801615772808642560≤Ed.cross a b p∧Ed.cross a b p≤1801615772808642560:=by
 unfold Ed.ok at *
 unfold Ed.cross
 have h1:=rX (b.x-a.x) (p.y-a.y) 1342177280 671154176 (by omega) (by omega) (by omega) (by omega) (by omega)
 have h2:=rX (b.y-a.y) (p.x-a.x) 1342177280 671154176 (by omega) (by omega) (by omega) (by omega) (by omega)
 omega
theorem aPc (a b c p:Ed.D) (j:Nat) (hx : -65536≤p.x∧p.x≤65536) (hy : -65536≤p.y∧p.y≤65536) : -1801615772808642560≤wt a b c p j∧wt a b c p j≤1801615772808642560:=by
 unfold wt;split
 ·rename_i h
  obtain⟨⟨h1,h2,h3⟩,h4⟩:=h
  split
  ·exact tL _ _ _ h2 h3 hx hy
  ·split
   ·exact tL _ _ _ h3 h1 hx hy
   ·exact tL _ _ _ h1 h2 hx hy
 ·omega
def aCU (j:Nat) (l:List fT):fT:=
 match l with
 |[_,_,_,_,_,_,some p,some q]=>if (decide (-65536≤p.1) && decide (p.2≤65536)) && (decide (-65536≤q.1) && decide (q.2≤65536)) && (aDz l).isNone then some (-1801615772808642560,1801615772808642560) else jV (cN j) (-3602879701896396800) 3602879701896396800 l
 |l=>jV (cN j) (-3602879701896396800) 3602879701896396800 l
theorem tS (j:Nat) {is:List fT} {xs:List Int} (h:cU is xs):(aCU j is).has (cN j xs):=by
 unfold aCU
 split
 ·rename_i i0 i1 i2 i3 i4 i5 p q
  split
  ·rename_i hg
   simp only[Bool.and_eq_true,decide_eq_true_eq]at hg
   match xs,h with
   |[a,b,c,d,e,f,x,y],h=>
    obtain⟨_,_,_,_,_,_,h6,h7,_⟩:=h
    have h6':p.1≤x∧x≤p.2:=h6
    have h7':q.1≤y∧y≤q.2:=h7
    exact aPc ⟨a,b⟩ ⟨c,d⟩ ⟨e,f⟩ ⟨x,y⟩ j (show -65536≤x∧x≤65536 by omega) (show -65536≤y∧y≤65536 by omega)
  ·exact eX h (aF2 j xs)
 ·exact eX h (aF2 j xs)
def aKZ:List fT→fT
 |[some p]=>some (Ed.sg p.1,Ed.sg p.2)
 |_=>some (-1,1)
theorem aGY {is:List fT} {xs:List Int} (h:cU is xs):(aKZ is).has (fK xs):=by
 unfold aKZ
 split
 ·rename_i p
  match xs,h with
  |[x],h=>exact⟨aGb h.1.1,aGb h.1.2⟩
 ·exact aMm xs
def aJi (l:List fT):fT:=
 match aDz l with
 |some ys=>some (aNy ys,aNy ys)
 |none=>match l with
  |[some p,_]=>some (gM p.1 0,gV p.2 0)
  |_=>none
theorem aHh {is:List fT} {xs:List Int} (h:cU is xs):(aJi is).has (aNy xs):=by
 unfold aJi
 split
 ·rename_i ys e
  rw[vH h e]
  exact⟨Int.le_refl _,Int.le_refl _⟩
 ·split
  ·rename_i p q _
   match xs,h with
   |[x,y],h=>
    have h1:p.1≤x∧x≤p.2:=h.1
    have:=aNI x y
    show gM p.1 0≤fq x y∧fq x y≤gV p.2 0
    unfold gM gV
    (repeat' split)<;>omega
  ·trivial
def aBP (l:List fT):fT:=
 match aDz l with
 |some ys=>some (cB ys,cB ys)
 |none=>match l with
  |[some p,some q,some r,_,_,_]=>if decide (-2147483648≤gM (gM (gM p.1 q.1) r.1) 0) && decide (gV (gV (gV p.2 q.2) r.2) 0≤2147483647) then some (gM (gM (gM p.1 q.1) r.1) 0,gV (gV (gV p.2 q.2) r.2) 0) else none
  |_=>none
theorem aCe {is:List fT} {xs:List Int} (h:cU is xs):(aBP is).has (cB xs):=by
 unfold aBP
 split
 ·rename_i ys e
  rw[vH h e]
  exact⟨Int.le_refl _,Int.le_refl _⟩
 ·split
  ·rename_i p q r a b c _
   split
   ·rename_i hg
    simp only[Bool.and_eq_true,decide_eq_true_eq]at hg
    match xs,h with
    |[x,y,z,u,v,w],h=>
     have h1:p.1≤x∧x≤p.2:=h.1
     have h2:q.1≤y∧y≤q.2:=h.2.1
     have h3:r.1≤z∧z≤r.2:=h.2.2.1
     have m1:∀ a b:Int,gM a b≤a∧gM a b≤b:=fun a b=>by unfold gM;split<;>omega
     have m2:∀ a b:Int,a≤gV a b∧b≤gV a b:=fun a b=>by unfold gV;split<;>omega
     have a1:=m1 p.1 q.1;have a2:=m1 (gM p.1 q.1) r.1;have a3:=m1 (gM (gM p.1 q.1) r.1) 0
     have c1:=m2 p.2 q.2;have c2:=m2 (gV p.2 q.2) r.2;have c3:=m2 (gV (gV p.2 q.2) r.2) 0
     exact tW (by omega) (by omega) (by omega) ⟨hg.1,a3.2⟩ ⟨c3.2,hg.2⟩
   ·trivial
  ·trivial
def GI (g:Nat) (l:List fT):fT:=
 match g with
 |40=>none
 |41=>none
 |42=>some (-1,29)
 |43=>none
 |44=>none
 |60=>aKZ l
 |62=>jV gU (-1) 1 l
 |63=>jV eV (-1) 1 l
 |64=>aCU 0 l
 |65=>aCU 1 l
 |66=>aCU 2 l
 |67=>jV dX (-1) 1 l
 |70=>jV aEw (-2147483648) 2147483647 l
 |71=>aJi l
 |72=>aBP l
 |73=>jV aJn (-2147483648) 2147483647 l
 |74=>jV aEr (-2147483648) 2147483647 l
 |75=>jV oW (-2147483648) 2147483647 l
 |76=>jV iZ (-2147483648) 2147483647 l
 |77=>none
 |79=>none
 |g=>wGI g l
theorem aOp:∀ g is xs,cU is xs→(GI g is).has (G g xs):=by
 intro g is xs h
 unfold G GI
 split
 ·trivial
 ·trivial
 ·exact aLK xs
 ·trivial
 ·trivial
 ·exact aGY h
 ·exact eX h (aNA xs)
 ·exact eX h (aLZ xs)
 ·exact tS 0 h
 ·exact tS 1 h
 ·exact tS 2 h
 ·exact eX h (aMi xs)
 ·exact eX h (aFW xs)
 ·exact aHh h
 ·exact aCe h
 ·exact eX h (aLR xs)
 ·exact eX h (aNs xs)
 ·exact eX h (aF7 xs)
 ·exact eX h (aMB xs)
 ·trivial
 ·trivial
 ·exact aOY _ is xs h
theorem aP:aK5 G:=by
 intro g xs h1 h2
 unfold G
 split
 all_goals first|omega|exact pO _ xs h1 h2
theorem iM:GiOk G GI:=⟨aOp,aP⟩
def GB:dW:=[]
theorem fits:kM Try.prog:=⟨by kernel_rfl,fun _=>rfl⟩
def wide? (X:Ctx) (a b:E):Option E:=
 match a,b with
 | .app 0 (.cons e .nil),.app 1 (.cons f .nil)=>if e.eqb f then some e else none
 | .lit x,.lit y=>if decide (0≤y) && decide (y<18446744073709551616) then some (.lit (x*18446744073709551616+y)) else none
 |a,b=>if b.lies X 0 18446744073709551615 then some (.op .add (.op .mul a (.lit 18446744073709551616)) b) else none
theorem wide?_den {X:Ctx} {ρ:Nat→Int} (hX:X.Ok ρ) (hG:X.G=G) {a b e:E} (h:wide? X a b=some e):a.den G ρ=hi (e.den G ρ)∧b.den G ρ=lo (e.den G ρ):=by
 unfold wide? at h
 split at h
 ·split at h
  ·rename_i hf
   cases h
   have:=E.eqb_eq _ _ hf
   subst this
   exact⟨rfl,rfl⟩
  ·cases h
 ·split at h
  ·rename_i x y hf
   cases h
   simp only[Bool.and_eq_true,decide_eq_true_eq]at hf
   simp only[E.den]
   unfold hi lo
   omega
  ·cases h
 ·split at h
  ·rename_i hf
   cases h
   have:=E.lies_in hX hf
   rw[hG]at this
   simp only[E.den,IOp.den]
   unfold hi lo
   omega
  ·cases h
def W2 (e:E):SV := .agg [.int .i64 (.app 0 (.cons e .nil)),.int .u64 (.app 1 (.cons e .nil))]
def qP (X:Ctx) (e:E):Bool:=e.lies X (-170141183460469231731687303715884105728) 170141183460469231731687303715884105727
theorem gP {X:Ctx} {ρ:Nat→Int} (hX:X.Ok ρ) {e:E} (h:qP X e=true):jW (e.den X.G ρ):=by
 have:=E.lies_in hX h
 unfold jW;omega
def qB:gW:=fun X args=>
 match args with
 |[.int .i64 a,.int .i64 n]=>if a.fits X .i64 && n.fits X .i64 then .ok (W2 (.op .mul a n)) else .fail 200
 |_ => .fail 201
theorem aME {X:Ctx} {ρ:Nat→Int} (hX:X.Ok ρ) (hG:X.G=G):eA Try.prog X ρ GB 20 qB:=by
 obtain⟨XG,XI,XV,XF⟩:=X
 simp only at hG
 subst hG
 have hk:eK Try.prog 20:=⟨_,Try.func20,by kernel_rfl,by kernel_rfl⟩
 intro args s h α w vals hv hw
 unfold qB at h
 split at h
 ·split at h
  ·rename_i hg
   simp only[Bool.and_eq_true]at hg
   cases h
   exact bD hv rfl rfl ⟨hk,aL4 _ _ (E.fits_in hX hg.1) (E.fits_in hX hg.2) w⟩
  ·cases h
 ·cases h
def tC:gW:=fun X args=>
 match args with
 |[.int .i64 a]=>if a.fits X .i64 then .ok (W2 a) else .fail 200
 |_ => .fail 201
theorem aPd {X:Ctx} {ρ:Nat→Int} (hX:X.Ok ρ) (hG:X.G=G):eA Try.prog X ρ GB 17 tC:=by
 obtain⟨XG,XI,XV,XF⟩:=X
 simp only at hG
 subst hG
 have hk:eK Try.prog 17:=⟨_,Try.func17,by kernel_rfl,by kernel_rfl⟩
 intro args s h α w vals hv hw
 unfold tC at h
 split at h
 ·split at h
  ·rename_i hg
   cases h
   exact bD hv rfl rfl ⟨hk,rZ _ (E.fits_in hX hg) w⟩
  ·cases h
 ·cases h
def qC:gW:=fun X args=>
 match args with
 |[.agg [.int .i64 a,.int .u64 b],.agg [.int .i64 c,.int .u64 d]]=>match wide? X a b,wide? X c d with
  |some e,some f=>if qP X e && (qP X f && qP X (.op .add e f)) then .ok (.tuple [W2 (.op .add e f),.int .i64 (.lit 0)]) else .fail 200
  |_,_ => .fail 202
 |_ => .fail 201
theorem aLu {X:Ctx} {ρ:Nat→Int} (hX:X.Ok ρ) (hG:X.G=G):eA Try.prog X ρ GB 19 qC:=by
 obtain⟨XG,XI,XV,XF⟩:=X
 simp only at hG
 subst hG
 have hk:eK Try.prog 19:=⟨_,Try.func19,by kernel_rfl,by kernel_rfl⟩
 intro args s h α w vals hv hw
 unfold qC at h
 split at h
 ·split at h
  ·rename_i a b c d _ _ e f he hf
   split at h
   ·rename_i hg
    simp only[Bool.and_eq_true]at hg
    cases h
    obtain⟨e1,e2⟩:=wide?_den hX rfl he
    obtain⟨f1,f2⟩:=wide?_den hX rfl hf
    refine bD hv rfl rfl ⟨hk,?_⟩
    have k:=aFM (e.den G ρ) (f.den G ρ) (gP hX hg.1) (gP hX hg.2.1) (gP hX hg.2.2) w
    rw[←e1,←e2,←f1,←f2]at k
    exact k
   ·cases h
  ·cases h
 ·cases h
def qA:gW:=fun X args=>
 match args with
 |[.agg [.int .i64 a,.int .u64 b],.agg [.int .i64 c,.int .u64 d]]=>match wide? X a b,wide? X c d with
  |some e,some f=>if qP X e && (qP X f && qP X (.op .sub e f)) then .ok (.tuple [W2 (.op .sub e f),.int .i64 (.lit 0)]) else .fail 200
  |_,_ => .fail 202
 |_ => .fail 201
theorem aLO {X:Ctx} {ρ:Nat→Int} (hX:X.Ok ρ) (hG:X.G=G):eA Try.prog X ρ GB 21 qA:=by
 obtain⟨XG,XI,XV,XF⟩:=X
 simp only at hG
 subst hG
 have hk:eK Try.prog 21:=⟨_,Try.func21,by kernel_rfl,by kernel_rfl⟩
 intro args s h α w vals hv hw
 unfold qA at h
 split at h
 ·split at h
  ·rename_i a b c d _ _ e f he hf
   split at h
   ·rename_i hg
    simp only[Bool.and_eq_true]at hg
    cases h
    obtain⟨e1,e2⟩:=wide?_den hX rfl he
    obtain⟨f1,f2⟩:=wide?_den hX rfl hf
    refine bD hv rfl rfl ⟨hk,?_⟩
    have k:=aFq (e.den G ρ) (f.den G ρ) (gP hX hg.1) (gP hX hg.2.1) (gP hX hg.2.2) w
    rw[←e1,←e2,←f1,←f2]at k
    exact k
   ·cases h
  ·cases h
 ·cases h
def lZ:gW:=fun X args=>
 match args with
 |[.agg [.int .i64 a,.int .u64 b],.int .i64 n]=>match wide? X a b with
  |some e=>if qP X e && (n.fits X .i64 && qP X (.op .mul e n)) then .ok (.tuple [W2 (.op .mul e n),.int .i64 (.lit 0)]) else .fail 200
  |_ => .fail 202
 |_ => .fail 201
theorem aId {X:Ctx} {ρ:Nat→Int} (hX:X.Ok ρ) (hG:X.G=G):eA Try.prog X ρ GB 18 lZ:=by
 obtain⟨XG,XI,XV,XF⟩:=X
 simp only at hG
 subst hG
 have hk:eK Try.prog 18:=⟨_,Try.func18,by kernel_rfl,by kernel_rfl⟩
 intro args s h α w vals hv hw
 unfold lZ at h
 split at h
 ·split at h
  ·rename_i a b n _ e he
   split at h
   ·rename_i hg
    simp only[Bool.and_eq_true]at hg
    cases h
    obtain⟨e1,e2⟩:=wide?_den hX rfl he
    refine bD hv rfl rfl ⟨hk,?_⟩
    have k:=zH (e.den G ρ) (n.den G ρ) _ _ rfl rfl (gP hX hg.1) (E.fits_in hX hg.2.1) (gP hX hg.2.2) w
    rw[←e1,←e2]at k
    exact k
   ·cases h
  ·cases h
 ·cases h
def nU:gW:=fun X args=>
 match args with
 |[.agg [.int .i64 a,.int .u64 b],.int .i64 d]=>match wide? X a b with
  |some e=>if qP X e && d.lies X 1 9223372036854775807 then .ok (.tuple [W2 (.app 2 (.cons e (.cons d .nil))),.int .i64 (.lit 0)]) else .fail 200
  |_ => .fail 202
 |_ => .fail 201
theorem aJA {X:Ctx} {ρ:Nat→Int} (hX:X.Ok ρ) (hG:X.G=G):eA Try.prog X ρ GB 31 nU:=by
 obtain⟨XG,XI,XV,XF⟩:=X
 simp only at hG
 subst hG
 have hk:eK Try.prog 31:=⟨_,Try.func31,by kernel_rfl,by kernel_rfl⟩
 intro args s h α w vals hv hw
 unfold nU at h
 split at h
 ·split at h
  ·rename_i a b d _ e he
   split at h
   ·rename_i hg
    simp only[Bool.and_eq_true]at hg
    cases h
    obtain⟨e1,e2⟩:=wide?_den hX rfl he
    refine bD hv rfl rfl ⟨hk,?_⟩
    obtain⟨d1,d2⟩:=E.lies_in hX hg.2
    have k:=aJ8 (e.den G ρ) (d.den G ρ) (gP hX hg.1) (show 0<d.den G ρ from d1) d2 w
    rw[←e1,←e2]at k
    exact k
   ·cases h
  ·cases h
 ·cases h
def qG:gW:=fun X args=>
 match args with
 |[.agg [.int .i64 a,.int .u64 b]]=>match wide? X a b with
  |some e=>if qP X e then (Res.test X (.cmp .le (.lit (-9223372036854775808)) e)).bind fun t=>if t then ((Res.test X (.cmp .le e (.lit 9223372036854775807))).bind fun u=>if u then .ok (.tuple [.int .i64 e,.bool (.lit true)]) else .ok (.tuple [.int .i64 (.lit 0),.bool (.lit false)])) else .ok (.tuple [.int .i64 (.lit 0),.bool (.lit false)]) else .fail 200
  |_ => .fail 202
 |_ => .fail 201
theorem aLF {X:Ctx} {ρ:Nat→Int} (hX:X.Ok ρ) (hG:X.G=G):eA Try.prog X ρ GB 32 qG:=by
 obtain⟨XG,XI,XV,XF⟩:=X
 simp only at hG
 subst hG
 have hk:eK Try.prog 32:=⟨_,Try.func32,by kernel_rfl,by kernel_rfl⟩
 intro args s h α w vals hv hw
 unfold qG at h
 split at h
 ·split at h
  ·rename_i a b _ e he
   split at h
   ·rename_i hg
    obtain⟨e1,e2⟩:=wide?_den hX rfl he
    have hb:=gP hX hg
    obtain⟨t,ht,h⟩:=Res.bind_ok h
    have ht:=Res.test_ok hX ht
    simp only[B.den,aBl,E.den]at ht
    have no:¬I64 (e.den G ρ)→s = .tuple [.int .i64 (.lit 0),.bool (.lit false)]→eK Try.prog 32∧Calls Try.prog 32 vals.toArray w (fun e w'=>∃ v,e = .returned v∧SV.R G ρ α s v∧Below w.heap.size w w'):=by
     rintro hn rfl
     refine bD hv rfl rfl ⟨hk,?_⟩
     have k:=aN9 (e.den G ρ) hn hb w
     rw[←e1,←e2]at k
     exact k
    cases t with
    |false=>cases h;exact no (by unfold I64;simp at ht;omega) rfl
    |true=>
     simp only[if_true]at h
     obtain⟨u,hu,h⟩:=Res.bind_ok h
     have hu:=Res.test_ok hX hu
     simp only[B.den,aBl,E.den]at hu
     cases u with
     |false=>cases h;exact no (by unfold I64;simp at hu;omega) rfl
     |true=>
      cases h
      refine bD hv rfl rfl ⟨hk,?_⟩
      have k:=aM2 (e.den G ρ) ⟨of_decide_eq_true ht,of_decide_eq_true hu⟩ w
      rw[←e1,←e2]at k
      exact k
   ·cases h
  ·cases h
 ·cases h
def mO:gW:=fun X args=>
 match args with
 |[.agg [.int .i64 a,.int .u64 b],.int .i64 d]=>match wide? X a b with
  |some e=>if qP X e then (Res.test X (.cmp .le (.lit 1) d)).bind fun t=>(Res.test X (.cmp .le d (.lit 9223372036854775807))).bind fun u=>if t && u then .ok (.tuple [W2 (.app 71 (.cons e (.cons d .nil))),.int .i64 (.op .sub e (.op .mul d (.app 71 (.cons e (.cons d .nil))))),.int .i64 (.lit 0)]) else .fail 203 else .fail 200
  |_ => .fail 202
 |_ => .fail 201
theorem aIh {X:Ctx} {ρ:Nat→Int} (hX:X.Ok ρ) (hG:X.G=G):eA Try.prog X ρ GB 64 mO:=by
 obtain⟨XG,XI,XV,XF⟩:=X
 simp only at hG
 subst hG
 have hk:eK Try.prog 64:=⟨_,Try.func64,by kernel_rfl,by kernel_rfl⟩
 intro args s h α w vals hv hw
 unfold mO at h
 split at h
 ·split at h
  ·rename_i a b d _ e he
   split at h
   ·rename_i hg
    obtain⟨t,ht,h⟩:=Res.bind_ok h
    have ht:=Res.test_ok hX ht
    obtain⟨u,hu,h⟩:=Res.bind_ok h
    have hu:=Res.test_ok hX hu
    cases t
    ·cases h
    cases u
    ·cases h
    cases h
    obtain⟨e1,e2⟩:=wide?_den hX rfl he
    refine bD hv rfl rfl ⟨hk,?_⟩
    have d2:d.den G ρ≤9223372036854775807:=of_decide_eq_true hu
    have d1:1≤d.den G ρ:=of_decide_eq_true ht
    have k:=sQ (e.den G ρ) (d.den G ρ) (gP hX hg) (show 0<d.den G ρ from d1) d2 w
    have q1:e.den G ρ / d.den G ρ=fq (e.den G ρ) (d.den G ρ):=by unfold fq;rw[if_pos d1];exact(Int.fdiv_eq_ediv_of_nonneg _ (by omega)).symm
    have q2:e.den G ρ % d.den G ρ=e.den G ρ-d.den G ρ*fq (e.den G ρ) (d.den G ρ):=by rw[←q1,Int.emod_def]
    rw[q2,q1,←e1,←e2]at k
    exact k
   ·cases h
  ·cases h
 ·cases h
def aFC:aX:=fD 20 qB aKK
theorem aDS {X:Ctx} {ρ:Nat→Int} (hX:X.Ok ρ) (hG:X.G=G):gF Try.prog X ρ GB aFC:=cQ (aME hX hG) (aIy)
def aJL:aX:=fD 17 tC aFC
theorem aGX {X:Ctx} {ρ:Nat→Int} (hX:X.Ok ρ) (hG:X.G=G):gF Try.prog X ρ GB aJL:=cQ (aPd hX hG) (aDS hX hG)
def aF5:aX:=fD 19 qC aJL
theorem aD1 {X:Ctx} {ρ:Nat→Int} (hX:X.Ok ρ) (hG:X.G=G):gF Try.prog X ρ GB aF5:=cQ (aLu hX hG) (aGX hX hG)
def aF8:aX:=fD 21 qA aF5
theorem aEg {X:Ctx} {ρ:Nat→Int} (hX:X.Ok ρ) (hG:X.G=G):gF Try.prog X ρ GB aF8:=cQ (aLO hX hG) (aD1 hX hG)
def aAR:aX:=fD 18 lZ aF8
theorem aA9 {X:Ctx} {ρ:Nat→Int} (hX:X.Ok ρ) (hG:X.G=G):gF Try.prog X ρ GB aAR:=cQ (aId hX hG) (aEg hX hG)
def aCt:aX:=fD 31 nU aAR
theorem aCm {X:Ctx} {ρ:Nat→Int} (hX:X.Ok ρ) (hG:X.G=G):gF Try.prog X ρ GB aCt:=cQ (aJA hX hG) (aA9 hX hG)
def aFv:aX:=fD 32 qG aCt
theorem aDV {X:Ctx} {ρ:Nat→Int} (hX:X.Ok ρ) (hG:X.G=G):gF Try.prog X ρ GB aFv:=cQ (aLF hX hG) (aCm hX hG)
def zV:aX:=fD 64 mO aFv
theorem aBi {X:Ctx} {ρ:Nat→Int} (hX:X.Ok ρ) (hG:X.G=G):gF Try.prog X ρ GB zV:=cQ (aIh hX hG) (aDV hX hG)
def aNv:aX:=zV
theorem aBr {X:Ctx} {ρ:Nat→Int} (hX:X.Ok ρ) (hG:X.G=G):gF Try.prog X ρ GB aNv:=aBi hX hG
end Go.Proofs.Ytoiecphddchknaa
