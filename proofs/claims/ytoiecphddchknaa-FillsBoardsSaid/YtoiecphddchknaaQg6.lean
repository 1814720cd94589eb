/- What is proved: what wides.Add,Sub and Int return: sums and differences that are numbers of 128 bits. -/
import Derived.Test.YtoiecphddchknaaQg5
import Derived.Lib.ItoaNum
import Derived.Test.YtoiecphddchknaaQg3
import Derived.Test.YtoiecphddchknaaQa1
import Derived.Test.YtoiecphddchknaaProg
set_option linter.unusedSimpArgs false
set_option linter.unusedVariables false
namespace Go.Proofs.Ytoiecphddchknaa
open Go.RowKit Wi
set_option maxHeartbeats 800000 in
theorem aGF (a b:Int) (ha:kW a) (hb:kW b) (hr:kW (a+b)) (w:World):Calls Try.prog 19 #[.agg #[.int .i64 (hi (a)),.int .u64 (lo (a))],.agg #[.int .i64 (hi (b)),.int .u64 (lo (b))]] w fun e w'=>e = .returned (.tuple #[.agg #[.int .i64 (hi (a+b)),.int .u64 (lo (a+b))],.int .i64 0])∧Below w.heap.size w w':=by
 obtain⟨l1,l2⟩:=nS a
 obtain⟨l3,l4⟩:=nS b
 have q1:=qS a
 have q2:=qS b
 have q3:=qS (a+b)
 have i0:IntKind.i64.wrap ((lo a+lo b) / 18446744073709551616)=(lo a+lo b) / 18446744073709551616:=IntWalk.i64_in _ (by omega)
 have i1:wrap64 (wrap64 (hi a+hi b)+(lo a+lo b) / 18446744073709551616)=hi (a+b):=by unfold wrap64;unfold kW at hr;unfold hi lo;omega
 have i2:(lo a+lo b) % 18446744073709551616=lo (a+b):=by unfold lo;omega
 clear hr ha hb
 rcases Int.lt_or_le a 0 with ga|ga<;>rcases Int.lt_or_le b 0 with gb|gb
 ·have t1:hi a<0:=q1.2 ga
  have t2:hi b<0:=q2.2 gb
  have t3:hi (a+b)<0:=q3.2 (by omega)
  clear q1 q2 q3 ga gb
  go_enter Try.func19,Try.ntmps19
  go_wp2_with (simp only[nQ (lo a) (lo b) l1 l3])
  exact bodyPost_ret (v := .tuple #[.agg #[.int .i64 (hi (a+b)),.int .u64 (lo (a+b))],.int .i64 0]) (by simp [results,Try.results19,go_sem, *]) rfl ⟨rfl,by repeat (with_reducible first|exact aD _|refine bN _ (by omega) ?_|apply aA|apply aC)⟩
 ·have t1:hi a<0:=q1.2 ga
  have t2:¬hi b<0:=fun h=>by have:=q2.1 h;omega
  clear q1 q2 q3 ga gb
  go_enter Try.func19,Try.ntmps19
  go_wp2_with (simp only[nQ (lo a) (lo b) l1 l3])
  exact bodyPost_ret (v := .tuple #[.agg #[.int .i64 (hi (a+b)),.int .u64 (lo (a+b))],.int .i64 0]) (by simp [results,Try.results19,go_sem, *]) rfl ⟨rfl,by repeat (with_reducible first|exact aD _|refine bN _ (by omega) ?_|apply aA|apply aC)⟩
 ·have t1:¬hi a<0:=fun h=>by have:=q1.1 h;omega
  have t2:hi b<0:=q2.2 gb
  clear q1 q2 q3 ga gb
  go_enter Try.func19,Try.ntmps19
  go_wp2_with (simp only[nQ (lo a) (lo b) l1 l3])
  exact bodyPost_ret (v := .tuple #[.agg #[.int .i64 (hi (a+b)),.int .u64 (lo (a+b))],.int .i64 0]) (by simp [results,Try.results19,go_sem, *]) rfl ⟨rfl,by repeat (with_reducible first|exact aD _|refine bN _ (by omega) ?_|apply aA|apply aC)⟩
 ·have t1:¬hi a<0:=fun h=>by have:=q1.1 h;omega
  have t2:¬hi b<0:=fun h=>by have:=q2.1 h;omega
  have t3:¬hi (a+b)<0:=fun h=>by have:=q3.1 h;omega
  clear q1 q2 q3 ga gb
  go_enter Try.func19,Try.ntmps19
  go_wp2_with (simp only[nQ (lo a) (lo b) l1 l3])
  exact bodyPost_ret (v := .tuple #[.agg #[.int .i64 (hi (a+b)),.int .u64 (lo (a+b))],.int .i64 0]) (by simp [results,Try.results19,go_sem, *]) rfl ⟨rfl,by repeat (with_reducible first|exact aD _|refine bN _ (by omega) ?_|apply aA|apply aC)⟩
set_option maxHeartbeats 800000 in
theorem aG9 (a b:Int) (ha:kW a) (hb:kW b) (hr:kW (a-b)) (w:World):Calls Try.prog 21 #[.agg #[.int .i64 (hi (a)),.int .u64 (lo (a))],.agg #[.int .i64 (hi (b)),.int .u64 (lo (b))]] w fun e w'=>e = .returned (.tuple #[.agg #[.int .i64 (hi (a-b)),.int .u64 (lo (a-b))],.int .i64 0])∧Below w.heap.size w w':=by
 obtain⟨l1,l2⟩:=nS a
 obtain⟨l3,l4⟩:=nS b
 have q1:=qS a
 have q2:=qS b
 have q3:=qS (a-b)
 have b0:0≤bor (lo a) (lo b)∧bor (lo a) (lo b)≤1:=by unfold bor;split<;>omega
 have i0:IntKind.i64.wrap (bor (lo a) (lo b))=bor (lo a) (lo b):=IntWalk.i64_in _ (by omega)
 have i1:wrap64 (wrap64 (hi a-hi b)-bor (lo a) (lo b))=hi (a-b):=by unfold wrap64 bor;unfold kW at hr;unfold hi lo;split<;>omega
 have i2:(lo a-lo b) % 18446744073709551616=lo (a-b):=by unfold lo;omega
 clear b0
 clear hr ha hb
 rcases Int.lt_or_le a 0 with ga|ga<;>rcases Int.lt_or_le b 0 with gb|gb
 ·have t1:hi a<0:=q1.2 ga
  have t2:hi b<0:=q2.2 gb
  clear q1 q2 q3 ga gb
  go_enter Try.func21,Try.ntmps21
  go_wp2_with (simp only[wT (lo a) (lo b) l1 l3 l4])
  exact bodyPost_ret (v := .tuple #[.agg #[.int .i64 (hi (a-b)),.int .u64 (lo (a-b))],.int .i64 0]) (by simp [results,Try.results21,go_sem, *]) rfl ⟨rfl,by repeat (with_reducible first|exact aD _|refine bN _ (by omega) ?_|apply aA|apply aC)⟩
 ·have t1:hi a<0:=q1.2 ga
  have t2:¬hi b<0:=fun h=>by have:=q2.1 h;omega
  have t3:hi (a-b)<0:=q3.2 (by omega)
  clear q1 q2 q3 ga gb
  go_enter Try.func21,Try.ntmps21
  go_wp2_with (simp only[wT (lo a) (lo b) l1 l3 l4])
  exact bodyPost_ret (v := .tuple #[.agg #[.int .i64 (hi (a-b)),.int .u64 (lo (a-b))],.int .i64 0]) (by simp [results,Try.results21,go_sem, *]) rfl ⟨rfl,by repeat (with_reducible first|exact aD _|refine bN _ (by omega) ?_|apply aA|apply aC)⟩
 ·have t1:¬hi a<0:=fun h=>by have:=q1.1 h;omega
  have t2:hi b<0:=q2.2 gb
  have t3:¬hi (a-b)<0:=fun h=>by have:=q3.1 h;omega
  clear q1 q2 q3 ga gb
  go_enter Try.func21,Try.ntmps21
  go_wp2_with (simp only[wT (lo a) (lo b) l1 l3 l4])
  exact bodyPost_ret (v := .tuple #[.agg #[.int .i64 (hi (a-b)),.int .u64 (lo (a-b))],.int .i64 0]) (by simp [results,Try.results21,go_sem, *]) rfl ⟨rfl,by repeat (with_reducible first|exact aD _|refine bN _ (by omega) ?_|apply aA|apply aC)⟩
 ·have t1:¬hi a<0:=fun h=>by have:=q1.1 h;omega
  have t2:¬hi b<0:=fun h=>by have:=q2.1 h;omega
  clear q1 q2 q3 ga gb
  go_enter Try.func21,Try.ntmps21
  go_wp2_with (simp only[wT (lo a) (lo b) l1 l3 l4])
  exact bodyPost_ret (v := .tuple #[.agg #[.int .i64 (hi (a-b)),.int .u64 (lo (a-b))],.int .i64 0]) (by simp [results,Try.results21,go_sem, *]) rfl ⟨rfl,by repeat (with_reducible first|exact aD _|refine bN _ (by omega) ?_|apply aA|apply aC)⟩
theorem aPd (n:Int) (h:I64 n) (w:World):Calls Try.prog 32 #[.agg #[.int .i64 (hi (n)),.int .u64 (lo (n))]] w fun e w'=>e = .returned (.tuple #[.int .i64 n,.bool true])∧Below w.heap.size w w':=by
 have i1:IntKind.i64.wrap (lo n)=n:=by rw[IntKind.wrap_i64];unfold I64 at h;unfold lo;omega
 go_enter Try.func32,Try.ntmps32
 go_wp2
 obtain⟨w0,hw0⟩:∃ x:World,x=(w.alloc (.cells #[.int .i64 (hi (n)),.int .u64 (lo (n))] 35)):=⟨_,rfl⟩
 have k0:w0.cell? ⟨w.heap.size,0,none⟩=some (.int .i64 (hi (n))):=by rw[hw0];repeat (first|(refine aP ?_ rfl;(simp;done))|refine aQ ?_)
 have k1:w0.cell? ⟨w.heap.size,1,none⟩=some (.int .u64 (lo (n))):=by rw[hw0];repeat (first|(refine aP ?_ rfl;(simp;done))|refine aQ ?_)
 have z0:w.heap.size<w0.heap.size:=World.block_lt_of_cell? _ _ k0
 have hB:Below w.heap.size w w0:=by rw[hw0];repeat (with_reducible first|exact aD _|apply aA)
 rw[←hw0]
 clear hw0
 go_region_held3 (fun w'=>Below w.heap.size w w'∧(w.heap.size<w'.heap.size)∧w'.cell? ⟨w.heap.size,0,none⟩=some (.int .i64 (hi (n)))∧w'.cell? ⟨w.heap.size,1,none⟩=some (.int .u64 (lo (n))))
  ((exact⟨by repeat (with_reducible first|exact aD _|exact hB|(simp only[*];done)|apply aC|apply aA|apply hx),by first|omega|(simp only[World.size_alloc,World.size_drew];omega)|(simp;omega),by first|(simp;done)|(simp [*];done)|(simp [*,World.cell?_setCell_far];done)|(simp (disch:=omega) [World.cell?_alloc_past, *];done)⟩))
  (first
   |(go_at_call 17;refine(vD _ h _).mono ?_;rintro e w1 ⟨rfl,hb⟩;have hx:=fun h=>aE hb h (w:=w);obtain⟨hc,hf⟩:=aQb hb;have hz:=hb.size))
 go_wp2
 exact bodyPost_ret (v := .tuple #[.int .i64 n,.bool true]) (by simp [results,Try.results32,go_sem]) rfl ⟨rfl,by simp [*]⟩
theorem aRm (n:Int) (h:¬I64 n) (hb:kW n) (w:World):Calls Try.prog 32 #[.agg #[.int .i64 (hi (n)),.int .u64 (lo (n))]] w fun e w'=>e = .returned (.tuple #[.int .i64 0,.bool false])∧Below w.heap.size w w':=by
 obtain⟨m,hm⟩:∃ m,m=IntKind.i64.wrap (lo n):=⟨_,rfl⟩
 have i1:IntKind.i64.wrap (lo n)=m:=hm.symm
 have hI:I64 m:=by rw[hm,IntKind.wrap_i64];unfold I64 lo;omega
 have i2:lo m=lo n:=by rw[hm,IntKind.wrap_i64];unfold lo;omega
 have i3:¬hi n=hi m:=by
  intro e
  have:=aP6 n
  have:=aP6 m
  have:n=m:=by omega
  rw[this]at h;exact h hI
 clear hm h hb
 go_enter Try.func32,Try.ntmps32
 go_wp2
 obtain⟨w0,hw0⟩:∃ x:World,x=(w.alloc (.cells #[.int .i64 (hi (n)),.int .u64 (lo (n))] 35)):=⟨_,rfl⟩
 have k0:w0.cell? ⟨w.heap.size,0,none⟩=some (.int .i64 (hi (n))):=by rw[hw0];repeat (first|(refine aP ?_ rfl;(simp;done))|refine aQ ?_)
 have k1:w0.cell? ⟨w.heap.size,1,none⟩=some (.int .u64 (lo (n))):=by rw[hw0];repeat (first|(refine aP ?_ rfl;(simp;done))|refine aQ ?_)
 have z0:w.heap.size<w0.heap.size:=World.block_lt_of_cell? _ _ k0
 have hB:Below w.heap.size w w0:=by rw[hw0];repeat (with_reducible first|exact aD _|apply aA)
 rw[←hw0]
 clear hw0
 go_region_held3 (fun w'=>Below w.heap.size w w'∧(w.heap.size<w'.heap.size)∧w'.cell? ⟨w.heap.size,0,none⟩=some (.int .i64 (hi (n)))∧w'.cell? ⟨w.heap.size,1,none⟩=some (.int .u64 (lo (n))))
  ((exact⟨by repeat (with_reducible first|exact aD _|exact hB|(simp only[*];done)|apply aC|apply aA|apply hx),by first|omega|(simp only[World.size_alloc,World.size_drew];omega)|(simp;omega),by first|(simp;done)|(simp [*];done)|(simp [*,World.cell?_setCell_far];done)|(simp (disch:=omega) [World.cell?_alloc_past, *];done)⟩))
  (first
   |(go_at_call 17;refine(vD _ hI _).mono ?_;rintro e w1 ⟨rfl,hb⟩;have hx:=fun h=>aE hb h (w:=w);obtain⟨hc,hf⟩:=aQb hb;have hz:=hb.size))
 go_wp2
 exact bodyPost_ret (v := .tuple #[.int .i64 0,.bool false]) (by simp [results,Try.results32,go_sem]) rfl ⟨rfl,by simp [*]⟩
end Go.Proofs.Ytoiecphddchknaa
namespace Go.Proofs.Ytoiecphddchknaa
open Go.RowKit Wi Dv
theorem aAJ (lo y:Int) (hl:dZ lo) (hy:0<y∧y<18446744073709551616) (w:World):Calls Try.prog 91 #[.int .u64 0,.int .u64 lo,.int .u64 y] w fun e w'=>e = .returned (.tuple #[.int .u64 (lo / y),.int .u64 (lo % y)])∧Below w.heap.size w w':=by
 obtain⟨l1,l2⟩:=hl
 obtain⟨y1,y2⟩:=hy
 have n0:¬y=0:=by omega
 have n1:¬y≤0:=by omega
 have d0:0≤lo / y:=Int.ediv_nonneg l1 (by omega)
 have d1:lo / y≤lo:=Int.ediv_le_self _ l1
 have d2:=Int.emod_nonneg lo n0
 have d3:=Int.emod_lt_of_pos lo y1
 have td:lo.tdiv y=lo / y:=Int.tdiv_eq_ediv_of_nonneg l1
 have tm:lo.tmod y=lo % y:=Int.tmod_eq_emod_of_nonneg l1
 go_enter Try.func91,Try.ntmps91
 go_wp2
 go_quiet (fail)
 go_wp2
 exact bodyPost_ret (v := .tuple #[.int .u64 (lo / y),.int .u64 (lo % y)]) (by simp [results,Try.results91,go_sem]) rfl ⟨rfl,below_drewN (aD _) _⟩
theorem aPw (y:Int) (y1:0<y) (y2:y<18446744073709551616):∃ s:Nat,(64-(Lib.bitLen y.toNat:Int))=s∧s≤64∧9223372036854775808≤y*2 ^ s∧y*2 ^ s<18446744073709551616:=by
 obtain⟨n,rfl⟩:=Int.eq_ofNat_of_zero_le (Int.le_of_lt y1)
 have h:=Lib.bitLenAux_bounds 64 n (by omega) (by omega)
 have hb:Lib.bitLen n≤64:=Lib.bitLen_le n 64 (by omega) (by omega)
 have e:Lib.bitLen n=Lib.bitLenAux 64 n:=rfl
 rw[←e]at h
 obtain⟨h1,h2,h3⟩:=h
 rw[Int.toNat_natCast]
 generalize Lib.bitLen n=L at *
 refine⟨64-L,by omega,by omega,?_⟩
 have k1:2 ^ (L-1)*2 ^ (64-L)≤n*2 ^ (64-L):=Nat.mul_le_mul_right _ h2
 have k2:n*2 ^ (64-L)<2 ^ L*2 ^ (64-L):=Nat.mul_lt_mul_of_pos_right h3 (Nat.two_pow_pos _)
 rw[←Nat.pow_add]at k1 k2
 rw[show L-1+(64-L)=63 by omega]at k1
 rw[show L+(64-L)=64 by omega]at k2
 have c:((n*2 ^ (64-L):Nat):Int)=(n:Int)*2 ^ (64-L):=by rw[Int.natCast_mul,Int.natCast_pow];rfl
 rw[←c]
 omega
theorem aLL (x:Int) (h0:0≤x) (h1:x<18446744073709551616):bits .and .u64 x 4294967295=x % 4294967296:=by
 obtain⟨n,rfl⟩:=Int.eq_ofNat_of_zero_le h0
 rw[Mul64.maskN n (by omega)];omega
theorem aKN (h lo:Int) (s:Nat) (h0:0≤h) (l0:0≤lo) (g1:h*2 ^ s<18446744073709551616) (g2:lo / 2 ^ (64-s)<2 ^ s) (hs:s≤64):
  bits .or .u64 (IntKind.u64.wrap (h*2 ^ s)) (lo / 2 ^ (64-s))=h*2 ^ s+lo / 2 ^ (64-s):=by
 obtain⟨a,rfl⟩:=Int.eq_ofNat_of_zero_le h0
 obtain⟨b,rfl⟩:=Int.eq_ofNat_of_zero_le l0
 have c1:((a*2 ^ s:Nat):Int)=(a:Int)*2 ^ s:=by rw[Int.natCast_mul,Int.natCast_pow];rfl
 have c2:((b / 2 ^ (64-s):Nat):Int)=(b:Int) / 2 ^ (64-s):=by rw[Int.natCast_ediv,Int.natCast_pow];rfl
 have c3:((2 ^ s:Nat):Int)=2 ^ s:=by rw[Int.natCast_pow];rfl
 have p:(2:Nat) ^ s≤2 ^ 64:=Nat.pow_le_pow_right (by decide) hs
 rw[IntKind.wrap_u64,←c1,←c2]
 rw[←c1]at g1
 rw[←c2,←c3]at g2
 rw[Int.emod_eq_of_lt (by omega) g1,bits_or_u64_nat _ _ (by omega) (by omega)]
 have k:=Nat.shiftLeft_add_eq_or_of_lt (b:=b / 2 ^ (64-s)) (i:=s) (by omega) a
 rw[Nat.shiftLeft_eq]at k
 rw[←k,Int.natCast_add]
set_option maxHeartbeats 1600000 in
theorem aD9 (h lo y:Int) (hh:0<h∧h<y) (hl:dZ lo) (hy:0<y∧y<18446744073709551616) (w:World):Calls Try.prog 91 #[.int .u64 h,.int .u64 lo,.int .u64 y] w fun e w'=>e = .returned (.tuple #[.int .u64 ((h*18446744073709551616+lo) / y),.int .u64 ((h*18446744073709551616+lo) % y)])∧Below w.heap.size w w':=by
 obtain⟨l1,l2⟩:=hl
 obtain⟨y1,y2⟩:=hy
 obtain⟨h1,h2⟩:=hh
 have n0:¬y=0:=by omega
 have n1:¬y≤h:=by omega
 have n2:¬h=0:=by omega
 obtain⟨s,hs',s64,ys1,ys2⟩:=aPw y y1 y2
 obtain⟨p1,p2,p3,p4,p5,p6,p7⟩:=aSX h lo y s s64 ys1 ys2 (by omega) h2 l1 l2
 have f4:=aKN h lo s (by omega) l1 p3 p5 s64
 have bk:=aBS (h*18446744073709551616+lo) y (2 ^ s) p7
 have f1:IntKind.u64.wrap (y*2 ^ s)=y*2 ^ s:=by rw[IntKind.wrap_u64];omega
 have f5:IntKind.u64.wrap (lo*2 ^ s)=lo*2 ^ s % 18446744073709551616:=IntKind.wrap_u64 _
 have hV:0≤lo*2 ^ s % 18446744073709551616∧lo*2 ^ s % 18446744073709551616<18446744073709551616:=by omega
 rw[←p1]at bk
 generalize hYe:y*2 ^ s=Y at *
 generalize hVe:lo*2 ^ s % 18446744073709551616=V at *
 have hU0:0≤h*2 ^ s+lo / 2 ^ (64-s):=by omega
 generalize h*2 ^ s+lo / 2 ^ (64-s)=U at *
 have kn1:Kn (Y / 4294967296) (Y % 4294967296) U (V / 4294967296):=aQa Y U _ ys1 ys2 hU0 p6 (by omega) (by omega)
 have f2:=aLL Y (by omega) ys2
 have f3:=aLL V hV.1 hV.2
 have kY:Y / 4294967296*4294967296+Y % 4294967296=Y:=by omega
 have rb1:=aG3 Y U (V / 4294967296) (by omega)
 have re1:=aHm Y U (V / 4294967296)
 have tq1:=aSi Y U (V / 4294967296)
 have ts:=aIf Y U (V / 4294967296) (V % 4294967296) (by omega)
 have hVV:V / 4294967296*4294967296+V % 4294967296=V:=by omega
 rw[Int.add_assoc,hVV]at ts
 generalize (U*4294967296+V / 4294967296) % Y=R at *
 have kn2:Kn (Y / 4294967296) (Y % 4294967296) R (V % 4294967296):=aQa Y R _ ys1 ys2 rb1.1 rb1.2 (by omega) (by omega)
 have rb2:=aG3 Y R (V % 4294967296) (by omega)
 have re2:=aHm Y R (V % 4294967296)
 have tq2:=aSi Y R (V % 4294967296)
 have tb1:=aM3 kn1
 have tb2:=aM3 kn2
 rw[tq1]at tb1
 rw[tq2]at tb2
 generalize hT1:(U*4294967296+V / 4294967296) / Y=T1 at *
 generalize hT2:(R*4294967296+V % 4294967296) / Y=T2 at *
 generalize (R*4294967296+V % 4294967296) % Y=R2 at *
 have st1:=Inv.start kn1
 have st2:=Inv.start kn2
 have hV1:0≤V / 4294967296∧V / 4294967296<4294967296:=by omega
 have hV0:0≤V % 4294967296∧V % 4294967296<4294967296:=by omega
 generalize fV1:V / 4294967296=V1 at *
 generalize V % 4294967296=V0 at *
 have hY1:2147483648≤Y / 4294967296:=by omega
 generalize fY1:Y / 4294967296=Y1 at *
 generalize Y % 4294967296=Y0 at *
 have nY:¬Y1=0:=by omega
 have q1:IntKind.u64.wrap (U.tdiv Y1)=U / Y1:=by
  rw[IntKind.wrap_u64,Int.tdiv_eq_ediv_of_nonneg hU0]
  have:=(Inv.bd kn1 st1).2.2.2.2.2.2;exact Int.emod_eq_of_lt this.1 this.2.1
 have r1:IntKind.u64.wrap (U-IntKind.u64.wrap (U / Y1*Y1))=U % Y1:=by
  have e:=st1.e
  have l1:=st1.r0
  have l2:=st1.r1
  rw[IntKind.wrap_u64,IntKind.wrap_u64]
  generalize U / Y1*Y1=P at *
  omega
 have q2:IntKind.u64.wrap (R.tdiv Y1)=R / Y1:=by
  rw[IntKind.wrap_u64,Int.tdiv_eq_ediv_of_nonneg rb1.1]
  have:=(Inv.bd kn2 st2).2.2.2.2.2.2;exact Int.emod_eq_of_lt this.1 this.2.1
 have r2:IntKind.u64.wrap (R-IntKind.u64.wrap (R / Y1*Y1))=R % Y1:=by
  have e:=st2.e
  have l1:=st2.r0
  have l2:=st2.r1
  rw[IntKind.wrap_u64,IntKind.wrap_u64]
  generalize R / Y1*Y1=P at *
  omega
 have u1:IntKind.u64.wrap (IntKind.u64.wrap (IntKind.u64.wrap (U*4294967296)+V1)-IntKind.u64.wrap (T1*Y))=R:=by
  rw[IntKind.wrap_u64,IntKind.wrap_u64,IntKind.wrap_u64,IntKind.wrap_u64]
  generalize T1*Y=P at *
  omega
 have u2:IntKind.u64.wrap (IntKind.u64.wrap (IntKind.u64.wrap (R*4294967296)+V0)-IntKind.u64.wrap (T2*Y))=R2:=by
  rw[IntKind.wrap_u64,IntKind.wrap_u64,IntKind.wrap_u64,IntKind.wrap_u64]
  generalize T2*Y=P at *
  omega
 have qq:IntKind.u64.wrap (IntKind.u64.wrap (T1*4294967296)+T2)=(h*18446744073709551616+lo) / y:=by
  rw[IntKind.wrap_u64,IntKind.wrap_u64,←bk.1,ts.1];omega
 have rr:R2 / 2 ^ s=(h*18446744073709551616+lo) % y:=by rw[←bk.2,ts.2]
 replace f1:IntKind.u64.wrap (y*2 ^ s)=Y:=by rw[hYe];exact f1
 have Hk1:=Lib.hid kn1
 have Hk2:=Lib.hid kn2
 have Hs1:=Lib.hid st1
 have Hs2:=Lib.hid st2
 have HT1:=Lib.hid tq1
 have HT2:=Lib.hid tq2
 clear kn1 kn2 st1 st2 tq1 tq2 tb1 tb2 ts bk hT1 hT2 re1 re2 rb1 rb2 kY hVV hYe hVe p1 p2 p3 p4 p5 p6 p7 hU0 ys1
 generalize (h*18446744073709551616+lo) / y=QQ at *
 generalize (h*18446744073709551616+lo) % y=RR at *
 go_enter Try.func91,Try.ntmps91
 go_wp2_with (go_at_call 98;refine(Try.bits_LeadingZeros64 y _ (by omega) (by omega)).mono ?_;rintro e w1 ⟨rfl,rfl⟩;rw[hs'])
 go_loopw [15,16] (fun qv rv wl=>∃ q r:Int,qv = .int .u64 q∧rv = .int .u64 r∧wl=w1∧Hid (Inv Y1 Y0 U V1 q r)) (fun qv _ _=>(intOf qv).toNat)
 case atStart=>exact⟨_,_,rfl,rfl,rfl,Hs1⟩
 case round=>
  obtain⟨q,r,rfl,rfl,rfl,hI⟩:=hrel
  have hI':=hI.out
  have ⟨m1,m2,m3,m4,m5,m6,m7,m8,m9,m10⟩:=Inv.bd Hk1.out hI'
  have i1:IntKind.u64.wrap (q*Y0)=q*Y0:=by rw[IntKind.wrap_u64];exact Int.emod_eq_of_lt m1 m2
  have i2:IntKind.u64.wrap (4294967296*r)=4294967296*r:=by rw[IntKind.wrap_u64];exact Int.emod_eq_of_lt m3 m4
  have i3:IntKind.u64.wrap (4294967296*r+V1)=4294967296*r+V1:=by rw[IntKind.wrap_u64];exact Int.emod_eq_of_lt m5 m6
  have i4:IntKind.u64.wrap (r+Y1)=r+Y1:=by rw[IntKind.wrap_u64];exact Int.emod_eq_of_lt m9 m10
  by_cases hd:Due Y0 V1 q r
  ·by_cases hl:r+Y1<4294967296
   ·have ⟨hN,hp⟩:=Inv.more Hk1.out hI' hd hl
    have i5:IntKind.u64.wrap (q-1)=q-1:=by rw[IntKind.wrap_u64];omega
    have HN:=Lib.hid hN
    have hn1:¬4294967296≤r+Y1:=by omega
    clear hN hI' m1 m2 m3 m4 m5 m6 m9 m10
    rcases hd with g|g
    ·go_wp2
     go_roundw
     case rel=>exact⟨_,_,rfl,rfl,by trivial,HN⟩
     case measure=>simp [intOf];omega
    ·by_cases g2:4294967296≤q
     ·go_wp2
      go_roundw
      case rel=>exact⟨_,_,rfl,rfl,by trivial,HN⟩
      case measure=>simp [intOf];omega
     ·go_wp2
      go_roundw
      case rel=>exact⟨_,_,rfl,rfl,by trivial,HN⟩
      case measure=>simp [intOf];omega
   ·have ⟨hT,hp⟩:=Inv.broke Hk1.out hI' hd (by omega)
    have i5:IntKind.u64.wrap (q-1)=T1:=by rw[IntKind.wrap_u64,←HT1.out,←hT];omega
    have hn1:4294967296≤r+Y1:=by omega
    clear hT hI' m1 m2 m3 m4 m5 m6 m9 m10
    by_cases g2:4294967296≤q
    ·clear hd
     go_wp2
     try clear i5
     try clear i4
     try clear i3
     try clear i2
     try clear i1
     try clear hn1
     try clear g1
     try clear g2
     try clear g3
     try clear hl
     try clear hp
     try clear hI
     try clear m7
     try clear m8
     go_loopw [18,16] (fun qv rv wl=>∃ q r:Int,qv = .int .u64 q∧rv = .int .u64 r∧wl=wr∧Hid (Inv Y1 Y0 R V0 q r)) (fun qv _ _=>(intOf qv).toNat)
     case atStart=>exact⟨_,_,rfl,rfl,rfl,Hs2⟩
     case round=>
      obtain⟨q,r,rfl,rfl,rfl,hI⟩:=hrel
      have hI':=hI.out
      have ⟨m1,m2,m3,m4,m5,m6,m7,m8,m9,m10⟩:=Inv.bd Hk2.out hI'
      have i1:IntKind.u64.wrap (q*Y0)=q*Y0:=by rw[IntKind.wrap_u64];exact Int.emod_eq_of_lt m1 m2
      have i2:IntKind.u64.wrap (4294967296*r)=4294967296*r:=by rw[IntKind.wrap_u64];exact Int.emod_eq_of_lt m3 m4
      have i3:IntKind.u64.wrap (4294967296*r+V0)=4294967296*r+V0:=by rw[IntKind.wrap_u64];exact Int.emod_eq_of_lt m5 m6
      have i4:IntKind.u64.wrap (r+Y1)=r+Y1:=by rw[IntKind.wrap_u64];exact Int.emod_eq_of_lt m9 m10
      by_cases hd:Due Y0 V0 q r
      ·by_cases hl:r+Y1<4294967296
       ·have ⟨hN,hp⟩:=Inv.more Hk2.out hI' hd hl
        have i5:IntKind.u64.wrap (q-1)=q-1:=by rw[IntKind.wrap_u64];omega
        have HN:=Lib.hid hN
        have hn1:¬4294967296≤r+Y1:=by omega
        clear hN hI' m1 m2 m3 m4 m5 m6 m9 m10
        rcases hd with g|g
        ·go_wp2
         go_roundw
         case rel=>exact⟨_,_,rfl,rfl,by trivial,HN⟩
         case measure=>simp [intOf];omega
        ·by_cases g2:4294967296≤q
         ·go_wp2
          go_roundw
          case rel=>exact⟨_,_,rfl,rfl,by trivial,HN⟩
          case measure=>simp [intOf];omega
         ·go_wp2
          go_roundw
          case rel=>exact⟨_,_,rfl,rfl,by trivial,HN⟩
          case measure=>simp [intOf];omega
       ·have ⟨hT,hp⟩:=Inv.broke Hk2.out hI' hd (by omega)
        have i5:IntKind.u64.wrap (q-1)=T2:=by rw[IntKind.wrap_u64,←HT2.out,←hT];omega
        have hn1:4294967296≤r+Y1:=by omega
        clear hT hI' m1 m2 m3 m4 m5 m6 m9 m10
        by_cases g2:4294967296≤q
        ·clear hd
         go_wp2
         exact bodyPost_ret (v := .tuple #[.int .u64 QQ,.int .u64 RR]) (by simp [results,Try.results91,go_sem]) rfl ⟨rfl,aD _⟩
        ·have g3:4294967296*r+V0<q*Y0:=by rcases hd with g|g;exact absurd g g2;exact g
         clear hd
         go_wp2
         exact bodyPost_ret (v := .tuple #[.int .u64 QQ,.int .u64 RR]) (by simp [results,Try.results91,go_sem]) rfl ⟨rfl,aD _⟩
      ·have g1:¬4294967296≤q:=fun g=>hd (Or.inl g)
       have g2:¬4294967296*r+V0<q*Y0:=fun g=>hd (Or.inr g)
       have hT:q=T2:=(Inv.done Hk2.out hI' (by omega)).trans HT2.out
       clear hd hI' m1 m2 m3 m4 m5 m6 m9 m10
       subst hT
       go_wp2
       exact bodyPost_ret (v := .tuple #[.int .u64 QQ,.int .u64 RR]) (by simp [results,Try.results91,go_sem]) rfl ⟨rfl,aD _⟩
    ·have g3:4294967296*r+V1<q*Y0:=by rcases hd with g|g;exact absurd g g2;exact g
     clear hd
     go_wp2
     try clear i5
     try clear i4
     try clear i3
     try clear i2
     try clear i1
     try clear hn1
     try clear g1
     try clear g2
     try clear g3
     try clear hl
     try clear hp
     try clear hI
     try clear m7
     try clear m8
     go_loopw [18,16] (fun qv rv wl=>∃ q r:Int,qv = .int .u64 q∧rv = .int .u64 r∧wl=wr∧Hid (Inv Y1 Y0 R V0 q r)) (fun qv _ _=>(intOf qv).toNat)
     case atStart=>exact⟨_,_,rfl,rfl,rfl,Hs2⟩
     case round=>
      obtain⟨q,r,rfl,rfl,rfl,hI⟩:=hrel
      have hI':=hI.out
      have ⟨m1,m2,m3,m4,m5,m6,m7,m8,m9,m10⟩:=Inv.bd Hk2.out hI'
      have i1:IntKind.u64.wrap (q*Y0)=q*Y0:=by rw[IntKind.wrap_u64];exact Int.emod_eq_of_lt m1 m2
      have i2:IntKind.u64.wrap (4294967296*r)=4294967296*r:=by rw[IntKind.wrap_u64];exact Int.emod_eq_of_lt m3 m4
      have i3:IntKind.u64.wrap (4294967296*r+V0)=4294967296*r+V0:=by rw[IntKind.wrap_u64];exact Int.emod_eq_of_lt m5 m6
      have i4:IntKind.u64.wrap (r+Y1)=r+Y1:=by rw[IntKind.wrap_u64];exact Int.emod_eq_of_lt m9 m10
      by_cases hd:Due Y0 V0 q r
      ·by_cases hl:r+Y1<4294967296
       ·have ⟨hN,hp⟩:=Inv.more Hk2.out hI' hd hl
        have i5:IntKind.u64.wrap (q-1)=q-1:=by rw[IntKind.wrap_u64];omega
        have HN:=Lib.hid hN
        have hn1:¬4294967296≤r+Y1:=by omega
        clear hN hI' m1 m2 m3 m4 m5 m6 m9 m10
        rcases hd with g|g
        ·go_wp2
         go_roundw
         case rel=>exact⟨_,_,rfl,rfl,by trivial,HN⟩
         case measure=>simp [intOf];omega
        ·by_cases g2:4294967296≤q
         ·go_wp2
          go_roundw
          case rel=>exact⟨_,_,rfl,rfl,by trivial,HN⟩
          case measure=>simp [intOf];omega
         ·go_wp2
          go_roundw
          case rel=>exact⟨_,_,rfl,rfl,by trivial,HN⟩
          case measure=>simp [intOf];omega
       ·have ⟨hT,hp⟩:=Inv.broke Hk2.out hI' hd (by omega)
        have i5:IntKind.u64.wrap (q-1)=T2:=by rw[IntKind.wrap_u64,←HT2.out,←hT];omega
        have hn1:4294967296≤r+Y1:=by omega
        clear hT hI' m1 m2 m3 m4 m5 m6 m9 m10
        by_cases g2:4294967296≤q
        ·clear hd
         go_wp2
         exact bodyPost_ret (v := .tuple #[.int .u64 QQ,.int .u64 RR]) (by simp [results,Try.results91,go_sem]) rfl ⟨rfl,aD _⟩
        ·have g3:4294967296*r+V0<q*Y0:=by rcases hd with g|g;exact absurd g g2;exact g
         clear hd
         go_wp2
         exact bodyPost_ret (v := .tuple #[.int .u64 QQ,.int .u64 RR]) (by simp [results,Try.results91,go_sem]) rfl ⟨rfl,aD _⟩
      ·have g1:¬4294967296≤q:=fun g=>hd (Or.inl g)
       have g2:¬4294967296*r+V0<q*Y0:=fun g=>hd (Or.inr g)
       have hT:q=T2:=(Inv.done Hk2.out hI' (by omega)).trans HT2.out
       clear hd hI' m1 m2 m3 m4 m5 m6 m9 m10
       subst hT
       go_wp2
       exact bodyPost_ret (v := .tuple #[.int .u64 QQ,.int .u64 RR]) (by simp [results,Try.results91,go_sem]) rfl ⟨rfl,aD _⟩
  ·have g1:¬4294967296≤q:=fun g=>hd (Or.inl g)
   have g2:¬4294967296*r+V1<q*Y0:=fun g=>hd (Or.inr g)
   have hT:q=T1:=(Inv.done Hk1.out hI' (by omega)).trans HT1.out
   clear hd hI' m1 m2 m3 m4 m5 m6 m9 m10
   subst hT
   go_wp2
   try clear i5
   try clear i4
   try clear i3
   try clear i2
   try clear i1
   try clear hn1
   try clear g1
   try clear g2
   try clear g3
   try clear hl
   try clear hp
   try clear hI
   try clear m7
   try clear m8
   go_loopw [18,16] (fun qv rv wl=>∃ q r:Int,qv = .int .u64 q∧rv = .int .u64 r∧wl=wr∧Hid (Inv Y1 Y0 R V0 q r)) (fun qv _ _=>(intOf qv).toNat)
   case atStart=>exact⟨_,_,rfl,rfl,rfl,Hs2⟩
   case round=>
    obtain⟨q,r,rfl,rfl,rfl,hI⟩:=hrel
    have hI':=hI.out
    have ⟨m1,m2,m3,m4,m5,m6,m7,m8,m9,m10⟩:=Inv.bd Hk2.out hI'
    have i1:IntKind.u64.wrap (q*Y0)=q*Y0:=by rw[IntKind.wrap_u64];exact Int.emod_eq_of_lt m1 m2
    have i2:IntKind.u64.wrap (4294967296*r)=4294967296*r:=by rw[IntKind.wrap_u64];exact Int.emod_eq_of_lt m3 m4
    have i3:IntKind.u64.wrap (4294967296*r+V0)=4294967296*r+V0:=by rw[IntKind.wrap_u64];exact Int.emod_eq_of_lt m5 m6
    have i4:IntKind.u64.wrap (r+Y1)=r+Y1:=by rw[IntKind.wrap_u64];exact Int.emod_eq_of_lt m9 m10
    by_cases hd:Due Y0 V0 q r
    ·by_cases hl:r+Y1<4294967296
     ·have ⟨hN,hp⟩:=Inv.more Hk2.out hI' hd hl
      have i5:IntKind.u64.wrap (q-1)=q-1:=by rw[IntKind.wrap_u64];omega
      have HN:=Lib.hid hN
      have hn1:¬4294967296≤r+Y1:=by omega
      clear hN hI' m1 m2 m3 m4 m5 m6 m9 m10
      rcases hd with g|g
      ·go_wp2
       go_roundw
       case rel=>exact⟨_,_,rfl,rfl,by trivial,HN⟩
       case measure=>simp [intOf];omega
      ·by_cases g2:4294967296≤q
       ·go_wp2
        go_roundw
        case rel=>exact⟨_,_,rfl,rfl,by trivial,HN⟩
        case measure=>simp [intOf];omega
       ·go_wp2
        go_roundw
        case rel=>exact⟨_,_,rfl,rfl,by trivial,HN⟩
        case measure=>simp [intOf];omega
     ·have ⟨hT,hp⟩:=Inv.broke Hk2.out hI' hd (by omega)
      have i5:IntKind.u64.wrap (q-1)=T2:=by rw[IntKind.wrap_u64,←HT2.out,←hT];omega
      have hn1:4294967296≤r+Y1:=by omega
      clear hT hI' m1 m2 m3 m4 m5 m6 m9 m10
      by_cases g2:4294967296≤q
      ·clear hd
       go_wp2
       exact bodyPost_ret (v := .tuple #[.int .u64 QQ,.int .u64 RR]) (by simp [results,Try.results91,go_sem]) rfl ⟨rfl,aD _⟩
      ·have g3:4294967296*r+V0<q*Y0:=by rcases hd with g|g;exact absurd g g2;exact g
       clear hd
       go_wp2
       exact bodyPost_ret (v := .tuple #[.int .u64 QQ,.int .u64 RR]) (by simp [results,Try.results91,go_sem]) rfl ⟨rfl,aD _⟩
    ·have g1:¬4294967296≤q:=fun g=>hd (Or.inl g)
     have g2:¬4294967296*r+V0<q*Y0:=fun g=>hd (Or.inr g)
     have hT:q=T2:=(Inv.done Hk2.out hI' (by omega)).trans HT2.out
     clear hd hI' m1 m2 m3 m4 m5 m6 m9 m10
     subst hT
     go_wp2
     exact bodyPost_ret (v := .tuple #[.int .u64 QQ,.int .u64 RR]) (by simp [results,Try.results91,go_sem]) rfl ⟨rfl,aD _⟩
theorem aIC (h lo y:Int) (hh:0≤h∧h<y) (hl:dZ lo) (hy:0<y∧y<18446744073709551616) (w:World):Calls Try.prog 91 #[.int .u64 h,.int .u64 lo,.int .u64 y] w fun e w'=>e = .returned (.tuple #[.int .u64 ((h*18446744073709551616+lo) / y),.int .u64 ((h*18446744073709551616+lo) % y)])∧Below w.heap.size w w':=by
 by_cases h0:h=0
 ·subst h0
  have e:0*18446744073709551616+lo=lo:=by omega
  rw[e];exact aAJ lo y hl hy w
 ·exact aD9 h lo y ⟨by omega,hh.2⟩ hl hy w
set_option maxHeartbeats 800000 in
theorem mP (x0 x1 d:Int) (h0:dZ x0) (h1:dZ x1) (hd:0<d∧d<18446744073709551616) (w:World):Calls Try.prog 77 #[.agg #[.int .u64 x0,.int .u64 x1,.int .u64 0],.int .u64 d] w fun e w'=>e = .returned (.tuple #[.agg #[.int .u64 ((x1 % d*18446744073709551616+x0) / d),.int .u64 (x1 / d),.int .u64 0],.int .u64 ((x1 % d*18446744073709551616+x0) % d)])∧Below w.heap.size w w':=by
 have hm:0≤x1 % d∧x1 % d<d:=⟨Int.emod_nonneg _ (by omega),Int.emod_lt_of_pos _ hd.1⟩
 go_enter Try.func77,Try.ntmps77
 go_wp2
 obtain⟨w0,hw0⟩:∃ x:World,x=((w.alloc (.cells #[.int .u64 x0,.int .u64 x1,.int .u64 0] 105)).alloc (.cells #[.int .u64 0,.int .u64 0,.int .u64 0] 105)):=⟨_,rfl⟩
 have k0:w0.cell? ⟨w.heap.size,0,none⟩=some (.int .u64 x0):=by rw[hw0];repeat (first|(refine aP ?_ rfl;(simp;done))|refine aQ ?_)
 have k1:w0.cell? ⟨w.heap.size,1,none⟩=some (.int .u64 x1):=by rw[hw0];repeat (first|(refine aP ?_ rfl;(simp;done))|refine aQ ?_)
 have k2:w0.cell? ⟨w.heap.size,2,none⟩=some (.int .u64 0):=by rw[hw0];repeat (first|(refine aP ?_ rfl;(simp;done))|refine aQ ?_)
 have k3:w0.cell? ⟨w.heap.size+1,0,none⟩=some (.int .u64 0):=by rw[hw0];repeat (first|(refine aP ?_ rfl;(simp;done))|refine aQ ?_)
 have k4:w0.cell? ⟨w.heap.size+1,1,none⟩=some (.int .u64 0):=by rw[hw0];repeat (first|(refine aP ?_ rfl;(simp;done))|refine aQ ?_)
 have k5:w0.cell? ⟨w.heap.size+1,2,none⟩=some (.int .u64 0):=by rw[hw0];repeat (first|(refine aP ?_ rfl;(simp;done))|refine aQ ?_)
 have z0:w.heap.size<w0.heap.size:=World.block_lt_of_cell? _ _ k0
 have z1:w.heap.size+1<w0.heap.size:=World.block_lt_of_cell? _ _ k3
 have hB:Below w.heap.size w w0:=by rw[hw0];repeat (with_reducible first|exact aD _|apply aA)
 have f1_0:w0.frozen? ⟨w.heap.size+1,0,none⟩=false:=by rw[hw0];repeat (first|(refine bH ?_;(simp;done))|(refine bI (by first|(simp;done)|(simp;omega)) ?_))
 have f1_1:w0.frozen? ⟨w.heap.size+1,1,none⟩=false:=by rw[hw0];repeat (first|(refine bH ?_;(simp;done))|(refine bI (by first|(simp;done)|(simp;omega)) ?_))
 have f1_2:w0.frozen? ⟨w.heap.size+1,2,none⟩=false:=by rw[hw0];repeat (first|(refine bH ?_;(simp;done))|(refine bI (by first|(simp;done)|(simp;omega)) ?_))
 rw[←hw0]
 clear hw0
 go_loopw [6,5] (fun i r wl=>(i = .int .i64 1∧r = .int .u64 0∧wl=w0)
   ∨(i = .int .i64 0∧r = .int .u64 (x1 % d)∧Hid (wl.cell? ⟨w.heap.size,0,none⟩=some (.int .u64 x0)∧wl.cell? ⟨w.heap.size,1,none⟩=some (.int .u64 x1)∧wl.cell? ⟨w.heap.size,2,none⟩=some (.int .u64 0)∧wl.cell? ⟨w.heap.size+1,0,none⟩=some (.int .u64 0)∧wl.cell? ⟨w.heap.size+1,1,none⟩=some (.int .u64 (x1 / d))∧wl.cell? ⟨w.heap.size+1,2,none⟩=some (.int .u64 0)∧wl.frozen? ⟨w.heap.size+1,0,none⟩=false∧wl.frozen? ⟨w.heap.size+1,1,none⟩=false∧wl.frozen? ⟨w.heap.size+1,2,none⟩=false∧Below w.heap.size w wl))
   ∨(i = .int .i64 (-1)∧r = .int .u64 ((x1 % d*18446744073709551616+x0) % d)∧Hid (wl.cell? ⟨w.heap.size,0,none⟩=some (.int .u64 x0)∧wl.cell? ⟨w.heap.size,1,none⟩=some (.int .u64 x1)∧wl.cell? ⟨w.heap.size,2,none⟩=some (.int .u64 0)∧wl.cell? ⟨w.heap.size+1,0,none⟩=some (.int .u64 ((x1 % d*18446744073709551616+x0) / d))∧wl.cell? ⟨w.heap.size+1,1,none⟩=some (.int .u64 (x1 / d))∧wl.cell? ⟨w.heap.size+1,2,none⟩=some (.int .u64 0)∧wl.frozen? ⟨w.heap.size+1,0,none⟩=false∧wl.frozen? ⟨w.heap.size+1,1,none⟩=false∧wl.frozen? ⟨w.heap.size+1,2,none⟩=false∧Below w.heap.size w wl)))
  (fun i _ _=>(intOf i+1).toNat)
 case atStart=>exact Or.inl ⟨rfl,rfl,rfl⟩
 case round=>
  rcases hrel with⟨rfl,rfl,rfl⟩|⟨rfl,rfl,hP⟩|⟨rfl,rfl,hP⟩
  ·go_wp2_with (go_at_call 91;refine(aAJ x1 d h1 hd _).mono ?_;rintro e w1 ⟨rfl,hb1⟩;replace f1_0:=aJ (aE hb1 (by repeat (with_reducible first|exact aD _|apply aA|apply aC))) k3 f1_0;replace f1_1:=aJ (aE hb1 (by repeat (with_reducible first|exact aD _|apply aA|apply aC))) k4 f1_1;replace f1_2:=aJ (aE hb1 (by repeat (with_reducible first|exact aD _|apply aA|apply aC))) k5 f1_2;replace hB:=aE hb1 (by repeat (with_reducible first|exact hB|apply aA|apply aC));replace k0:=cell_later (aE hb1 (by repeat (with_reducible first|exact aD _|apply aA|apply aC))) k0;replace k1:=cell_later (aE hb1 (by repeat (with_reducible first|exact aD _|apply aA|apply aC))) k1;replace k2:=cell_later (aE hb1 (by repeat (with_reducible first|exact aD _|apply aA|apply aC))) k2;replace k3:=cell_later (aE hb1 (by repeat (with_reducible first|exact aD _|apply aA|apply aC))) k3;replace k4:=cell_later (aE hb1 (by repeat (with_reducible first|exact aD _|apply aA|apply aC))) k4;replace k5:=cell_later (aE hb1 (by repeat (with_reducible first|exact aD _|apply aA|apply aC))) k5;replace z0:=World.block_lt_of_cell? _ _ k0;replace z1:=World.block_lt_of_cell? _ _ k3;simp only[]at z0 z1;clear hb1)
   go_roundw
   case rel=>exact Or.inr (Or.inl ⟨rfl,by trivial,Lib.hid ⟨(aB (by omega) k0),(aB (by omega) k1),(aB (by omega) k2),(aB (by omega) k3),(aV k4),(aB (by omega) k5),(by (repeat rw[World.frozen?_setCell]);exact f1_0),(by (repeat rw[World.frozen?_setCell]);exact f1_1),(by (repeat rw[World.frozen?_setCell]);exact f1_2),(by repeat (with_reducible first|exact hB|refine bN _ (by omega) ?_))⟩⟩)
   case measure=>simp [intOf]
  ·clear k0 k1 k2 k3 k4 k5 z0 z1 f1_0 f1_1 f1_2 hB
   obtain⟨k0,k1,k2,k3,k4,k5,f1_0,f1_1,f1_2,hB⟩:=hP.out
   clear hP
   have z0:w.heap.size<wr.heap.size:=World.block_lt_of_cell? _ _ k0
   have z1:w.heap.size+1<wr.heap.size:=World.block_lt_of_cell? _ _ k3
   go_wp2_with (go_at_call 91;refine(aIC (x1 % d) x0 d hm h0 hd _).mono ?_;rintro e w1 ⟨rfl,hb1⟩;replace f1_0:=aJ (aE hb1 (by repeat (with_reducible first|exact aD _|apply aA|apply aC))) k3 f1_0;replace f1_1:=aJ (aE hb1 (by repeat (with_reducible first|exact aD _|apply aA|apply aC))) k4 f1_1;replace f1_2:=aJ (aE hb1 (by repeat (with_reducible first|exact aD _|apply aA|apply aC))) k5 f1_2;replace hB:=aE hb1 (by repeat (with_reducible first|exact hB|apply aA|apply aC));replace k0:=cell_later (aE hb1 (by repeat (with_reducible first|exact aD _|apply aA|apply aC))) k0;replace k1:=cell_later (aE hb1 (by repeat (with_reducible first|exact aD _|apply aA|apply aC))) k1;replace k2:=cell_later (aE hb1 (by repeat (with_reducible first|exact aD _|apply aA|apply aC))) k2;replace k3:=cell_later (aE hb1 (by repeat (with_reducible first|exact aD _|apply aA|apply aC))) k3;replace k4:=cell_later (aE hb1 (by repeat (with_reducible first|exact aD _|apply aA|apply aC))) k4;replace k5:=cell_later (aE hb1 (by repeat (with_reducible first|exact aD _|apply aA|apply aC))) k5;replace z0:=World.block_lt_of_cell? _ _ k0;replace z1:=World.block_lt_of_cell? _ _ k3;simp only[]at z0 z1;clear hb1)
   go_roundw
   case rel=>exact Or.inr (Or.inr ⟨rfl,by trivial,Lib.hid ⟨(aB (by omega) k0),(aB (by omega) k1),(aB (by omega) k2),(aV k3),(aB (by omega) k4),(aB (by omega) k5),(by (repeat rw[World.frozen?_setCell]);exact f1_0),(by (repeat rw[World.frozen?_setCell]);exact f1_1),(by (repeat rw[World.frozen?_setCell]);exact f1_2),(by repeat (with_reducible first|exact hB|refine bN _ (by omega) ?_))⟩⟩)
   case measure=>simp [intOf]
  ·clear k0 k1 k2 k3 k4 k5 z0 z1 f1_0 f1_1 f1_2 hB
   obtain⟨k0,k1,k2,k3,k4,k5,f1_0,f1_1,f1_2,hB⟩:=hP.out
   clear hP
   have z0:w.heap.size<wr.heap.size:=World.block_lt_of_cell? _ _ k0
   have z1:w.heap.size+1<wr.heap.size:=World.block_lt_of_cell? _ _ k3
   go_wp2
   exact bodyPost_ret (v := .tuple #[.agg #[.int .u64 ((x1 % d*18446744073709551616+x0) / d),.int .u64 (x1 / d),.int .u64 0],.int .u64 ((x1 % d*18446744073709551616+x0) % d)]) (by simp [results,Try.results77,go_sem, *]) rfl ⟨rfl,by repeat (with_reducible first|exact hB|refine bN _ (by omega) ?_|apply aA|apply aC)⟩
set_option maxHeartbeats 800000 in
theorem aID (a d q r:Int) (ha:kW a) (hd:0<d) (hd':d≤9223372036854775807) (hn:¬a<0) (hq0:q=a / d) (hr0:r=a % d) (w:World):Calls Try.prog 64 #[.agg #[.int .i64 (hi (a)),.int .u64 (lo (a))],.int .i64 d] w fun e w'=>e = .returned (.tuple #[.agg #[.int .i64 (hi (q)),.int .u64 (lo (q))],.int .i64 r,.int .i64 0])∧Below w.heap.size w w':=by
 have l1:dZ (d0 (bV a)):=by unfold dZ d0;omega
 have l2:dZ (d1 (bV a)):=by unfold dZ d1;omega
 have hmb:bV a<340282366920938463463374607431768211456:=by unfold bV;unfold kW at ha;split<;>omega
 obtain⟨q0,q1,q2⟩:=tK (bV a) d (kV a) hmb hd
 have c1:IntKind.u64.wrap d=d:=by rw[IntKind.wrap_u64];omega
 have r0:=Int.emod_nonneg (bV a) (show d≠0 by omega)
 have r1:=Int.emod_lt_of_pos (bV a) hd
 have m0:0≤bV a / d:=Int.ediv_nonneg (kV a) (by omega)
 have m1:bV a / d≤bV a:=Int.ediv_le_self _ (kV a)
 have hs:decide (a<0)=false:=decide_eq_false hn
 have hma:bV a=a:=if_neg hn
 have ha2:a<170141183460469231731687303715884105728:=ha.2
 have hf:lQ false (bV a / d):=⟨m0,Or.inl (by omega)⟩
 have es:sgn false (bV a / d)=q:=by rw[hma,hq0];rfl
 have er:bV a % d=r:=by rw[hma,hr0]
 rw[er]at r0 r1 q2
 have nd:¬d<1:=by omega
 have c2:IntKind.i64.wrap r=r:=IntWalk.i64_in _ (by omega)
 clear hma hmb m0 m1 hq0 hr0 ha2
 go_enter Try.func64,Try.ntmps64
 go_wp2_with fail
 obtain⟨w0,hw0⟩:∃ x:World,x=((w.alloc (.cells #[.int .i64 (hi (a)),.int .u64 (lo (a))] 35)).alloc (.cells #[.int .i64 0,.int .u64 0] 35)):=⟨_,rfl⟩
 have k0:w0.cell? ⟨w.heap.size,0,none⟩=some (.int .i64 (hi (a))):=by rw[hw0];repeat (first|(refine aP ?_ rfl;(simp;done))|refine aQ ?_)
 have k1:w0.cell? ⟨w.heap.size,1,none⟩=some (.int .u64 (lo (a))):=by rw[hw0];repeat (first|(refine aP ?_ rfl;(simp;done))|refine aQ ?_)
 have k2:w0.cell? ⟨w.heap.size+1,0,none⟩=some (.int .i64 0):=by rw[hw0];repeat (first|(refine aP ?_ rfl;(simp;done))|refine aQ ?_)
 have k3:w0.cell? ⟨w.heap.size+1,1,none⟩=some (.int .u64 0):=by rw[hw0];repeat (first|(refine aP ?_ rfl;(simp;done))|refine aQ ?_)
 have z0:w.heap.size<w0.heap.size:=World.block_lt_of_cell? _ _ k0
 have z1:w.heap.size+1<w0.heap.size:=World.block_lt_of_cell? _ _ k2
 have hB:Below w.heap.size w w0:=by rw[hw0];repeat (with_reducible first|exact aD _|apply aA)
 have f1_0:w0.frozen? ⟨w.heap.size+1,0,none⟩=false:=by rw[hw0];repeat (first|(refine bH ?_;(simp;done))|(refine bI (by first|(simp;done)|(simp;omega)) ?_))
 have f1_1:w0.frozen? ⟨w.heap.size+1,1,none⟩=false:=by rw[hw0];repeat (first|(refine bH ?_;(simp;done))|(refine bI (by first|(simp;done)|(simp;omega)) ?_))
 rw[←hw0]
 clear hw0
 refine(sV a ha _).mono ?_
 rintro e w1 ⟨rfl,hb1⟩
 replace f1_0:=aJ (aE hb1 (by repeat (with_reducible first|exact aD _|apply aA|apply aC))) k2 f1_0
 replace f1_1:=aJ (aE hb1 (by repeat (with_reducible first|exact aD _|apply aA|apply aC))) k3 f1_1
 replace hB:=aE hb1 (by repeat (with_reducible first|exact hB|apply aA|apply aC))
 replace k0:=cell_later (aE hb1 (by repeat (with_reducible first|exact aD _|apply aA|apply aC))) k0
 replace k1:=cell_later (aE hb1 (by repeat (with_reducible first|exact aD _|apply aA|apply aC))) k1
 replace k2:=cell_later (aE hb1 (by repeat (with_reducible first|exact aD _|apply aA|apply aC))) k2
 replace k3:=cell_later (aE hb1 (by repeat (with_reducible first|exact aD _|apply aA|apply aC))) k3
 replace z0:=World.block_lt_of_cell? _ _ k0
 replace z1:=World.block_lt_of_cell? _ _ k2
 simp only[]at z0 z1
 clear hb1
 rw[hs]
 go_wp2_with fail
 obtain⟨w2,hw0⟩:∃ x:World,x=(w1.alloc (.cells #[.bool false,.int .u64 (d0 (bV a)),.int .u64 (d1 (bV a)),.int .u64 0] 107)):=⟨_,rfl⟩
 replace f1_0:w2.frozen? ⟨w.heap.size+1,0,none⟩=false:=by rw[hw0];exact aJ (by repeat (with_reducible first|exact aD _|apply aA|apply aC)) k2 f1_0
 replace f1_1:w2.frozen? ⟨w.heap.size+1,1,none⟩=false:=by rw[hw0];exact aJ (by repeat (with_reducible first|exact aD _|apply aA|apply aC)) k3 f1_1
 replace k0:w2.cell? ⟨w.heap.size,0,none⟩=some (.int .i64 (hi (a))):=by rw[hw0];exact cell_later (by repeat (with_reducible first|exact aD _|apply aA|apply aC)) k0
 replace k1:w2.cell? ⟨w.heap.size,1,none⟩=some (.int .u64 (lo (a))):=by rw[hw0];exact cell_later (by repeat (with_reducible first|exact aD _|apply aA|apply aC)) k1
 replace k2:w2.cell? ⟨w.heap.size+1,0,none⟩=some (.int .i64 0):=by rw[hw0];exact cell_later (by repeat (with_reducible first|exact aD _|apply aA|apply aC)) k2
 replace k3:w2.cell? ⟨w.heap.size+1,1,none⟩=some (.int .u64 0):=by rw[hw0];exact cell_later (by repeat (with_reducible first|exact aD _|apply aA|apply aC)) k3
 have k4:w2.cell? ⟨w1.heap.size,0,none⟩=some (.bool false):=by rw[hw0];repeat (first|(refine aP ?_ rfl;(simp;done))|refine aQ ?_)
 have k5:w2.cell? ⟨w1.heap.size,1,none⟩=some (.int .u64 (d0 (bV a))):=by rw[hw0];repeat (first|(refine aP ?_ rfl;(simp;done))|refine aQ ?_)
 have k6:w2.cell? ⟨w1.heap.size,2,none⟩=some (.int .u64 (d1 (bV a))):=by rw[hw0];repeat (first|(refine aP ?_ rfl;(simp;done))|refine aQ ?_)
 have k7:w2.cell? ⟨w1.heap.size,3,none⟩=some (.int .u64 0):=by rw[hw0];repeat (first|(refine aP ?_ rfl;(simp;done))|refine aQ ?_)
 have z0:w.heap.size<w2.heap.size:=World.block_lt_of_cell? _ _ k0
 have z1:w.heap.size+1<w2.heap.size:=World.block_lt_of_cell? _ _ k2
 have z2:w1.heap.size<w2.heap.size:=World.block_lt_of_cell? _ _ k4
 replace hB:Below w.heap.size w w2:=by rw[hw0];repeat (with_reducible first|exact hB|apply aA)
 rw[←hw0]
 clear hw0
 refine(mP _ _ d l1 l2 ⟨by omega,by omega⟩ _).mono ?_
 rintro e w3 ⟨rfl,hb1⟩
 replace f1_0:=aJ (aE hb1 (by repeat (with_reducible first|exact aD _|apply aA|apply aC))) k2 f1_0
 replace f1_1:=aJ (aE hb1 (by repeat (with_reducible first|exact aD _|apply aA|apply aC))) k3 f1_1
 replace hB:=aE hb1 (by repeat (with_reducible first|exact hB|apply aA|apply aC))
 replace k0:=cell_later (aE hb1 (by repeat (with_reducible first|exact aD _|apply aA|apply aC))) k0
 replace k1:=cell_later (aE hb1 (by repeat (with_reducible first|exact aD _|apply aA|apply aC))) k1
 replace k2:=cell_later (aE hb1 (by repeat (with_reducible first|exact aD _|apply aA|apply aC))) k2
 replace k3:=cell_later (aE hb1 (by repeat (with_reducible first|exact aD _|apply aA|apply aC))) k3
 replace k4:=cell_later (aE hb1 (by repeat (with_reducible first|exact aD _|apply aA|apply aC))) k4
 replace k5:=cell_later (aE hb1 (by repeat (with_reducible first|exact aD _|apply aA|apply aC))) k5
 replace k6:=cell_later (aE hb1 (by repeat (with_reducible first|exact aD _|apply aA|apply aC))) k6
 replace k7:=cell_later (aE hb1 (by repeat (with_reducible first|exact aD _|apply aA|apply aC))) k7
 replace z0:=World.block_lt_of_cell? _ _ k0
 replace z1:=World.block_lt_of_cell? _ _ k2
 replace z2:=World.block_lt_of_cell? _ _ k4
 simp only[]at z0 z1 z2
 clear hb1
 rw[q0,q1,q2]
 go_wp2_with fail
 obtain⟨w4,hw0⟩:∃ x:World,x=(w3.alloc (.cells #[.int .u64 (d0 (bV a / d)),.int .u64 (d1 (bV a / d)),.int .u64 0] 105)):=⟨_,rfl⟩
 replace f1_0:w4.frozen? ⟨w.heap.size+1,0,none⟩=false:=by rw[hw0];exact aJ (by repeat (with_reducible first|exact aD _|apply aA|apply aC)) k2 f1_0
 replace f1_1:w4.frozen? ⟨w.heap.size+1,1,none⟩=false:=by rw[hw0];exact aJ (by repeat (with_reducible first|exact aD _|apply aA|apply aC)) k3 f1_1
 replace k0:w4.cell? ⟨w.heap.size,0,none⟩=some (.int .i64 (hi (a))):=by rw[hw0];exact cell_later (by repeat (with_reducible first|exact aD _|apply aA|apply aC)) k0
 replace k1:w4.cell? ⟨w.heap.size,1,none⟩=some (.int .u64 (lo (a))):=by rw[hw0];exact cell_later (by repeat (with_reducible first|exact aD _|apply aA|apply aC)) k1
 replace k2:w4.cell? ⟨w.heap.size+1,0,none⟩=some (.int .i64 0):=by rw[hw0];exact cell_later (by repeat (with_reducible first|exact aD _|apply aA|apply aC)) k2
 replace k3:w4.cell? ⟨w.heap.size+1,1,none⟩=some (.int .u64 0):=by rw[hw0];exact cell_later (by repeat (with_reducible first|exact aD _|apply aA|apply aC)) k3
 replace k4:w4.cell? ⟨w1.heap.size,0,none⟩=some (.bool false):=by rw[hw0];exact cell_later (by repeat (with_reducible first|exact aD _|apply aA|apply aC)) k4
 replace k5:w4.cell? ⟨w1.heap.size,1,none⟩=some (.int .u64 (d0 (bV a))):=by rw[hw0];exact cell_later (by repeat (with_reducible first|exact aD _|apply aA|apply aC)) k5
 replace k6:w4.cell? ⟨w1.heap.size,2,none⟩=some (.int .u64 (d1 (bV a))):=by rw[hw0];exact cell_later (by repeat (with_reducible first|exact aD _|apply aA|apply aC)) k6
 replace k7:w4.cell? ⟨w1.heap.size,3,none⟩=some (.int .u64 0):=by rw[hw0];exact cell_later (by repeat (with_reducible first|exact aD _|apply aA|apply aC)) k7
 have k8:w4.cell? ⟨w3.heap.size,0,none⟩=some (.int .u64 (d0 (bV a / d))):=by rw[hw0];repeat (first|(refine aP ?_ rfl;(simp;done))|refine aQ ?_)
 have k9:w4.cell? ⟨w3.heap.size,1,none⟩=some (.int .u64 (d1 (bV a / d))):=by rw[hw0];repeat (first|(refine aP ?_ rfl;(simp;done))|refine aQ ?_)
 have k10:w4.cell? ⟨w3.heap.size,2,none⟩=some (.int .u64 0):=by rw[hw0];repeat (first|(refine aP ?_ rfl;(simp;done))|refine aQ ?_)
 have z0:w.heap.size<w4.heap.size:=World.block_lt_of_cell? _ _ k0
 have z1:w.heap.size+1<w4.heap.size:=World.block_lt_of_cell? _ _ k2
 have z2:w1.heap.size<w4.heap.size:=World.block_lt_of_cell? _ _ k4
 have z3:w3.heap.size<w4.heap.size:=World.block_lt_of_cell? _ _ k8
 replace hB:Below w.heap.size w w4:=by rw[hw0];repeat (with_reducible first|exact hB|apply aA)
 rw[←hw0]
 clear hw0
 refine(nG _ _ hf _).mono ?_
 rintro e w5 ⟨rfl,hb1⟩
 replace f1_0:=aJ (aE hb1 (by repeat (with_reducible first|exact aD _|apply aA|apply aC))) k2 f1_0
 replace f1_1:=aJ (aE hb1 (by repeat (with_reducible first|exact aD _|apply aA|apply aC))) k3 f1_1
 replace hB:=aE hb1 (by repeat (with_reducible first|exact hB|apply aA|apply aC))
 replace k0:=cell_later (aE hb1 (by repeat (with_reducible first|exact aD _|apply aA|apply aC))) k0
 replace k1:=cell_later (aE hb1 (by repeat (with_reducible first|exact aD _|apply aA|apply aC))) k1
 replace k2:=cell_later (aE hb1 (by repeat (with_reducible first|exact aD _|apply aA|apply aC))) k2
 replace k3:=cell_later (aE hb1 (by repeat (with_reducible first|exact aD _|apply aA|apply aC))) k3
 replace k4:=cell_later (aE hb1 (by repeat (with_reducible first|exact aD _|apply aA|apply aC))) k4
 replace k5:=cell_later (aE hb1 (by repeat (with_reducible first|exact aD _|apply aA|apply aC))) k5
 replace k6:=cell_later (aE hb1 (by repeat (with_reducible first|exact aD _|apply aA|apply aC))) k6
 replace k7:=cell_later (aE hb1 (by repeat (with_reducible first|exact aD _|apply aA|apply aC))) k7
 replace k8:=cell_later (aE hb1 (by repeat (with_reducible first|exact aD _|apply aA|apply aC))) k8
 replace k9:=cell_later (aE hb1 (by repeat (with_reducible first|exact aD _|apply aA|apply aC))) k9
 replace k10:=cell_later (aE hb1 (by repeat (with_reducible first|exact aD _|apply aA|apply aC))) k10
 replace z0:=World.block_lt_of_cell? _ _ k0
 replace z1:=World.block_lt_of_cell? _ _ k2
 replace z2:=World.block_lt_of_cell? _ _ k4
 replace z3:=World.block_lt_of_cell? _ _ k8
 simp only[]at z0 z1 z2 z3
 clear hb1
 rw[es]
 go_wp2
 obtain⟨w9,hw0⟩:∃ x:World,x=((((w5.setCell ⟨w.heap.size+1,0,none⟩ (.int .i64 (hi q))).setCell ⟨w.heap.size+1,1,none⟩ (.int .u64 (lo q))).setCell ⟨w.heap.size+1,0,none⟩ (.int .i64 (hi q))).setCell ⟨w.heap.size+1,1,none⟩ (.int .u64 (lo q))):=⟨_,rfl⟩
 have new_k0:w9.cell? ⟨w.heap.size,0,none⟩=some (.int .i64 (hi (a))):=by rw[hw0];exact(aB (by omega) (aB (by omega) (aB (by omega) (aB (by omega) k0))))
 have new_k1:w9.cell? ⟨w.heap.size,1,none⟩=some (.int .u64 (lo (a))):=by rw[hw0];exact(aB (by omega) (aB (by omega) (aB (by omega) (aB (by omega) k1))))
 have new_k2:w9.cell? ⟨w.heap.size+1,0,none⟩=some (.int .i64 (hi q)):=by rw[hw0];exact(aB (by omega) (aV (aB (by omega) (aV k2))))
 have new_k3:w9.cell? ⟨w.heap.size+1,1,none⟩=some (.int .u64 (lo q)):=by rw[hw0];exact(aV (aB (by omega) (aV (aB (by omega) k3))))
 have new_k4:w9.cell? ⟨w1.heap.size,0,none⟩=some (.bool false):=by rw[hw0];exact(aB (by omega) (aB (by omega) (aB (by omega) (aB (by omega) k4))))
 have new_k5:w9.cell? ⟨w1.heap.size,1,none⟩=some (.int .u64 (d0 (bV a))):=by rw[hw0];exact(aB (by omega) (aB (by omega) (aB (by omega) (aB (by omega) k5))))
 have new_k6:w9.cell? ⟨w1.heap.size,2,none⟩=some (.int .u64 (d1 (bV a))):=by rw[hw0];exact(aB (by omega) (aB (by omega) (aB (by omega) (aB (by omega) k6))))
 have new_k7:w9.cell? ⟨w1.heap.size,3,none⟩=some (.int .u64 0):=by rw[hw0];exact(aB (by omega) (aB (by omega) (aB (by omega) (aB (by omega) k7))))
 have new_k8:w9.cell? ⟨w3.heap.size,0,none⟩=some (.int .u64 (d0 (bV a / d))):=by rw[hw0];exact(aB (by omega) (aB (by omega) (aB (by omega) (aB (by omega) k8))))
 have new_k9:w9.cell? ⟨w3.heap.size,1,none⟩=some (.int .u64 (d1 (bV a / d))):=by rw[hw0];exact(aB (by omega) (aB (by omega) (aB (by omega) (aB (by omega) k9))))
 have new_k10:w9.cell? ⟨w3.heap.size,2,none⟩=some (.int .u64 0):=by rw[hw0];exact(aB (by omega) (aB (by omega) (aB (by omega) (aB (by omega) k10))))
 replace f1_0:w9.frozen? ⟨w.heap.size+1,0,none⟩=false:=by rw[hw0];(repeat rw[World.frozen?_setCell]);exact f1_0
 replace f1_1:w9.frozen? ⟨w.heap.size+1,1,none⟩=false:=by rw[hw0];(repeat rw[World.frozen?_setCell]);exact f1_1
 replace hB:Below w.heap.size w w9:=by rw[hw0];repeat (with_reducible first|exact hB|refine bN _ (by omega) ?_)
 clear k0 k1 k2 k3 k4 k5 k6 k7 k8 k9 k10
 have k0:=new_k0;clear new_k0
 have k1:=new_k1;clear new_k1
 have k2:=new_k2;clear new_k2
 have k3:=new_k3;clear new_k3
 have k4:=new_k4;clear new_k4
 have k5:=new_k5;clear new_k5
 have k6:=new_k6;clear new_k6
 have k7:=new_k7;clear new_k7
 have k8:=new_k8;clear new_k8
 have k9:=new_k9;clear new_k9
 have k10:=new_k10;clear new_k10
 replace z0:w.heap.size<w9.heap.size:=World.block_lt_of_cell? _ _ k0
 replace z1:w.heap.size+1<w9.heap.size:=World.block_lt_of_cell? _ _ k2
 replace z2:w1.heap.size<w9.heap.size:=World.block_lt_of_cell? _ _ k4
 replace z3:w3.heap.size<w9.heap.size:=World.block_lt_of_cell? _ _ k8
 rw[←hw0]
 clear hw0
 exact bodyPost_ret (v := .tuple #[.agg #[.int .i64 (hi (q)),.int .u64 (lo (q))],.int .i64 r,.int .i64 0]) (by simp [results,Try.results64,go_sem, *]) rfl ⟨rfl,by repeat (with_reducible first|exact hB|refine bN _ (by omega) ?_|apply aA|apply aC)⟩
set_option maxHeartbeats 800000 in
theorem aHt (a d q r:Int) (ha:kW a) (hd:0<d) (hd':d≤9223372036854775807) (hn:a<0) (hz:bV a % d=0) (hq0:q=a / d) (hr0:r=a % d) (w:World):Calls Try.prog 64 #[.agg #[.int .i64 (hi (a)),.int .u64 (lo (a))],.int .i64 d] w fun e w'=>e = .returned (.tuple #[.agg #[.int .i64 (hi (q)),.int .u64 (lo (q))],.int .i64 r,.int .i64 0])∧Below w.heap.size w w':=by
 have l1:dZ (d0 (bV a)):=by unfold dZ d0;omega
 have l2:dZ (d1 (bV a)):=by unfold dZ d1;omega
 have hmb:bV a<340282366920938463463374607431768211456:=by unfold bV;unfold kW at ha;split<;>omega
 obtain⟨q0,q1,q2⟩:=tK (bV a) d (kV a) hmb hd
 have c1:IntKind.u64.wrap d=d:=by rw[IntKind.wrap_u64];omega
 have r0:=Int.emod_nonneg (bV a) (show d≠0 by omega)
 have r1:=Int.emod_lt_of_pos (bV a) hd
 have m0:0≤bV a / d:=Int.ediv_nonneg (kV a) (by omega)
 have m1:bV a / d≤bV a:=Int.ediv_le_self _ (kV a)
 have hs:decide (a<0)=true:=decide_eq_true hn
 have hma:bV a = -a:=if_pos hn
 have ha2 : -170141183460469231731687303715884105728≤a:=ha.1
 have hf:lQ true (bV a / d):=aCx _ _ m0 (by unfold kW sgn;rw[if_pos rfl];omega)
 have nf:=aHA (bV a) d hd hz
 have es:sgn true (bV a / d)=q:=by rw[hq0];show -(bV a / d)=a / d;rw[←nf.1,hma,Int.neg_neg]
 have er:r=0:=by rw[hr0,←nf.2,hma,Int.neg_neg]
 subst er
 rw[hz]at q2
 have nd:¬d<1:=by omega
 clear hma hmb m0 m1 hq0 hr0 ha2 nf hz r0 r1
 go_enter Try.func64,Try.ntmps64
 go_wp2_with fail
 obtain⟨w0,hw0⟩:∃ x:World,x=((w.alloc (.cells #[.int .i64 (hi (a)),.int .u64 (lo (a))] 35)).alloc (.cells #[.int .i64 0,.int .u64 0] 35)):=⟨_,rfl⟩
 have k0:w0.cell? ⟨w.heap.size,0,none⟩=some (.int .i64 (hi (a))):=by rw[hw0];repeat (first|(refine aP ?_ rfl;(simp;done))|refine aQ ?_)
 have k1:w0.cell? ⟨w.heap.size,1,none⟩=some (.int .u64 (lo (a))):=by rw[hw0];repeat (first|(refine aP ?_ rfl;(simp;done))|refine aQ ?_)
 have k2:w0.cell? ⟨w.heap.size+1,0,none⟩=some (.int .i64 0):=by rw[hw0];repeat (first|(refine aP ?_ rfl;(simp;done))|refine aQ ?_)
 have k3:w0.cell? ⟨w.heap.size+1,1,none⟩=some (.int .u64 0):=by rw[hw0];repeat (first|(refine aP ?_ rfl;(simp;done))|refine aQ ?_)
 have z0:w.heap.size<w0.heap.size:=World.block_lt_of_cell? _ _ k0
 have z1:w.heap.size+1<w0.heap.size:=World.block_lt_of_cell? _ _ k2
 have hB:Below w.heap.size w w0:=by rw[hw0];repeat (with_reducible first|exact aD _|apply aA)
 have f1_0:w0.frozen? ⟨w.heap.size+1,0,none⟩=false:=by rw[hw0];repeat (first|(refine bH ?_;(simp;done))|(refine bI (by first|(simp;done)|(simp;omega)) ?_))
 have f1_1:w0.frozen? ⟨w.heap.size+1,1,none⟩=false:=by rw[hw0];repeat (first|(refine bH ?_;(simp;done))|(refine bI (by first|(simp;done)|(simp;omega)) ?_))
 rw[←hw0]
 clear hw0
 refine(sV a ha _).mono ?_
 rintro e w1 ⟨rfl,hb1⟩
 replace f1_0:=aJ (aE hb1 (by repeat (with_reducible first|exact aD _|apply aA|apply aC))) k2 f1_0
 replace f1_1:=aJ (aE hb1 (by repeat (with_reducible first|exact aD _|apply aA|apply aC))) k3 f1_1
 replace hB:=aE hb1 (by repeat (with_reducible first|exact hB|apply aA|apply aC))
 replace k0:=cell_later (aE hb1 (by repeat (with_reducible first|exact aD _|apply aA|apply aC))) k0
 replace k1:=cell_later (aE hb1 (by repeat (with_reducible first|exact aD _|apply aA|apply aC))) k1
 replace k2:=cell_later (aE hb1 (by repeat (with_reducible first|exact aD _|apply aA|apply aC))) k2
 replace k3:=cell_later (aE hb1 (by repeat (with_reducible first|exact aD _|apply aA|apply aC))) k3
 replace z0:=World.block_lt_of_cell? _ _ k0
 replace z1:=World.block_lt_of_cell? _ _ k2
 simp only[]at z0 z1
 clear hb1
 rw[hs]
 go_wp2_with fail
 obtain⟨w2,hw0⟩:∃ x:World,x=(w1.alloc (.cells #[.bool true,.int .u64 (d0 (bV a)),.int .u64 (d1 (bV a)),.int .u64 0] 107)):=⟨_,rfl⟩
 replace f1_0:w2.frozen? ⟨w.heap.size+1,0,none⟩=false:=by rw[hw0];exact aJ (by repeat (with_reducible first|exact aD _|apply aA|apply aC)) k2 f1_0
 replace f1_1:w2.frozen? ⟨w.heap.size+1,1,none⟩=false:=by rw[hw0];exact aJ (by repeat (with_reducible first|exact aD _|apply aA|apply aC)) k3 f1_1
 replace k0:w2.cell? ⟨w.heap.size,0,none⟩=some (.int .i64 (hi (a))):=by rw[hw0];exact cell_later (by repeat (with_reducible first|exact aD _|apply aA|apply aC)) k0
 replace k1:w2.cell? ⟨w.heap.size,1,none⟩=some (.int .u64 (lo (a))):=by rw[hw0];exact cell_later (by repeat (with_reducible first|exact aD _|apply aA|apply aC)) k1
 replace k2:w2.cell? ⟨w.heap.size+1,0,none⟩=some (.int .i64 0):=by rw[hw0];exact cell_later (by repeat (with_reducible first|exact aD _|apply aA|apply aC)) k2
 replace k3:w2.cell? ⟨w.heap.size+1,1,none⟩=some (.int .u64 0):=by rw[hw0];exact cell_later (by repeat (with_reducible first|exact aD _|apply aA|apply aC)) k3
 have k4:w2.cell? ⟨w1.heap.size,0,none⟩=some (.bool true):=by rw[hw0];repeat (first|(refine aP ?_ rfl;(simp;done))|refine aQ ?_)
 have k5:w2.cell? ⟨w1.heap.size,1,none⟩=some (.int .u64 (d0 (bV a))):=by rw[hw0];repeat (first|(refine aP ?_ rfl;(simp;done))|refine aQ ?_)
 have k6:w2.cell? ⟨w1.heap.size,2,none⟩=some (.int .u64 (d1 (bV a))):=by rw[hw0];repeat (first|(refine aP ?_ rfl;(simp;done))|refine aQ ?_)
 have k7:w2.cell? ⟨w1.heap.size,3,none⟩=some (.int .u64 0):=by rw[hw0];repeat (first|(refine aP ?_ rfl;(simp;done))|refine aQ ?_)
 have z0:w.heap.size<w2.heap.size:=World.block_lt_of_cell? _ _ k0
 have z1:w.heap.size+1<w2.heap.size:=World.block_lt_of_cell? _ _ k2
 have z2:w1.heap.size<w2.heap.size:=World.block_lt_of_cell? _ _ k4
 replace hB:Below w.heap.size w w2:=by rw[hw0];repeat (with_reducible first|exact hB|apply aA)
 rw[←hw0]
 clear hw0
 refine(mP _ _ d l1 l2 ⟨by omega,by omega⟩ _).mono ?_
 rintro e w3 ⟨rfl,hb1⟩
 replace f1_0:=aJ (aE hb1 (by repeat (with_reducible first|exact aD _|apply aA|apply aC))) k2 f1_0
 replace f1_1:=aJ (aE hb1 (by repeat (with_reducible first|exact aD _|apply aA|apply aC))) k3 f1_1
 replace hB:=aE hb1 (by repeat (with_reducible first|exact hB|apply aA|apply aC))
 replace k0:=cell_later (aE hb1 (by repeat (with_reducible first|exact aD _|apply aA|apply aC))) k0
 replace k1:=cell_later (aE hb1 (by repeat (with_reducible first|exact aD _|apply aA|apply aC))) k1
 replace k2:=cell_later (aE hb1 (by repeat (with_reducible first|exact aD _|apply aA|apply aC))) k2
 replace k3:=cell_later (aE hb1 (by repeat (with_reducible first|exact aD _|apply aA|apply aC))) k3
 replace k4:=cell_later (aE hb1 (by repeat (with_reducible first|exact aD _|apply aA|apply aC))) k4
 replace k5:=cell_later (aE hb1 (by repeat (with_reducible first|exact aD _|apply aA|apply aC))) k5
 replace k6:=cell_later (aE hb1 (by repeat (with_reducible first|exact aD _|apply aA|apply aC))) k6
 replace k7:=cell_later (aE hb1 (by repeat (with_reducible first|exact aD _|apply aA|apply aC))) k7
 replace z0:=World.block_lt_of_cell? _ _ k0
 replace z1:=World.block_lt_of_cell? _ _ k2
 replace z2:=World.block_lt_of_cell? _ _ k4
 simp only[]at z0 z1 z2
 clear hb1
 rw[q0,q1,q2]
 go_wp2_with fail
 obtain⟨w4,hw0⟩:∃ x:World,x=(w3.alloc (.cells #[.int .u64 (d0 (bV a / d)),.int .u64 (d1 (bV a / d)),.int .u64 0] 105)):=⟨_,rfl⟩
 replace f1_0:w4.frozen? ⟨w.heap.size+1,0,none⟩=false:=by rw[hw0];exact aJ (by repeat (with_reducible first|exact aD _|apply aA|apply aC)) k2 f1_0
 replace f1_1:w4.frozen? ⟨w.heap.size+1,1,none⟩=false:=by rw[hw0];exact aJ (by repeat (with_reducible first|exact aD _|apply aA|apply aC)) k3 f1_1
 replace k0:w4.cell? ⟨w.heap.size,0,none⟩=some (.int .i64 (hi (a))):=by rw[hw0];exact cell_later (by repeat (with_reducible first|exact aD _|apply aA|apply aC)) k0
 replace k1:w4.cell? ⟨w.heap.size,1,none⟩=some (.int .u64 (lo (a))):=by rw[hw0];exact cell_later (by repeat (with_reducible first|exact aD _|apply aA|apply aC)) k1
 replace k2:w4.cell? ⟨w.heap.size+1,0,none⟩=some (.int .i64 0):=by rw[hw0];exact cell_later (by repeat (with_reducible first|exact aD _|apply aA|apply aC)) k2
 replace k3:w4.cell? ⟨w.heap.size+1,1,none⟩=some (.int .u64 0):=by rw[hw0];exact cell_later (by repeat (with_reducible first|exact aD _|apply aA|apply aC)) k3
 replace k4:w4.cell? ⟨w1.heap.size,0,none⟩=some (.bool true):=by rw[hw0];exact cell_later (by repeat (with_reducible first|exact aD _|apply aA|apply aC)) k4
 replace k5:w4.cell? ⟨w1.heap.size,1,none⟩=some (.int .u64 (d0 (bV a))):=by rw[hw0];exact cell_later (by repeat (with_reducible first|exact aD _|apply aA|apply aC)) k5
 replace k6:w4.cell? ⟨w1.heap.size,2,none⟩=some (.int .u64 (d1 (bV a))):=by rw[hw0];exact cell_later (by repeat (with_reducible first|exact aD _|apply aA|apply aC)) k6
 replace k7:w4.cell? ⟨w1.heap.size,3,none⟩=some (.int .u64 0):=by rw[hw0];exact cell_later (by repeat (with_reducible first|exact aD _|apply aA|apply aC)) k7
 have k8:w4.cell? ⟨w3.heap.size,0,none⟩=some (.int .u64 (d0 (bV a / d))):=by rw[hw0];repeat (first|(refine aP ?_ rfl;(simp;done))|refine aQ ?_)
 have k9:w4.cell? ⟨w3.heap.size,1,none⟩=some (.int .u64 (d1 (bV a / d))):=by rw[hw0];repeat (first|(refine aP ?_ rfl;(simp;done))|refine aQ ?_)
 have k10:w4.cell? ⟨w3.heap.size,2,none⟩=some (.int .u64 0):=by rw[hw0];repeat (first|(refine aP ?_ rfl;(simp;done))|refine aQ ?_)
 have z0:w.heap.size<w4.heap.size:=World.block_lt_of_cell? _ _ k0
 have z1:w.heap.size+1<w4.heap.size:=World.block_lt_of_cell? _ _ k2
 have z2:w1.heap.size<w4.heap.size:=World.block_lt_of_cell? _ _ k4
 have z3:w3.heap.size<w4.heap.size:=World.block_lt_of_cell? _ _ k8
 replace hB:Below w.heap.size w w4:=by rw[hw0];repeat (with_reducible first|exact hB|apply aA)
 rw[←hw0]
 clear hw0
 refine(nG _ _ hf _).mono ?_
 rintro e w5 ⟨rfl,hb1⟩
 replace f1_0:=aJ (aE hb1 (by repeat (with_reducible first|exact aD _|apply aA|apply aC))) k2 f1_0
 replace f1_1:=aJ (aE hb1 (by repeat (with_reducible first|exact aD _|apply aA|apply aC))) k3 f1_1
 replace hB:=aE hb1 (by repeat (with_reducible first|exact hB|apply aA|apply aC))
 replace k0:=cell_later (aE hb1 (by repeat (with_reducible first|exact aD _|apply aA|apply aC))) k0
 replace k1:=cell_later (aE hb1 (by repeat (with_reducible first|exact aD _|apply aA|apply aC))) k1
 replace k2:=cell_later (aE hb1 (by repeat (with_reducible first|exact aD _|apply aA|apply aC))) k2
 replace k3:=cell_later (aE hb1 (by repeat (with_reducible first|exact aD _|apply aA|apply aC))) k3
 replace k4:=cell_later (aE hb1 (by repeat (with_reducible first|exact aD _|apply aA|apply aC))) k4
 replace k5:=cell_later (aE hb1 (by repeat (with_reducible first|exact aD _|apply aA|apply aC))) k5
 replace k6:=cell_later (aE hb1 (by repeat (with_reducible first|exact aD _|apply aA|apply aC))) k6
 replace k7:=cell_later (aE hb1 (by repeat (with_reducible first|exact aD _|apply aA|apply aC))) k7
 replace k8:=cell_later (aE hb1 (by repeat (with_reducible first|exact aD _|apply aA|apply aC))) k8
 replace k9:=cell_later (aE hb1 (by repeat (with_reducible first|exact aD _|apply aA|apply aC))) k9
 replace k10:=cell_later (aE hb1 (by repeat (with_reducible first|exact aD _|apply aA|apply aC))) k10
 replace z0:=World.block_lt_of_cell? _ _ k0
 replace z1:=World.block_lt_of_cell? _ _ k2
 replace z2:=World.block_lt_of_cell? _ _ k4
 replace z3:=World.block_lt_of_cell? _ _ k8
 simp only[]at z0 z1 z2 z3
 clear hb1
 rw[es]
 go_wp2
 obtain⟨w9,hw0⟩:∃ x:World,x=((((w5.setCell ⟨w.heap.size+1,0,none⟩ (.int .i64 (hi q))).setCell ⟨w.heap.size+1,1,none⟩ (.int .u64 (lo q))).setCell ⟨w.heap.size+1,0,none⟩ (.int .i64 (hi q))).setCell ⟨w.heap.size+1,1,none⟩ (.int .u64 (lo q))):=⟨_,rfl⟩
 have new_k0:w9.cell? ⟨w.heap.size,0,none⟩=some (.int .i64 (hi (a))):=by rw[hw0];exact(aB (by omega) (aB (by omega) (aB (by omega) (aB (by omega) k0))))
 have new_k1:w9.cell? ⟨w.heap.size,1,none⟩=some (.int .u64 (lo (a))):=by rw[hw0];exact(aB (by omega) (aB (by omega) (aB (by omega) (aB (by omega) k1))))
 have new_k2:w9.cell? ⟨w.heap.size+1,0,none⟩=some (.int .i64 (hi q)):=by rw[hw0];exact(aB (by omega) (aV (aB (by omega) (aV k2))))
 have new_k3:w9.cell? ⟨w.heap.size+1,1,none⟩=some (.int .u64 (lo q)):=by rw[hw0];exact(aV (aB (by omega) (aV (aB (by omega) k3))))
 have new_k4:w9.cell? ⟨w1.heap.size,0,none⟩=some (.bool true):=by rw[hw0];exact(aB (by omega) (aB (by omega) (aB (by omega) (aB (by omega) k4))))
 have new_k5:w9.cell? ⟨w1.heap.size,1,none⟩=some (.int .u64 (d0 (bV a))):=by rw[hw0];exact(aB (by omega) (aB (by omega) (aB (by omega) (aB (by omega) k5))))
 have new_k6:w9.cell? ⟨w1.heap.size,2,none⟩=some (.int .u64 (d1 (bV a))):=by rw[hw0];exact(aB (by omega) (aB (by omega) (aB (by omega) (aB (by omega) k6))))
 have new_k7:w9.cell? ⟨w1.heap.size,3,none⟩=some (.int .u64 0):=by rw[hw0];exact(aB (by omega) (aB (by omega) (aB (by omega) (aB (by omega) k7))))
 have new_k8:w9.cell? ⟨w3.heap.size,0,none⟩=some (.int .u64 (d0 (bV a / d))):=by rw[hw0];exact(aB (by omega) (aB (by omega) (aB (by omega) (aB (by omega) k8))))
 have new_k9:w9.cell? ⟨w3.heap.size,1,none⟩=some (.int .u64 (d1 (bV a / d))):=by rw[hw0];exact(aB (by omega) (aB (by omega) (aB (by omega) (aB (by omega) k9))))
 have new_k10:w9.cell? ⟨w3.heap.size,2,none⟩=some (.int .u64 0):=by rw[hw0];exact(aB (by omega) (aB (by omega) (aB (by omega) (aB (by omega) k10))))
 replace f1_0:w9.frozen? ⟨w.heap.size+1,0,none⟩=false:=by rw[hw0];(repeat rw[World.frozen?_setCell]);exact f1_0
 replace f1_1:w9.frozen? ⟨w.heap.size+1,1,none⟩=false:=by rw[hw0];(repeat rw[World.frozen?_setCell]);exact f1_1
 replace hB:Below w.heap.size w w9:=by rw[hw0];repeat (with_reducible first|exact hB|refine bN _ (by omega) ?_)
 clear k0 k1 k2 k3 k4 k5 k6 k7 k8 k9 k10
 have k0:=new_k0;clear new_k0
 have k1:=new_k1;clear new_k1
 have k2:=new_k2;clear new_k2
 have k3:=new_k3;clear new_k3
 have k4:=new_k4;clear new_k4
 have k5:=new_k5;clear new_k5
 have k6:=new_k6;clear new_k6
 have k7:=new_k7;clear new_k7
 have k8:=new_k8;clear new_k8
 have k9:=new_k9;clear new_k9
 have k10:=new_k10;clear new_k10
 replace z0:w.heap.size<w9.heap.size:=World.block_lt_of_cell? _ _ k0
 replace z1:w.heap.size+1<w9.heap.size:=World.block_lt_of_cell? _ _ k2
 replace z2:w1.heap.size<w9.heap.size:=World.block_lt_of_cell? _ _ k4
 replace z3:w3.heap.size<w9.heap.size:=World.block_lt_of_cell? _ _ k8
 rw[←hw0]
 clear hw0
 exact bodyPost_ret (v := .tuple #[.agg #[.int .i64 (hi (q)),.int .u64 (lo (q))],.int .i64 0,.int .i64 0]) (by simp [results,Try.results64,go_sem, *]) rfl ⟨rfl,by repeat (with_reducible first|exact hB|refine bN _ (by omega) ?_|apply aA|apply aC)⟩
set_option maxHeartbeats 800000 in
theorem aD5 (a d q r:Int) (ha:kW a) (hd:0<d) (hd':d≤9223372036854775807) (hn:a<0) (hz:0<bV a % d) (hq0:q=a / d) (hr0:r=a % d) (w:World):Calls Try.prog 64 #[.agg #[.int .i64 (hi (a)),.int .u64 (lo (a))],.int .i64 d] w fun e w'=>e = .returned (.tuple #[.agg #[.int .i64 (hi (q)),.int .u64 (lo (q))],.int .i64 r,.int .i64 0])∧Below w.heap.size w w':=by
 have l1:dZ (d0 (bV a)):=by unfold dZ d0;omega
 have l2:dZ (d1 (bV a)):=by unfold dZ d1;omega
 have hmb:bV a<340282366920938463463374607431768211456:=by unfold bV;unfold kW at ha;split<;>omega
 obtain⟨q0,q1,q2⟩:=tK (bV a) d (kV a) hmb hd
 have c1:IntKind.u64.wrap d=d:=by rw[IntKind.wrap_u64];omega
 have r0:=Int.emod_nonneg (bV a) (show d≠0 by omega)
 have r1:=Int.emod_lt_of_pos (bV a) hd
 have m0:0≤bV a / d:=Int.ediv_nonneg (kV a) (by omega)
 have m1:bV a / d≤bV a:=Int.ediv_le_self _ (kV a)
 have hs:decide (a<0)=true:=decide_eq_true hn
 have hma:bV a = -a:=if_pos hn
 have ha2 : -170141183460469231731687303715884105728≤a:=ha.1
 have hf:lQ true (bV a / d):=aCx _ _ m0 (by unfold kW sgn;rw[if_pos rfl];omega)
 have nf:=aFz (bV a) d hd hz
 have es:sgn true (bV a / d) = -(bV a / d):=rfl
 have eq2 : -(bV a / d)-1=q:=by rw[hq0,←nf.1,hma,Int.neg_neg]
 have er:d-bV a % d=r:=by rw[hr0,←nf.2,hma,Int.neg_neg]
 have hq:kW (-(bV a / d)):=by unfold kW;omega
 have hone:kW 1:=by unfold kW;omega
 have kd:bV a / d<bV a:=by
  rcases Int.lt_or_le 1 d with g|g
  ·have:=Int.mul_le_mul_of_nonneg_left (show 2≤d by omega) (kV a)
   exact(Int.ediv_lt_iff_lt_mul hd).2 (by omega)
  ·have:d=1:=by omega
   subst this;simp at hz
 have hr:kW (-(bV a / d)-1):=by unfold kW;omega
 have c3:IntKind.u64.wrap (d-bV a % d)=r:=by rw[er,IntKind.wrap_u64];omega
 have nd:¬d<1:=by omega
 have c2:IntKind.i64.wrap r=r:=IntWalk.i64_in _ (by omega)
 clear hma hmb m0 m1 hq0 hr0 ha2 nf kd er
 go_enter Try.func64,Try.ntmps64
 go_wp2_with fail
 obtain⟨w0,hw0⟩:∃ x:World,x=((w.alloc (.cells #[.int .i64 (hi (a)),.int .u64 (lo (a))] 35)).alloc (.cells #[.int .i64 0,.int .u64 0] 35)):=⟨_,rfl⟩
 have k0:w0.cell? ⟨w.heap.size,0,none⟩=some (.int .i64 (hi (a))):=by rw[hw0];repeat (first|(refine aP ?_ rfl;(simp;done))|refine aQ ?_)
 have k1:w0.cell? ⟨w.heap.size,1,none⟩=some (.int .u64 (lo (a))):=by rw[hw0];repeat (first|(refine aP ?_ rfl;(simp;done))|refine aQ ?_)
 have k2:w0.cell? ⟨w.heap.size+1,0,none⟩=some (.int .i64 0):=by rw[hw0];repeat (first|(refine aP ?_ rfl;(simp;done))|refine aQ ?_)
 have k3:w0.cell? ⟨w.heap.size+1,1,none⟩=some (.int .u64 0):=by rw[hw0];repeat (first|(refine aP ?_ rfl;(simp;done))|refine aQ ?_)
 have z0:w.heap.size<w0.heap.size:=World.block_lt_of_cell? _ _ k0
 have z1:w.heap.size+1<w0.heap.size:=World.block_lt_of_cell? _ _ k2
 have hB:Below w.heap.size w w0:=by rw[hw0];repeat (with_reducible first|exact aD _|apply aA)
 have f1_0:w0.frozen? ⟨w.heap.size+1,0,none⟩=false:=by rw[hw0];repeat (first|(refine bH ?_;(simp;done))|(refine bI (by first|(simp;done)|(simp;omega)) ?_))
 have f1_1:w0.frozen? ⟨w.heap.size+1,1,none⟩=false:=by rw[hw0];repeat (first|(refine bH ?_;(simp;done))|(refine bI (by first|(simp;done)|(simp;omega)) ?_))
 rw[←hw0]
 clear hw0
 refine(sV a ha _).mono ?_
 rintro e w1 ⟨rfl,hb1⟩
 replace f1_0:=aJ (aE hb1 (by repeat (with_reducible first|exact aD _|apply aA|apply aC))) k2 f1_0
 replace f1_1:=aJ (aE hb1 (by repeat (with_reducible first|exact aD _|apply aA|apply aC))) k3 f1_1
 replace hB:=aE hb1 (by repeat (with_reducible first|exact hB|apply aA|apply aC))
 replace k0:=cell_later (aE hb1 (by repeat (with_reducible first|exact aD _|apply aA|apply aC))) k0
 replace k1:=cell_later (aE hb1 (by repeat (with_reducible first|exact aD _|apply aA|apply aC))) k1
 replace k2:=cell_later (aE hb1 (by repeat (with_reducible first|exact aD _|apply aA|apply aC))) k2
 replace k3:=cell_later (aE hb1 (by repeat (with_reducible first|exact aD _|apply aA|apply aC))) k3
 replace z0:=World.block_lt_of_cell? _ _ k0
 replace z1:=World.block_lt_of_cell? _ _ k2
 simp only[]at z0 z1
 clear hb1
 rw[hs]
 go_wp2_with fail
 obtain⟨w2,hw0⟩:∃ x:World,x=(w1.alloc (.cells #[.bool true,.int .u64 (d0 (bV a)),.int .u64 (d1 (bV a)),.int .u64 0] 107)):=⟨_,rfl⟩
 replace f1_0:w2.frozen? ⟨w.heap.size+1,0,none⟩=false:=by rw[hw0];exact aJ (by repeat (with_reducible first|exact aD _|apply aA|apply aC)) k2 f1_0
 replace f1_1:w2.frozen? ⟨w.heap.size+1,1,none⟩=false:=by rw[hw0];exact aJ (by repeat (with_reducible first|exact aD _|apply aA|apply aC)) k3 f1_1
 replace k0:w2.cell? ⟨w.heap.size,0,none⟩=some (.int .i64 (hi (a))):=by rw[hw0];exact cell_later (by repeat (with_reducible first|exact aD _|apply aA|apply aC)) k0
 replace k1:w2.cell? ⟨w.heap.size,1,none⟩=some (.int .u64 (lo (a))):=by rw[hw0];exact cell_later (by repeat (with_reducible first|exact aD _|apply aA|apply aC)) k1
 replace k2:w2.cell? ⟨w.heap.size+1,0,none⟩=some (.int .i64 0):=by rw[hw0];exact cell_later (by repeat (with_reducible first|exact aD _|apply aA|apply aC)) k2
 replace k3:w2.cell? ⟨w.heap.size+1,1,none⟩=some (.int .u64 0):=by rw[hw0];exact cell_later (by repeat (with_reducible first|exact aD _|apply aA|apply aC)) k3
 have k4:w2.cell? ⟨w1.heap.size,0,none⟩=some (.bool true):=by rw[hw0];repeat (first|(refine aP ?_ rfl;(simp;done))|refine aQ ?_)
 have k5:w2.cell? ⟨w1.heap.size,1,none⟩=some (.int .u64 (d0 (bV a))):=by rw[hw0];repeat (first|(refine aP ?_ rfl;(simp;done))|refine aQ ?_)
 have k6:w2.cell? ⟨w1.heap.size,2,none⟩=some (.int .u64 (d1 (bV a))):=by rw[hw0];repeat (first|(refine aP ?_ rfl;(simp;done))|refine aQ ?_)
 have k7:w2.cell? ⟨w1.heap.size,3,none⟩=some (.int .u64 0):=by rw[hw0];repeat (first|(refine aP ?_ rfl;(simp;done))|refine aQ ?_)
 have z0:w.heap.size<w2.heap.size:=World.block_lt_of_cell? _ _ k0
 have z1:w.heap.size+1<w2.heap.size:=World.block_lt_of_cell? _ _ k2
 have z2:w1.heap.size<w2.heap.size:=World.block_lt_of_cell? _ _ k4
 replace hB:Below w.heap.size w w2:=by rw[hw0];repeat (with_reducible first|exact hB|apply aA)
 rw[←hw0]
 clear hw0
 refine(mP _ _ d l1 l2 ⟨by omega,by omega⟩ _).mono ?_
 rintro e w3 ⟨rfl,hb1⟩
 replace f1_0:=aJ (aE hb1 (by repeat (with_reducible first|exact aD _|apply aA|apply aC))) k2 f1_0
 replace f1_1:=aJ (aE hb1 (by repeat (with_reducible first|exact aD _|apply aA|apply aC))) k3 f1_1
 replace hB:=aE hb1 (by repeat (with_reducible first|exact hB|apply aA|apply aC))
 replace k0:=cell_later (aE hb1 (by repeat (with_reducible first|exact aD _|apply aA|apply aC))) k0
 replace k1:=cell_later (aE hb1 (by repeat (with_reducible first|exact aD _|apply aA|apply aC))) k1
 replace k2:=cell_later (aE hb1 (by repeat (with_reducible first|exact aD _|apply aA|apply aC))) k2
 replace k3:=cell_later (aE hb1 (by repeat (with_reducible first|exact aD _|apply aA|apply aC))) k3
 replace k4:=cell_later (aE hb1 (by repeat (with_reducible first|exact aD _|apply aA|apply aC))) k4
 replace k5:=cell_later (aE hb1 (by repeat (with_reducible first|exact aD _|apply aA|apply aC))) k5
 replace k6:=cell_later (aE hb1 (by repeat (with_reducible first|exact aD _|apply aA|apply aC))) k6
 replace k7:=cell_later (aE hb1 (by repeat (with_reducible first|exact aD _|apply aA|apply aC))) k7
 replace z0:=World.block_lt_of_cell? _ _ k0
 replace z1:=World.block_lt_of_cell? _ _ k2
 replace z2:=World.block_lt_of_cell? _ _ k4
 simp only[]at z0 z1 z2
 clear hb1
 rw[q0,q1,q2]
 go_wp2_with fail
 obtain⟨w4,hw0⟩:∃ x:World,x=(w3.alloc (.cells #[.int .u64 (d0 (bV a / d)),.int .u64 (d1 (bV a / d)),.int .u64 0] 105)):=⟨_,rfl⟩
 replace f1_0:w4.frozen? ⟨w.heap.size+1,0,none⟩=false:=by rw[hw0];exact aJ (by repeat (with_reducible first|exact aD _|apply aA|apply aC)) k2 f1_0
 replace f1_1:w4.frozen? ⟨w.heap.size+1,1,none⟩=false:=by rw[hw0];exact aJ (by repeat (with_reducible first|exact aD _|apply aA|apply aC)) k3 f1_1
 replace k0:w4.cell? ⟨w.heap.size,0,none⟩=some (.int .i64 (hi (a))):=by rw[hw0];exact cell_later (by repeat (with_reducible first|exact aD _|apply aA|apply aC)) k0
 replace k1:w4.cell? ⟨w.heap.size,1,none⟩=some (.int .u64 (lo (a))):=by rw[hw0];exact cell_later (by repeat (with_reducible first|exact aD _|apply aA|apply aC)) k1
 replace k2:w4.cell? ⟨w.heap.size+1,0,none⟩=some (.int .i64 0):=by rw[hw0];exact cell_later (by repeat (with_reducible first|exact aD _|apply aA|apply aC)) k2
 replace k3:w4.cell? ⟨w.heap.size+1,1,none⟩=some (.int .u64 0):=by rw[hw0];exact cell_later (by repeat (with_reducible first|exact aD _|apply aA|apply aC)) k3
 replace k4:w4.cell? ⟨w1.heap.size,0,none⟩=some (.bool true):=by rw[hw0];exact cell_later (by repeat (with_reducible first|exact aD _|apply aA|apply aC)) k4
 replace k5:w4.cell? ⟨w1.heap.size,1,none⟩=some (.int .u64 (d0 (bV a))):=by rw[hw0];exact cell_later (by repeat (with_reducible first|exact aD _|apply aA|apply aC)) k5
 replace k6:w4.cell? ⟨w1.heap.size,2,none⟩=some (.int .u64 (d1 (bV a))):=by rw[hw0];exact cell_later (by repeat (with_reducible first|exact aD _|apply aA|apply aC)) k6
 replace k7:w4.cell? ⟨w1.heap.size,3,none⟩=some (.int .u64 0):=by rw[hw0];exact cell_later (by repeat (with_reducible first|exact aD _|apply aA|apply aC)) k7
 have k8:w4.cell? ⟨w3.heap.size,0,none⟩=some (.int .u64 (d0 (bV a / d))):=by rw[hw0];repeat (first|(refine aP ?_ rfl;(simp;done))|refine aQ ?_)
 have k9:w4.cell? ⟨w3.heap.size,1,none⟩=some (.int .u64 (d1 (bV a / d))):=by rw[hw0];repeat (first|(refine aP ?_ rfl;(simp;done))|refine aQ ?_)
 have k10:w4.cell? ⟨w3.heap.size,2,none⟩=some (.int .u64 0):=by rw[hw0];repeat (first|(refine aP ?_ rfl;(simp;done))|refine aQ ?_)
 have z0:w.heap.size<w4.heap.size:=World.block_lt_of_cell? _ _ k0
 have z1:w.heap.size+1<w4.heap.size:=World.block_lt_of_cell? _ _ k2
 have z2:w1.heap.size<w4.heap.size:=World.block_lt_of_cell? _ _ k4
 have z3:w3.heap.size<w4.heap.size:=World.block_lt_of_cell? _ _ k8
 replace hB:Below w.heap.size w w4:=by rw[hw0];repeat (with_reducible first|exact hB|apply aA)
 rw[←hw0]
 clear hw0
 refine(nG _ _ hf _).mono ?_
 rintro e w5 ⟨rfl,hb1⟩
 replace f1_0:=aJ (aE hb1 (by repeat (with_reducible first|exact aD _|apply aA|apply aC))) k2 f1_0
 replace f1_1:=aJ (aE hb1 (by repeat (with_reducible first|exact aD _|apply aA|apply aC))) k3 f1_1
 replace hB:=aE hb1 (by repeat (with_reducible first|exact hB|apply aA|apply aC))
 replace k0:=cell_later (aE hb1 (by repeat (with_reducible first|exact aD _|apply aA|apply aC))) k0
 replace k1:=cell_later (aE hb1 (by repeat (with_reducible first|exact aD _|apply aA|apply aC))) k1
 replace k2:=cell_later (aE hb1 (by repeat (with_reducible first|exact aD _|apply aA|apply aC))) k2
 replace k3:=cell_later (aE hb1 (by repeat (with_reducible first|exact aD _|apply aA|apply aC))) k3
 replace k4:=cell_later (aE hb1 (by repeat (with_reducible first|exact aD _|apply aA|apply aC))) k4
 replace k5:=cell_later (aE hb1 (by repeat (with_reducible first|exact aD _|apply aA|apply aC))) k5
 replace k6:=cell_later (aE hb1 (by repeat (with_reducible first|exact aD _|apply aA|apply aC))) k6
 replace k7:=cell_later (aE hb1 (by repeat (with_reducible first|exact aD _|apply aA|apply aC))) k7
 replace k8:=cell_later (aE hb1 (by repeat (with_reducible first|exact aD _|apply aA|apply aC))) k8
 replace k9:=cell_later (aE hb1 (by repeat (with_reducible first|exact aD _|apply aA|apply aC))) k9
 replace k10:=cell_later (aE hb1 (by repeat (with_reducible first|exact aD _|apply aA|apply aC))) k10
 replace z0:=World.block_lt_of_cell? _ _ k0
 replace z1:=World.block_lt_of_cell? _ _ k2
 replace z2:=World.block_lt_of_cell? _ _ k4
 replace z3:=World.block_lt_of_cell? _ _ k8
 simp only[]at z0 z1 z2 z3
 clear hb1
 rw[es]
 go_wp2
 obtain⟨w6,hw0⟩:∃ x:World,x=((w5.setCell ⟨w.heap.size+1,0,none⟩ (.int .i64 (hi (-(bV a / d))))).setCell ⟨w.heap.size+1,1,none⟩ (.int .u64 (lo (-(bV a / d))))):=⟨_,rfl⟩
 have new_k0:w6.cell? ⟨w.heap.size,0,none⟩=some (.int .i64 (hi (a))):=by rw[hw0];exact(aB (by omega) (aB (by omega) k0))
 have new_k1:w6.cell? ⟨w.heap.size,1,none⟩=some (.int .u64 (lo (a))):=by rw[hw0];exact(aB (by omega) (aB (by omega) k1))
 have new_k2:w6.cell? ⟨w.heap.size+1,0,none⟩=some (.int .i64 (hi (-(bV a / d)))):=by rw[hw0];exact(aB (by omega) (aV k2))
 have new_k3:w6.cell? ⟨w.heap.size+1,1,none⟩=some (.int .u64 (lo (-(bV a / d)))):=by rw[hw0];exact(aV (aB (by omega) k3))
 have new_k4:w6.cell? ⟨w1.heap.size,0,none⟩=some (.bool true):=by rw[hw0];exact(aB (by omega) (aB (by omega) k4))
 have new_k5:w6.cell? ⟨w1.heap.size,1,none⟩=some (.int .u64 (d0 (bV a))):=by rw[hw0];exact(aB (by omega) (aB (by omega) k5))
 have new_k6:w6.cell? ⟨w1.heap.size,2,none⟩=some (.int .u64 (d1 (bV a))):=by rw[hw0];exact(aB (by omega) (aB (by omega) k6))
 have new_k7:w6.cell? ⟨w1.heap.size,3,none⟩=some (.int .u64 0):=by rw[hw0];exact(aB (by omega) (aB (by omega) k7))
 have new_k8:w6.cell? ⟨w3.heap.size,0,none⟩=some (.int .u64 (d0 (bV a / d))):=by rw[hw0];exact(aB (by omega) (aB (by omega) k8))
 have new_k9:w6.cell? ⟨w3.heap.size,1,none⟩=some (.int .u64 (d1 (bV a / d))):=by rw[hw0];exact(aB (by omega) (aB (by omega) k9))
 have new_k10:w6.cell? ⟨w3.heap.size,2,none⟩=some (.int .u64 0):=by rw[hw0];exact(aB (by omega) (aB (by omega) k10))
 replace f1_0:w6.frozen? ⟨w.heap.size+1,0,none⟩=false:=by rw[hw0];(repeat rw[World.frozen?_setCell]);exact f1_0
 replace f1_1:w6.frozen? ⟨w.heap.size+1,1,none⟩=false:=by rw[hw0];(repeat rw[World.frozen?_setCell]);exact f1_1
 replace hB:Below w.heap.size w w6:=by rw[hw0];repeat (with_reducible first|exact hB|refine bN _ (by omega) ?_)
 clear k0 k1 k2 k3 k4 k5 k6 k7 k8 k9 k10
 have k0:=new_k0;clear new_k0
 have k1:=new_k1;clear new_k1
 have k2:=new_k2;clear new_k2
 have k3:=new_k3;clear new_k3
 have k4:=new_k4;clear new_k4
 have k5:=new_k5;clear new_k5
 have k6:=new_k6;clear new_k6
 have k7:=new_k7;clear new_k7
 have k8:=new_k8;clear new_k8
 have k9:=new_k9;clear new_k9
 have k10:=new_k10;clear new_k10
 replace z0:w.heap.size<w6.heap.size:=World.block_lt_of_cell? _ _ k0
 replace z1:w.heap.size+1<w6.heap.size:=World.block_lt_of_cell? _ _ k2
 replace z2:w1.heap.size<w6.heap.size:=World.block_lt_of_cell? _ _ k4
 replace z3:w3.heap.size<w6.heap.size:=World.block_lt_of_cell? _ _ k8
 rw[←hw0]
 clear hw0
 go_region_with (first
  |(go_at_call 17;refine(vD 1 ⟨by omega,by omega⟩ _).mono ?_;rintro e w7 ⟨rfl,hb1⟩;replace f1_0:=aJ (aE hb1 (by repeat (with_reducible first|exact aD _|apply aA|apply aC))) k2 f1_0;replace f1_1:=aJ (aE hb1 (by repeat (with_reducible first|exact aD _|apply aA|apply aC))) k3 f1_1;replace hB:=aE hb1 (by repeat (with_reducible first|exact hB|apply aA|apply aC));replace k0:=cell_later (aE hb1 (by repeat (with_reducible first|exact aD _|apply aA|apply aC))) k0;replace k1:=cell_later (aE hb1 (by repeat (with_reducible first|exact aD _|apply aA|apply aC))) k1;replace k2:=cell_later (aE hb1 (by repeat (with_reducible first|exact aD _|apply aA|apply aC))) k2;replace k3:=cell_later (aE hb1 (by repeat (with_reducible first|exact aD _|apply aA|apply aC))) k3;replace k4:=cell_later (aE hb1 (by repeat (with_reducible first|exact aD _|apply aA|apply aC))) k4;replace k5:=cell_later (aE hb1 (by repeat (with_reducible first|exact aD _|apply aA|apply aC))) k5;replace k6:=cell_later (aE hb1 (by repeat (with_reducible first|exact aD _|apply aA|apply aC))) k6;replace k7:=cell_later (aE hb1 (by repeat (with_reducible first|exact aD _|apply aA|apply aC))) k7;replace k8:=cell_later (aE hb1 (by repeat (with_reducible first|exact aD _|apply aA|apply aC))) k8;replace k9:=cell_later (aE hb1 (by repeat (with_reducible first|exact aD _|apply aA|apply aC))) k9;replace k10:=cell_later (aE hb1 (by repeat (with_reducible first|exact aD _|apply aA|apply aC))) k10;replace z0:=World.block_lt_of_cell? _ _ k0;replace z1:=World.block_lt_of_cell? _ _ k2;replace z2:=World.block_lt_of_cell? _ _ k4;replace z3:=World.block_lt_of_cell? _ _ k8;simp only[]at z0 z1 z2 z3;clear hb1)
  |(go_at_call 21;refine(aG9 _ _ hq hone hr _).mono ?_;rintro e w8 ⟨rfl,hb1⟩;replace f1_0:=aJ (aE hb1 (by repeat (with_reducible first|exact aD _|apply aA|apply aC))) k2 f1_0;replace f1_1:=aJ (aE hb1 (by repeat (with_reducible first|exact aD _|apply aA|apply aC))) k3 f1_1;replace hB:=aE hb1 (by repeat (with_reducible first|exact hB|apply aA|apply aC));replace k0:=cell_later (aE hb1 (by repeat (with_reducible first|exact aD _|apply aA|apply aC))) k0;replace k1:=cell_later (aE hb1 (by repeat (with_reducible first|exact aD _|apply aA|apply aC))) k1;replace k2:=cell_later (aE hb1 (by repeat (with_reducible first|exact aD _|apply aA|apply aC))) k2;replace k3:=cell_later (aE hb1 (by repeat (with_reducible first|exact aD _|apply aA|apply aC))) k3;replace k4:=cell_later (aE hb1 (by repeat (with_reducible first|exact aD _|apply aA|apply aC))) k4;replace k5:=cell_later (aE hb1 (by repeat (with_reducible first|exact aD _|apply aA|apply aC))) k5;replace k6:=cell_later (aE hb1 (by repeat (with_reducible first|exact aD _|apply aA|apply aC))) k6;replace k7:=cell_later (aE hb1 (by repeat (with_reducible first|exact aD _|apply aA|apply aC))) k7;replace k8:=cell_later (aE hb1 (by repeat (with_reducible first|exact aD _|apply aA|apply aC))) k8;replace k9:=cell_later (aE hb1 (by repeat (with_reducible first|exact aD _|apply aA|apply aC))) k9;replace k10:=cell_later (aE hb1 (by repeat (with_reducible first|exact aD _|apply aA|apply aC))) k10;replace z0:=World.block_lt_of_cell? _ _ k0;replace z1:=World.block_lt_of_cell? _ _ k2;replace z2:=World.block_lt_of_cell? _ _ k4;replace z3:=World.block_lt_of_cell? _ _ k8;simp only[]at z0 z1 z2 z3;clear hb1;rw[eq2]))
 all_goals go_wp2
 ·skip
  obtain⟨w9,hw0⟩:∃ x:World,x=((((w8.setCell ⟨w.heap.size+1,0,none⟩ (.int .i64 (hi q))).setCell ⟨w.heap.size+1,1,none⟩ (.int .u64 (lo q))).setCell ⟨w.heap.size+1,0,none⟩ (.int .i64 (hi q))).setCell ⟨w.heap.size+1,1,none⟩ (.int .u64 (lo q))):=⟨_,rfl⟩
  have new_k0:w9.cell? ⟨w.heap.size,0,none⟩=some (.int .i64 (hi (a))):=by rw[hw0];exact(aB (by omega) (aB (by omega) (aB (by omega) (aB (by omega) k0))))
  have new_k1:w9.cell? ⟨w.heap.size,1,none⟩=some (.int .u64 (lo (a))):=by rw[hw0];exact(aB (by omega) (aB (by omega) (aB (by omega) (aB (by omega) k1))))
  have new_k2:w9.cell? ⟨w.heap.size+1,0,none⟩=some (.int .i64 (hi q)):=by rw[hw0];exact(aB (by omega) (aV (aB (by omega) (aV k2))))
  have new_k3:w9.cell? ⟨w.heap.size+1,1,none⟩=some (.int .u64 (lo q)):=by rw[hw0];exact(aV (aB (by omega) (aV (aB (by omega) k3))))
  have new_k4:w9.cell? ⟨w1.heap.size,0,none⟩=some (.bool true):=by rw[hw0];exact(aB (by omega) (aB (by omega) (aB (by omega) (aB (by omega) k4))))
  have new_k5:w9.cell? ⟨w1.heap.size,1,none⟩=some (.int .u64 (d0 (bV a))):=by rw[hw0];exact(aB (by omega) (aB (by omega) (aB (by omega) (aB (by omega) k5))))
  have new_k6:w9.cell? ⟨w1.heap.size,2,none⟩=some (.int .u64 (d1 (bV a))):=by rw[hw0];exact(aB (by omega) (aB (by omega) (aB (by omega) (aB (by omega) k6))))
  have new_k7:w9.cell? ⟨w1.heap.size,3,none⟩=some (.int .u64 0):=by rw[hw0];exact(aB (by omega) (aB (by omega) (aB (by omega) (aB (by omega) k7))))
  have new_k8:w9.cell? ⟨w3.heap.size,0,none⟩=some (.int .u64 (d0 (bV a / d))):=by rw[hw0];exact(aB (by omega) (aB (by omega) (aB (by omega) (aB (by omega) k8))))
  have new_k9:w9.cell? ⟨w3.heap.size,1,none⟩=some (.int .u64 (d1 (bV a / d))):=by rw[hw0];exact(aB (by omega) (aB (by omega) (aB (by omega) (aB (by omega) k9))))
  have new_k10:w9.cell? ⟨w3.heap.size,2,none⟩=some (.int .u64 0):=by rw[hw0];exact(aB (by omega) (aB (by omega) (aB (by omega) (aB (by omega) k10))))
  replace f1_0:w9.frozen? ⟨w.heap.size+1,0,none⟩=false:=by rw[hw0];(repeat rw[World.frozen?_setCell]);exact f1_0
  replace f1_1:w9.frozen? ⟨w.heap.size+1,1,none⟩=false:=by rw[hw0];(repeat rw[World.frozen?_setCell]);exact f1_1
  replace hB:Below w.heap.size w w9:=by rw[hw0];repeat (with_reducible first|exact hB|refine bN _ (by omega) ?_)
  clear k0 k1 k2 k3 k4 k5 k6 k7 k8 k9 k10
  have k0:=new_k0;clear new_k0
  have k1:=new_k1;clear new_k1
  have k2:=new_k2;clear new_k2
  have k3:=new_k3;clear new_k3
  have k4:=new_k4;clear new_k4
  have k5:=new_k5;clear new_k5
  have k6:=new_k6;clear new_k6
  have k7:=new_k7;clear new_k7
  have k8:=new_k8;clear new_k8
  have k9:=new_k9;clear new_k9
  have k10:=new_k10;clear new_k10
  replace z0:w.heap.size<w9.heap.size:=World.block_lt_of_cell? _ _ k0
  replace z1:w.heap.size+1<w9.heap.size:=World.block_lt_of_cell? _ _ k2
  replace z2:w1.heap.size<w9.heap.size:=World.block_lt_of_cell? _ _ k4
  replace z3:w3.heap.size<w9.heap.size:=World.block_lt_of_cell? _ _ k8
  rw[←hw0]
  clear hw0
  exact bodyPost_ret (v := .tuple #[.agg #[.int .i64 (hi (q)),.int .u64 (lo (q))],.int .i64 r,.int .i64 0]) (by simp [results,Try.results64,go_sem, *]) rfl ⟨rfl,by repeat (with_reducible first|exact hB|refine bN _ (by omega) ?_|apply aA|apply aC)⟩
 ·skip
  obtain⟨w9,hw0⟩:∃ x:World,x=((((w8.setCell ⟨w.heap.size+1,0,none⟩ (.int .i64 (hi q))).setCell ⟨w.heap.size+1,1,none⟩ (.int .u64 (lo q))).setCell ⟨w.heap.size+1,0,none⟩ (.int .i64 (hi q))).setCell ⟨w.heap.size+1,1,none⟩ (.int .u64 (lo q))):=⟨_,rfl⟩
  have new_k0:w9.cell? ⟨w.heap.size,0,none⟩=some (.int .i64 (hi (a))):=by rw[hw0];exact(aB (by omega) (aB (by omega) (aB (by omega) (aB (by omega) k0))))
  have new_k1:w9.cell? ⟨w.heap.size,1,none⟩=some (.int .u64 (lo (a))):=by rw[hw0];exact(aB (by omega) (aB (by omega) (aB (by omega) (aB (by omega) k1))))
  have new_k2:w9.cell? ⟨w.heap.size+1,0,none⟩=some (.int .i64 (hi q)):=by rw[hw0];exact(aB (by omega) (aV (aB (by omega) (aV k2))))
  have new_k3:w9.cell? ⟨w.heap.size+1,1,none⟩=some (.int .u64 (lo q)):=by rw[hw0];exact(aV (aB (by omega) (aV (aB (by omega) k3))))
  have new_k4:w9.cell? ⟨w1.heap.size,0,none⟩=some (.bool true):=by rw[hw0];exact(aB (by omega) (aB (by omega) (aB (by omega) (aB (by omega) k4))))
  have new_k5:w9.cell? ⟨w1.heap.size,1,none⟩=some (.int .u64 (d0 (bV a))):=by rw[hw0];exact(aB (by omega) (aB (by omega) (aB (by omega) (aB (by omega) k5))))
  have new_k6:w9.cell? ⟨w1.heap.size,2,none⟩=some (.int .u64 (d1 (bV a))):=by rw[hw0];exact(aB (by omega) (aB (by omega) (aB (by omega) (aB (by omega) k6))))
  have new_k7:w9.cell? ⟨w1.heap.size,3,none⟩=some (.int .u64 0):=by rw[hw0];exact(aB (by omega) (aB (by omega) (aB (by omega) (aB (by omega) k7))))
  have new_k8:w9.cell? ⟨w3.heap.size,0,none⟩=some (.int .u64 (d0 (bV a / d))):=by rw[hw0];exact(aB (by omega) (aB (by omega) (aB (by omega) (aB (by omega) k8))))
  have new_k9:w9.cell? ⟨w3.heap.size,1,none⟩=some (.int .u64 (d1 (bV a / d))):=by rw[hw0];exact(aB (by omega) (aB (by omega) (aB (by omega) (aB (by omega) k9))))
  have new_k10:w9.cell? ⟨w3.heap.size,2,none⟩=some (.int .u64 0):=by rw[hw0];exact(aB (by omega) (aB (by omega) (aB (by omega) (aB (by omega) k10))))
  replace f1_0:w9.frozen? ⟨w.heap.size+1,0,none⟩=false:=by rw[hw0];(repeat rw[World.frozen?_setCell]);exact f1_0
  replace f1_1:w9.frozen? ⟨w.heap.size+1,1,none⟩=false:=by rw[hw0];(repeat rw[World.frozen?_setCell]);exact f1_1
  replace hB:Below w.heap.size w w9:=by rw[hw0];repeat (with_reducible first|exact hB|refine bN _ (by omega) ?_)
  clear k0 k1 k2 k3 k4 k5 k6 k7 k8 k9 k10
  have k0:=new_k0;clear new_k0
  have k1:=new_k1;clear new_k1
  have k2:=new_k2;clear new_k2
  have k3:=new_k3;clear new_k3
  have k4:=new_k4;clear new_k4
  have k5:=new_k5;clear new_k5
  have k6:=new_k6;clear new_k6
  have k7:=new_k7;clear new_k7
  have k8:=new_k8;clear new_k8
  have k9:=new_k9;clear new_k9
  have k10:=new_k10;clear new_k10
  replace z0:w.heap.size<w9.heap.size:=World.block_lt_of_cell? _ _ k0
  replace z1:w.heap.size+1<w9.heap.size:=World.block_lt_of_cell? _ _ k2
  replace z2:w1.heap.size<w9.heap.size:=World.block_lt_of_cell? _ _ k4
  replace z3:w3.heap.size<w9.heap.size:=World.block_lt_of_cell? _ _ k8
  rw[←hw0]
  clear hw0
  exact bodyPost_ret (v := .tuple #[.agg #[.int .i64 (hi (q)),.int .u64 (lo (q))],.int .i64 r,.int .i64 0]) (by simp [results,Try.results64,go_sem, *]) rfl ⟨rfl,by repeat (with_reducible first|exact hB|refine bN _ (by omega) ?_|apply aA|apply aC)⟩
theorem uA (a d:Int) (ha:kW a) (hd:0<d) (hd':d≤9223372036854775807) (w:World):Calls Try.prog 64 #[.agg #[.int .i64 (hi (a)),.int .u64 (lo (a))],.int .i64 d] w fun e w'=>e = .returned (.tuple #[.agg #[.int .i64 (hi (a / d)),.int .u64 (lo (a / d))],.int .i64 (a % d),.int .i64 0])∧Below w.heap.size w w':=by
 by_cases hn:a<0
 ·have r0:=Int.emod_nonneg (bV a) (show d≠0 by omega)
  by_cases hz:bV a % d=0
  ·exact aHt a d _ _ ha hd hd' hn hz rfl rfl w
  ·exact aD5 a d _ _ ha hd hd' hn (by omega) rfl rfl w
 ·exact aID a d _ _ ha hd hd' hn rfl rfl w
theorem aGV (a d:Int) (ha:kW a) (hd:0<d):kW (a / d):=by
 unfold kW at *
 have e:=Int.emod_add_mul_ediv a d
 have r0:=Int.emod_nonneg a (show d≠0 by omega)
 have r1:=Int.emod_lt_of_pos a hd
 exact⟨(Int.le_ediv_iff_mul_le hd).2 (by omega),(Int.ediv_lt_iff_lt_mul hd).2 (by omega)⟩
theorem aKg (a d:Int) (ha:kW a) (hd:0<d) (h:d-a % d≤a % d):kW (a / d+1):=by
 have hb:=aGV a d ha hd
 unfold kW at *
 have r1:=Int.emod_lt_of_pos a hd
 have hd2:2≤d:=by
  rcases Int.lt_or_le 1 d with g|g
  ·omega
  ·have:d=1:=by omega
   subst this;simp at h
 have:a / d<170141183460469231731687303715884105727:=(Int.ediv_lt_iff_lt_mul hd).2 (by omega)
 omega
set_option maxHeartbeats 800000 in
theorem aCW (a d q:Int) (ha:kW a) (hd:0<d) (hd':d≤9223372036854775807) (hc:¬d-a % d≤a % d) (hq:q=near a d) (w:World):Calls Try.prog 31 #[.agg #[.int .i64 (hi (a)),.int .u64 (lo (a))],.int .i64 d] w fun e w'=>e = .returned (.tuple #[.agg #[.int .i64 (hi (q)),.int .u64 (lo (q))],.int .i64 0])∧Below w.heap.size w w':=by
 have r0:=Int.emod_nonneg a (show d≠0 by omega)
 have r1:=Int.emod_lt_of_pos a hd
 have c1:wrap64 (d-a % d)=d-a % d:=IntWalk.wrap64_in _ (by omega)
 have c2:IntKind.i64.wrap (d-a % d)=d-a % d:=IntWalk.i64_in _ (by omega)
 have eq:a / d=q:=by rw[hq,aPx a d hd hc]
 clear hq
 go_enter Try.func31,Try.ntmps31
 go_wp2_with fail
 obtain⟨w0,hw0⟩:∃ x:World,x=((w.alloc (.cells #[.int .i64 (hi (a)),.int .u64 (lo (a))] 35)).alloc (.cells #[.int .i64 0,.int .u64 0] 35)):=⟨_,rfl⟩
 have k0:w0.cell? ⟨w.heap.size,0,none⟩=some (.int .i64 (hi (a))):=by rw[hw0];repeat (first|(refine aP ?_ rfl;(simp;done))|refine aQ ?_)
 have k1:w0.cell? ⟨w.heap.size,1,none⟩=some (.int .u64 (lo (a))):=by rw[hw0];repeat (first|(refine aP ?_ rfl;(simp;done))|refine aQ ?_)
 have k2:w0.cell? ⟨w.heap.size+1,0,none⟩=some (.int .i64 0):=by rw[hw0];repeat (first|(refine aP ?_ rfl;(simp;done))|refine aQ ?_)
 have k3:w0.cell? ⟨w.heap.size+1,1,none⟩=some (.int .u64 0):=by rw[hw0];repeat (first|(refine aP ?_ rfl;(simp;done))|refine aQ ?_)
 have z0:w.heap.size<w0.heap.size:=World.block_lt_of_cell? _ _ k0
 have z1:w.heap.size+1<w0.heap.size:=World.block_lt_of_cell? _ _ k2
 have hB:Below w.heap.size w w0:=by rw[hw0];repeat (with_reducible first|exact aD _|apply aA)
 have f1_0:w0.frozen? ⟨w.heap.size+1,0,none⟩=false:=by rw[hw0];repeat (first|(refine bH ?_;(simp;done))|(refine bI (by first|(simp;done)|(simp;omega)) ?_))
 have f1_1:w0.frozen? ⟨w.heap.size+1,1,none⟩=false:=by rw[hw0];repeat (first|(refine bH ?_;(simp;done))|(refine bI (by first|(simp;done)|(simp;omega)) ?_))
 rw[←hw0]
 clear hw0
 refine(uA a d ha hd hd' _).mono ?_
 rintro e w1 ⟨rfl,hb1⟩
 replace f1_0:=aJ (aE hb1 (by repeat (with_reducible first|exact aD _|apply aA|apply aC))) k2 f1_0
 replace f1_1:=aJ (aE hb1 (by repeat (with_reducible first|exact aD _|apply aA|apply aC))) k3 f1_1
 replace hB:=aE hb1 (by repeat (with_reducible first|exact hB|apply aA|apply aC))
 replace k0:=cell_later (aE hb1 (by repeat (with_reducible first|exact aD _|apply aA|apply aC))) k0
 replace k1:=cell_later (aE hb1 (by repeat (with_reducible first|exact aD _|apply aA|apply aC))) k1
 replace k2:=cell_later (aE hb1 (by repeat (with_reducible first|exact aD _|apply aA|apply aC))) k2
 replace k3:=cell_later (aE hb1 (by repeat (with_reducible first|exact aD _|apply aA|apply aC))) k3
 replace z0:=World.block_lt_of_cell? _ _ k0
 replace z1:=World.block_lt_of_cell? _ _ k2
 simp only[]at z0 z1
 clear hb1
 generalize a % d=r at *
 rw[eq]
 go_wp2
 obtain⟨w9,hw0⟩:∃ x:World,x=((w1.setCell ⟨w.heap.size+1,0,none⟩ (.int .i64 (hi q))).setCell ⟨w.heap.size+1,1,none⟩ (.int .u64 (lo q))):=⟨_,rfl⟩
 have new_k0:w9.cell? ⟨w.heap.size,0,none⟩=some (.int .i64 (hi (a))):=by rw[hw0];exact(aB (by omega) (aB (by omega) k0))
 have new_k1:w9.cell? ⟨w.heap.size,1,none⟩=some (.int .u64 (lo (a))):=by rw[hw0];exact(aB (by omega) (aB (by omega) k1))
 have new_k2:w9.cell? ⟨w.heap.size+1,0,none⟩=some (.int .i64 (hi q)):=by rw[hw0];exact(aB (by omega) (aV k2))
 have new_k3:w9.cell? ⟨w.heap.size+1,1,none⟩=some (.int .u64 (lo q)):=by rw[hw0];exact(aV (aB (by omega) k3))
 replace f1_0:w9.frozen? ⟨w.heap.size+1,0,none⟩=false:=by rw[hw0];(repeat rw[World.frozen?_setCell]);exact f1_0
 replace f1_1:w9.frozen? ⟨w.heap.size+1,1,none⟩=false:=by rw[hw0];(repeat rw[World.frozen?_setCell]);exact f1_1
 replace hB:Below w.heap.size w w9:=by rw[hw0];repeat (with_reducible first|exact hB|refine bN _ (by omega) ?_)
 clear k0 k1 k2 k3
 have k0:=new_k0;clear new_k0
 have k1:=new_k1;clear new_k1
 have k2:=new_k2;clear new_k2
 have k3:=new_k3;clear new_k3
 replace z0:w.heap.size<w9.heap.size:=World.block_lt_of_cell? _ _ k0
 replace z1:w.heap.size+1<w9.heap.size:=World.block_lt_of_cell? _ _ k2
 rw[←hw0]
 clear hw0
 exact bodyPost_ret (v := .tuple #[.agg #[.int .i64 (hi (q)),.int .u64 (lo (q))],.int .i64 0]) (by simp [results,Try.results31,go_sem, *]) rfl ⟨rfl,by repeat (with_reducible first|exact hB|refine bN _ (by omega) ?_|apply aA|apply aC)⟩
set_option maxHeartbeats 800000 in
theorem aC9 (a d q:Int) (ha:kW a) (hd:0<d) (hd':d≤9223372036854775807) (hc:d-a % d≤a % d) (hq:q=near a d) (w:World):Calls Try.prog 31 #[.agg #[.int .i64 (hi (a)),.int .u64 (lo (a))],.int .i64 d] w fun e w'=>e = .returned (.tuple #[.agg #[.int .i64 (hi (q)),.int .u64 (lo (q))],.int .i64 0])∧Below w.heap.size w w':=by
 have r0:=Int.emod_nonneg a (show d≠0 by omega)
 have r1:=Int.emod_lt_of_pos a hd
 have c1:wrap64 (d-a % d)=d-a % d:=IntWalk.wrap64_in _ (by omega)
 have c2:IntKind.i64.wrap (d-a % d)=d-a % d:=IntWalk.i64_in _ (by omega)
 have eq:a / d+1=q:=by rw[hq,aNx a d hd hc]
 have hb:=aGV a d ha hd
 have hone:kW 1:=by unfold kW;omega
 have hb1':=aKg a d ha hd hc
 clear hq
 go_enter Try.func31,Try.ntmps31
 go_wp2_with fail
 obtain⟨w0,hw0⟩:∃ x:World,x=((w.alloc (.cells #[.int .i64 (hi (a)),.int .u64 (lo (a))] 35)).alloc (.cells #[.int .i64 0,.int .u64 0] 35)):=⟨_,rfl⟩
 have k0:w0.cell? ⟨w.heap.size,0,none⟩=some (.int .i64 (hi (a))):=by rw[hw0];repeat (first|(refine aP ?_ rfl;(simp;done))|refine aQ ?_)
 have k1:w0.cell? ⟨w.heap.size,1,none⟩=some (.int .u64 (lo (a))):=by rw[hw0];repeat (first|(refine aP ?_ rfl;(simp;done))|refine aQ ?_)
 have k2:w0.cell? ⟨w.heap.size+1,0,none⟩=some (.int .i64 0):=by rw[hw0];repeat (first|(refine aP ?_ rfl;(simp;done))|refine aQ ?_)
 have k3:w0.cell? ⟨w.heap.size+1,1,none⟩=some (.int .u64 0):=by rw[hw0];repeat (first|(refine aP ?_ rfl;(simp;done))|refine aQ ?_)
 have z0:w.heap.size<w0.heap.size:=World.block_lt_of_cell? _ _ k0
 have z1:w.heap.size+1<w0.heap.size:=World.block_lt_of_cell? _ _ k2
 have hB:Below w.heap.size w w0:=by rw[hw0];repeat (with_reducible first|exact aD _|apply aA)
 have f1_0:w0.frozen? ⟨w.heap.size+1,0,none⟩=false:=by rw[hw0];repeat (first|(refine bH ?_;(simp;done))|(refine bI (by first|(simp;done)|(simp;omega)) ?_))
 have f1_1:w0.frozen? ⟨w.heap.size+1,1,none⟩=false:=by rw[hw0];repeat (first|(refine bH ?_;(simp;done))|(refine bI (by first|(simp;done)|(simp;omega)) ?_))
 rw[←hw0]
 clear hw0
 refine(uA a d ha hd hd' _).mono ?_
 rintro e w1 ⟨rfl,hb1⟩
 replace f1_0:=aJ (aE hb1 (by repeat (with_reducible first|exact aD _|apply aA|apply aC))) k2 f1_0
 replace f1_1:=aJ (aE hb1 (by repeat (with_reducible first|exact aD _|apply aA|apply aC))) k3 f1_1
 replace hB:=aE hb1 (by repeat (with_reducible first|exact hB|apply aA|apply aC))
 replace k0:=cell_later (aE hb1 (by repeat (with_reducible first|exact aD _|apply aA|apply aC))) k0
 replace k1:=cell_later (aE hb1 (by repeat (with_reducible first|exact aD _|apply aA|apply aC))) k1
 replace k2:=cell_later (aE hb1 (by repeat (with_reducible first|exact aD _|apply aA|apply aC))) k2
 replace k3:=cell_later (aE hb1 (by repeat (with_reducible first|exact aD _|apply aA|apply aC))) k3
 replace z0:=World.block_lt_of_cell? _ _ k0
 replace z1:=World.block_lt_of_cell? _ _ k2
 simp only[]at z0 z1
 clear hb1
 generalize a % d=r at *
 go_wp2
 obtain⟨w2,hw0⟩:∃ x:World,x=(w1.alloc (.cells #[.int .i64 (hi (a / d)),.int .u64 (lo (a / d))] 35)):=⟨_,rfl⟩
 replace f1_0:w2.frozen? ⟨w.heap.size+1,0,none⟩=false:=by rw[hw0];exact aJ (by repeat (with_reducible first|exact aD _|apply aA|apply aC)) k2 f1_0
 replace f1_1:w2.frozen? ⟨w.heap.size+1,1,none⟩=false:=by rw[hw0];exact aJ (by repeat (with_reducible first|exact aD _|apply aA|apply aC)) k3 f1_1
 replace k0:w2.cell? ⟨w.heap.size,0,none⟩=some (.int .i64 (hi (a))):=by rw[hw0];exact cell_later (by repeat (with_reducible first|exact aD _|apply aA|apply aC)) k0
 replace k1:w2.cell? ⟨w.heap.size,1,none⟩=some (.int .u64 (lo (a))):=by rw[hw0];exact cell_later (by repeat (with_reducible first|exact aD _|apply aA|apply aC)) k1
 replace k2:w2.cell? ⟨w.heap.size+1,0,none⟩=some (.int .i64 0):=by rw[hw0];exact cell_later (by repeat (with_reducible first|exact aD _|apply aA|apply aC)) k2
 replace k3:w2.cell? ⟨w.heap.size+1,1,none⟩=some (.int .u64 0):=by rw[hw0];exact cell_later (by repeat (with_reducible first|exact aD _|apply aA|apply aC)) k3
 have k4:w2.cell? ⟨w1.heap.size,0,none⟩=some (.int .i64 (hi (a / d))):=by rw[hw0];repeat (first|(refine aP ?_ rfl;(simp;done))|refine aQ ?_)
 have k5:w2.cell? ⟨w1.heap.size,1,none⟩=some (.int .u64 (lo (a / d))):=by rw[hw0];repeat (first|(refine aP ?_ rfl;(simp;done))|refine aQ ?_)
 have fz2_0:w2.frozen? ⟨w1.heap.size,0,none⟩=false:=by rw[hw0];repeat (first|(refine bH ?_;(simp;done))|(refine bI (by first|(simp;done)|(simp;omega)) ?_))
 have fz2_1:w2.frozen? ⟨w1.heap.size,1,none⟩=false:=by rw[hw0];repeat (first|(refine bH ?_;(simp;done))|(refine bI (by first|(simp;done)|(simp;omega)) ?_))
 have z0:w.heap.size<w2.heap.size:=World.block_lt_of_cell? _ _ k0
 have z1:w.heap.size+1<w2.heap.size:=World.block_lt_of_cell? _ _ k2
 have z2:w1.heap.size<w2.heap.size:=World.block_lt_of_cell? _ _ k4
 replace hB:Below w.heap.size w w2:=by rw[hw0];repeat (with_reducible first|exact hB|apply aA)
 rw[←hw0]
 clear hw0
 go_region_with (first
  |(go_at_call 17;refine(vD 1 ⟨by omega,by omega⟩ _).mono ?_;rintro e w7 ⟨rfl,hb1⟩;replace f1_0:=aJ (aE hb1 (by repeat (with_reducible first|exact aD _|apply aA|apply aC))) k2 f1_0;replace f1_1:=aJ (aE hb1 (by repeat (with_reducible first|exact aD _|apply aA|apply aC))) k3 f1_1;replace fz2_0:=aJ (aE hb1 (by repeat (with_reducible first|exact aD _|apply aA|apply aC))) k4 fz2_0;replace fz2_1:=aJ (aE hb1 (by repeat (with_reducible first|exact aD _|apply aA|apply aC))) k5 fz2_1;replace hB:=aE hb1 (by repeat (with_reducible first|exact hB|apply aA|apply aC));replace k0:=cell_later (aE hb1 (by repeat (with_reducible first|exact aD _|apply aA|apply aC))) k0;replace k1:=cell_later (aE hb1 (by repeat (with_reducible first|exact aD _|apply aA|apply aC))) k1;replace k2:=cell_later (aE hb1 (by repeat (with_reducible first|exact aD _|apply aA|apply aC))) k2;replace k3:=cell_later (aE hb1 (by repeat (with_reducible first|exact aD _|apply aA|apply aC))) k3;replace k4:=cell_later (aE hb1 (by repeat (with_reducible first|exact aD _|apply aA|apply aC))) k4;replace k5:=cell_later (aE hb1 (by repeat (with_reducible first|exact aD _|apply aA|apply aC))) k5;replace z0:=World.block_lt_of_cell? _ _ k0;replace z1:=World.block_lt_of_cell? _ _ k2;replace z2:=World.block_lt_of_cell? _ _ k4;simp only[]at z0 z1 z2;clear hb1)
  |(go_at_call 19;refine(aGF _ _ hb hone hb1' _).mono ?_;rintro e w8 ⟨rfl,hb1⟩;replace f1_0:=aJ (aE hb1 (by repeat (with_reducible first|exact aD _|apply aA|apply aC))) k2 f1_0;replace f1_1:=aJ (aE hb1 (by repeat (with_reducible first|exact aD _|apply aA|apply aC))) k3 f1_1;replace fz2_0:=aJ (aE hb1 (by repeat (with_reducible first|exact aD _|apply aA|apply aC))) k4 fz2_0;replace fz2_1:=aJ (aE hb1 (by repeat (with_reducible first|exact aD _|apply aA|apply aC))) k5 fz2_1;replace hB:=aE hb1 (by repeat (with_reducible first|exact hB|apply aA|apply aC));replace k0:=cell_later (aE hb1 (by repeat (with_reducible first|exact aD _|apply aA|apply aC))) k0;replace k1:=cell_later (aE hb1 (by repeat (with_reducible first|exact aD _|apply aA|apply aC))) k1;replace k2:=cell_later (aE hb1 (by repeat (with_reducible first|exact aD _|apply aA|apply aC))) k2;replace k3:=cell_later (aE hb1 (by repeat (with_reducible first|exact aD _|apply aA|apply aC))) k3;replace k4:=cell_later (aE hb1 (by repeat (with_reducible first|exact aD _|apply aA|apply aC))) k4;replace k5:=cell_later (aE hb1 (by repeat (with_reducible first|exact aD _|apply aA|apply aC))) k5;replace z0:=World.block_lt_of_cell? _ _ k0;replace z1:=World.block_lt_of_cell? _ _ k2;replace z2:=World.block_lt_of_cell? _ _ k4;simp only[]at z0 z1 z2;clear hb1;rw[eq]))
 all_goals go_wp2
 ·skip
  obtain⟨w9,hw0⟩:∃ x:World,x=((((w8.setCell ⟨w1.heap.size,0,none⟩ (.int .i64 (hi q))).setCell ⟨w1.heap.size,1,none⟩ (.int .u64 (lo q))).setCell ⟨w.heap.size+1,0,none⟩ (.int .i64 (hi q))).setCell ⟨w.heap.size+1,1,none⟩ (.int .u64 (lo q))):=⟨_,rfl⟩
  have new_k0:w9.cell? ⟨w.heap.size,0,none⟩=some (.int .i64 (hi (a))):=by rw[hw0];exact(aB (by omega) (aB (by omega) (aB (by omega) (aB (by omega) k0))))
  have new_k1:w9.cell? ⟨w.heap.size,1,none⟩=some (.int .u64 (lo (a))):=by rw[hw0];exact(aB (by omega) (aB (by omega) (aB (by omega) (aB (by omega) k1))))
  have new_k2:w9.cell? ⟨w.heap.size+1,0,none⟩=some (.int .i64 (hi q)):=by rw[hw0];exact(aB (by omega) (aV (aB (by omega) (aB (by omega) k2))))
  have new_k3:w9.cell? ⟨w.heap.size+1,1,none⟩=some (.int .u64 (lo q)):=by rw[hw0];exact(aV (aB (by omega) (aB (by omega) (aB (by omega) k3))))
  have new_k4:w9.cell? ⟨w1.heap.size,0,none⟩=some (.int .i64 (hi q)):=by rw[hw0];exact(aB (by omega) (aB (by omega) (aB (by omega) (aV k4))))
  have new_k5:w9.cell? ⟨w1.heap.size,1,none⟩=some (.int .u64 (lo q)):=by rw[hw0];exact(aB (by omega) (aB (by omega) (aV (aB (by omega) k5))))
  replace f1_0:w9.frozen? ⟨w.heap.size+1,0,none⟩=false:=by rw[hw0];(repeat rw[World.frozen?_setCell]);exact f1_0
  replace f1_1:w9.frozen? ⟨w.heap.size+1,1,none⟩=false:=by rw[hw0];(repeat rw[World.frozen?_setCell]);exact f1_1
  replace fz2_0:w9.frozen? ⟨w1.heap.size,0,none⟩=false:=by rw[hw0];(repeat rw[World.frozen?_setCell]);exact fz2_0
  replace fz2_1:w9.frozen? ⟨w1.heap.size,1,none⟩=false:=by rw[hw0];(repeat rw[World.frozen?_setCell]);exact fz2_1
  replace hB:Below w.heap.size w w9:=by rw[hw0];repeat (with_reducible first|exact hB|refine bN _ (by omega) ?_)
  clear k0 k1 k2 k3 k4 k5
  have k0:=new_k0;clear new_k0
  have k1:=new_k1;clear new_k1
  have k2:=new_k2;clear new_k2
  have k3:=new_k3;clear new_k3
  have k4:=new_k4;clear new_k4
  have k5:=new_k5;clear new_k5
  replace z0:w.heap.size<w9.heap.size:=World.block_lt_of_cell? _ _ k0
  replace z1:w.heap.size+1<w9.heap.size:=World.block_lt_of_cell? _ _ k2
  replace z2:w1.heap.size<w9.heap.size:=World.block_lt_of_cell? _ _ k4
  rw[←hw0]
  clear hw0
  exact bodyPost_ret (v := .tuple #[.agg #[.int .i64 (hi (q)),.int .u64 (lo (q))],.int .i64 0]) (by simp [results,Try.results31,go_sem, *]) rfl ⟨rfl,by repeat (with_reducible first|exact hB|refine bN _ (by omega) ?_|apply aA|apply aC)⟩
 ·skip
  obtain⟨w9,hw0⟩:∃ x:World,x=((((w8.setCell ⟨w1.heap.size,0,none⟩ (.int .i64 (hi q))).setCell ⟨w1.heap.size,1,none⟩ (.int .u64 (lo q))).setCell ⟨w.heap.size+1,0,none⟩ (.int .i64 (hi q))).setCell ⟨w.heap.size+1,1,none⟩ (.int .u64 (lo q))):=⟨_,rfl⟩
  have new_k0:w9.cell? ⟨w.heap.size,0,none⟩=some (.int .i64 (hi (a))):=by rw[hw0];exact(aB (by omega) (aB (by omega) (aB (by omega) (aB (by omega) k0))))
  have new_k1:w9.cell? ⟨w.heap.size,1,none⟩=some (.int .u64 (lo (a))):=by rw[hw0];exact(aB (by omega) (aB (by omega) (aB (by omega) (aB (by omega) k1))))
  have new_k2:w9.cell? ⟨w.heap.size+1,0,none⟩=some (.int .i64 (hi q)):=by rw[hw0];exact(aB (by omega) (aV (aB (by omega) (aB (by omega) k2))))
  have new_k3:w9.cell? ⟨w.heap.size+1,1,none⟩=some (.int .u64 (lo q)):=by rw[hw0];exact(aV (aB (by omega) (aB (by omega) (aB (by omega) k3))))
  have new_k4:w9.cell? ⟨w1.heap.size,0,none⟩=some (.int .i64 (hi q)):=by rw[hw0];exact(aB (by omega) (aB (by omega) (aB (by omega) (aV k4))))
  have new_k5:w9.cell? ⟨w1.heap.size,1,none⟩=some (.int .u64 (lo q)):=by rw[hw0];exact(aB (by omega) (aB (by omega) (aV (aB (by omega) k5))))
  replace f1_0:w9.frozen? ⟨w.heap.size+1,0,none⟩=false:=by rw[hw0];(repeat rw[World.frozen?_setCell]);exact f1_0
  replace f1_1:w9.frozen? ⟨w.heap.size+1,1,none⟩=false:=by rw[hw0];(repeat rw[World.frozen?_setCell]);exact f1_1
  replace fz2_0:w9.frozen? ⟨w1.heap.size,0,none⟩=false:=by rw[hw0];(repeat rw[World.frozen?_setCell]);exact fz2_0
  replace fz2_1:w9.frozen? ⟨w1.heap.size,1,none⟩=false:=by rw[hw0];(repeat rw[World.frozen?_setCell]);exact fz2_1
  replace hB:Below w.heap.size w w9:=by rw[hw0];repeat (with_reducible first|exact hB|refine bN _ (by omega) ?_)
  clear k0 k1 k2 k3 k4 k5
  have k0:=new_k0;clear new_k0
  have k1:=new_k1;clear new_k1
  have k2:=new_k2;clear new_k2
  have k3:=new_k3;clear new_k3
  have k4:=new_k4;clear new_k4
  have k5:=new_k5;clear new_k5
  replace z0:w.heap.size<w9.heap.size:=World.block_lt_of_cell? _ _ k0
  replace z1:w.heap.size+1<w9.heap.size:=World.block_lt_of_cell? _ _ k2
  replace z2:w1.heap.size<w9.heap.size:=World.block_lt_of_cell? _ _ k4
  rw[←hw0]
  clear hw0
  exact bodyPost_ret (v := .tuple #[.agg #[.int .i64 (hi (q)),.int .u64 (lo (q))],.int .i64 0]) (by simp [results,Try.results31,go_sem, *]) rfl ⟨rfl,by repeat (with_reducible first|exact hB|refine bN _ (by omega) ?_|apply aA|apply aC)⟩
theorem aKG (a d:Int) (ha:kW a) (hd:0<d) (hd':d≤9223372036854775807) (w:World):Calls Try.prog 31 #[.agg #[.int .i64 (hi (a)),.int .u64 (lo (a))],.int .i64 d] w fun e w'=>e = .returned (.tuple #[.agg #[.int .i64 (hi (near a d)),.int .u64 (lo (near a d))],.int .i64 0])∧Below w.heap.size w w':=by
 by_cases hc:d-a % d≤a % d
 ·exact aC9 a d _ ha hd hd' hc rfl w
 ·exact aCW a d _ ha hd hd' hc rfl w
end Go.Proofs.Ytoiecphddchknaa
namespace Fx
def near (n d:Int):Int:=(2*n+d) / (2*d)
def sat (n:Int):Int:=if n < -2147483648 then -2147483648 else if 2147483647<n then 2147483647 else n
def fix (a:Int):Prop := -2147483648≤a∧a≤2147483647
def mul (a b:Int):Int:=sat (near (a*b) 65536)
def down (a:Int):Int:=a / 65536*65536
def aS4 (a:Int):Int:=sat (down a)
def round (a:Int):Int:=sat (down (a+32768))
theorem uE (n:Int):(n < -2147483648∧sat n = -2147483648)∨(2147483647<n∧sat n=2147483647)∨(fix n∧sat n=n):=by
 unfold sat fix;split
 ·omega
 ·split<;>omega
theorem aQO {n:Int} (h:fix n):sat n=n:=by unfold fix at h;rcases uE n with⟨_,g⟩|⟨_,g⟩|⟨_,g⟩<;>omega
theorem near_spec (n d:Int) (hd:0<d):2*(near n d*d)≤2*n+d∧2*n+d<2*(near n d*d)+2*d:=by
 unfold near
 have e:=Int.emod_add_mul_ediv (2*n+d) (2*d)
 have l:=Int.emod_lt_of_pos (2*n+d) (show 0<2*d by omega)
 have z:=Int.emod_nonneg (2*n+d) (show 2*d≠0 by omega)
 generalize (2*n+d) / (2*d)=q at *
 have k:2*d*q=2*(q*d):=by grind
 omega
theorem near_uniq (n d q:Int) (hd:0<d) (h1:2*(q*d)≤2*n+d) (h2:2*n+d<2*(q*d)+2*d):near n d=q:=by
 have hp:0<2*d:=by omega
 unfold near
 apply Int.le_antisymm
 ·refine Int.le_of_lt_add_one ((Int.ediv_lt_iff_lt_mul hp).2 ?_)
  have k:(q+1)*(2*d)=2*(q*d)+2*d:=by grind
  omega
 ·refine(Int.le_ediv_iff_mul_le hp).2 ?_
  have k:q*(2*d)=2*(q*d):=by grind
  omega
theorem near_mono {m n d:Int} (hd:0<d) (h:m≤n):near m d≤near n d:=by
 unfold near;exact Int.ediv_le_ediv (by omega) (by omega)
theorem aE7 (q d:Int) (hd:0<d):near (q*d) d=q:=near_uniq _ _ _ hd (by omega) (by omega)
theorem mul_comm (a b:Int):mul a b=mul b a:=by unfold mul;rw[Int.mul_comm]
theorem mul_one (a:Int) (ha:fix a):mul a 65536=a:=by unfold mul;rw[aE7 a 65536 (by decide)];exact aQO ha
theorem mul_neg (a b:Int) (hp':mul a b≠2147483647):
  (mul (-a) b = -mul a b∧a*b % 65536≠32768)∨(mul (-a) b = -mul a b+1∧a*b % 65536=32768)∨(mul (-a) b=2147483647∧mul a b < -2147483646):=by
 have e : -a*b = -(a*b):=by grind
 unfold mul at *
 rw[e];unfold near
 generalize a*b=p at *
 have s1:=uE ((2*p+65536) / (2*65536));have s2:=uE ((2 * -p+65536) / (2*65536))
 unfold near at hp'
 unfold fix at s1 s2
 omega
end Fx
namespace Nu
def dg (N:Int) (M:Int):Int:=N / M % 65536
theorem dg_bd (N M:Int):0≤dg N M∧dg N M<65536:=by unfold dg;omega
def aFT (A B M:Int):Int:=(A % M+B % M) / M
theorem aOd (A B M:Int) (hM:0<M):0≤aFT A B M∧aFT A B M≤1:=by
 have a0:=Int.emod_nonneg A (show M≠0 by omega)
 have a1:=Int.emod_lt_of_pos A hM
 have b0:=Int.emod_nonneg B (show M≠0 by omega)
 have b1:=Int.emod_lt_of_pos B hM
 unfold aFT
 refine⟨Int.ediv_nonneg (by omega) (by omega),?_⟩
 have:(A % M+B % M) / M<2:=Int.ediv_lt_of_lt_mul hM (by omega)
 omega
theorem aFP (A B M:Int) (hM:0<M):dg (A+B) M=(aFT A B M+dg A M+dg B M) % 65536:=by
 have ha:=Int.mul_ediv_add_emod A M
 have hb:=Int.mul_ediv_add_emod B M
 have e:A+B=(A % M+B % M)+M*(A / M+B / M):=by rw[Int.mul_add];omega
 have e2:(A+B) / M=aFT A B M+(A / M+B / M):=by
  unfold aFT
  conv=>lhs;rw[e]
  exact Int.add_mul_ediv_left _ _ (by omega)
 unfold dg
 rw[e2]
 omega
def lent (A B M:Int):Int:=if A % M<B % M then 1 else 0
end Nu
namespace Nu
theorem pr (A B M:Int) (hM:0<M):(aFT A B M+dg A M+dg B M).tmod 65536=dg (A+B) M:=by
 have a:=dg_bd A M
 have b:=dg_bd B M
 have k:=aOd A B M hM
 rw[Int.tmod_eq_emod_of_nonneg (by omega),aFP A B M hM]
end Nu
namespace Nu
end Nu
namespace Nu
end Nu
namespace Go.Proofs.Ytoiecphddchknaa
open Go Go.RowKit Sx Wi
def wG:Nat→List Int→Int
 |0,[x]=>hi x
 |1,[x]=>lo x
 |2,[n,d]=>Fx.near n d
 |30,[n,m]=>Nu.dg n m
 |32,[a,b,m]=>Nu.lent a b m
 |33,[n,m]=>n % m
 |g,xs=>Lc.fn g xs
def hiI (p:Int × Int):Int × Int:=(p.1 / 18446744073709551616,p.2 / 18446744073709551616)
def loI (p:Int × Int):Int × Int:=if p.1 / 18446744073709551616=p.2 / 18446744073709551616 then (p.1 % 18446744073709551616,p.2 % 18446744073709551616) else (0,18446744073709551615)
def aLp (p q:Int × Int):Option (Int × Int):=
 if 0<q.1 then (if q.1=q.2 then some (Fx.near p.1 q.1,Fx.near p.2 q.1) else some (iD p.1 0,iL p.2 0)) else none
def wGI:Nat→List gC→gC
 |0,[some p]=>some (hiI p)
 |1,[some p]=>some (loI p)
 |2,[some p,some q]=>aLp p q
 |30,_=>some (0,65535)
 |32,_=>some (0,1)
 |33,[_,some q]=>if 0<q.1 then some (0,q.2-1) else none
 |g,_=>Lc.fnI g
theorem aQ4 {p:Int × Int} {x:Int} (h:p.1≤x∧x≤p.2):(hiI p).1≤hi x∧hi x≤(hiI p).2:=by
 unfold hiI hi;dsimp only;omega
theorem aQ3 {p:Int × Int} {x:Int} (h:p.1≤x∧x≤p.2):(loI p).1≤lo x∧lo x≤(loI p).2:=by
 unfold loI lo;split<;>dsimp only<;>omega
theorem aOA (n d:Int) (hd:0<d):(0≤n→0≤Fx.near n d∧Fx.near n d≤n)∧(n≤0→n≤Fx.near n d∧Fx.near n d≤0):=by
 have z:Fx.near 0 d=0:=Fx.near_uniq _ _ _ hd (by omega) (by omega)
 have k:∀ m:Int,0≤m→Fx.near m d≤m:=by
  intro m hm
  obtain⟨h1,h2⟩:=Fx.near_spec m d hd
  rcases Int.lt_or_le m (Fx.near m d)with g|g
  ·exfalso
   have:=Int.mul_le_mul_of_nonneg_right (show m+1≤Fx.near m d by omega) (show 0≤d by omega)
   have e:(m+1)*d=m*d+d:=by grind
   have:=Int.mul_le_mul_of_nonneg_left (show 1≤d by omega) hm
   omega
  ·exact g
 refine⟨fun h=>⟨?_,k n h⟩,fun h=>⟨?_,?_⟩⟩
 ·rw[←z];exact Fx.near_mono hd h
 ·obtain⟨h1,h2⟩:=Fx.near_spec n d hd
  rcases Int.lt_or_le (Fx.near n d) n with g|g
  ·exfalso
   have:=Int.mul_le_mul_of_nonneg_right (show Fx.near n d≤n-1 by omega) (show 0≤d by omega)
   have e:(n-1)*d=n*d-d:=by grind
   have:=Int.mul_le_mul_of_nonpos_left h (show 1≤d by omega)
   omega
  ·exact g
 ·rw[←z];exact Fx.near_mono hd h
theorem aMn {p q:Int × Int} {n d:Int} (h:p.1≤n∧n≤p.2) (g:q.1≤d∧d≤q.2):gC.has (aLp p q) (Fx.near n d):=by
 unfold aLp
 split
 ·rename_i h0
  split
  ·rename_i e
   have:d=q.1:=by omega
   subst this
   exact⟨Fx.near_mono h0 h.1,Fx.near_mono h0 h.2⟩
  ·obtain⟨k1,k2⟩:=aOA n d (by omega)
   simp only[gC.has,iD,iL]
   rcases Int.le_total 0 n with hn|hn
   ·have:=k1 hn;split<;>split<;>omega
   ·have:=k2 hn;split<;>split<;>omega
 ·trivial
theorem w30:∀ xs:List Int,0≤wG 30 xs∧wG 30 xs≤65535
 |[n,m]=>by have:=Nu.dg_bd n m;show 0≤Nu.dg n m∧Nu.dg n m≤65535;omega
 |[]=>by decide
 |[_]=>⟨Int.le_refl 0,(by decide:(0:Int)≤65535)⟩
 |_::_::_::_=>⟨Int.le_refl 0,(by decide:(0:Int)≤65535)⟩
theorem w32:∀ xs:List Int,0≤wG 32 xs∧wG 32 xs≤1
 |[a,b,m]=>by show 0≤Nu.lent a b m∧Nu.lent a b m≤1;unfold Nu.lent;split<;>omega
 |[]=>by decide
 |[_]=>⟨Int.le_refl 0,(by decide:(0:Int)≤1)⟩
 |[_,_]=>⟨Int.le_refl 0,(by decide:(0:Int)≤1)⟩
 |_::_::_::_::_=>⟨Int.le_refl 0,(by decide:(0:Int)≤1)⟩
theorem aQ2:∀ g is xs,cM is xs→(wGI g is).has (wG g xs):=by
 intro g is xs h
 unfold wGI
 split
 ·match xs,h with
  |[x],h=>exact aQ4 h.1
  |[],h=>simp [cM]at h
  |_::_::_,h=>simp [cM]at h
 ·match xs,h with
  |[x],h=>exact aQ3 h.1
  |[],h=>simp [cM]at h
  |_::_::_,h=>simp [cM]at h
 ·match xs,h with
  |[x,y],h=>exact aMn h.1 h.2.1
  |[],h=>simp [cM]at h
  |[_],h=>simp [cM]at h
  |_::_::_::_,h=>simp [cM]at h
 ·exact w30 xs
 ·exact w32 xs
 ·match xs,h with
  |[n,m],h=>
   split
   ·rename_i hq
    have hm:=h.2.1
    simp only[gC.has]at hm
    have a0:=Int.emod_nonneg n (show m≠0 by omega)
    have a1:=Int.emod_lt_of_pos n (show 0<m by omega)
    show 0≤n % m∧n % m≤_-1
    omega
   ·trivial
  |[],h=>simp [cM]at h
  |[_],h=>simp [cM]at h
  |_::_::_::_,h=>simp [cM]at h
 ·rename_i h0 h1 h2 h3 h4 h5
  have e:wG g xs=Lc.fn g xs∨(∃ x,g=0∧xs=[x])∨(∃ x,g=1∧xs=[x])∨(∃ n d,g=2∧xs=[n,d])∨(∃ n m,g=33∧xs=[n,m])∨g=30∨g=32:=by
   unfold wG
   split
   ·exact .inr (.inl ⟨_,rfl,rfl⟩)
   ·exact .inr (.inr (.inl ⟨_,rfl,rfl⟩))
   ·exact .inr (.inr (.inr (.inl ⟨_,_,rfl,rfl⟩)))
   ·exact .inr (.inr (.inr (.inr (.inr (.inl rfl)))))
   ·exact .inr (.inr (.inr (.inr (.inr (.inr rfl)))))
   ·exact .inr (.inr (.inr (.inr (.inl ⟨_,_,rfl,rfl⟩))))
   ·exact .inl rfl
  rcases e with e|⟨x,rfl,rfl⟩|⟨x,rfl,rfl⟩|⟨n,d,rfl,rfl⟩|⟨n,m,rfl,rfl⟩|rfl|rfl
  ·rw[e];exact Lc.fnI_ok g xs
  all_goals trivial
theorem aMU:aJ2 wG:=by
 intro g xs h1 h2
 unfold wG
 split<;>first|omega|rfl
def fM:List Int→Int
 |[x]=>Ed.sg x
 |_=>0
def iS:List Int→Int
 |[a,b,c,d,e,f]=>sd a b c d e f
 |_=>0
def gR:List Int→Int
 |[a,b,c,d,e,f,g,h]=>Ed.claim ⟨a,b⟩ ⟨c,d⟩ ⟨e,f⟩ ⟨g,h⟩
 |_=>0
def dB (j:Nat):List Int→Int
 |[a,b,c,d,e,f,g,h]=>wt ⟨a,b⟩ ⟨c,d⟩ ⟨e,f⟩ ⟨g,h⟩ j
 |_=>0
def dY:List Int→Int
 |[a,b,c,d]=>if a<c then -1 else if c<a then 1 else if b<d then -1 else if d<b then 1 else 0
 |_=>0
theorem aNP (xs:List Int) : -1≤dY xs∧dY xs≤1:=by
 unfold dY;(repeat' split)<;>omega
def fq (n d:Int):Int:=if 1≤d then Int.fdiv n d else 0
def aOe:List Int→Int
 |[n,d]=>fq n d
 |_=>0
theorem aQd (n d:Int):min n 0≤fq n d∧fq n d≤max n 0:=by
 unfold fq
 split
 ·rename_i h
  rw[Int.fdiv_eq_ediv_of_nonneg _ (by omega)]
  rcases Int.le_total 0 n with hn|hn
  ·have h1:=Int.ediv_nonneg hn (show 0≤d by omega)
   have h2:=Int.ediv_le_self d hn
   omega
  ·have h1:n / d≤0:=by
    have:=Int.ediv_le_ediv (show 0<d by omega) hn
    rw[Int.zero_ediv]at this
    exact this
   have h2:n≤n / d:=by
    apply Int.le_ediv_of_mul_le (by omega)
    have:=Int.mul_le_mul_of_nonpos_left (a:=n) (b:=d) (c:=1) hn h
    omega
   omega
 ·omega
def wL (s a d:Int):Int:=max (-2147483648) (min 2147483647 (fq (fq (s*2+a*d) d) (2*a)))
def wI (n0 n1 n2 w0 w1 w2:Int):Int:=0+n0*w0+n1*w1+n2*w2
def pO:List Int→Int
 |[n0,n1,n2,d,w0,w1,w2]=>if w0+w1+w2<0 then wL (0-wI n0 n1 n2 w0 w1 w2) (0-(w0+w1+w2)) d else wL (wI n0 n1 n2 w0 w1 w2) (w0+w1+w2) d
 |_=>0
def mY (w0 w1 w2:Int):Prop:=(-3602879701896396800≤w0+w1+w2∧w0+w1+w2≤3602879701896396800)∧((0≤w0∧0≤w1∧0≤w2∧1≤w0+w1+w2)∨(w0≤0∧w1≤0∧w2≤0∧w0+w1+w2 ≤ -1))
instance (w0 w1 w2:Int):Decidable (mY w0 w1 w2):=by unfold mY;infer_instance
def bZ:List Int→Int
 |[n0,n1,n2,w0,w1,w2]=>if mY w0 w1 w2 then pO [n0,n1,n2,1,w0,w1,w2] else 0
 |_=>0
theorem aRz (n:Int):fq n 1=n:=by unfold fq;rw[if_pos (by decide),Int.fdiv_one]
theorem aPN {n d k:Int} (hd:1≤d) (h:n<(k+1)*d):fq n d≤k:=by
 unfold fq;rw[if_pos hd,Int.fdiv_eq_ediv_of_nonneg _ (by omega)]
 exact Int.le_of_lt_add_one (Int.ediv_lt_of_lt_mul (by omega) h)
theorem aNO {n d k:Int} (hd:1≤d) (h:k*d≤n):k≤fq n d:=by
 unfold fq;rw[if_pos hd,Int.fdiv_eq_ediv_of_nonneg _ (by omega)]
 exact Int.le_ediv_of_mul_le (by omega) h
theorem aAU {s a lo hi:Int} (ha:1≤a) (h1:lo*a≤s) (h2:s≤hi*a) (g1 : -2147483648≤lo) (g2:hi≤2147483647):lo≤wL s a 1∧wL s a 1≤hi:=by
 have e:s*2+a*1=2*s+a:=by omega
 have u1:lo*(2*a)=2*(lo*a):=by grind
 have u2:(hi+1)*(2*a)=2*(hi*a)+2*a:=by grind
 have q1:lo≤fq (2*s+a) (2*a):=aNO (by omega) (by omega)
 have q2:fq (2*s+a) (2*a)≤hi:=aPN (by omega) (by omega)
 unfold wL
 rw[aRz,e]
 omega
theorem aCZ {n0 n1 n2 w0 w1 w2 lo hi:Int} (h0:lo≤n0∧n0≤hi) (h1:lo≤n1∧n1≤hi) (h2:lo≤n2∧n2≤hi) (g0:0≤w0) (g1:0≤w1) (g2:0≤w2):lo*(w0+w1+w2)≤wI n0 n1 n2 w0 w1 w2∧wI n0 n1 n2 w0 w1 w2≤hi*(w0+w1+w2):=by
 unfold wI
 have a0:=Int.mul_le_mul_of_nonneg_right h0.1 g0;have c0:=Int.mul_le_mul_of_nonneg_right h0.2 g0
 have a1:=Int.mul_le_mul_of_nonneg_right h1.1 g1;have c1:=Int.mul_le_mul_of_nonneg_right h1.2 g1
 have a2:=Int.mul_le_mul_of_nonneg_right h2.1 g2;have c2:=Int.mul_le_mul_of_nonneg_right h2.2 g2
 have e1:lo*(w0+w1+w2)=lo*w0+lo*w1+lo*w2:=by rw[Int.mul_add,Int.mul_add]
 have e2:hi*(w0+w1+w2)=hi*w0+hi*w1+hi*w2:=by rw[Int.mul_add,Int.mul_add]
 omega
theorem aJV {n0 n1 n2 w0 w1 w2 lo hi:Int} (h0:lo≤n0∧n0≤hi) (h1:lo≤n1∧n1≤hi) (h2:lo≤n2∧n2≤hi) (g0:w0≤0) (g1:w1≤0) (g2:w2≤0):lo*(0-(w0+w1+w2))≤0-wI n0 n1 n2 w0 w1 w2∧0-wI n0 n1 n2 w0 w1 w2≤hi*(0-(w0+w1+w2)):=by
 have k:=aCZ (w0 := -w0) (w1 := -w1) (w2 := -w2) h0 h1 h2 (by omega) (by omega) (by omega)
 have e:wI n0 n1 n2 (-w0) (-w1) (-w2)=0-wI n0 n1 n2 w0 w1 w2:=by unfold wI;grind
 have e2 : -w0 + -w1 + -w2=0-(w0+w1+w2):=by omega
 rw[e,e2]at k
 exact k
theorem aHN {n0 n1 n2 w0 w1 w2 lo hi:Int} (h0:lo≤n0∧n0≤hi) (h1:lo≤n1∧n1≤hi) (h2:lo≤n2∧n2≤hi) (g1 : -2147483648≤lo∧lo≤0) (g2:0≤hi∧hi≤2147483647):lo≤bZ [n0,n1,n2,w0,w1,w2]∧bZ [n0,n1,n2,w0,w1,w2]≤hi:=by
 show lo≤(if mY w0 w1 w2 then _ else _)∧(if mY w0 w1 w2 then _ else _)≤hi
 by_cases hf:mY w0 w1 w2
 ·rw[if_pos hf]
  show lo≤(if w0+w1+w2<0 then _ else _)∧(if w0+w1+w2<0 then _ else _)≤hi
  rcases hf.2 with⟨p0,p1,p2,p3⟩|⟨p0,p1,p2,p3⟩
  ·rw[if_neg (by omega)]
   obtain⟨q1,q2⟩:=aCZ h0 h1 h2 p0 p1 p2
   exact aAU p3 q1 q2 g1.1 g2.2
  ·rw[if_pos (by omega)]
   obtain⟨q1,q2⟩:=aJV h0 h1 h2 p0 p1 p2
   exact aAU (by omega) q1 q2 g1.1 g2.2
 ·rw[if_neg hf];omega
theorem aBY (s a d:Int) : -2147483648≤wL s a d∧wL s a d≤2147483647:=by unfold wL;omega
theorem aHq (xs:List Int) : -2147483648≤pO xs∧pO xs≤2147483647:=by
 unfold pO;split
 ·split<;>exact aBY _ _ _
 ·omega
theorem aPl (xs:List Int) : -1≤fM xs∧fM xs≤1:=by
 unfold fM;split
 ·exact aDN _
 ·omega
theorem aPD (xs:List Int) : -1≤iS xs∧iS xs≤1:=by
 unfold iS;split
 ·exact aSp _ _ _ _ _ _
 ·omega
theorem aNu (xs:List Int) : -1≤gR xs∧gR xs≤1:=by
 unfold gR;split
 ·exact aMS _ _ _ _
 ·omega
theorem aHb (j:Nat) (xs:List Int) : -3602879701896396800≤dB j xs∧dB j xs≤3602879701896396800:=by
 unfold dB;split
 ·exact aR7 _ _ _ _ _
 ·omega
def aDg (a b c:Int):Int:=max 0 (Int.fdiv (min (min a b) c-128+256-1) 256)
def uD (m a b c:Int):Int:=min m (Int.fdiv (max (max a b) c-128) 256+1)
def kS:List Int→Int
 |[j,k,n0,n1,n2,d,w0,w1,w2]=>if j<k then pO [n0,n1,n2,d,w0,w1,w2] else 0
 |_=>0
theorem aNw (xs:List Int) : -2147483648≤kS xs∧kS xs≤2147483647:=by
 unfold kS;split
 ·split
  ·exact aHq _
  ·omega
 ·omega
def aT (xs:List Int):Int:=aDg (xs.getD 0 0) (xs.getD 2 0) (xs.getD 4 0)
def cT (xs:List Int):Int:=uD (xs.getD 24 0) (xs.getD 0 0) (xs.getD 2 0) (xs.getD 4 0)
def aW (xs:List Int):Int:=aDg (xs.getD 1 0) (xs.getD 3 0) (xs.getD 5 0)
def jT (xs:List Int):Int:=uD (xs.getD 25 0) (xs.getD 1 0) (xs.getD 3 0) (xs.getD 5 0)
def aGq (xs:List Int) (C y x:Int):Int:=
 let t:=xs.take 6
 let w:=fun j=>dB j (t++[x*256+128,y*256+128])
 let c:=fun j:Nat=>kS [(j:Int),xs.getD 22 0,xs.getD (6+j) 0,xs.getD (10+j) 0,xs.getD (14+j) 0,xs.getD (18+j) 0,w 0,w 1,w 2]
 if gR (t++[x*256+128,y*256+128])=0 then C else
  wG 92 [C,y*xs.getD 24 0+x,1,xs.getD 23 0,0,0,c 0,c 1,c 2,c 3]
def wK (xs:List Int) (C y:Int):Nat→Int
 |0=>C
 |j+1=>aGq xs (wK xs C y j) y (aT xs+j)
def fS (xs:List Int) (C:Int):Nat→Int
 |0=>C
 |i+1=>wK xs (fS xs C i) (aW xs+i) (cT xs-aT xs).toNat
def aSW (xs:List Int):Int:=fS (xs.take 26) (xs.getD 26 0) (xs.getD 27 0-aW (xs.take 26)).toNat
def aNl:List Int→Int
 |[n0,n1,n2,n3,d,w0,w1,w2,w3]=>wL (0+n0*w0+n1*w1+n2*w2+n3*w3) (w0+w1+w2+w3) d
 |_=>0
theorem aOJ (xs:List Int) : -2147483648≤aNl xs∧aNl xs≤2147483647:=by
 unfold aNl;split
 ·exact aBY _ _ _
 ·omega
def aSV (u v:Int):Int:=(65536-u)*(65536-v)+(65536-u)*v+u*v+u*(65536-v)
def aSQ (a b c e u v:Int):Int:=0+a*((65536-u)*(65536-v))+b*((65536-u)*v)+c*(u*v)+e*(u*(65536-v))
def qD:List Int→Int
 |[n0,n1,n2,n3,d,u,v]=>wL (aSQ n0 n1 n2 n3 u v) (aSV u v) d
 |_=>0
theorem aGJ (xs:List Int) : -2147483648≤qD xs∧qD xs≤2147483647:=by
 unfold qD;split
 ·exact aBY _ _ _
 ·omega
def kO:List Int→Int
 |[j,k,n0,n1,n2,n3,d,u,v]=>if j<k then qD [n0,n1,n2,n3,d,u,v] else 0
 |_=>0
theorem aOp (xs:List Int) : -2147483648≤kO xs∧kO xs≤2147483647:=by
 unfold kO;split
 ·split
  ·exact aGJ _
  ·omega
 ·omega
def bC (xs:List Int):Int:=uD (xs.getD 34 0) (xs.getD 0 0) (xs.getD 2 0) (xs.getD 4 0)
def kT (xs:List Int):Int:=uD (xs.getD 35 0) (xs.getD 1 0) (xs.getD 3 0) (xs.getD 5 0)
def aEy (C i f u v:Int):Prop:=wG 88 [C,i,0]=0∨(¬f=wG 83 [C,i,1]∧wG 83 [C,i,1]<f)∨(f=wG 83 [C,i,1]∧¬v=wG 82 [C,i,3]∧wG 82 [C,i,3]<v)∨(f=wG 83 [C,i,1]∧v=wG 82 [C,i,3]∧wG 82 [C,i,2]≤u)
instance (C i f u v:Int):Decidable (aEy C i f u v):=by unfold aEy;infer_instance
def aAm (xs:List Int) (C y x:Int):Int:=
 let t:=xs.take 6
 let w:=fun j=>dB j (t++[x*256+128,y*256+128])
 let u:=bZ [xs.getD 6 0,xs.getD 7 0,xs.getD 8 0,w 0,w 1,w 2]
 let v:=bZ [xs.getD 9 0,xs.getD 10 0,xs.getD 11 0,w 0,w 1,w 2]
 let c:=fun j:Nat=>kO [(j:Int),xs.getD 32 0,xs.getD (12+j) 0,xs.getD (16+j) 0,xs.getD (20+j) 0,xs.getD (24+j) 0,xs.getD (28+j) 0,u,v]
 if gR (t++[x*256+128,y*256+128])=0 then C else
  if aEy C (y*xs.getD 34 0+x) (xs.getD 33 0) u v then wG 92 [C,y*xs.getD 34 0+x,1,xs.getD 33 0,u,v,c 0,c 1,c 2,c 3] else C
def lG (xs:List Int) (C y:Int):Nat→Int
 |0=>C
 |j+1=>aAm xs (lG xs C y j) y (aT xs+j)
def cU (xs:List Int) (C:Int):Nat→Int
 |0=>C
 |i+1=>lG xs (cU xs C i) (aW xs+i) (bC xs-aT xs).toNat
def aST (xs:List Int):Int:=cU (xs.take 36) (xs.getD 36 0) (xs.getD 37 0-aW (xs.take 36)).toNat
def rD (r:List Int) (k:Nat):Int:=r.getD k 0*18446744073709551616+r.getD (k+1) 0
def aMx (a:Int):Prop := -1125899906842624≤a∧a≤1125899906842624
instance (a:Int):Decidable (aMx a):=by unfold aMx;infer_instance
def aRn (a:Int):Prop:=1≤a∧a≤65535
instance (a:Int):Decidable (aRn a):=by unfold aRn;infer_instance
def aRN (r:List Int):Prop:=∀ k,k<6 → -671088640≤r.getD k 0∧r.getD k 0≤671088640
instance (r:List Int):Decidable (aRN r):=by unfold aRN;infer_instance
def zV (r:List Int):Prop:=aRN r∧1≤r.getD 42 0∧r.getD 42 0≤4∧∀ j:Nat,j<4→(j:Int)<r.getD 42 0→aRn (r.getD (8+3*j) 0)∧r.getD (20+3*j) 0=r.getD (8+3*j) 0∧r.getD (32+3*j) 0=r.getD (8+3*j) 0∧aMx (rD r (6+3*j))∧aMx (rD r (18+3*j))∧aMx (rD r (30+3*j))
instance (r:List Int):Decidable (zV r):=by unfold zV;infer_instance
def aB5 (r:List Int) (f w h:Int):List Int:=r.take 6++[rD r 6,rD r 9,rD r 12,rD r 15,rD r 18,rD r 21,rD r 24,rD r 27,rD r 30,rD r 33,rD r 36,rD r 39,r.getD 8 0,r.getD 11 0,r.getD 14 0,r.getD 17 0,r.getD 42 0,f,w,h]
def aNW (r:List Int) (f w h C:Int):Int:=if zV r then fS (aB5 r f w h) C (max (aW (aB5 r f w h)) (jT (aB5 r f w h))-aW (aB5 r f w h)).toNat else C
def aDX (L:List (List Int)) (w h C:Int):Nat→Int
 |0=>C
 |k+1=>aNW (L.getD k []) k w h (aDX L w h C k)
def aS1:List Int→Int
 |[L,k]=>aDX (Lc.dec L) 12 12 (wG 96 [144,0,0,0,0,0,0,0,0]) k.toNat
 |_=>0
def oks (L:List (List Int)):Nat→List (List Int)
 |0=>List.replicate L.length [0]
 |k+1=>(oks L k).set k [if zV (L.getD k []) then 1 else 0]
def aS0:List Int→Int
 |[L,k]=>Lc.enc (oks (Lc.dec L) k.toNat)
 |_=>0
def aBe (L:List (List Int)) (x y:Int):Nat→Int
 |0 => -1
 |k+1=>if zV (L.getD k [])∧gR ((L.getD k []).take 6++[x,y])≠0 then (k:Int) else aBe L x y k
theorem aDR (L:List (List Int)) (x y:Int):∀ k:Nat,-1≤aBe L x y k∧aBe L x y k<max 1 k
 |0=>by unfold aBe;omega
 |k+1=>by
  have:=aDR L x y k
  unfold aBe;split<;>omega
def aNS:List Int→Int
 |[L,x,y,k]=>aBe (Lc.dec L) x y (min 30 k.toNat)
 |_=>0
theorem aOt (xs:List Int) : -1≤aNS xs∧aNS xs≤29:=by
 unfold aNS;split
 ·rename_i L x y k
  have:=aDR (Lc.dec L) x y (min 30 k.toNat)
  omega
 ·omega
def G (g:Nat) (xs:List Int):Int:=
 match g with
 |40=>aS1 xs
 |41=>aS0 xs
 |42=>aNS xs
 |60=>fM xs
 |62=>iS xs
 |63=>gR xs
 |64=>dB 0 xs
 |65=>dB 1 xs
 |66=>dB 2 xs
 |67=>dY xs
 |70=>pO xs
 |71=>aOe xs
 |72=>bZ xs
 |73=>aNl xs
 |74=>kS xs
 |75=>qD xs
 |76=>kO xs
 |77=>aSW xs
 |79=>aST xs
 |g=>wG g xs
def aEi:List gC→Option (List Int)
 |[]=>some []
 |some (a,b)::l=>if a=b then (aEi l).map (a::·) else none
 |none::_=>none
theorem wW:∀ {is:List gC} {xs ys:List Int},cM is xs→aEi is=some ys→xs=ys
 |[],[],ys,_,e=>by cases e;rfl
 |[],_::_,_,h,_=>h.elim
 |_::_,[],_,h,_=>h.elim
 |none::_,_::_,_,_,e=>by cases e
 |some (a,b)::l,x::xs,ys,h,e=>by
  unfold aEi at e
  split at e
  ·rename_i hab
   obtain⟨zs,hz,rfl⟩:=Option.map_eq_some_iff.1 e
   have h1:a≤x∧x≤b:=h.1
   rw[wW h.2 hz,show x=a by omega]
  ·cases e
def lA (f:List Int→Int) (a b:Int) (l:List gC):gC:=
 match aEi l with
 |some ys=>some (f ys,f ys)
 |none=>some (a,b)
theorem fC {f:List Int→Int} {a b:Int} {is:List gC} {xs:List Int} (h:cM is xs) (hb:a≤f xs∧f xs≤b):(lA f a b is).has (f xs):=by
 unfold lA
 split
 ·rename_i ys e
  rw[wW h e]
  exact⟨Int.le_refl _,Int.le_refl _⟩
 ·exact hb
theorem tS (a b p:Ed.D) (ha:Ed.ok a) (hb:Ed.ok b) (hx : -65536≤p.x∧p.x≤65536) (hy : -65536≤p.y∧p.y≤65536) : -1801615772808642560≤Ed.cross a b p∧Ed.cross a b p≤1801615772808642560:=by
 unfold Ed.ok at *
 unfold Ed.cross
 have h1:=rW (b.x-a.x) (p.y-a.y) 1342177280 671154176 (by omega) (by omega) (by omega) (by omega) (by omega)
 have h2:=rW (b.y-a.y) (p.x-a.x) 1342177280 671154176 (by omega) (by omega) (by omega) (by omega) (by omega)
 omega
theorem aQZ (a b c p:Ed.D) (j:Nat) (hx : -65536≤p.x∧p.x≤65536) (hy : -65536≤p.y∧p.y≤65536) : -1801615772808642560≤wt a b c p j∧wt a b c p j≤1801615772808642560:=by
 unfold wt;split
 ·rename_i h
  obtain⟨⟨h1,h2,h3⟩,h4⟩:=h
  split
  ·exact tS _ _ _ h2 h3 hx hy
  ·split
   ·exact tS _ _ _ h3 h1 hx hy
   ·exact tS _ _ _ h1 h2 hx hy
 ·omega
def aCM (j:Nat) (l:List gC):gC:=
 match l with
 |[_,_,_,_,_,_,some p,some q]=>if (decide (-65536≤p.1) && decide (p.2≤65536)) && (decide (-65536≤q.1) && decide (q.2≤65536)) && (aEi l).isNone then some (-1801615772808642560,1801615772808642560) else lA (dB j) (-3602879701896396800) 3602879701896396800 l
 |l=>lA (dB j) (-3602879701896396800) 3602879701896396800 l
theorem uN (j:Nat) {is:List gC} {xs:List Int} (h:cM is xs):(aCM j is).has (dB j xs):=by
 unfold aCM
 split
 ·rename_i i0 i1 i2 i3 i4 i5 p q
  split
  ·rename_i hg
   simp only[Bool.and_eq_true,decide_eq_true_eq]at hg
   match xs,h with
   |[a,b,c,d,e,f,x,y],h=>
    obtain⟨_,_,_,_,_,_,h6,h7,_⟩:=h
    have h6':p.1≤x∧x≤p.2:=h6
    have h7':q.1≤y∧y≤q.2:=h7
    exact aQZ ⟨a,b⟩ ⟨c,d⟩ ⟨e,f⟩ ⟨x,y⟩ j (show -65536≤x∧x≤65536 by omega) (show -65536≤y∧y≤65536 by omega)
  ·exact fC h (aHb j xs)
 ·exact fC h (aHb j xs)
def aLK:List gC→gC
 |[some p]=>some (Ed.sg p.1,Ed.sg p.2)
 |_=>some (-1,1)
theorem aIy {is:List gC} {xs:List Int} (h:cM is xs):(aLK is).has (fM xs):=by
 unfold aLK
 split
 ·rename_i p
  match xs,h with
  |[x],h=>exact⟨aGv h.1.1,aGv h.1.2⟩
 ·exact aPl xs
def aMY (l:List gC):gC:=
 match aEi l with
 |some ys=>some (aOe ys,aOe ys)
 |none=>match l with
  |[some p,_]=>some (iD p.1 0,iL p.2 0)
  |_=>none
theorem aIm {is:List gC} {xs:List Int} (h:cM is xs):(aMY is).has (aOe xs):=by
 unfold aMY
 split
 ·rename_i ys e
  rw[wW h e]
  exact⟨Int.le_refl _,Int.le_refl _⟩
 ·split
  ·rename_i p q _
   match xs,h with
   |[x,y],h=>
    have h1:p.1≤x∧x≤p.2:=h.1
    have:=aQd x y
    show iD p.1 0≤fq x y∧fq x y≤iL p.2 0
    unfold iD iL
    (repeat' split)<;>omega
  ·trivial
def aCr (l:List gC):gC:=
 match aEi l with
 |some ys=>some (bZ ys,bZ ys)
 |none=>match l with
  |[some p,some q,some r,_,_,_]=>if decide (-2147483648≤iD (iD (iD p.1 q.1) r.1) 0) && decide (iL (iL (iL p.2 q.2) r.2) 0≤2147483647) then some (iD (iD (iD p.1 q.1) r.1) 0,iL (iL (iL p.2 q.2) r.2) 0) else none
  |_=>none
theorem aDw {is:List gC} {xs:List Int} (h:cM is xs):(aCr is).has (bZ xs):=by
 unfold aCr
 split
 ·rename_i ys e
  rw[wW h e]
  exact⟨Int.le_refl _,Int.le_refl _⟩
 ·split
  ·rename_i p q r a b c _
   split
   ·rename_i hg
    simp only[Bool.and_eq_true,decide_eq_true_eq]at hg
    match xs,h with
    |[x,y,z,u,v,w],h=>
     have h1:p.1≤x∧x≤p.2:=h.1
     have h2:q.1≤y∧y≤q.2:=h.2.1
     have h3:r.1≤z∧z≤r.2:=h.2.2.1
     have m1:∀ a b:Int,iD a b≤a∧iD a b≤b:=fun a b=>by unfold iD;split<;>omega
     have m2:∀ a b:Int,a≤iL a b∧b≤iL a b:=fun a b=>by unfold iL;split<;>omega
     have a1:=m1 p.1 q.1;have a2:=m1 (iD p.1 q.1) r.1;have a3:=m1 (iD (iD p.1 q.1) r.1) 0
     have c1:=m2 p.2 q.2;have c2:=m2 (iL p.2 q.2) r.2;have c3:=m2 (iL (iL p.2 q.2) r.2) 0
     exact aHN (by omega) (by omega) (by omega) ⟨hg.1,a3.2⟩ ⟨c3.2,hg.2⟩
   ·trivial
  ·trivial
def GI (g:Nat) (l:List gC):gC:=
 match g with
 |40=>none
 |41=>none
 |42=>some (-1,29)
 |60=>aLK l
 |62=>lA iS (-1) 1 l
 |63=>lA gR (-1) 1 l
 |64=>aCM 0 l
 |65=>aCM 1 l
 |66=>aCM 2 l
 |67=>lA dY (-1) 1 l
 |70=>lA pO (-2147483648) 2147483647 l
 |71=>aMY l
 |72=>aCr l
 |73=>lA aNl (-2147483648) 2147483647 l
 |74=>lA kS (-2147483648) 2147483647 l
 |75=>lA qD (-2147483648) 2147483647 l
 |76=>lA kO (-2147483648) 2147483647 l
 |77=>none
 |79=>none
 |g=>wGI g l
theorem aRG:∀ g is xs,cM is xs→(GI g is).has (G g xs):=by
 intro g is xs h
 unfold G GI
 split
 ·trivial
 ·trivial
 ·exact aOt xs
 ·exact aIy h
 ·exact fC h (aPD xs)
 ·exact fC h (aNu xs)
 ·exact uN 0 h
 ·exact uN 1 h
 ·exact uN 2 h
 ·exact fC h (aNP xs)
 ·exact fC h (aHq xs)
 ·exact aIm h
 ·exact aDw h
 ·exact fC h (aOJ xs)
 ·exact fC h (aNw xs)
 ·exact fC h (aGJ xs)
 ·exact fC h (aOp xs)
 ·trivial
 ·trivial
 ·exact aQ2 _ is xs h
theorem sQ:aJ2 G:=by
 intro g xs h1 h2
 unfold G
 split
 all_goals first|omega|exact aMU _ xs h1 h2
theorem gM:GiOk G GI:=⟨aRG,sQ⟩
def GB:dL:=[]
theorem fits:lQ Try.prog:=⟨by kernel_rfl,fun _=>rfl⟩
def wide? (X:Ctx) (a b:E):Option E:=
 match a,b with
 | .app 0 (.cons e .nil),.app 1 (.cons f .nil)=>if e.eqb f then some e else none
 | .lit x,.lit y=>if decide (0≤y) && decide (y<18446744073709551616) then some (.lit (x*18446744073709551616+y)) else none
 |a,b=>if b.lies X 0 18446744073709551615 then some (.op .add (.op .mul a (.lit 18446744073709551616)) b) else none
theorem wide?_den {X:Ctx} {ρ:Nat→Int} (hX:X.Ok ρ) (hG:X.G=G) {a b e:E} (h:wide? X a b=some e):a.den G ρ=hi (e.den G ρ)∧b.den G ρ=lo (e.den G ρ):=by
 unfold wide? at h
 split at h
 ·split at h
  ·rename_i hf
   cases h
   have:=E.eqb_eq _ _ hf
   subst this
   exact⟨rfl,rfl⟩
  ·cases h
 ·split at h
  ·rename_i x y hf
   cases h
   simp only[Bool.and_eq_true,decide_eq_true_eq]at hf
   simp only[E.den]
   unfold hi lo
   omega
  ·cases h
 ·split at h
  ·rename_i hf
   cases h
   have:=E.lies_in hX hf
   rw[hG]at this
   simp only[E.den,IOp.den]
   unfold hi lo
   omega
  ·cases h
def W2 (e:E):SV := .agg [.int .i64 (.app 0 (.cons e .nil)),.int .u64 (.app 1 (.cons e .nil))]
def tC (X:Ctx) (e:E):Bool:=e.lies X (-170141183460469231731687303715884105728) 170141183460469231731687303715884105727
theorem hZ {X:Ctx} {ρ:Nat→Int} (hX:X.Ok ρ) {e:E} (h:tC X e=true):kW (e.den X.G ρ):=by
 have:=E.lies_in hX h
 unfold kW;omega
def rE:iI:=fun X args=>
 match args with
 |[.int .i64 a,.int .i64 n]=>if a.fits X .i64 && n.fits X .i64 then .ok (W2 (.op .mul a n)) else .fail 200
 |_ => .fail 201
theorem aOn {X:Ctx} {ρ:Nat→Int} (hX:X.Ok ρ) (hG:X.G=G):dT Try.prog X ρ GB 20 rE:=by
 obtain⟨XG,XI,XV,XF⟩:=X
 simp only at hG
 subst hG
 have hk:eB Try.prog 20:=⟨_,Try.func20,by kernel_rfl,by kernel_rfl⟩
 intro args s h α w vals hv hw
 unfold rE at h
 split at h
 ·split at h
  ·rename_i hg
   simp only[Bool.and_eq_true]at hg
   cases h
   exact bB hv rfl rfl ⟨hk,aPW _ _ (E.fits_in hX hg.1) (E.fits_in hX hg.2) w⟩
  ·cases h
 ·cases h
def uO:iI:=fun X args=>
 match args with
 |[.int .i64 a]=>if a.fits X .i64 then .ok (W2 a) else .fail 200
 |_ => .fail 201
theorem aRM {X:Ctx} {ρ:Nat→Int} (hX:X.Ok ρ) (hG:X.G=G):dT Try.prog X ρ GB 17 uO:=by
 obtain⟨XG,XI,XV,XF⟩:=X
 simp only at hG
 subst hG
 have hk:eB Try.prog 17:=⟨_,Try.func17,by kernel_rfl,by kernel_rfl⟩
 intro args s h α w vals hv hw
 unfold uO at h
 split at h
 ·split at h
  ·rename_i hg
   cases h
   exact bB hv rfl rfl ⟨hk,vD _ (E.fits_in hX hg) w⟩
  ·cases h
 ·cases h
def rC:iI:=fun X args=>
 match args with
 |[.agg [.int .i64 a,.int .u64 b],.agg [.int .i64 c,.int .u64 d]]=>match wide? X a b,wide? X c d with
  |some e,some f=>if tC X e && (tC X f && tC X (.op .add e f)) then .ok (.tuple [W2 (.op .add e f),.int .i64 (.lit 0)]) else .fail 200
  |_,_ => .fail 202
 |_ => .fail 201
theorem aPI {X:Ctx} {ρ:Nat→Int} (hX:X.Ok ρ) (hG:X.G=G):dT Try.prog X ρ GB 19 rC:=by
 obtain⟨XG,XI,XV,XF⟩:=X
 simp only at hG
 subst hG
 have hk:eB Try.prog 19:=⟨_,Try.func19,by kernel_rfl,by kernel_rfl⟩
 intro args s h α w vals hv hw
 unfold rC at h
 split at h
 ·split at h
  ·rename_i a b c d _ _ e f he hf
   split at h
   ·rename_i hg
    simp only[Bool.and_eq_true]at hg
    cases h
    obtain⟨e1,e2⟩:=wide?_den hX rfl he
    obtain⟨f1,f2⟩:=wide?_den hX rfl hf
    refine bB hv rfl rfl ⟨hk,?_⟩
    have k:=aGF (e.den G ρ) (f.den G ρ) (hZ hX hg.1) (hZ hX hg.2.1) (hZ hX hg.2.2) w
    rw[←e1,←e2,←f1,←f2]at k
    exact k
   ·cases h
  ·cases h
 ·cases h
def qO:iI:=fun X args=>
 match args with
 |[.agg [.int .i64 a,.int .u64 b],.agg [.int .i64 c,.int .u64 d]]=>match wide? X a b,wide? X c d with
  |some e,some f=>if tC X e && (tC X f && tC X (.op .sub e f)) then .ok (.tuple [W2 (.op .sub e f),.int .i64 (.lit 0)]) else .fail 200
  |_,_ => .fail 202
 |_ => .fail 201
theorem aNr {X:Ctx} {ρ:Nat→Int} (hX:X.Ok ρ) (hG:X.G=G):dT Try.prog X ρ GB 21 qO:=by
 obtain⟨XG,XI,XV,XF⟩:=X
 simp only at hG
 subst hG
 have hk:eB Try.prog 21:=⟨_,Try.func21,by kernel_rfl,by kernel_rfl⟩
 intro args s h α w vals hv hw
 unfold qO at h
 split at h
 ·split at h
  ·rename_i a b c d _ _ e f he hf
   split at h
   ·rename_i hg
    simp only[Bool.and_eq_true]at hg
    cases h
    obtain⟨e1,e2⟩:=wide?_den hX rfl he
    obtain⟨f1,f2⟩:=wide?_den hX rfl hf
    refine bB hv rfl rfl ⟨hk,?_⟩
    have k:=aG9 (e.den G ρ) (f.den G ρ) (hZ hX hg.1) (hZ hX hg.2.1) (hZ hX hg.2.2) w
    rw[←e1,←e2,←f1,←f2]at k
    exact k
   ·cases h
  ·cases h
 ·cases h
def oD:iI:=fun X args=>
 match args with
 |[.agg [.int .i64 a,.int .u64 b],.int .i64 n]=>match wide? X a b with
  |some e=>if tC X e && (n.fits X .i64 && tC X (.op .mul e n)) then .ok (.tuple [W2 (.op .mul e n),.int .i64 (.lit 0)]) else .fail 200
  |_ => .fail 202
 |_ => .fail 201
theorem aHz {X:Ctx} {ρ:Nat→Int} (hX:X.Ok ρ) (hG:X.G=G):dT Try.prog X ρ GB 18 oD:=by
 obtain⟨XG,XI,XV,XF⟩:=X
 simp only at hG
 subst hG
 have hk:eB Try.prog 18:=⟨_,Try.func18,by kernel_rfl,by kernel_rfl⟩
 intro args s h α w vals hv hw
 unfold oD at h
 split at h
 ·split at h
  ·rename_i a b n _ e he
   split at h
   ·rename_i hg
    simp only[Bool.and_eq_true]at hg
    cases h
    obtain⟨e1,e2⟩:=wide?_den hX rfl he
    refine bB hv rfl rfl ⟨hk,?_⟩
    have k:=aAq (e.den G ρ) (n.den G ρ) _ _ rfl rfl (hZ hX hg.1) (E.fits_in hX hg.2.1) (hZ hX hg.2.2) w
    rw[←e1,←e2]at k
    exact k
   ·cases h
  ·cases h
 ·cases h
def oS:iI:=fun X args=>
 match args with
 |[.agg [.int .i64 a,.int .u64 b],.int .i64 d]=>match wide? X a b with
  |some e=>if tC X e && d.lies X 1 9223372036854775807 then .ok (.tuple [W2 (.app 2 (.cons e (.cons d .nil))),.int .i64 (.lit 0)]) else .fail 200
  |_ => .fail 202
 |_ => .fail 201
theorem aJ4 {X:Ctx} {ρ:Nat→Int} (hX:X.Ok ρ) (hG:X.G=G):dT Try.prog X ρ GB 31 oS:=by
 obtain⟨XG,XI,XV,XF⟩:=X
 simp only at hG
 subst hG
 have hk:eB Try.prog 31:=⟨_,Try.func31,by kernel_rfl,by kernel_rfl⟩
 intro args s h α w vals hv hw
 unfold oS at h
 split at h
 ·split at h
  ·rename_i a b d _ e he
   split at h
   ·rename_i hg
    simp only[Bool.and_eq_true]at hg
    cases h
    obtain⟨e1,e2⟩:=wide?_den hX rfl he
    refine bB hv rfl rfl ⟨hk,?_⟩
    obtain⟨d1,d2⟩:=E.lies_in hX hg.2
    have k:=aKG (e.den G ρ) (d.den G ρ) (hZ hX hg.1) (show 0<d.den G ρ from d1) d2 w
    rw[←e1,←e2]at k
    exact k
   ·cases h
  ·cases h
 ·cases h
def qN:iI:=fun X args=>
 match args with
 |[.agg [.int .i64 a,.int .u64 b]]=>match wide? X a b with
  |some e=>if tC X e then (Res.test X (.cmp .le (.lit (-9223372036854775808)) e)).bind fun t=>if t then ((Res.test X (.cmp .le e (.lit 9223372036854775807))).bind fun u=>if u then .ok (.tuple [.int .i64 e,.bool (.lit true)]) else .ok (.tuple [.int .i64 (.lit 0),.bool (.lit false)])) else .ok (.tuple [.int .i64 (.lit 0),.bool (.lit false)]) else .fail 200
  |_ => .fail 202
 |_ => .fail 201
theorem aPt {X:Ctx} {ρ:Nat→Int} (hX:X.Ok ρ) (hG:X.G=G):dT Try.prog X ρ GB 32 qN:=by
 obtain⟨XG,XI,XV,XF⟩:=X
 simp only at hG
 subst hG
 have hk:eB Try.prog 32:=⟨_,Try.func32,by kernel_rfl,by kernel_rfl⟩
 intro args s h α w vals hv hw
 unfold qN at h
 split at h
 ·split at h
  ·rename_i a b _ e he
   split at h
   ·rename_i hg
    obtain⟨e1,e2⟩:=wide?_den hX rfl he
    have hb:=hZ hX hg
    obtain⟨t,ht,h⟩:=Res.bind_ok h
    have ht:=Res.test_ok hX ht
    simp only[B.den,aBA,E.den]at ht
    have no:¬I64 (e.den G ρ)→s = .tuple [.int .i64 (.lit 0),.bool (.lit false)]→eB Try.prog 32∧Calls Try.prog 32 vals.toArray w (fun e w'=>∃ v,e = .returned v∧SV.R G ρ α s v∧Below w.heap.size w w'):=by
     rintro hn rfl
     refine bB hv rfl rfl ⟨hk,?_⟩
     have k:=aRm (e.den G ρ) hn hb w
     rw[←e1,←e2]at k
     exact k
    cases t with
    |false=>cases h;exact no (by unfold I64;simp at ht;omega) rfl
    |true=>
     simp only[if_true]at h
     obtain⟨u,hu,h⟩:=Res.bind_ok h
     have hu:=Res.test_ok hX hu
     simp only[B.den,aBA,E.den]at hu
     cases u with
     |false=>cases h;exact no (by unfold I64;simp at hu;omega) rfl
     |true=>
      cases h
      refine bB hv rfl rfl ⟨hk,?_⟩
      have k:=aPd (e.den G ρ) ⟨of_decide_eq_true ht,of_decide_eq_true hu⟩ w
      rw[←e1,←e2]at k
      exact k
   ·cases h
  ·cases h
 ·cases h
def oF:iI:=fun X args=>
 match args with
 |[.agg [.int .i64 a,.int .u64 b],.int .i64 d]=>match wide? X a b with
  |some e=>if tC X e then (Res.test X (.cmp .le (.lit 1) d)).bind fun t=>(Res.test X (.cmp .le d (.lit 9223372036854775807))).bind fun u=>if t && u then .ok (.tuple [W2 (.app 71 (.cons e (.cons d .nil))),.int .i64 (.op .sub e (.op .mul d (.app 71 (.cons e (.cons d .nil))))),.int .i64 (.lit 0)]) else .fail 203 else .fail 200
  |_ => .fail 202
 |_ => .fail 201
theorem aJb {X:Ctx} {ρ:Nat→Int} (hX:X.Ok ρ) (hG:X.G=G):dT Try.prog X ρ GB 64 oF:=by
 obtain⟨XG,XI,XV,XF⟩:=X
 simp only at hG
 subst hG
 have hk:eB Try.prog 64:=⟨_,Try.func64,by kernel_rfl,by kernel_rfl⟩
 intro args s h α w vals hv hw
 unfold oF at h
 split at h
 ·split at h
  ·rename_i a b d _ e he
   split at h
   ·rename_i hg
    obtain⟨t,ht,h⟩:=Res.bind_ok h
    have ht:=Res.test_ok hX ht
    obtain⟨u,hu,h⟩:=Res.bind_ok h
    have hu:=Res.test_ok hX hu
    cases t
    ·cases h
    cases u
    ·cases h
    cases h
    obtain⟨e1,e2⟩:=wide?_den hX rfl he
    refine bB hv rfl rfl ⟨hk,?_⟩
    have d2:d.den G ρ≤9223372036854775807:=of_decide_eq_true hu
    have d1:1≤d.den G ρ:=of_decide_eq_true ht
    have k:=uA (e.den G ρ) (d.den G ρ) (hZ hX hg) (show 0<d.den G ρ from d1) d2 w
    have q1:e.den G ρ / d.den G ρ=fq (e.den G ρ) (d.den G ρ):=by unfold fq;rw[if_pos d1];exact(Int.fdiv_eq_ediv_of_nonneg _ (by omega)).symm
    have q2:e.den G ρ % d.den G ρ=e.den G ρ-d.den G ρ*fq (e.den G ρ) (d.den G ρ):=by rw[←q1,Int.emod_def]
    rw[q2,q1,←e1,←e2]at k
    exact k
   ·cases h
  ·cases h
 ·cases h
def aGS:aX:=eI 20 rE aLC
theorem aE6 {X:Ctx} {ρ:Nat→Int} (hX:X.Ok ρ) (hG:X.G=G):gL Try.prog X ρ GB aGS:=bX (aOn hX hG) (aJU)
def aMQ:aX:=eI 17 uO aGS
theorem aIO {X:Ctx} {ρ:Nat→Int} (hX:X.Ok ρ) (hG:X.G=G):gL Try.prog X ρ GB aMQ:=bX (aRM hX hG) (aE6 hX hG)
def aHf:aX:=eI 19 rC aMQ
theorem aEc {X:Ctx} {ρ:Nat→Int} (hX:X.Ok ρ) (hG:X.G=G):gL Try.prog X ρ GB aHf:=bX (aPI hX hG) (aIO hX hG)
def aHj:aX:=eI 21 qO aHf
theorem aEm {X:Ctx} {ρ:Nat→Int} (hX:X.Ok ρ) (hG:X.G=G):gL Try.prog X ρ GB aHj:=bX (aNr hX hG) (aEc hX hG)
def aAF:aX:=eI 18 oD aHj
theorem aCu {X:Ctx} {ρ:Nat→Int} (hX:X.Ok ρ) (hG:X.G=G):gL Try.prog X ρ GB aAF:=bX (aHz hX hG) (aEm hX hG)
def aDl:aX:=eI 31 oS aAF
theorem aDE {X:Ctx} {ρ:Nat→Int} (hX:X.Ok ρ) (hG:X.G=G):gL Try.prog X ρ GB aDl:=bX (aJ4 hX hG) (aCu hX hG)
def aGL:aX:=eI 32 qN aDl
theorem aEb {X:Ctx} {ρ:Nat→Int} (hX:X.Ok ρ) (hG:X.G=G):gL Try.prog X ρ GB aGL:=bX (aPt hX hG) (aDE hX hG)
def aAt:aX:=eI 64 oF aGL
theorem aCb {X:Ctx} {ρ:Nat→Int} (hX:X.Ok ρ) (hG:X.G=G):gL Try.prog X ρ GB aAt:=bX (aJb hX hG) (aEb hX hG)
def aO2:aX:=aAt
theorem aBz {X:Ctx} {ρ:Nat→Int} (hX:X.Ok ρ) (hG:X.G=G):gL Try.prog X ρ GB aO2:=aCb hX hG
end Go.Proofs.Ytoiecphddchknaa
