/- What is proved: rows of twelve digits as expressions: which number they are. No condition. -/
import Derived.Test.YtkpdiehbaiepaaaQg6
import Derived.Test.YtkpdiehbaiepaaaQa1
import Derived.Test.YtkpdiehbaiepaaaQg3
import Derived.Test.YtkpdiehbaiepaaaProg
import Derived.Test.YtkpdiehbaiepaaaQNn
set_option linter.unusedSimpArgs false
set_option linter.unusedVariables false
namespace Go.Proofs.Ytkpdiehbaiepaaa
open Go Go.RowKit Sx Nu
def aQ (N:E) (M:Int):SV := .int .i64 (.app 30 (.cons N (.cons (.lit M) .nil)))
def aK (N:E):List SV:=[aQ N 1,aQ N 65536,aQ N 4294967296,aQ N 281474976710656,aQ N 18446744073709551616,aQ N 1208925819614629174706176,aQ N 79228162514264337593543950336,aQ N 5192296858534827628530496329220096,aQ N 340282366920938463463374607431768211456,aQ N 22300745198530623141535718272648361505980416,aQ N 1461501637330902918203684832716283019655932542976,aQ N 95780971304118053647396689196894323976171195136475136]
def eA (N:Int):List Value:=[.int .i64 (dg N 1),.int .i64 (dg N 65536),.int .i64 (dg N 4294967296),.int .i64 (dg N 281474976710656),.int .i64 (dg N 18446744073709551616),.int .i64 (dg N 1208925819614629174706176),.int .i64 (dg N 79228162514264337593543950336),.int .i64 (dg N 5192296858534827628530496329220096),.int .i64 (dg N 340282366920938463463374607431768211456),.int .i64 (dg N 22300745198530623141535718272648361505980416),.int .i64 (dg N 1461501637330902918203684832716283019655932542976),.int .i64 (dg N 95780971304118053647396689196894323976171195136475136)]
def dU (N:E):List SV:=[aQ N 1,aQ N 65536,aQ N 4294967296,aQ N 281474976710656,.int .i64 (.lit 0),.int .i64 (.lit 0),.int .i64 (.lit 0),.int .i64 (.lit 0),.int .i64 (.lit 0),.int .i64 (.lit 0),.int .i64 (.lit 0),.int .i64 (.lit 0)]
def aX1 (N:E):List SV:=[aQ N 65536,aQ N 4294967296,aQ N 281474976710656,aQ N 18446744073709551616,aQ N 1208925819614629174706176,aQ N 79228162514264337593543950336,aQ N 5192296858534827628530496329220096,aQ N 340282366920938463463374607431768211456,aQ N 22300745198530623141535718272648361505980416,aQ N 1461501637330902918203684832716283019655932542976,aQ N 95780971304118053647396689196894323976171195136475136]
def bD (A B:E):List SV:=[aQ A 1,aQ B 1,aQ A 65536,aQ B 65536,aQ A 4294967296,aQ B 4294967296,aQ A 281474976710656,aQ B 281474976710656,aQ A 18446744073709551616,aQ B 18446744073709551616,aQ A 1208925819614629174706176,aQ B 1208925819614629174706176,aQ A 79228162514264337593543950336,aQ B 79228162514264337593543950336,aQ A 5192296858534827628530496329220096,aQ B 5192296858534827628530496329220096,aQ A 340282366920938463463374607431768211456,aQ B 340282366920938463463374607431768211456,aQ A 22300745198530623141535718272648361505980416,aQ B 22300745198530623141535718272648361505980416,aQ A 1461501637330902918203684832716283019655932542976,aQ B 1461501637330902918203684832716283019655932542976,aQ A 95780971304118053647396689196894323976171195136475136,aQ B 95780971304118053647396689196894323976171195136475136]
def aM (A B:E):List SV:=[aQ A 65536,aQ B 65536,aQ A 4294967296,aQ B 4294967296,aQ A 281474976710656,aQ B 281474976710656,aQ A 18446744073709551616,aQ B 18446744073709551616,aQ A 1208925819614629174706176,aQ B 1208925819614629174706176,aQ A 79228162514264337593543950336,aQ B 79228162514264337593543950336,aQ A 5192296858534827628530496329220096,aQ B 5192296858534827628530496329220096,aQ A 340282366920938463463374607431768211456,aQ B 340282366920938463463374607431768211456,aQ A 22300745198530623141535718272648361505980416,aQ B 22300745198530623141535718272648361505980416,aQ A 1461501637330902918203684832716283019655932542976,aQ B 1461501637330902918203684832716283019655932542976,aQ A 95780971304118053647396689196894323976171195136475136,aQ B 95780971304118053647396689196894323976171195136475136]
def zzc:E:=(.op .rem (.op .sub (.op .add (.var 1) (.var 1)) (.var 3)) (.op .add (.var 3) (.var 3)))
def zzd:E:=(.op .quo (.op .sub (.op .add (.var 1) (.var 1)) (.var 3)) (.op .add (.var 3) (.var 3)))
def zza:E:=(.op .sub (.op .add (.var 1) (.var 1)) (.var 3))
def zzb:E:=(.op .add (.var 3) (.var 3))
def zq4:Int:=18446744073709551616
def zq5:Int:=1208925819614629174706176
def zq6:Int:=79228162514264337593543950336
def zq7:Int:=5192296858534827628530496329220096
def zq8:Int:=340282366920938463463374607431768211456
def zq9:Int:=22300745198530623141535718272648361505980416
def zq10:Int:=1461501637330902918203684832716283019655932542976
def zq11:Int:=95780971304118053647396689196894323976171195136475136
theorem nq:(∀ (G:Nat→List Int→Int) ρ,E.den G ρ zzc=E.den G ρ (.op .rem (.op .sub (.op .add (.var 1) (.var 1)) (.var 3)) (.op .add (.var 3) (.var 3))))∧(∀ (G:Nat→List Int→Int) ρ,E.den G ρ zzd=E.den G ρ (.op .quo (.op .sub (.op .add (.var 1) (.var 1)) (.var 3)) (.op .add (.var 3) (.var 3))))∧(∀ (G:Nat→List Int→Int) ρ,E.den G ρ zza=E.den G ρ (.op .sub (.op .add (.var 1) (.var 1)) (.var 3)))∧(∀ (G:Nat→List Int→Int) ρ,E.den G ρ zzb=E.den G ρ (.op .add (.var 3) (.var 3)))∧zq4=18446744073709551616∧zq5=1208925819614629174706176∧zq6=79228162514264337593543950336∧zq7=5192296858534827628530496329220096∧zq8=340282366920938463463374607431768211456∧zq9=22300745198530623141535718272648361505980416∧zq10=1461501637330902918203684832716283019655932542976∧zq11=95780971304118053647396689196894323976171195136475136∧(∀ (N:E),aK N=[aQ N 1,aQ N 65536,aQ N 4294967296,aQ N 281474976710656,aQ N 18446744073709551616,aQ N 1208925819614629174706176,aQ N 79228162514264337593543950336,aQ N 5192296858534827628530496329220096,aQ N 340282366920938463463374607431768211456,aQ N 22300745198530623141535718272648361505980416,aQ N 1461501637330902918203684832716283019655932542976,aQ N 95780971304118053647396689196894323976171195136475136])∧(∀ (N:E) (M:Int),aQ N M=.int .i64 (.app 30 (.cons N (.cons (.lit M) .nil))))∧(∀ (A B:E),bD A B=[aQ A 1,aQ B 1,aQ A 65536,aQ B 65536,aQ A 4294967296,aQ B 4294967296,aQ A 281474976710656,aQ B 281474976710656,aQ A 18446744073709551616,aQ B 18446744073709551616,aQ A 1208925819614629174706176,aQ B 1208925819614629174706176,aQ A 79228162514264337593543950336,aQ B 79228162514264337593543950336,aQ A 5192296858534827628530496329220096,aQ B 5192296858534827628530496329220096,aQ A 340282366920938463463374607431768211456,aQ B 340282366920938463463374607431768211456,aQ A 22300745198530623141535718272648361505980416,aQ B 22300745198530623141535718272648361505980416,aQ A 1461501637330902918203684832716283019655932542976,aQ B 1461501637330902918203684832716283019655932542976,aQ A 95780971304118053647396689196894323976171195136475136,aQ B 95780971304118053647396689196894323976171195136475136])∧(∀ (A B:E),aM A B=[aQ A 65536,aQ B 65536,aQ A 4294967296,aQ B 4294967296,aQ A 281474976710656,aQ B 281474976710656,aQ A 18446744073709551616,aQ B 18446744073709551616,aQ A 1208925819614629174706176,aQ B 1208925819614629174706176,aQ A 79228162514264337593543950336,aQ B 79228162514264337593543950336,aQ A 5192296858534827628530496329220096,aQ B 5192296858534827628530496329220096,aQ A 340282366920938463463374607431768211456,aQ B 340282366920938463463374607431768211456,aQ A 22300745198530623141535718272648361505980416,aQ B 22300745198530623141535718272648361505980416,aQ A 1461501637330902918203684832716283019655932542976,aQ B 1461501637330902918203684832716283019655932542976,aQ A 95780971304118053647396689196894323976171195136475136,aQ B 95780971304118053647396689196894323976171195136475136])∧(∀ (α:Type) (a:α) s t,a::s++t=a::(s++t))∧(∀ (α:Type) (s:List α),[]++s=s)∧(∀ (α:Type) (s:List α),s++[]=s):=⟨fun _ _=>rfl,fun _ _=>rfl,fun _ _=>rfl,fun _ _=>rfl,rfl,rfl,rfl,rfl,rfl,rfl,rfl,rfl,fun _=>rfl,fun _ _=>rfl,fun _ _=>rfl,fun _ _=>rfl,fun _ _ _ _=>rfl,fun _ _=>rfl,fun _ _=>List.append_nil _⟩
theorem jU {ρ:Nat→Int} (N:E):SV.denL G ρ (aK N)=eA (N.den G ρ):=rfl
theorem aRU (N:E):SV.ubdL 0 (aK N)=true:=rfl
theorem aNl (N:E):SV.ubdL 0 (dU N)=true:=rfl
theorem sD {ρ:Nat→Int} (N:E) (h0:0≤N.den G ρ) (h1:N.den G ρ<18446744073709551616):SV.denL G ρ (dU N)=eA (N.den G ρ):=by
 generalize hn:N.den G ρ=n at *
 have z:∀ M:Int,18446744073709551616≤M→dg n M=0:=by
  intro M hM
  unfold dg
  rw[Int.ediv_eq_zero_of_lt h0 (by omega)];rfl
 show [.int .i64 (dg (N.den G ρ) 1),.int .i64 (dg (N.den G ρ) 65536),.int .i64 (dg (N.den G ρ) 4294967296),.int .i64 (dg (N.den G ρ) 281474976710656),.int .i64 0,.int .i64 0,.int .i64 0,.int .i64 0,.int .i64 0,.int .i64 0,.int .i64 0,.int .i64 0]=eA n
 rw[hn]
 unfold eA
 rw[z 18446744073709551616 (by decide),z 1208925819614629174706176 (by decide),z 79228162514264337593543950336 (by decide),z 5192296858534827628530496329220096 (by decide),z 340282366920938463463374607431768211456 (by decide),z 22300745198530623141535718272648361505980416 (by decide),z 1461501637330902918203684832716283019655932542976 (by decide),z 95780971304118053647396689196894323976171195136475136 (by decide)]
def digit? (X:Ctx) (e:E):Bool:=e.lies X 0 65535
def aJy (c0 c1 c2 c3 c4 c5 c6 c7 c8 c9 c10 c11:E):E:=(.op .add (.op .add (.op .add (.op .add (.op .add (.op .add (.op .add (.op .add (.op .add (.op .add (.op .add (c0) (.op .mul (.lit 65536) c1)) (.op .mul (.lit 4294967296) c2)) (.op .mul (.lit 281474976710656) c3)) (.op .mul (.lit 18446744073709551616) c4)) (.op .mul (.lit 1208925819614629174706176) c5)) (.op .mul (.lit 79228162514264337593543950336) c6)) (.op .mul (.lit 5192296858534827628530496329220096) c7)) (.op .mul (.lit 340282366920938463463374607431768211456) c8)) (.op .mul (.lit 22300745198530623141535718272648361505980416) c9)) (.op .mul (.lit 1461501637330902918203684832716283019655932542976) c10)) (.op .mul (.lit 95780971304118053647396689196894323976171195136475136) c11))
def bDT:SV→Int
 | .int _ (.lit n)=>n
 |_=>0
def aJX:List SV→Int
 |[]=>0
 |s::l=>bDT s+65536*aJX l
def bDU (N:Int):List SV:=[.int .i64 (.lit (N / 1 % 65536)),.int .i64 (.lit (N / 65536 % 65536)),.int .i64 (.lit (N / 4294967296 % 65536)),.int .i64 (.lit (N / 281474976710656 % 65536)),.int .i64 (.lit (N / 18446744073709551616 % 65536)),.int .i64 (.lit (N / 1208925819614629174706176 % 65536)),.int .i64 (.lit (N / 79228162514264337593543950336 % 65536)),.int .i64 (.lit (N / 5192296858534827628530496329220096 % 65536)),.int .i64 (.lit (N / 340282366920938463463374607431768211456 % 65536)),.int .i64 (.lit (N / 22300745198530623141535718272648361505980416 % 65536)),.int .i64 (.lit (N / 1461501637330902918203684832716283019655932542976 % 65536)),.int .i64 (.lit (N / 95780971304118053647396689196894323976171195136475136 % 65536))]
def jD (X:Ctx) (l:List SV):Res E:=
 match l with
 |[.int .i64 c0,.int .i64 c1,.int .i64 c2,.int .i64 c3,.int .i64 c4,.int .i64 c5,.int .i64 c6,.int .i64 c7,.int .i64 c8,.int .i64 c9,.int .i64 c10,.int .i64 c11]=>
  match c0 with
  | .app 30 (.cons N (.cons (.lit m) .nil))=>
   if SV.eqbL l (aK N) then .ok N
   else if SV.eqbL l (dU N) && N.lies X 0 18446744073709551615 then .ok N
   else if digit? X c0 && digit? X c1 && digit? X c2 && digit? X c3 && digit? X c4 && digit? X c5 && digit? X c6 && digit? X c7 && digit? X c8 && digit? X c9 && digit? X c10 && digit? X c11 then .ok (aJy c0 c1 c2 c3 c4 c5 c6 c7 c8 c9 c10 c11) else .fail 210
  | .op .add (.app 30 (.cons N (.cons (.lit 1) .nil))) b=>
   if SV.eqbL (l.drop 1) (aX1 N) then
    (Res.test X (.and (.cmp .le (.lit 0) c0) (.cmp .le c0 (.lit 65535)))).bind fun t=>if t then .ok (.op .add N b) else .fail 211
   else if digit? X c0 && digit? X c1 && digit? X c2 && digit? X c3 && digit? X c4 && digit? X c5 && digit? X c6 && digit? X c7 && digit? X c8 && digit? X c9 && digit? X c10 && digit? X c11 then .ok (aJy c0 c1 c2 c3 c4 c5 c6 c7 c8 c9 c10 c11) else .fail 212
  | .lit _=>if SV.eqbL l (bDU (aJX l)) then .ok (.lit (aJX l)) else if digit? X c0 && digit? X c1 && digit? X c2 && digit? X c3 && digit? X c4 && digit? X c5 && digit? X c6 && digit? X c7 && digit? X c8 && digit? X c9 && digit? X c10 && digit? X c11 then .ok (aJy c0 c1 c2 c3 c4 c5 c6 c7 c8 c9 c10 c11) else .fail 213
  |_=>if digit? X c0 && digit? X c1 && digit? X c2 && digit? X c3 && digit? X c4 && digit? X c5 && digit? X c6 && digit? X c7 && digit? X c8 && digit? X c9 && digit? X c10 && digit? X c11 then .ok (aJy c0 c1 c2 c3 c4 c5 c6 c7 c8 c9 c10 c11) else .fail 214
 |_ => .fail 215
theorem aPJ (c0 c1 c2 c3 c4 c5 c6 c7 c8 c9 c10 c11:Int) (h0:0≤c0∧c0≤65535) (h1:0≤c1∧c1≤65535) (h2:0≤c2∧c2≤65535) (h3:0≤c3∧c3≤65535) (h4:0≤c4∧c4≤65535) (h5:0≤c5∧c5≤65535) (h6:0≤c6∧c6≤65535) (h7:0≤c7∧c7≤65535) (h8:0≤c8∧c8≤65535) (h9:0≤c9∧c9≤65535) (h10:0≤c10∧c10≤65535) (h11:0≤c11∧c11≤65535):[Value.int .i64 c0,Value.int .i64 c1,Value.int .i64 c2,Value.int .i64 c3,Value.int .i64 c4,Value.int .i64 c5,Value.int .i64 c6,Value.int .i64 c7,Value.int .i64 c8,Value.int .i64 c9,Value.int .i64 c10,Value.int .i64 c11]=eA (c0+65536*c1+4294967296*c2+281474976710656*c3+18446744073709551616*c4+1208925819614629174706176*c5+79228162514264337593543950336*c6+5192296858534827628530496329220096*c7+340282366920938463463374607431768211456*c8+22300745198530623141535718272648361505980416*c9+1461501637330902918203684832716283019655932542976*c10+95780971304118053647396689196894323976171195136475136*c11):=by
 generalize hN:c0+65536*c1+4294967296*c2+281474976710656*c3+18446744073709551616*c4+1208925819614629174706176*c5+79228162514264337593543950336*c6+5192296858534827628530496329220096*c7+340282366920938463463374607431768211456*c8+22300745198530623141535718272648361505980416*c9+1461501637330902918203684832716283019655932542976*c10+95780971304118053647396689196894323976171195136475136*c11=N
 have e0:dg N 1=c0:=by unfold dg;omega
 have e1:dg N 65536=c1:=by unfold dg;omega
 have e2:dg N 4294967296=c2:=by unfold dg;omega
 have e3:dg N 281474976710656=c3:=by unfold dg;omega
 have e4:dg N 18446744073709551616=c4:=by unfold dg;omega
 have e5:dg N 1208925819614629174706176=c5:=by unfold dg;omega
 have e6:dg N 79228162514264337593543950336=c6:=by unfold dg;omega
 have e7:dg N 5192296858534827628530496329220096=c7:=by unfold dg;omega
 have e8:dg N 340282366920938463463374607431768211456=c8:=by unfold dg;omega
 have e9:dg N 22300745198530623141535718272648361505980416=c9:=by unfold dg;omega
 have e10:dg N 1461501637330902918203684832716283019655932542976=c10:=by unfold dg;omega
 have e11:dg N 95780971304118053647396689196894323976171195136475136=c11:=by unfold dg;omega
 unfold eA
 rw[e0,e1,e2,e3,e4,e5,e6,e7,e8,e9,e10,e11]
theorem fI {X:Ctx} {ρ:Nat→Int} (hX:X.Ok ρ) {e:E} (h:digit? X e=true):0≤e.den X.G ρ∧e.den X.G ρ≤65535:=E.lies_in hX h
theorem aVY (N b:E):SV.ubdL 0 (.int .i64 (.op .add (.app 30 (.cons N (.cons (.lit 1) .nil))) b)::aX1 N)=true:=rfl
theorem aQH {ρ:Nat→Int} {N b:E} (h0:0≤G 30 [N.den G ρ,1]+b.den G ρ) (h1:G 30 [N.den G ρ,1]+b.den G ρ≤65535):SV.denL G ρ (.int .i64 (.op .add (.app 30 (.cons N (.cons (.lit 1) .nil))) b)::aX1 N)=eA ((E.op .add N b).den G ρ):=by
 have e:(E.op .add N b).den G ρ=N.den G ρ+b.den G ρ:=rfl
 rw[e]
 show (.int .i64 (dg (N.den G ρ) 1+b.den G ρ))::[.int .i64 (dg (N.den G ρ) 65536),.int .i64 (dg (N.den G ρ) 4294967296),.int .i64 (dg (N.den G ρ) 281474976710656),.int .i64 (dg (N.den G ρ) 18446744073709551616),.int .i64 (dg (N.den G ρ) 1208925819614629174706176),.int .i64 (dg (N.den G ρ) 79228162514264337593543950336),.int .i64 (dg (N.den G ρ) 5192296858534827628530496329220096),.int .i64 (dg (N.den G ρ) 340282366920938463463374607431768211456),.int .i64 (dg (N.den G ρ) 22300745198530623141535718272648361505980416),.int .i64 (dg (N.den G ρ) 1461501637330902918203684832716283019655932542976),.int .i64 (dg (N.den G ρ) 95780971304118053647396689196894323976171195136475136)]=eA (N.den G ρ+b.den G ρ)
 replace h0:0≤dg (N.den G ρ) 1+b.den G ρ:=h0
 replace h1:dg (N.den G ρ) 1+b.den G ρ≤65535:=h1
 generalize N.den G ρ=n at *
 generalize b.den G ρ=b at *
 unfold dg at h0 h1
 have q:(n+b) / 65536=n / 65536:=by omega
 have z:∀ K:Int,0<K→dg (n+b) (65536*K)=dg n (65536*K):=by
  intro K hK
  unfold dg
  rw[←Int.ediv_ediv_of_nonneg (by omega),←Int.ediv_ediv_of_nonneg (by omega),q]
 have z0:dg n 1+b=dg (n+b) 1:=by unfold dg;omega
 unfold eA
 rw[z0,show dg n 65536=dg (n+b) 65536 from(z 1 (by decide)).symm,show dg n 4294967296=dg (n+b) 4294967296 from(z 65536 (by decide)).symm,show dg n 281474976710656=dg (n+b) 281474976710656 from(z 4294967296 (by decide)).symm,show dg n 18446744073709551616=dg (n+b) 18446744073709551616 from(z 281474976710656 (by decide)).symm,show dg n 1208925819614629174706176=dg (n+b) 1208925819614629174706176 from(z 18446744073709551616 (by decide)).symm,show dg n 79228162514264337593543950336=dg (n+b) 79228162514264337593543950336 from(z 1208925819614629174706176 (by decide)).symm,show dg n 5192296858534827628530496329220096=dg (n+b) 5192296858534827628530496329220096 from(z 79228162514264337593543950336 (by decide)).symm,show dg n 340282366920938463463374607431768211456=dg (n+b) 340282366920938463463374607431768211456 from(z 5192296858534827628530496329220096 (by decide)).symm,show dg n 22300745198530623141535718272648361505980416=dg (n+b) 22300745198530623141535718272648361505980416 from(z 340282366920938463463374607431768211456 (by decide)).symm,show dg n 1461501637330902918203684832716283019655932542976=dg (n+b) 1461501637330902918203684832716283019655932542976 from(z 22300745198530623141535718272648361505980416 (by decide)).symm,show dg n 95780971304118053647396689196894323976171195136475136=dg (n+b) 95780971304118053647396689196894323976171195136475136 from(z 1461501637330902918203684832716283019655932542976 (by decide)).symm]
theorem bAK {ρ:Nat→Int} (l:List SV) (K:Int) (he:SV.eqbL l (bDU K)=true):SV.ubdL 0 l=true∧SV.denL G ρ l=eA ((E.lit K).den G ρ):=by
 rw[SV.eqbL_eq _ _ he];exact⟨rfl,rfl⟩
theorem eV {ρ:Nat→Int} {XI XV XF} (hX:Ctx.Ok ⟨G,XI,XV,XF⟩ ρ) {l:List SV} {N:E} (h:jD ⟨G,XI,XV,XF⟩ l = .ok N):SV.ubdL 0 l=true∧SV.denL G ρ l=eA (N.den G ρ):=by
 unfold jD at h
 split at h
 case h_2=>cases h
 rename_i c0 c1 c2 c3 c4 c5 c6 c7 c8 c9 c10 c11
 have gen:∀ r:Res E,(if digit? ⟨G,XI,XV,XF⟩ c0 && digit? ⟨G,XI,XV,XF⟩ c1 && digit? ⟨G,XI,XV,XF⟩ c2 && digit? ⟨G,XI,XV,XF⟩ c3 && digit? ⟨G,XI,XV,XF⟩ c4 && digit? ⟨G,XI,XV,XF⟩ c5 && digit? ⟨G,XI,XV,XF⟩ c6 && digit? ⟨G,XI,XV,XF⟩ c7 && digit? ⟨G,XI,XV,XF⟩ c8 && digit? ⟨G,XI,XV,XF⟩ c9 && digit? ⟨G,XI,XV,XF⟩ c10 && digit? ⟨G,XI,XV,XF⟩ c11 then Res.ok (aJy c0 c1 c2 c3 c4 c5 c6 c7 c8 c9 c10 c11) else r) = .ok N→(∀ M,r ≠ .ok M)→SV.ubdL 0 [.int .i64 c0,.int .i64 c1,.int .i64 c2,.int .i64 c3,.int .i64 c4,.int .i64 c5,.int .i64 c6,.int .i64 c7,.int .i64 c8,.int .i64 c9,.int .i64 c10,.int .i64 c11]=true∧SV.denL G ρ [.int .i64 c0,.int .i64 c1,.int .i64 c2,.int .i64 c3,.int .i64 c4,.int .i64 c5,.int .i64 c6,.int .i64 c7,.int .i64 c8,.int .i64 c9,.int .i64 c10,.int .i64 c11]=eA (N.den G ρ):=by
  intro r hr hne
  split at hr
  ·rename_i hg
   simp only[Bool.and_eq_true]at hg
   obtain⟨⟨⟨⟨⟨⟨⟨⟨⟨⟨⟨g0,g1⟩,g2⟩,g3⟩,g4⟩,g5⟩,g6⟩,g7⟩,g8⟩,g9⟩,g10⟩,g11⟩:=hg
   cases hr
   refine⟨rfl,?_⟩
   have k:=aPJ _ _ _ _ _ _ _ _ _ _ _ _ (fI hX g0) (fI hX g1) (fI hX g2) (fI hX g3) (fI hX g4) (fI hX g5) (fI hX g6) (fI hX g7) (fI hX g8) (fI hX g9) (fI hX g10) (fI hX g11)
   have e:(aJy c0 c1 c2 c3 c4 c5 c6 c7 c8 c9 c10 c11).den G ρ=E.den G ρ c0+65536*E.den G ρ c1+4294967296*E.den G ρ c2+281474976710656*E.den G ρ c3+18446744073709551616*E.den G ρ c4+1208925819614629174706176*E.den G ρ c5+79228162514264337593543950336*E.den G ρ c6+5192296858534827628530496329220096*E.den G ρ c7+340282366920938463463374607431768211456*E.den G ρ c8+22300745198530623141535718272648361505980416*E.den G ρ c9+1461501637330902918203684832716283019655932542976*E.den G ρ c10+95780971304118053647396689196894323976171195136475136*E.den G ρ c11:=by
    simp only[aJy,E.den,IOp.den,Int.mul_comm]
   rw[e,←k]
   rfl
  ·exact absurd hr (hne N)
 split at h
 ·rename_i N' m
  split at h
  ·rename_i he
   cases h
   rw[SV.eqbL_eq _ _ he]
   exact⟨aRU _,jU _⟩
  ·split at h
   ·rename_i he
    simp only[Bool.and_eq_true]at he
    cases h
    have:=E.lies_in hX he.2
    rw[SV.eqbL_eq _ _ he.1]
    exact⟨aNl _,sD _ this.1 (by have:=this.2;simp only at this;omega)⟩
   ·exact gen _ h (fun M=>by simp)
 ·rename_i N' b
  split at h
  ·rename_i he
   obtain⟨t,ht,h⟩:=Res.bind_ok h
   have hd:=Res.test_ok hX ht
   cases t
   ·cases h
   ·cases h
    simp only[List.drop_succ_cons,List.drop_zero]at he
    have e:=SV.eqbL_eq _ _ he
    simp only[B.den,COp.den,E.den,EL.den,IOp.den,Bool.and_eq_true,decide_eq_true_eq]at hd
    rw[show ([.int .i64 (.op .add (.app 30 (.cons N' (.cons (.lit 1) .nil))) b),.int .i64 c1,.int .i64 c2,.int .i64 c3,.int .i64 c4,.int .i64 c5,.int .i64 c6,.int .i64 c7,.int .i64 c8,.int .i64 c9,.int .i64 c10,.int .i64 c11])=(.int .i64 (.op .add (.app 30 (.cons N' (.cons (.lit 1) .nil))) b)::aX1 N':List SV)from by rw[←e]]
    refine⟨?_,?_⟩
    ·exact aVY _ _
    ·exact aQH (of_decide_eq_true hd.1) (of_decide_eq_true hd.2)
  ·exact gen _ h (fun M=>by simp)
 ·split at h
  ·rename_i he
   cases h
   exact bAK _ _ he
  ·exact gen _ h (fun M=>by simp)
 ·exact gen _ h (fun M=>by simp)
set_option maxRecDepth 100000
open Go Go.RowKit Sx Wi
def aPZ (P:Program) (fs:List B):Res SV:=bK G GI [(0,6277101735386680763835789423207666416102355444464034512895),(0,6277101735386680763835789423207666416102355444464034512895)] fs (fun X=>gU P X GB jZ 3000 136 [.agg (aK (.var 0)),.agg (aK (.var 1))])
def aZv:List B:=[]
theorem aV4:aPZ Try.prog aZv = .ok (.agg [(.int .i64 (.op .rem (.op .add (.app 30 (.cons (.var 0) (.cons (.lit 1) .nil))) (.app 30 (.cons (.var 1) (.cons (.lit 1) .nil)))) (.lit 65536))),(.int .i64 (.op .rem (.op .add (.op .add (.op .quo (.op .add (.app 30 (.cons (.var 0) (.cons (.lit 1) .nil))) (.app 30 (.cons (.var 1) (.cons (.lit 1) .nil)))) (.lit 65536)) (.app 30 (.cons (.var 0) (.cons (.lit 65536) .nil)))) (.app 30 (.cons (.var 1) (.cons (.lit 65536) .nil)))) (.lit 65536))),(.int .i64 (.op .rem (.op .add (.op .add (.op .quo (.op .add (.op .add (.op .quo (.op .add (.app 30 (.cons (.var 0) (.cons (.lit 1) .nil))) (.app 30 (.cons (.var 1) (.cons (.lit 1) .nil)))) (.lit 65536)) (.app 30 (.cons (.var 0) (.cons (.lit 65536) .nil)))) (.app 30 (.cons (.var 1) (.cons (.lit 65536) .nil)))) (.lit 65536)) (.app 30 (.cons (.var 0) (.cons (.lit 4294967296) .nil)))) (.app 30 (.cons (.var 1) (.cons (.lit 4294967296) .nil)))) (.lit 65536))),(.int .i64 (.op .rem (.op .add (.op .add (.op .quo (.op .add (.op .add (.op .quo (.op .add (.op .add (.op .quo (.op .add (.app 30 (.cons (.var 0) (.cons (.lit 1) .nil))) (.app 30 (.cons (.var 1) (.cons (.lit 1) .nil)))) (.lit 65536)) (.app 30 (.cons (.var 0) (.cons (.lit 65536) .nil)))) (.app 30 (.cons (.var 1) (.cons (.lit 65536) .nil)))) (.lit 65536)) (.app 30 (.cons (.var 0) (.cons (.lit 4294967296) .nil)))) (.app 30 (.cons (.var 1) (.cons (.lit 4294967296) .nil)))) (.lit 65536)) (.app 30 (.cons (.var 0) (.cons (.lit 281474976710656) .nil)))) (.app 30 (.cons (.var 1) (.cons (.lit 281474976710656) .nil)))) (.lit 65536))),(.int .i64 (.op .rem (.op .add (.op .add (.op .quo (.op .add (.op .add (.op .quo (.op .add (.op .add (.op .quo (.op .add (.op .add (.op .quo (.op .add (.app 30 (.cons (.var 0) (.cons (.lit 1) .nil))) (.app 30 (.cons (.var 1) (.cons (.lit 1) .nil)))) (.lit 65536)) (.app 30 (.cons (.var 0) (.cons (.lit 65536) .nil)))) (.app 30 (.cons (.var 1) (.cons (.lit 65536) .nil)))) (.lit 65536)) (.app 30 (.cons (.var 0) (.cons (.lit 4294967296) .nil)))) (.app 30 (.cons (.var 1) (.cons (.lit 4294967296) .nil)))) (.lit 65536)) (.app 30 (.cons (.var 0) (.cons (.lit 281474976710656) .nil)))) (.app 30 (.cons (.var 1) (.cons (.lit 281474976710656) .nil)))) (.lit 65536)) (.app 30 (.cons (.var 0) (.cons (.lit zq4) .nil)))) (.app 30 (.cons (.var 1) (.cons (.lit zq4) .nil)))) (.lit 65536))),(.int .i64 (.op .rem (.op .add (.op .add (.op .quo (.op .add (.op .add (.op .quo (.op .add (.op .add (.op .quo (.op .add (.op .add (.op .quo (.op .add (.op .add (.op .quo (.op .add (.app 30 (.cons (.var 0) (.cons (.lit 1) .nil))) (.app 30 (.cons (.var 1) (.cons (.lit 1) .nil)))) (.lit 65536)) (.app 30 (.cons (.var 0) (.cons (.lit 65536) .nil)))) (.app 30 (.cons (.var 1) (.cons (.lit 65536) .nil)))) (.lit 65536)) (.app 30 (.cons (.var 0) (.cons (.lit 4294967296) .nil)))) (.app 30 (.cons (.var 1) (.cons (.lit 4294967296) .nil)))) (.lit 65536)) (.app 30 (.cons (.var 0) (.cons (.lit 281474976710656) .nil)))) (.app 30 (.cons (.var 1) (.cons (.lit 281474976710656) .nil)))) (.lit 65536)) (.app 30 (.cons (.var 0) (.cons (.lit zq4) .nil)))) (.app 30 (.cons (.var 1) (.cons (.lit zq4) .nil)))) (.lit 65536)) (.app 30 (.cons (.var 0) (.cons (.lit zq5) .nil)))) (.app 30 (.cons (.var 1) (.cons (.lit zq5) .nil)))) (.lit 65536))),(.int .i64 (.op .rem (.op .add (.op .add (.op .quo (.op .add (.op .add (.op .quo (.op .add (.op .add (.op .quo (.op .add (.op .add (.op .quo (.op .add (.op .add (.op .quo (.op .add (.op .add (.op .quo (.op .add (.app 30 (.cons (.var 0) (.cons (.lit 1) .nil))) (.app 30 (.cons (.var 1) (.cons (.lit 1) .nil)))) (.lit 65536)) (.app 30 (.cons (.var 0) (.cons (.lit 65536) .nil)))) (.app 30 (.cons (.var 1) (.cons (.lit 65536) .nil)))) (.lit 65536)) (.app 30 (.cons (.var 0) (.cons (.lit 4294967296) .nil)))) (.app 30 (.cons (.var 1) (.cons (.lit 4294967296) .nil)))) (.lit 65536)) (.app 30 (.cons (.var 0) (.cons (.lit 281474976710656) .nil)))) (.app 30 (.cons (.var 1) (.cons (.lit 281474976710656) .nil)))) (.lit 65536)) (.app 30 (.cons (.var 0) (.cons (.lit zq4) .nil)))) (.app 30 (.cons (.var 1) (.cons (.lit zq4) .nil)))) (.lit 65536)) (.app 30 (.cons (.var 0) (.cons (.lit zq5) .nil)))) (.app 30 (.cons (.var 1) (.cons (.lit zq5) .nil)))) (.lit 65536)) (.app 30 (.cons (.var 0) (.cons (.lit zq6) .nil)))) (.app 30 (.cons (.var 1) (.cons (.lit zq6) .nil)))) (.lit 65536))),(.int .i64 (.op .rem (.op .add (.op .add (.op .quo (.op .add (.op .add (.op .quo (.op .add (.op .add (.op .quo (.op .add (.op .add (.op .quo (.op .add (.op .add (.op .quo (.op .add (.op .add (.op .quo (.op .add (.op .add (.op .quo (.op .add (.app 30 (.cons (.var 0) (.cons (.lit 1) .nil))) (.app 30 (.cons (.var 1) (.cons (.lit 1) .nil)))) (.lit 65536)) (.app 30 (.cons (.var 0) (.cons (.lit 65536) .nil)))) (.app 30 (.cons (.var 1) (.cons (.lit 65536) .nil)))) (.lit 65536)) (.app 30 (.cons (.var 0) (.cons (.lit 4294967296) .nil)))) (.app 30 (.cons (.var 1) (.cons (.lit 4294967296) .nil)))) (.lit 65536)) (.app 30 (.cons (.var 0) (.cons (.lit 281474976710656) .nil)))) (.app 30 (.cons (.var 1) (.cons (.lit 281474976710656) .nil)))) (.lit 65536)) (.app 30 (.cons (.var 0) (.cons (.lit zq4) .nil)))) (.app 30 (.cons (.var 1) (.cons (.lit zq4) .nil)))) (.lit 65536)) (.app 30 (.cons (.var 0) (.cons (.lit zq5) .nil)))) (.app 30 (.cons (.var 1) (.cons (.lit zq5) .nil)))) (.lit 65536)) (.app 30 (.cons (.var 0) (.cons (.lit zq6) .nil)))) (.app 30 (.cons (.var 1) (.cons (.lit zq6) .nil)))) (.lit 65536)) (.app 30 (.cons (.var 0) (.cons (.lit zq7) .nil)))) (.app 30 (.cons (.var 1) (.cons (.lit zq7) .nil)))) (.lit 65536))),(.int .i64 (.op .rem (.op .add (.op .add (.op .quo (.op .add (.op .add (.op .quo (.op .add (.op .add (.op .quo (.op .add (.op .add (.op .quo (.op .add (.op .add (.op .quo (.op .add (.op .add (.op .quo (.op .add (.op .add (.op .quo (.op .add (.op .add (.op .quo (.op .add (.app 30 (.cons (.var 0) (.cons (.lit 1) .nil))) (.app 30 (.cons (.var 1) (.cons (.lit 1) .nil)))) (.lit 65536)) (.app 30 (.cons (.var 0) (.cons (.lit 65536) .nil)))) (.app 30 (.cons (.var 1) (.cons (.lit 65536) .nil)))) (.lit 65536)) (.app 30 (.cons (.var 0) (.cons (.lit 4294967296) .nil)))) (.app 30 (.cons (.var 1) (.cons (.lit 4294967296) .nil)))) (.lit 65536)) (.app 30 (.cons (.var 0) (.cons (.lit 281474976710656) .nil)))) (.app 30 (.cons (.var 1) (.cons (.lit 281474976710656) .nil)))) (.lit 65536)) (.app 30 (.cons (.var 0) (.cons (.lit zq4) .nil)))) (.app 30 (.cons (.var 1) (.cons (.lit zq4) .nil)))) (.lit 65536)) (.app 30 (.cons (.var 0) (.cons (.lit zq5) .nil)))) (.app 30 (.cons (.var 1) (.cons (.lit zq5) .nil)))) (.lit 65536)) (.app 30 (.cons (.var 0) (.cons (.lit zq6) .nil)))) (.app 30 (.cons (.var 1) (.cons (.lit zq6) .nil)))) (.lit 65536)) (.app 30 (.cons (.var 0) (.cons (.lit zq7) .nil)))) (.app 30 (.cons (.var 1) (.cons (.lit zq7) .nil)))) (.lit 65536)) (.app 30 (.cons (.var 0) (.cons (.lit zq8) .nil)))) (.app 30 (.cons (.var 1) (.cons (.lit zq8) .nil)))) (.lit 65536))),(.int .i64 (.op .rem (.op .add (.op .add (.op .quo (.op .add (.op .add (.op .quo (.op .add (.op .add (.op .quo (.op .add (.op .add (.op .quo (.op .add (.op .add (.op .quo (.op .add (.op .add (.op .quo (.op .add (.op .add (.op .quo (.op .add (.op .add (.op .quo (.op .add (.op .add (.op .quo (.op .add (.app 30 (.cons (.var 0) (.cons (.lit 1) .nil))) (.app 30 (.cons (.var 1) (.cons (.lit 1) .nil)))) (.lit 65536)) (.app 30 (.cons (.var 0) (.cons (.lit 65536) .nil)))) (.app 30 (.cons (.var 1) (.cons (.lit 65536) .nil)))) (.lit 65536)) (.app 30 (.cons (.var 0) (.cons (.lit 4294967296) .nil)))) (.app 30 (.cons (.var 1) (.cons (.lit 4294967296) .nil)))) (.lit 65536)) (.app 30 (.cons (.var 0) (.cons (.lit 281474976710656) .nil)))) (.app 30 (.cons (.var 1) (.cons (.lit 281474976710656) .nil)))) (.lit 65536)) (.app 30 (.cons (.var 0) (.cons (.lit zq4) .nil)))) (.app 30 (.cons (.var 1) (.cons (.lit zq4) .nil)))) (.lit 65536)) (.app 30 (.cons (.var 0) (.cons (.lit zq5) .nil)))) (.app 30 (.cons (.var 1) (.cons (.lit zq5) .nil)))) (.lit 65536)) (.app 30 (.cons (.var 0) (.cons (.lit zq6) .nil)))) (.app 30 (.cons (.var 1) (.cons (.lit zq6) .nil)))) (.lit 65536)) (.app 30 (.cons (.var 0) (.cons (.lit zq7) .nil)))) (.app 30 (.cons (.var 1) (.cons (.lit zq7) .nil)))) (.lit 65536)) (.app 30 (.cons (.var 0) (.cons (.lit zq8) .nil)))) (.app 30 (.cons (.var 1) (.cons (.lit zq8) .nil)))) (.lit 65536)) (.app 30 (.cons (.var 0) (.cons (.lit zq9) .nil)))) (.app 30 (.cons (.var 1) (.cons (.lit zq9) .nil)))) (.lit 65536))),(.int .i64 (.op .rem (.op .add (.op .add (.op .quo (.op .add (.op .add (.op .quo (.op .add (.op .add (.op .quo (.op .add (.op .add (.op .quo (.op .add (.op .add (.op .quo (.op .add (.op .add (.op .quo (.op .add (.op .add (.op .quo (.op .add (.op .add (.op .quo (.op .add (.op .add (.op .quo (.op .add (.op .add (.op .quo (.op .add (.app 30 (.cons (.var 0) (.cons (.lit 1) .nil))) (.app 30 (.cons (.var 1) (.cons (.lit 1) .nil)))) (.lit 65536)) (.app 30 (.cons (.var 0) (.cons (.lit 65536) .nil)))) (.app 30 (.cons (.var 1) (.cons (.lit 65536) .nil)))) (.lit 65536)) (.app 30 (.cons (.var 0) (.cons (.lit 4294967296) .nil)))) (.app 30 (.cons (.var 1) (.cons (.lit 4294967296) .nil)))) (.lit 65536)) (.app 30 (.cons (.var 0) (.cons (.lit 281474976710656) .nil)))) (.app 30 (.cons (.var 1) (.cons (.lit 281474976710656) .nil)))) (.lit 65536)) (.app 30 (.cons (.var 0) (.cons (.lit zq4) .nil)))) (.app 30 (.cons (.var 1) (.cons (.lit zq4) .nil)))) (.lit 65536)) (.app 30 (.cons (.var 0) (.cons (.lit zq5) .nil)))) (.app 30 (.cons (.var 1) (.cons (.lit zq5) .nil)))) (.lit 65536)) (.app 30 (.cons (.var 0) (.cons (.lit zq6) .nil)))) (.app 30 (.cons (.var 1) (.cons (.lit zq6) .nil)))) (.lit 65536)) (.app 30 (.cons (.var 0) (.cons (.lit zq7) .nil)))) (.app 30 (.cons (.var 1) (.cons (.lit zq7) .nil)))) (.lit 65536)) (.app 30 (.cons (.var 0) (.cons (.lit zq8) .nil)))) (.app 30 (.cons (.var 1) (.cons (.lit zq8) .nil)))) (.lit 65536)) (.app 30 (.cons (.var 0) (.cons (.lit zq9) .nil)))) (.app 30 (.cons (.var 1) (.cons (.lit zq9) .nil)))) (.lit 65536)) (.app 30 (.cons (.var 0) (.cons (.lit zq10) .nil)))) (.app 30 (.cons (.var 1) (.cons (.lit zq10) .nil)))) (.lit 65536))),(.int .i64 (.op .rem (.op .add (.op .add (.op .quo (.op .add (.op .add (.op .quo (.op .add (.op .add (.op .quo (.op .add (.op .add (.op .quo (.op .add (.op .add (.op .quo (.op .add (.op .add (.op .quo (.op .add (.op .add (.op .quo (.op .add (.op .add (.op .quo (.op .add (.op .add (.op .quo (.op .add (.op .add (.op .quo (.op .add (.op .add (.op .quo (.op .add (.app 30 (.cons (.var 0) (.cons (.lit 1) .nil))) (.app 30 (.cons (.var 1) (.cons (.lit 1) .nil)))) (.lit 65536)) (.app 30 (.cons (.var 0) (.cons (.lit 65536) .nil)))) (.app 30 (.cons (.var 1) (.cons (.lit 65536) .nil)))) (.lit 65536)) (.app 30 (.cons (.var 0) (.cons (.lit 4294967296) .nil)))) (.app 30 (.cons (.var 1) (.cons (.lit 4294967296) .nil)))) (.lit 65536)) (.app 30 (.cons (.var 0) (.cons (.lit 281474976710656) .nil)))) (.app 30 (.cons (.var 1) (.cons (.lit 281474976710656) .nil)))) (.lit 65536)) (.app 30 (.cons (.var 0) (.cons (.lit zq4) .nil)))) (.app 30 (.cons (.var 1) (.cons (.lit zq4) .nil)))) (.lit 65536)) (.app 30 (.cons (.var 0) (.cons (.lit zq5) .nil)))) (.app 30 (.cons (.var 1) (.cons (.lit zq5) .nil)))) (.lit 65536)) (.app 30 (.cons (.var 0) (.cons (.lit zq6) .nil)))) (.app 30 (.cons (.var 1) (.cons (.lit zq6) .nil)))) (.lit 65536)) (.app 30 (.cons (.var 0) (.cons (.lit zq7) .nil)))) (.app 30 (.cons (.var 1) (.cons (.lit zq7) .nil)))) (.lit 65536)) (.app 30 (.cons (.var 0) (.cons (.lit zq8) .nil)))) (.app 30 (.cons (.var 1) (.cons (.lit zq8) .nil)))) (.lit 65536)) (.app 30 (.cons (.var 0) (.cons (.lit zq9) .nil)))) (.app 30 (.cons (.var 1) (.cons (.lit zq9) .nil)))) (.lit 65536)) (.app 30 (.cons (.var 0) (.cons (.lit zq10) .nil)))) (.app 30 (.cons (.var 1) (.cons (.lit zq10) .nil)))) (.lit 65536)) (.app 30 (.cons (.var 0) (.cons (.lit zq11) .nil)))) (.app 30 (.cons (.var 1) (.cons (.lit zq11) .nil)))) (.lit 65536)))]):=by kernel_rfl
set_option maxRecDepth 100000
open Go Go.RowKit Sx Wi
def cE (P:Program) (fs:List B):Res SV:=bK G GI [(0,6277101735386680763835789423207666416102355444464034512895),(0,6277101735386680763835789423207666416102355444464034512895)] fs (fun X=>gU P X GB jZ 3000 133 [.agg (aK (.var 0)),.agg (aK (.var 1))])
def aAI:List B:=[]
def aAy:B:=(.cmp .lt (.app 30 (.cons (.var 0) (.cons (.lit zq11) .nil))) (.app 30 (.cons (.var 1) (.cons (.lit zq11) .nil))))
def aJD:List B:=aH aAy++aAI
def aA0:List B:=aH (B.neg aAy)++aAI
def aAJ:B:=(.cmp .lt (.app 30 (.cons (.var 1) (.cons (.lit zq11) .nil))) (.app 30 (.cons (.var 0) (.cons (.lit zq11) .nil))))
def aJm:List B:=aH aAJ++aA0
def aAN:List B:=aH (B.neg aAJ)++aA0
def aAt:B:=(.cmp .lt (.app 30 (.cons (.var 0) (.cons (.lit zq10) .nil))) (.app 30 (.cons (.var 1) (.cons (.lit zq10) .nil))))
def aIM:List B:=aH aAt++aAN
def aAM:List B:=aH (B.neg aAt)++aAN
def zU:B:=(.cmp .lt (.app 30 (.cons (.var 1) (.cons (.lit zq10) .nil))) (.app 30 (.cons (.var 0) (.cons (.lit zq10) .nil))))
def aIS:List B:=aH zU++aAM
def aAg:List B:=aH (B.neg zU)++aAM
def aAd:B:=(.cmp .lt (.app 30 (.cons (.var 0) (.cons (.lit zq9) .nil))) (.app 30 (.cons (.var 1) (.cons (.lit zq9) .nil))))
def aI6:List B:=aH aAd++aAg
def tZ:List B:=aH (B.neg aAd)++aAg
def tX:B:=(.cmp .lt (.app 30 (.cons (.var 1) (.cons (.lit zq9) .nil))) (.app 30 (.cons (.var 0) (.cons (.lit zq9) .nil))))
def aFA:List B:=aH tX++tZ
def yN:List B:=aH (B.neg tX)++tZ
def vZ:B:=(.cmp .lt (.app 30 (.cons (.var 0) (.cons (.lit zq8) .nil))) (.app 30 (.cons (.var 1) (.cons (.lit zq8) .nil))))
def aIl:List B:=aH vZ++yN
def tV:List B:=aH (B.neg vZ)++yN
def xG:B:=(.cmp .lt (.app 30 (.cons (.var 1) (.cons (.lit zq8) .nil))) (.app 30 (.cons (.var 0) (.cons (.lit zq8) .nil))))
def aG2:List B:=aH xG++tV
def uA:List B:=aH (B.neg xG)++tV
def uI:B:=(.cmp .lt (.app 30 (.cons (.var 0) (.cons (.lit zq7) .nil))) (.app 30 (.cons (.var 1) (.cons (.lit zq7) .nil))))
def aDe:List B:=aH uI++uA
def wN:List B:=aH (B.neg uI)++uA
def tJ:B:=(.cmp .lt (.app 30 (.cons (.var 1) (.cons (.lit zq7) .nil))) (.app 30 (.cons (.var 0) (.cons (.lit zq7) .nil))))
def aHI:List B:=aH tJ++wN
def vW:List B:=aH (B.neg tJ)++wN
def xV:B:=(.cmp .lt (.app 30 (.cons (.var 0) (.cons (.lit zq6) .nil))) (.app 30 (.cons (.var 1) (.cons (.lit zq6) .nil))))
def aGI:List B:=aH xV++vW
def xW:List B:=aH (B.neg xV)++vW
def vP:B:=(.cmp .lt (.app 30 (.cons (.var 1) (.cons (.lit zq6) .nil))) (.app 30 (.cons (.var 0) (.cons (.lit zq6) .nil))))
def aEP:List B:=aH vP++xW
def uB:List B:=aH (B.neg vP)++xW
def tL:B:=(.cmp .lt (.app 30 (.cons (.var 0) (.cons (.lit zq5) .nil))) (.app 30 (.cons (.var 1) (.cons (.lit zq5) .nil))))
def aEn:List B:=aH tL++uB
def xC:List B:=aH (B.neg tL)++uB
def wS:B:=(.cmp .lt (.app 30 (.cons (.var 1) (.cons (.lit zq5) .nil))) (.app 30 (.cons (.var 0) (.cons (.lit zq5) .nil))))
def aHD:List B:=aH wS++xC
def vH:List B:=aH (B.neg wS)++xC
def xM:B:=(.cmp .lt (.app 30 (.cons (.var 0) (.cons (.lit zq4) .nil))) (.app 30 (.cons (.var 1) (.cons (.lit zq4) .nil))))
def aEZ:List B:=aH xM++vH
def wR:List B:=aH (B.neg xM)++vH
def uE:B:=(.cmp .lt (.app 30 (.cons (.var 1) (.cons (.lit zq4) .nil))) (.app 30 (.cons (.var 0) (.cons (.lit zq4) .nil))))
def aGa:List B:=aH uE++wR
def xZ:List B:=aH (B.neg uE)++wR
def wJ:B:=(.cmp .lt (.app 30 (.cons (.var 0) (.cons (.lit 281474976710656) .nil))) (.app 30 (.cons (.var 1) (.cons (.lit 281474976710656) .nil))))
def aDc:List B:=aH wJ++xZ
def wC:List B:=aH (B.neg wJ)++xZ
def vG:B:=(.cmp .lt (.app 30 (.cons (.var 1) (.cons (.lit 281474976710656) .nil))) (.app 30 (.cons (.var 0) (.cons (.lit 281474976710656) .nil))))
def aDo:List B:=aH vG++wC
def tN:List B:=aH (B.neg vG)++wC
def wQ:B:=(.cmp .lt (.app 30 (.cons (.var 0) (.cons (.lit 4294967296) .nil))) (.app 30 (.cons (.var 1) (.cons (.lit 4294967296) .nil))))
def aIk:List B:=aH wQ++tN
def uU:List B:=aH (B.neg wQ)++tN
def vE:B:=(.cmp .lt (.app 30 (.cons (.var 1) (.cons (.lit 4294967296) .nil))) (.app 30 (.cons (.var 0) (.cons (.lit 4294967296) .nil))))
def aEN:List B:=aH vE++uU
def uP:List B:=aH (B.neg vE)++uU
def yB:B:=(.cmp .lt (.app 30 (.cons (.var 0) (.cons (.lit 65536) .nil))) (.app 30 (.cons (.var 1) (.cons (.lit 65536) .nil))))
def aHL:List B:=aH yB++uP
def wK:List B:=aH (B.neg yB)++uP
def uX:B:=(.cmp .lt (.app 30 (.cons (.var 1) (.cons (.lit 65536) .nil))) (.app 30 (.cons (.var 0) (.cons (.lit 65536) .nil))))
def aD2:List B:=aH uX++wK
def tU:List B:=aH (B.neg uX)++wK
def xF:B:=(.cmp .lt (.app 30 (.cons (.var 0) (.cons (.lit 1) .nil))) (.app 30 (.cons (.var 1) (.cons (.lit 1) .nil))))
def aHq:List B:=aH xF++tU
def xS:List B:=aH (B.neg xF)++tU
def xR:B:=(.cmp .lt (.app 30 (.cons (.var 1) (.cons (.lit 1) .nil))) (.app 30 (.cons (.var 0) (.cons (.lit 1) .nil))))
def aEF:List B:=aH xR++xS
def aEi:List B:=aH (B.neg xR)++xS
theorem aJw:cE Try.prog aJD = .ok (.int .i64 (.lit (-1))):=by kernel_rfl
theorem aJi:cE Try.prog aJm = .ok (.int .i64 (.lit 1)):=by kernel_rfl
theorem aJg:cE Try.prog aIM = .ok (.int .i64 (.lit (-1))):=by kernel_rfl
theorem aI5:cE Try.prog aIS = .ok (.int .i64 (.lit 1)):=by kernel_rfl
theorem aJS:cE Try.prog aI6 = .ok (.int .i64 (.lit (-1))):=by kernel_rfl
theorem aGY:cE Try.prog aFA = .ok (.int .i64 (.lit 1)):=by kernel_rfl
theorem aDw:cE Try.prog aIl = .ok (.int .i64 (.lit (-1))):=by kernel_rfl
theorem aDG:cE Try.prog aG2 = .ok (.int .i64 (.lit 1)):=by kernel_rfl
theorem aHr:cE Try.prog aDe = .ok (.int .i64 (.lit (-1))):=by kernel_rfl
theorem aGg:cE Try.prog aHI = .ok (.int .i64 (.lit 1)):=by kernel_rfl
theorem aEQ:cE Try.prog aGI = .ok (.int .i64 (.lit (-1))):=by kernel_rfl
theorem aDP:cE Try.prog aEP = .ok (.int .i64 (.lit 1)):=by kernel_rfl
theorem aGQ:cE Try.prog aEn = .ok (.int .i64 (.lit (-1))):=by kernel_rfl
theorem aGi:cE Try.prog aHD = .ok (.int .i64 (.lit 1)):=by kernel_rfl
theorem aHA:cE Try.prog aEZ = .ok (.int .i64 (.lit (-1))):=by kernel_rfl
theorem aEz:cE Try.prog aGa = .ok (.int .i64 (.lit 1)):=by kernel_rfl
theorem aHB:cE Try.prog aDc = .ok (.int .i64 (.lit (-1))):=by kernel_rfl
theorem aEy:cE Try.prog aDo = .ok (.int .i64 (.lit 1)):=by kernel_rfl
theorem aDA:cE Try.prog aIk = .ok (.int .i64 (.lit (-1))):=by kernel_rfl
theorem aDC:cE Try.prog aEN = .ok (.int .i64 (.lit 1)):=by kernel_rfl
theorem aFL:cE Try.prog aHL = .ok (.int .i64 (.lit (-1))):=by kernel_rfl
theorem aGu:cE Try.prog aD2 = .ok (.int .i64 (.lit 1)):=by kernel_rfl
theorem aDY:cE Try.prog aHq = .ok (.int .i64 (.lit (-1))):=by kernel_rfl
theorem aH9:cE Try.prog aEF = .ok (.int .i64 (.lit 1)):=by kernel_rfl
theorem aH4:cE Try.prog aEi = .ok (.int .i64 (.lit 0)):=by kernel_rfl
set_option maxRecDepth 100000
open Go Go.RowKit Sx Wi
def aTf (P:Program) (fs:List B):Res SV:=bK G GI [(0,6277101735386680763835789423207666416102355444464034512895),(0,1)] fs (fun X=>gU P X GB jZ 3000 134 [.agg (.bool (.cmp .ne (.var 1) (.lit 0))::aK (.var 0))])
def aWU:List B:=[]
theorem aXK:aTf Try.prog aWU = .ok (.bool (.and (.cmp .eq (.app 30 (.cons (.var 0) (.cons (.lit 1) .nil))) (.lit 0)) (.and (.cmp .eq (.app 30 (.cons (.var 0) (.cons (.lit 65536) .nil))) (.lit 0)) (.and (.cmp .eq (.app 30 (.cons (.var 0) (.cons (.lit 4294967296) .nil))) (.lit 0)) (.and (.cmp .eq (.app 30 (.cons (.var 0) (.cons (.lit 281474976710656) .nil))) (.lit 0)) (.and (.cmp .eq (.app 30 (.cons (.var 0) (.cons (.lit zq4) .nil))) (.lit 0)) (.and (.cmp .eq (.app 30 (.cons (.var 0) (.cons (.lit zq5) .nil))) (.lit 0)) (.and (.cmp .eq (.app 30 (.cons (.var 0) (.cons (.lit zq6) .nil))) (.lit 0)) (.and (.cmp .eq (.app 30 (.cons (.var 0) (.cons (.lit zq7) .nil))) (.lit 0)) (.and (.cmp .eq (.app 30 (.cons (.var 0) (.cons (.lit zq8) .nil))) (.lit 0)) (.and (.cmp .eq (.app 30 (.cons (.var 0) (.cons (.lit zq9) .nil))) (.lit 0)) (.and (.cmp .eq (.app 30 (.cons (.var 0) (.cons (.lit zq10) .nil))) (.lit 0)) (.cmp .eq (.app 30 (.cons (.var 0) (.cons (.lit zq11) .nil))) (.lit 0)))))))))))))):=by kernel_rfl
open Go Go.RowKit Sx Nu Wi
set_option maxHeartbeats 4000000 in
set_option maxRecDepth 100000 in
theorem aTS (x0 x1:Int) (b0:0≤x0∧x0≤6277101735386680763835789423207666416102355444464034512895) (b1:0≤x1∧x1≤6277101735386680763835789423207666416102355444464034512895) (w:World) (hw:pR GB w):dM Try.prog 136∧Calls Try.prog 136 #[.agg (eA x0).toArray,.agg (eA x1).toArray] w (fun e w'=>e = .returned (.agg (eA (x0+x1)).toArray)∧Below w.heap.size w w'):=by
 refine dK (dC (ρ:=bT [x0,x1]) (run:=aPZ Try.prog) (fun _=>rfl) fits (bL ⟨b0,b1,trivial⟩) dY (fun X hX hG=>gC) rfl rfl bV ?_ w hw)
 refine aE aV4 ?_
 refine⟨rfl,?_⟩;simp only[nn,G,wG,nq]at *;simp only[pq0,pr0,pq _ _ 65536 4294967296 (by decide) rfl,pq _ _ 4294967296 281474976710656 (by decide) rfl,pq _ _ 281474976710656 18446744073709551616 (by decide) rfl,pq _ _ 18446744073709551616 1208925819614629174706176 (by decide) rfl,pq _ _ 1208925819614629174706176 79228162514264337593543950336 (by decide) rfl,pq _ _ 79228162514264337593543950336 5192296858534827628530496329220096 (by decide) rfl,pq _ _ 5192296858534827628530496329220096 340282366920938463463374607431768211456 (by decide) rfl,pq _ _ 340282366920938463463374607431768211456 22300745198530623141535718272648361505980416 (by decide) rfl,pq _ _ 22300745198530623141535718272648361505980416 1461501637330902918203684832716283019655932542976 (by decide) rfl,pq _ _ 1461501637330902918203684832716283019655932542976 95780971304118053647396689196894323976171195136475136 (by decide) rfl,pr _ _ 65536 (by decide),pr _ _ 4294967296 (by decide),pr _ _ 281474976710656 (by decide),pr _ _ 18446744073709551616 (by decide),pr _ _ 1208925819614629174706176 (by decide),pr _ _ 79228162514264337593543950336 (by decide),pr _ _ 5192296858534827628530496329220096 (by decide),pr _ _ 340282366920938463463374607431768211456 (by decide),pr _ _ 22300745198530623141535718272648361505980416 (by decide),pr _ _ 1461501637330902918203684832716283019655932542976 (by decide),pr _ _ 95780971304118053647396689196894323976171195136475136 (by decide)];rfl
theorem eF (x0 x1:Int) (b0:0≤x0∧x0≤6277101735386680763835789423207666416102355444464034512895) (b1:0≤x1∧x1≤6277101735386680763835789423207666416102355444464034512895):x0=dg x0 1+65536*dg x0 65536+4294967296*dg x0 4294967296+281474976710656*dg x0 281474976710656+18446744073709551616*dg x0 18446744073709551616+1208925819614629174706176*dg x0 1208925819614629174706176+79228162514264337593543950336*dg x0 79228162514264337593543950336+5192296858534827628530496329220096*dg x0 5192296858534827628530496329220096+340282366920938463463374607431768211456*dg x0 340282366920938463463374607431768211456+22300745198530623141535718272648361505980416*dg x0 22300745198530623141535718272648361505980416+1461501637330902918203684832716283019655932542976*dg x0 1461501637330902918203684832716283019655932542976+95780971304118053647396689196894323976171195136475136*dg x0 95780971304118053647396689196894323976171195136475136∧x1=dg x1 1+65536*dg x1 65536+4294967296*dg x1 4294967296+281474976710656*dg x1 281474976710656+18446744073709551616*dg x1 18446744073709551616+1208925819614629174706176*dg x1 1208925819614629174706176+79228162514264337593543950336*dg x1 79228162514264337593543950336+5192296858534827628530496329220096*dg x1 5192296858534827628530496329220096+340282366920938463463374607431768211456*dg x1 340282366920938463463374607431768211456+22300745198530623141535718272648361505980416*dg x1 22300745198530623141535718272648361505980416+1461501637330902918203684832716283019655932542976*dg x1 1461501637330902918203684832716283019655932542976+95780971304118053647396689196894323976171195136475136*dg x1 95780971304118053647396689196894323976171195136475136∧(0≤dg x0 1∧dg x0 1<65536)∧(0≤dg x0 65536∧dg x0 65536<65536)∧(0≤dg x0 4294967296∧dg x0 4294967296<65536)∧(0≤dg x0 281474976710656∧dg x0 281474976710656<65536)∧(0≤dg x0 18446744073709551616∧dg x0 18446744073709551616<65536)∧(0≤dg x0 1208925819614629174706176∧dg x0 1208925819614629174706176<65536)∧(0≤dg x0 79228162514264337593543950336∧dg x0 79228162514264337593543950336<65536)∧(0≤dg x0 5192296858534827628530496329220096∧dg x0 5192296858534827628530496329220096<65536)∧(0≤dg x0 340282366920938463463374607431768211456∧dg x0 340282366920938463463374607431768211456<65536)∧(0≤dg x0 22300745198530623141535718272648361505980416∧dg x0 22300745198530623141535718272648361505980416<65536)∧(0≤dg x0 1461501637330902918203684832716283019655932542976∧dg x0 1461501637330902918203684832716283019655932542976<65536)∧(0≤dg x0 95780971304118053647396689196894323976171195136475136∧dg x0 95780971304118053647396689196894323976171195136475136<65536)∧(0≤dg x1 1∧dg x1 1<65536)∧(0≤dg x1 65536∧dg x1 65536<65536)∧(0≤dg x1 4294967296∧dg x1 4294967296<65536)∧(0≤dg x1 281474976710656∧dg x1 281474976710656<65536)∧(0≤dg x1 18446744073709551616∧dg x1 18446744073709551616<65536)∧(0≤dg x1 1208925819614629174706176∧dg x1 1208925819614629174706176<65536)∧(0≤dg x1 79228162514264337593543950336∧dg x1 79228162514264337593543950336<65536)∧(0≤dg x1 5192296858534827628530496329220096∧dg x1 5192296858534827628530496329220096<65536)∧(0≤dg x1 340282366920938463463374607431768211456∧dg x1 340282366920938463463374607431768211456<65536)∧(0≤dg x1 22300745198530623141535718272648361505980416∧dg x1 22300745198530623141535718272648361505980416<65536)∧(0≤dg x1 1461501637330902918203684832716283019655932542976∧dg x1 1461501637330902918203684832716283019655932542976<65536)∧(0≤dg x1 95780971304118053647396689196894323976171195136475136∧dg x1 95780971304118053647396689196894323976171195136475136<65536):=
 ⟨eR x0 b0.1 (by omega),eR x1 b1.1 (by omega),dg_bd x0 1,dg_bd x0 65536,dg_bd x0 4294967296,dg_bd x0 281474976710656,dg_bd x0 18446744073709551616,dg_bd x0 1208925819614629174706176,dg_bd x0 79228162514264337593543950336,dg_bd x0 5192296858534827628530496329220096,dg_bd x0 340282366920938463463374607431768211456,dg_bd x0 22300745198530623141535718272648361505980416,dg_bd x0 1461501637330902918203684832716283019655932542976,dg_bd x0 95780971304118053647396689196894323976171195136475136,dg_bd x1 1,dg_bd x1 65536,dg_bd x1 4294967296,dg_bd x1 281474976710656,dg_bd x1 18446744073709551616,dg_bd x1 1208925819614629174706176,dg_bd x1 79228162514264337593543950336,dg_bd x1 5192296858534827628530496329220096,dg_bd x1 340282366920938463463374607431768211456,dg_bd x1 22300745198530623141535718272648361505980416,dg_bd x1 1461501637330902918203684832716283019655932542976,dg_bd x1 95780971304118053647396689196894323976171195136475136⟩
set_option maxHeartbeats 4000000 in
set_option maxRecDepth 100000 in
theorem aFc (x0 x1:Int) (b0:0≤x0∧x0≤6277101735386680763835789423207666416102355444464034512895) (b1:0≤x1∧x1≤6277101735386680763835789423207666416102355444464034512895) (w:World) (hw:pR GB w):dM Try.prog 133∧Calls Try.prog 133 #[.agg (eA x0).toArray,.agg (eA x1).toArray] w (fun e w'=>e = .returned (.int .i64 (if x0<x1 then -1 else if x1<x0 then 1 else 0))∧Below w.heap.size w w'):=by
 refine dK (dC (ρ:=bT [x0,x1]) (run:=cE Try.prog) (fun _=>rfl) fits (bL ⟨b0,b1,trivial⟩) dY (fun X hX hG=>gC) rfl rfl bV ?_ w hw)
 refine aG (.cmp .lt (.app 30 (.cons (.var 0) (.cons (.lit 95780971304118053647396689196894323976171195136475136) .nil))) (.app 30 (.cons (.var 1) (.cons (.lit 95780971304118053647396689196894323976171195136475136) .nil)))) (fun h0=>?_) (fun h0=>?_)
 ·skip
  refine aE aJw ?_
  refine⟨rfl,?_⟩;simp only[nn,G,wG,nq]at *;have q:=eF x0 x1 b0 b1;rw[if_pos (by omega)]<;>rfl
 refine aG (.cmp .lt (.app 30 (.cons (.var 1) (.cons (.lit 95780971304118053647396689196894323976171195136475136) .nil))) (.app 30 (.cons (.var 0) (.cons (.lit 95780971304118053647396689196894323976171195136475136) .nil)))) (fun h1=>?_) (fun h1=>?_)
 ·skip
  refine aE aJi ?_
  refine⟨rfl,?_⟩;simp only[nn,G,wG,nq]at *;have q:=eF x0 x1 b0 b1;rw[if_neg (by omega),if_pos (by omega)]<;>rfl
 refine aG (.cmp .lt (.app 30 (.cons (.var 0) (.cons (.lit 1461501637330902918203684832716283019655932542976) .nil))) (.app 30 (.cons (.var 1) (.cons (.lit 1461501637330902918203684832716283019655932542976) .nil)))) (fun h2=>?_) (fun h2=>?_)
 ·skip
  refine aE aJg ?_
  refine⟨rfl,?_⟩;simp only[nn,G,wG,nq]at *;have q:=eF x0 x1 b0 b1;rw[if_pos (by omega)]<;>rfl
 refine aG (.cmp .lt (.app 30 (.cons (.var 1) (.cons (.lit 1461501637330902918203684832716283019655932542976) .nil))) (.app 30 (.cons (.var 0) (.cons (.lit 1461501637330902918203684832716283019655932542976) .nil)))) (fun h3=>?_) (fun h3=>?_)
 ·skip
  refine aE aI5 ?_
  refine⟨rfl,?_⟩;simp only[nn,G,wG,nq]at *;have q:=eF x0 x1 b0 b1;rw[if_neg (by omega),if_pos (by omega)]<;>rfl
 refine aG (.cmp .lt (.app 30 (.cons (.var 0) (.cons (.lit 22300745198530623141535718272648361505980416) .nil))) (.app 30 (.cons (.var 1) (.cons (.lit 22300745198530623141535718272648361505980416) .nil)))) (fun h4=>?_) (fun h4=>?_)
 ·skip
  refine aE aJS ?_
  refine⟨rfl,?_⟩;simp only[nn,G,wG,nq]at *;have q:=eF x0 x1 b0 b1;rw[if_pos (by omega)]<;>rfl
 refine aG (.cmp .lt (.app 30 (.cons (.var 1) (.cons (.lit 22300745198530623141535718272648361505980416) .nil))) (.app 30 (.cons (.var 0) (.cons (.lit 22300745198530623141535718272648361505980416) .nil)))) (fun h5=>?_) (fun h5=>?_)
 ·skip
  refine aE aGY ?_
  refine⟨rfl,?_⟩;simp only[nn,G,wG,nq]at *;have q:=eF x0 x1 b0 b1;rw[if_neg (by omega),if_pos (by omega)]<;>rfl
 refine aG (.cmp .lt (.app 30 (.cons (.var 0) (.cons (.lit 340282366920938463463374607431768211456) .nil))) (.app 30 (.cons (.var 1) (.cons (.lit 340282366920938463463374607431768211456) .nil)))) (fun h6=>?_) (fun h6=>?_)
 ·skip
  refine aE aDw ?_
  refine⟨rfl,?_⟩;simp only[nn,G,wG,nq]at *;have q:=eF x0 x1 b0 b1;rw[if_pos (by omega)]<;>rfl
 refine aG (.cmp .lt (.app 30 (.cons (.var 1) (.cons (.lit 340282366920938463463374607431768211456) .nil))) (.app 30 (.cons (.var 0) (.cons (.lit 340282366920938463463374607431768211456) .nil)))) (fun h7=>?_) (fun h7=>?_)
 ·skip
  refine aE aDG ?_
  refine⟨rfl,?_⟩;simp only[nn,G,wG,nq]at *;have q:=eF x0 x1 b0 b1;rw[if_neg (by omega),if_pos (by omega)]<;>rfl
 refine aG (.cmp .lt (.app 30 (.cons (.var 0) (.cons (.lit 5192296858534827628530496329220096) .nil))) (.app 30 (.cons (.var 1) (.cons (.lit 5192296858534827628530496329220096) .nil)))) (fun h8=>?_) (fun h8=>?_)
 ·skip
  refine aE aHr ?_
  refine⟨rfl,?_⟩;simp only[nn,G,wG,nq]at *;have q:=eF x0 x1 b0 b1;rw[if_pos (by omega)]<;>rfl
 refine aG (.cmp .lt (.app 30 (.cons (.var 1) (.cons (.lit 5192296858534827628530496329220096) .nil))) (.app 30 (.cons (.var 0) (.cons (.lit 5192296858534827628530496329220096) .nil)))) (fun h9=>?_) (fun h9=>?_)
 ·skip
  refine aE aGg ?_
  refine⟨rfl,?_⟩;simp only[nn,G,wG,nq]at *;have q:=eF x0 x1 b0 b1;rw[if_neg (by omega),if_pos (by omega)]<;>rfl
 refine aG (.cmp .lt (.app 30 (.cons (.var 0) (.cons (.lit 79228162514264337593543950336) .nil))) (.app 30 (.cons (.var 1) (.cons (.lit 79228162514264337593543950336) .nil)))) (fun h10=>?_) (fun h10=>?_)
 ·skip
  refine aE aEQ ?_
  refine⟨rfl,?_⟩;simp only[nn,G,wG,nq]at *;have q:=eF x0 x1 b0 b1;rw[if_pos (by omega)]<;>rfl
 refine aG (.cmp .lt (.app 30 (.cons (.var 1) (.cons (.lit 79228162514264337593543950336) .nil))) (.app 30 (.cons (.var 0) (.cons (.lit 79228162514264337593543950336) .nil)))) (fun h11=>?_) (fun h11=>?_)
 ·skip
  refine aE aDP ?_
  refine⟨rfl,?_⟩;simp only[nn,G,wG,nq]at *;have q:=eF x0 x1 b0 b1;rw[if_neg (by omega),if_pos (by omega)]<;>rfl
 refine aG (.cmp .lt (.app 30 (.cons (.var 0) (.cons (.lit 1208925819614629174706176) .nil))) (.app 30 (.cons (.var 1) (.cons (.lit 1208925819614629174706176) .nil)))) (fun h12=>?_) (fun h12=>?_)
 ·skip
  refine aE aGQ ?_
  refine⟨rfl,?_⟩;simp only[nn,G,wG,nq]at *;have q:=eF x0 x1 b0 b1;rw[if_pos (by omega)]<;>rfl
 refine aG (.cmp .lt (.app 30 (.cons (.var 1) (.cons (.lit 1208925819614629174706176) .nil))) (.app 30 (.cons (.var 0) (.cons (.lit 1208925819614629174706176) .nil)))) (fun h13=>?_) (fun h13=>?_)
 ·skip
  refine aE aGi ?_
  refine⟨rfl,?_⟩;simp only[nn,G,wG,nq]at *;have q:=eF x0 x1 b0 b1;rw[if_neg (by omega),if_pos (by omega)]<;>rfl
 refine aG (.cmp .lt (.app 30 (.cons (.var 0) (.cons (.lit 18446744073709551616) .nil))) (.app 30 (.cons (.var 1) (.cons (.lit 18446744073709551616) .nil)))) (fun h14=>?_) (fun h14=>?_)
 ·skip
  refine aE aHA ?_
  refine⟨rfl,?_⟩;simp only[nn,G,wG,nq]at *;have q:=eF x0 x1 b0 b1;rw[if_pos (by omega)]<;>rfl
 refine aG (.cmp .lt (.app 30 (.cons (.var 1) (.cons (.lit 18446744073709551616) .nil))) (.app 30 (.cons (.var 0) (.cons (.lit 18446744073709551616) .nil)))) (fun h15=>?_) (fun h15=>?_)
 ·skip
  refine aE aEz ?_
  refine⟨rfl,?_⟩;simp only[nn,G,wG,nq]at *;have q:=eF x0 x1 b0 b1;rw[if_neg (by omega),if_pos (by omega)]<;>rfl
 refine aG (.cmp .lt (.app 30 (.cons (.var 0) (.cons (.lit 281474976710656) .nil))) (.app 30 (.cons (.var 1) (.cons (.lit 281474976710656) .nil)))) (fun h16=>?_) (fun h16=>?_)
 ·skip
  refine aE aHB ?_
  refine⟨rfl,?_⟩;simp only[nn,G,wG,nq]at *;have q:=eF x0 x1 b0 b1;rw[if_pos (by omega)]<;>rfl
 refine aG (.cmp .lt (.app 30 (.cons (.var 1) (.cons (.lit 281474976710656) .nil))) (.app 30 (.cons (.var 0) (.cons (.lit 281474976710656) .nil)))) (fun h17=>?_) (fun h17=>?_)
 ·skip
  refine aE aEy ?_
  refine⟨rfl,?_⟩;simp only[nn,G,wG,nq]at *;have q:=eF x0 x1 b0 b1;rw[if_neg (by omega),if_pos (by omega)]<;>rfl
 refine aG (.cmp .lt (.app 30 (.cons (.var 0) (.cons (.lit 4294967296) .nil))) (.app 30 (.cons (.var 1) (.cons (.lit 4294967296) .nil)))) (fun h18=>?_) (fun h18=>?_)
 ·skip
  refine aE aDA ?_
  refine⟨rfl,?_⟩;simp only[nn,G,wG,nq]at *;have q:=eF x0 x1 b0 b1;rw[if_pos (by omega)]<;>rfl
 refine aG (.cmp .lt (.app 30 (.cons (.var 1) (.cons (.lit 4294967296) .nil))) (.app 30 (.cons (.var 0) (.cons (.lit 4294967296) .nil)))) (fun h19=>?_) (fun h19=>?_)
 ·skip
  refine aE aDC ?_
  refine⟨rfl,?_⟩;simp only[nn,G,wG,nq]at *;have q:=eF x0 x1 b0 b1;rw[if_neg (by omega),if_pos (by omega)]<;>rfl
 refine aG (.cmp .lt (.app 30 (.cons (.var 0) (.cons (.lit 65536) .nil))) (.app 30 (.cons (.var 1) (.cons (.lit 65536) .nil)))) (fun h20=>?_) (fun h20=>?_)
 ·skip
  refine aE aFL ?_
  refine⟨rfl,?_⟩;simp only[nn,G,wG,nq]at *;have q:=eF x0 x1 b0 b1;rw[if_pos (by omega)]<;>rfl
 refine aG (.cmp .lt (.app 30 (.cons (.var 1) (.cons (.lit 65536) .nil))) (.app 30 (.cons (.var 0) (.cons (.lit 65536) .nil)))) (fun h21=>?_) (fun h21=>?_)
 ·skip
  refine aE aGu ?_
  refine⟨rfl,?_⟩;simp only[nn,G,wG,nq]at *;have q:=eF x0 x1 b0 b1;rw[if_neg (by omega),if_pos (by omega)]<;>rfl
 refine aG (.cmp .lt (.app 30 (.cons (.var 0) (.cons (.lit 1) .nil))) (.app 30 (.cons (.var 1) (.cons (.lit 1) .nil)))) (fun h22=>?_) (fun h22=>?_)
 ·skip
  refine aE aDY ?_
  refine⟨rfl,?_⟩;simp only[nn,G,wG,nq]at *;have q:=eF x0 x1 b0 b1;rw[if_pos (by omega)]<;>rfl
 refine aG (.cmp .lt (.app 30 (.cons (.var 1) (.cons (.lit 1) .nil))) (.app 30 (.cons (.var 0) (.cons (.lit 1) .nil)))) (fun h23=>?_) (fun h23=>?_)
 ·skip
  refine aE aH9 ?_
  refine⟨rfl,?_⟩;simp only[nn,G,wG,nq]at *;have q:=eF x0 x1 b0 b1;rw[if_neg (by omega),if_pos (by omega)]<;>rfl
 refine aE aH4 ?_
 refine⟨rfl,?_⟩;simp only[nn,G,wG,nq]at *;have q:=eF x0 x1 b0 b1;rw[if_neg (by omega),if_neg (by omega)]<;>rfl
set_option maxHeartbeats 4000000 in
set_option maxRecDepth 100000 in
theorem aRi (x0 x1:Int) (b0:0≤x0∧x0≤6277101735386680763835789423207666416102355444464034512895) (b1:0≤x1∧x1≤1) (w:World) (hw:pR GB w):dM Try.prog 134∧Calls Try.prog 134 #[.agg (.bool (!decide (x1=0))::eA x0).toArray] w (fun e w'=>e = .returned (.bool (decide (x0=0)))∧Below w.heap.size w w'):=by
 refine dK (dC (ρ:=bT [x0,x1]) (run:=aTf Try.prog) (fun _=>rfl) fits (bL ⟨b0,b1,trivial⟩) dY (fun X hX hG=>gC) rfl rfl bV ?_ w hw)
 refine aE aXK ?_
 refine⟨rfl,?_⟩;have ha:=eR x0 b0.1 (by omega);simp only[nn,G,wG,nq]at *;congr 1;rw[Bool.eq_iff_iff];simp only[Bool.and_eq_true,decide_eq_true_eq];refine⟨fun h=>?_,fun h=>?_⟩;(obtain⟨z0,z1,z2,z3,z4,z5,z6,z7,z8,z9,z10,z11⟩:=h;rw[ha,z0,z1,z2,z3,z4,z5,z6,z7,z8,z9,z10,z11];rfl);(subst h;refine⟨rfl,rfl,rfl,rfl,rfl,rfl,rfl,rfl,rfl,rfl,rfl,rfl⟩)
end Go.Proofs.Ytkpdiehbaiepaaa
