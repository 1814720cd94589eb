/- What is proved: the run of a function over its ways,and what is known on each. No condition. -/
import Derived.Test.YtoiecphddchknaaQa3
import Derived.Test.YtoiecphddchknaaQNn
import Derived.Test.YtoiecphddchknaaQa2
import Derived.Test.YtoiecphddchknaaQg4
import Derived.Test.YtoiecphddchknaaProg
import Derived.Test.YtoiecphddchknaaQg3
set_option linter.unusedSimpArgs false
set_option linter.unusedVariables false
set_option maxRecDepth 100000
namespace Go.Proofs.Ytoiecphddchknaa
open Go Go.RowKit Sx Wi
def aGi (P:Program) (fs:List B):Res SV:=aCI P fs
def aJ6:List B:=[]
def gD:B:=(.and (.cmp .le (.lit (-1125899906842624)) (.op .add (.op .mul (.var 0) (.lit 18446744073709551616)) (.var 1))) (.and (.cmp .le (.op .add (.op .mul (.var 0) (.lit 18446744073709551616)) (.var 1)) (.lit 1125899906842624)) (.and (.cmp .le (.lit (-1125899906842624)) (.op .add (.op .mul (.var 2) (.lit 18446744073709551616)) (.var 3))) (.and (.cmp .le (.op .add (.op .mul (.var 2) (.lit 18446744073709551616)) (.var 3)) (.lit 1125899906842624)) (.and (.cmp .le (.lit (-1125899906842624)) (.op .add (.op .mul (.var 4) (.lit 18446744073709551616)) (.var 5))) (.and (.cmp .le (.op .add (.op .mul (.var 4) (.lit 18446744073709551616)) (.var 5)) (.lit 1125899906842624)) (.and (.cmp .le (.lit 1) (.var 6)) (.and (.cmp .le (.var 6) (.lit 65535)) (.and (.and (.cmp .le (.lit (-3602879701896396800)) (.op .add (.op .add (.var 7) (.var 8)) (.var 9))) (.cmp .le (.op .add (.op .add (.var 7) (.var 8)) (.var 9)) (.lit 3602879701896396800))) (.or (.and (.cmp .le (.lit 0) (.var 7)) (.and (.cmp .le (.lit 0) (.var 8)) (.and (.cmp .le (.lit 0) (.var 9)) (.cmp .le (.lit 1) (.op .add (.op .add (.var 7) (.var 8)) (.var 9)))))) (.and (.cmp .le (.var 7) (.lit 0)) (.and (.cmp .le (.var 8) (.lit 0)) (.and (.cmp .le (.var 9) (.lit 0)) (.cmp .le (.op .add (.op .add (.var 7) (.var 8)) (.var 9)) (.lit (-1))))))))))))))))
def aC8:List B:=aK gD++aJ6
def gE:B:=(.cmp .lt (.op .add (.op .add (.var 7) (.var 8)) (.var 9)) (.lit 0))
def aKh:List B:=aK gE++aC8
def mV:B:=(.cmp .le (.op .mul (.lit 2) (.op .sub (.lit 0) (.op .add (.op .add (.var 7) (.var 8)) (.var 9)))) (.lit 9223372036854775807))
def aKp:List B:=aK mV++aKh
def oQ:B:=(.cmp .le (.lit (-9223372036854775808)) (.app 71 (.cons (.app 71 (.cons (.op .add (.op .mul (.op .sub (.lit 0) (.op .add (.op .add (.op .add (.lit 0) (.op .mul (.op .add (.op .mul (.var 0) (.lit 18446744073709551616)) (.var 1)) (.var 7))) (.op .mul (.op .add (.op .mul (.var 2) (.lit 18446744073709551616)) (.var 3)) (.var 8))) (.op .mul (.op .add (.op .mul (.var 4) (.lit 18446744073709551616)) (.var 5)) (.var 9)))) (.lit 2)) (.op .mul (.op .sub (.lit 0) (.op .add (.op .add (.var 7) (.var 8)) (.var 9))) (.var 6))) (.cons (.var 6) .nil))) (.cons (.op .mul (.lit 2) (.op .sub (.lit 0) (.op .add (.op .add (.var 7) (.var 8)) (.var 9)))) .nil))))
def aKR:List B:=aK oQ++aKp
def sP:B:=(.cmp .le (.app 71 (.cons (.app 71 (.cons (.op .add (.op .mul (.op .sub (.lit 0) (.op .add (.op .add (.op .add (.lit 0) (.op .mul (.op .add (.op .mul (.var 0) (.lit 18446744073709551616)) (.var 1)) (.var 7))) (.op .mul (.op .add (.op .mul (.var 2) (.lit 18446744073709551616)) (.var 3)) (.var 8))) (.op .mul (.op .add (.op .mul (.var 4) (.lit 18446744073709551616)) (.var 5)) (.var 9)))) (.lit 2)) (.op .mul (.op .sub (.lit 0) (.op .add (.op .add (.var 7) (.var 8)) (.var 9))) (.var 6))) (.cons (.var 6) .nil))) (.cons (.op .mul (.lit 2) (.op .sub (.lit 0) (.op .add (.op .add (.var 7) (.var 8)) (.var 9)))) .nil))) (.lit 9223372036854775807))
def aKY:List B:=aK sP++aKR
def aCF:SV:=(.tuple [(.agg [(.int .i64 (.op .max (.lit (-2147483648)) (.op .min (.lit 2147483647) (.app 71 (.cons (.app 71 (.cons (.op .add (.op .mul (.op .sub (.lit 0) (.op .add (.op .add (.op .add (.lit 0) (.op .mul (.op .add (.op .mul (.var 0) (.lit 18446744073709551616)) (.var 1)) (.var 7))) (.op .mul (.op .add (.op .mul (.var 2) (.lit 18446744073709551616)) (.var 3)) (.var 8))) (.op .mul (.op .add (.op .mul (.var 4) (.lit 18446744073709551616)) (.var 5)) (.var 9)))) (.lit 2)) (.op .mul (.op .sub (.lit 0) (.op .add (.op .add (.var 7) (.var 8)) (.var 9))) (.var 6))) (.cons (.var 6) .nil))) (.cons (.op .mul (.lit 2) (.op .sub (.lit 0) (.op .add (.op .add (.var 7) (.var 8)) (.var 9)))) .nil)))))),(.int .i64 (.app 70 (.cons (.op .add (.op .mul (.var 0) (.lit 18446744073709551616)) (.var 1)) (.cons (.op .add (.op .mul (.var 2) (.lit 18446744073709551616)) (.var 3)) (.cons (.op .add (.op .mul (.var 4) (.lit 18446744073709551616)) (.var 5)) (.cons (.var 6) (.cons (.var 7) (.cons (.var 8) (.cons (.var 9) .nil)))))))))]),(.bool (.lit true))])
def aLG:List B:=aK (B.neg gE)++aC8
def lO:B:=(.cmp .le (.op .mul (.lit 2) (.op .add (.op .add (.var 7) (.var 8)) (.var 9))) (.lit 9223372036854775807))
def aHF:List B:=aK lO++aLG
def mU:B:=(.cmp .le (.lit 1) (.op .mul (.lit 2) (.op .add (.op .add (.var 7) (.var 8)) (.var 9))))
def aHy:List B:=aK mU++aHF
def oT:B:=(.cmp .le (.lit (-9223372036854775808)) (.app 71 (.cons (.app 71 (.cons (.op .add (.op .mul (.op .add (.op .add (.op .add (.lit 0) (.op .mul (.op .add (.op .mul (.var 0) (.lit 18446744073709551616)) (.var 1)) (.var 7))) (.op .mul (.op .add (.op .mul (.var 2) (.lit 18446744073709551616)) (.var 3)) (.var 8))) (.op .mul (.op .add (.op .mul (.var 4) (.lit 18446744073709551616)) (.var 5)) (.var 9))) (.lit 2)) (.op .mul (.op .add (.op .add (.var 7) (.var 8)) (.var 9)) (.var 6))) (.cons (.var 6) .nil))) (.cons (.op .mul (.lit 2) (.op .add (.op .add (.var 7) (.var 8)) (.var 9))) .nil))))
def aJa:List B:=aK oT++aHy
def sK:B:=(.cmp .le (.app 71 (.cons (.app 71 (.cons (.op .add (.op .mul (.op .add (.op .add (.op .add (.lit 0) (.op .mul (.op .add (.op .mul (.var 0) (.lit 18446744073709551616)) (.var 1)) (.var 7))) (.op .mul (.op .add (.op .mul (.var 2) (.lit 18446744073709551616)) (.var 3)) (.var 8))) (.op .mul (.op .add (.op .mul (.var 4) (.lit 18446744073709551616)) (.var 5)) (.var 9))) (.lit 2)) (.op .mul (.op .add (.op .add (.var 7) (.var 8)) (.var 9)) (.var 6))) (.cons (.var 6) .nil))) (.cons (.op .mul (.lit 2) (.op .add (.op .add (.var 7) (.var 8)) (.var 9))) .nil))) (.lit 9223372036854775807))
def aJs:List B:=aK sK++aJa
def aDB:SV:=(.tuple [(.agg [(.int .i64 (.op .max (.lit (-2147483648)) (.op .min (.lit 2147483647) (.app 71 (.cons (.app 71 (.cons (.op .add (.op .mul (.op .add (.op .add (.op .add (.lit 0) (.op .mul (.op .add (.op .mul (.var 0) (.lit 18446744073709551616)) (.var 1)) (.var 7))) (.op .mul (.op .add (.op .mul (.var 2) (.lit 18446744073709551616)) (.var 3)) (.var 8))) (.op .mul (.op .add (.op .mul (.var 4) (.lit 18446744073709551616)) (.var 5)) (.var 9))) (.lit 2)) (.op .mul (.op .add (.op .add (.var 7) (.var 8)) (.var 9)) (.var 6))) (.cons (.var 6) .nil))) (.cons (.op .mul (.lit 2) (.op .add (.op .add (.var 7) (.var 8)) (.var 9))) .nil)))))),(.int .i64 (.app 70 (.cons (.op .add (.op .mul (.var 0) (.lit 18446744073709551616)) (.var 1)) (.cons (.op .add (.op .mul (.var 2) (.lit 18446744073709551616)) (.var 3)) (.cons (.op .add (.op .mul (.var 4) (.lit 18446744073709551616)) (.var 5)) (.cons (.var 6) (.cons (.var 7) (.cons (.var 8) (.cons (.var 9) .nil)))))))))]),(.bool (.lit true))])
theorem aMq:aGi Try.prog aKY = .ok aCF:=by kernel_rfl
theorem aHV:aGi Try.prog aJs = .ok aDB:=by kernel_rfl
end Go.Proofs.Ytoiecphddchknaa
namespace Go.Proofs.Ytoiecphddchknaa
open Go Go.RowKit Sx Wi
set_option maxHeartbeats 1000000 in
set_option maxRecDepth 100000 in
theorem aMm (x0 x1 x2 x3 x4 x5 x6 x7 x8 x9:Int) (b0:(-9223372036854775808)≤x0∧x0≤9223372036854775807) (b1:0≤x1∧x1≤18446744073709551615) (b2:(-9223372036854775808)≤x2∧x2≤9223372036854775807) (b3:0≤x3∧x3≤18446744073709551615) (b4:(-9223372036854775808)≤x4∧x4≤9223372036854775807) (b5:0≤x5∧x5≤18446744073709551615) (b6:(-9223372036854775808)≤x6∧x6≤9223372036854775807) (b7:(-1801615772808642560)≤x7∧x7≤1801615772808642560) (b8:(-1801615772808642560)≤x8∧x8≤1801615772808642560) (b9:(-1801615772808642560)≤x9∧x9≤1801615772808642560) (hp:tE.den G (dP ([x0,x1,x2,x3,x4,x5,x6,x7,x8,x9]:List Int))=true):kU Try.prog G GB 120 aEg (dP ([x0,x1,x2,x3,x4,x5,x6,x7,x8,x9]:List Int)):=by
 have hq:=hp
 unfold tE at hq
 simp only[nn,List.cons_append,List.nil_append,Bool.or_eq_true,aL,ne_eq]at hq
 obtain⟨p0,p1,p2,p3,p4,p5,p6,p7,hf⟩:=hq
 have hk:=aET (n0:=(x0*18446744073709551616+x1)) (n1:=(x2*18446744073709551616+x3)) (n2:=(x4*18446744073709551616+x5)) (d:=x6) ⟨p0,p1⟩ ⟨p2,p3⟩ ⟨p4,p5⟩ ⟨p6,p7⟩ (show mY x7 x8 x9 from hf)
 clear p0 p1 p2 p3 p4 p5 p6 p7 hf
 refine fT (lp:=iH) (run:=aCI Try.prog) (fun _=>rfl) fits (cF ⟨b0,b1,b2,b3,b4,b5,b6,b7,b8,b9,trivial⟩) gM (fun X hX hG=>lS hX hG) (fun X hX hG fn c hf hc=>gB) rfl ?_
 refine aI gD (fun h0=>?_) (fun h0=>?_)
 rotate_left
 ·skip
  refine aY ?_
  unfold gD at h0;exact absurd hp (by unfold tE;rw[h0];decide)
 refine aI gE (fun h1=>?_) (fun h1=>?_)
 ·skip
  refine aI mV (fun h2=>?_) (fun h2=>?_)
  rotate_left
  ·skip
   refine aY ?_
   unfold gD at h0;unfold gE at h1;unfold mV at h2;clear hp h0;simp only[nn,List.cons_append,List.nil_append,Bool.or_eq_true,aL,ne_eq]at h1 h2;first|with_reducible exact absurd (hk.1 h1).1 h2|with_reducible exact absurd (hk.1 h1).2.1 h2|with_reducible exact absurd (hk.1 h1).2.2 h2|with_reducible exact absurd (hk.2 h1).1 h2|with_reducible exact absurd (hk.2 h1).2.1 h2|with_reducible exact absurd (hk.2 h1).2.2.1 h2|with_reducible exact absurd (hk.2 h1).2.2.2 h2
  refine aI oQ (fun h3=>?_) (fun h3=>?_)
  rotate_left
  ·skip
   refine aY ?_
   unfold gD at h0;unfold gE at h1;unfold mV at h2;unfold oQ at h3;clear hp h0;simp only[nn,List.cons_append,List.nil_append,Bool.or_eq_true,aL,ne_eq]at h1 h2 h3;first|with_reducible exact absurd (hk.1 h1).1 h3|with_reducible exact absurd (hk.1 h1).2.1 h3|with_reducible exact absurd (hk.1 h1).2.2 h3|with_reducible exact absurd (hk.2 h1).1 h3|with_reducible exact absurd (hk.2 h1).2.1 h3|with_reducible exact absurd (hk.2 h1).2.2.1 h3|with_reducible exact absurd (hk.2 h1).2.2.2 h3
  refine aI sP (fun h4=>?_) (fun h4=>?_)
  ·skip
   refine aG aMq ?_
   unfold gD at h0;unfold gE at h1;unfold mV at h2;unfold oQ at h3;unfold sP at h4;unfold aCF;clear hp h0 hk;simp only[nn,List.cons_append,List.nil_append,Bool.or_eq_true,aL,ne_eq]at h1;simp only[cG];refine⟨rfl,?_⟩;simp only[aR];simp only[nn,List.cons_append,List.nil_append,Bool.or_eq_true,aL,ne_eq];(repeat' refine And.intro ?_ ?_)<;>first|with_reducible exact aNn h1|with_reducible trivial
  refine aY ?_
  unfold gD at h0;unfold gE at h1;unfold mV at h2;unfold oQ at h3;unfold sP at h4;clear hp h0;simp only[nn,List.cons_append,List.nil_append,Bool.or_eq_true,aL,ne_eq]at h1 h2 h3 h4;first|with_reducible exact absurd (hk.1 h1).1 h4|with_reducible exact absurd (hk.1 h1).2.1 h4|with_reducible exact absurd (hk.1 h1).2.2 h4|with_reducible exact absurd (hk.2 h1).1 h4|with_reducible exact absurd (hk.2 h1).2.1 h4|with_reducible exact absurd (hk.2 h1).2.2.1 h4|with_reducible exact absurd (hk.2 h1).2.2.2 h4
 refine aI lO (fun h2=>?_) (fun h2=>?_)
 rotate_left
 ·skip
  refine aY ?_
  unfold gD at h0;unfold gE at h1;unfold lO at h2;clear hp h0;simp only[nn,List.cons_append,List.nil_append,Bool.or_eq_true,aL,ne_eq]at h1 h2;first|with_reducible exact absurd (hk.1 h1).1 h2|with_reducible exact absurd (hk.1 h1).2.1 h2|with_reducible exact absurd (hk.1 h1).2.2 h2|with_reducible exact absurd (hk.2 h1).1 h2|with_reducible exact absurd (hk.2 h1).2.1 h2|with_reducible exact absurd (hk.2 h1).2.2.1 h2|with_reducible exact absurd (hk.2 h1).2.2.2 h2
 refine aI mU (fun h3=>?_) (fun h3=>?_)
 rotate_left
 ·skip
  refine aY ?_
  unfold gD at h0;unfold gE at h1;unfold lO at h2;unfold mU at h3;clear hp h0;simp only[nn,List.cons_append,List.nil_append,Bool.or_eq_true,aL,ne_eq]at h1 h2 h3;first|with_reducible exact absurd (hk.1 h1).1 h3|with_reducible exact absurd (hk.1 h1).2.1 h3|with_reducible exact absurd (hk.1 h1).2.2 h3|with_reducible exact absurd (hk.2 h1).1 h3|with_reducible exact absurd (hk.2 h1).2.1 h3|with_reducible exact absurd (hk.2 h1).2.2.1 h3|with_reducible exact absurd (hk.2 h1).2.2.2 h3
 refine aI oT (fun h4=>?_) (fun h4=>?_)
 rotate_left
 ·skip
  refine aY ?_
  unfold gD at h0;unfold gE at h1;unfold lO at h2;unfold mU at h3;unfold oT at h4;clear hp h0;simp only[nn,List.cons_append,List.nil_append,Bool.or_eq_true,aL,ne_eq]at h1 h2 h3 h4;first|with_reducible exact absurd (hk.1 h1).1 h4|with_reducible exact absurd (hk.1 h1).2.1 h4|with_reducible exact absurd (hk.1 h1).2.2 h4|with_reducible exact absurd (hk.2 h1).1 h4|with_reducible exact absurd (hk.2 h1).2.1 h4|with_reducible exact absurd (hk.2 h1).2.2.1 h4|with_reducible exact absurd (hk.2 h1).2.2.2 h4
 refine aI sK (fun h5=>?_) (fun h5=>?_)
 ·skip
  refine aG aHV ?_
  unfold gD at h0;unfold gE at h1;unfold lO at h2;unfold mU at h3;unfold oT at h4;unfold sK at h5;unfold aDB;clear hp h0 hk;simp only[nn,List.cons_append,List.nil_append,Bool.or_eq_true,aL,ne_eq]at h1;simp only[cG];refine⟨rfl,?_⟩;simp only[aR];simp only[nn,List.cons_append,List.nil_append,Bool.or_eq_true,aL,ne_eq];(repeat' refine And.intro ?_ ?_)<;>first|with_reducible exact aLy h1|with_reducible trivial
 refine aY ?_
 unfold gD at h0;unfold gE at h1;unfold lO at h2;unfold mU at h3;unfold oT at h4;unfold sK at h5;clear hp h0;simp only[nn,List.cons_append,List.nil_append,Bool.or_eq_true,aL,ne_eq]at h1 h2 h3 h4 h5;first|with_reducible exact absurd (hk.1 h1).1 h5|with_reducible exact absurd (hk.1 h1).2.1 h5|with_reducible exact absurd (hk.1 h1).2.2 h5|with_reducible exact absurd (hk.2 h1).1 h5|with_reducible exact absurd (hk.2 h1).2.1 h5|with_reducible exact absurd (hk.2 h1).2.2.1 h5|with_reducible exact absurd (hk.2 h1).2.2.2 h5
def yA:Ctx→List SV→aM→Res (SV × aM):=iM GB aB0 0 tE aEg
theorem aN5 {X:Ctx} {ρ:Nat→Int} (hX:X.Ok ρ) (hG:X.G=G):jS Try.prog X ρ GB 120 yA:=by
 obtain⟨XG,XI,XV,XF⟩:=X
 simp only at hG
 subst hG
 refine fO hX ?_
 intro xs ls hw hl hp
 unfold aB0 at hw
 obtain⟨x0,y0,e0,b0,h0⟩:=aF hw
 obtain⟨x1,y1,e1,b1,h1⟩:=aF h0
 obtain⟨x2,y2,e2,b2,h2⟩:=aF h1
 obtain⟨x3,y3,e3,b3,h3⟩:=aF h2
 obtain⟨x4,y4,e4,b4,h4⟩:=aF h3
 obtain⟨x5,y5,e5,b5,h5⟩:=aF h4
 obtain⟨x6,y6,e6,b6,h6⟩:=aF h5
 obtain⟨x7,y7,e7,b7,h7⟩:=aF h6
 obtain⟨x8,y8,e8,b8,h8⟩:=aF h7
 obtain⟨x9,y9,e9,b9,h9⟩:=aF h8
 have e10:=pG h9
 subst e10 e9 e8 e7 e6 e5 e4 e3 e2 e1 e0
 have hl':ls=[]:=List.length_eq_zero_iff.1 hl
 subst hl'
 rw[List.append_nil]
 exact aMm x0 x1 x2 x3 x4 x5 x6 x7 x8 x9 b0 b1 b2 b3 b4 b5 b6 b7 b8 b9 (by rw[List.append_nil]at hp;exact hp)
def aB3:List (Int × Int):=[((-9223372036854775808),9223372036854775807),(0,18446744073709551615),((-9223372036854775808),9223372036854775807),(0,18446744073709551615),((-9223372036854775808),9223372036854775807),(0,18446744073709551615),((-9223372036854775808),9223372036854775807),(0,18446744073709551615),((-9223372036854775808),9223372036854775807),(0,4294967296),(0,4294967296),(0,4294967296),(0,4294967296)]
def sD:B:=(.and (.cmp .le (.lit (-1125899906842624)) (.op .add (.op .mul (.var 0) (.lit 18446744073709551616)) (.var 1))) (.and (.cmp .le (.op .add (.op .mul (.var 0) (.lit 18446744073709551616)) (.var 1)) (.lit 1125899906842624)) (.and (.cmp .le (.lit (-1125899906842624)) (.op .add (.op .mul (.var 2) (.lit 18446744073709551616)) (.var 3))) (.and (.cmp .le (.op .add (.op .mul (.var 2) (.lit 18446744073709551616)) (.var 3)) (.lit 1125899906842624)) (.and (.cmp .le (.lit (-1125899906842624)) (.op .add (.op .mul (.var 4) (.lit 18446744073709551616)) (.var 5))) (.and (.cmp .le (.op .add (.op .mul (.var 4) (.lit 18446744073709551616)) (.var 5)) (.lit 1125899906842624)) (.and (.cmp .le (.lit (-1125899906842624)) (.op .add (.op .mul (.var 6) (.lit 18446744073709551616)) (.var 7))) (.and (.cmp .le (.op .add (.op .mul (.var 6) (.lit 18446744073709551616)) (.var 7)) (.lit 1125899906842624)) (.and (.cmp .le (.lit 1) (.var 8)) (.and (.cmp .le (.var 8) (.lit 65535)) (.cmp .le (.lit 1) (.op .add (.op .add (.op .add (.var 9) (.var 10)) (.var 11)) (.var 12)))))))))))))
def aFF:FunS:=⟨[.slice 0 0 4 4,.slice 1 0 4 4,(.int .i64 (.var 8))],[some ([(.int .i64 (.var 0)),(.int .u64 (.var 1)),(.int .i64 (.var 2)),(.int .u64 (.var 3)),(.int .i64 (.var 4)),(.int .u64 (.var 5)),(.int .i64 (.var 6)),(.int .u64 (.var 7))],35),some ([(.int .i64 (.var 9)),(.int .i64 (.var 10)),(.int .i64 (.var 11)),(.int .i64 (.var 12))],2)],.lit true,(.int .i32 (.app 73 (.cons (.op .add (.op .mul (.var 0) (.lit 18446744073709551616)) (.var 1)) (.cons (.op .add (.op .mul (.var 2) (.lit 18446744073709551616)) (.var 3)) (.cons (.op .add (.op .mul (.var 4) (.lit 18446744073709551616)) (.var 5)) (.cons (.op .add (.op .mul (.var 6) (.lit 18446744073709551616)) (.var 7)) (.cons (.var 8) (.cons (.var 9) (.cons (.var 10) (.cons (.var 11) (.cons (.var 12) .nil))))))))))),[some ([(.int .i64 (.var 0)),(.int .u64 (.var 1)),(.int .i64 (.var 2)),(.int .u64 (.var 3)),(.int .i64 (.var 4)),(.int .u64 (.var 5)),(.int .i64 (.var 6)),(.int .u64 (.var 7))],35),some ([(.int .i64 (.var 9)),(.int .i64 (.var 10)),(.int .i64 (.var 11)),(.int .i64 (.var 12))],2)],(.int .i32 (.app 73 (.cons (.op .add (.op .mul (.var 0) (.lit 18446744073709551616)) (.var 1)) (.cons (.op .add (.op .mul (.var 2) (.lit 18446744073709551616)) (.var 3)) (.cons (.op .add (.op .mul (.var 4) (.lit 18446744073709551616)) (.var 5)) (.cons (.op .add (.op .mul (.var 6) (.lit 18446744073709551616)) (.var 7)) (.cons (.var 8) (.cons (.var 9) (.cons (.var 10) (.cons (.var 11) (.cons (.var 12) .nil))))))))))),[some ([(.int .i64 (.var 0)),(.int .u64 (.var 1)),(.int .i64 (.var 2)),(.int .u64 (.var 3)),(.int .i64 (.var 4)),(.int .u64 (.var 5)),(.int .i64 (.var 6)),(.int .u64 (.var 7))],35),some ([(.int .i64 (.var 9)),(.int .i64 (.var 10)),(.int .i64 (.var 11)),(.int .i64 (.var 12))],2)]⟩
def aDF (P:Program) (fs:List B):Res SV:=bY G GI aB3 fs fun X=>lX P X GB vQ iH 4000 120 aFF
end Go.Proofs.Ytoiecphddchknaa
set_option maxRecDepth 100000
namespace Go.Proofs.Ytoiecphddchknaa
open Go Go.RowKit Sx Wi
def aPy (P:Program) (fs:List B):Res SV:=aDF P fs
def aKT:List B:=[]
def nF:B:=(.and (.cmp .le (.lit (-1125899906842624)) (.op .add (.op .mul (.var 0) (.lit 18446744073709551616)) (.var 1))) (.and (.cmp .le (.op .add (.op .mul (.var 0) (.lit 18446744073709551616)) (.var 1)) (.lit 1125899906842624)) (.and (.cmp .le (.lit (-1125899906842624)) (.op .add (.op .mul (.var 2) (.lit 18446744073709551616)) (.var 3))) (.and (.cmp .le (.op .add (.op .mul (.var 2) (.lit 18446744073709551616)) (.var 3)) (.lit 1125899906842624)) (.and (.cmp .le (.lit (-1125899906842624)) (.op .add (.op .mul (.var 4) (.lit 18446744073709551616)) (.var 5))) (.and (.cmp .le (.op .add (.op .mul (.var 4) (.lit 18446744073709551616)) (.var 5)) (.lit 1125899906842624)) (.and (.cmp .le (.lit (-1125899906842624)) (.op .add (.op .mul (.var 6) (.lit 18446744073709551616)) (.var 7))) (.and (.cmp .le (.op .add (.op .mul (.var 6) (.lit 18446744073709551616)) (.var 7)) (.lit 1125899906842624)) (.and (.cmp .le (.lit 1) (.var 8)) (.and (.cmp .le (.var 8) (.lit 65535)) (.cmp .le (.lit 1) (.op .add (.op .add (.op .add (.var 9) (.var 10)) (.var 11)) (.var 12)))))))))))))
def aK7:List B:=aK nF++aKT
def pD:B:=(.cmp .le (.lit (-9223372036854775808)) (.app 71 (.cons (.app 71 (.cons (.op .add (.op .mul (.op .add (.op .add (.op .add (.op .add (.lit 0) (.op .mul (.op .add (.op .mul (.var 0) (.lit 18446744073709551616)) (.var 1)) (.var 9))) (.op .mul (.op .add (.op .mul (.var 2) (.lit 18446744073709551616)) (.var 3)) (.var 10))) (.op .mul (.op .add (.op .mul (.var 4) (.lit 18446744073709551616)) (.var 5)) (.var 11))) (.op .mul (.op .add (.op .mul (.var 6) (.lit 18446744073709551616)) (.var 7)) (.var 12))) (.lit 2)) (.op .mul (.op .add (.op .add (.op .add (.var 9) (.var 10)) (.var 11)) (.var 12)) (.var 8))) (.cons (.var 8) .nil))) (.cons (.op .mul (.lit 2) (.op .add (.op .add (.op .add (.var 9) (.var 10)) (.var 11)) (.var 12))) .nil))))
def aKt:List B:=aK pD++aK7
def rX:B:=(.cmp .le (.app 71 (.cons (.app 71 (.cons (.op .add (.op .mul (.op .add (.op .add (.op .add (.op .add (.lit 0) (.op .mul (.op .add (.op .mul (.var 0) (.lit 18446744073709551616)) (.var 1)) (.var 9))) (.op .mul (.op .add (.op .mul (.var 2) (.lit 18446744073709551616)) (.var 3)) (.var 10))) (.op .mul (.op .add (.op .mul (.var 4) (.lit 18446744073709551616)) (.var 5)) (.var 11))) (.op .mul (.op .add (.op .mul (.var 6) (.lit 18446744073709551616)) (.var 7)) (.var 12))) (.lit 2)) (.op .mul (.op .add (.op .add (.op .add (.var 9) (.var 10)) (.var 11)) (.var 12)) (.var 8))) (.cons (.var 8) .nil))) (.cons (.op .mul (.lit 2) (.op .add (.op .add (.op .add (.var 9) (.var 10)) (.var 11)) (.var 12))) .nil))) (.lit 9223372036854775807))
def aMg:List B:=aK rX++aKt
def aDd:SV:=(.tuple [(.agg [(.int .i64 (.op .max (.lit (-2147483648)) (.op .min (.lit 2147483647) (.app 71 (.cons (.app 71 (.cons (.op .add (.op .mul (.op .add (.op .add (.op .add (.op .add (.lit 0) (.op .mul (.op .add (.op .mul (.var 0) (.lit 18446744073709551616)) (.var 1)) (.var 9))) (.op .mul (.op .add (.op .mul (.var 2) (.lit 18446744073709551616)) (.var 3)) (.var 10))) (.op .mul (.op .add (.op .mul (.var 4) (.lit 18446744073709551616)) (.var 5)) (.var 11))) (.op .mul (.op .add (.op .mul (.var 6) (.lit 18446744073709551616)) (.var 7)) (.var 12))) (.lit 2)) (.op .mul (.op .add (.op .add (.op .add (.var 9) (.var 10)) (.var 11)) (.var 12)) (.var 8))) (.cons (.var 8) .nil))) (.cons (.op .mul (.lit 2) (.op .add (.op .add (.op .add (.var 9) (.var 10)) (.var 11)) (.var 12))) .nil)))))),(.int .i64 (.app 73 (.cons (.op .add (.op .mul (.var 0) (.lit 18446744073709551616)) (.var 1)) (.cons (.op .add (.op .mul (.var 2) (.lit 18446744073709551616)) (.var 3)) (.cons (.op .add (.op .mul (.var 4) (.lit 18446744073709551616)) (.var 5)) (.cons (.op .add (.op .mul (.var 6) (.lit 18446744073709551616)) (.var 7)) (.cons (.var 8) (.cons (.var 9) (.cons (.var 10) (.cons (.var 11) (.cons (.var 12) .nil)))))))))))]),(.bool (.lit true))])
theorem aMw:aPy Try.prog aMg = .ok aDd:=by kernel_rfl
end Go.Proofs.Ytoiecphddchknaa
namespace Go.Proofs.Ytoiecphddchknaa
open Go Go.RowKit Sx Wi
set_option maxHeartbeats 1000000 in
set_option maxRecDepth 100000 in
theorem aM7 (x0 x1 x2 x3 x4 x5 x6 x7 x8 x9 x10 x11 x12:Int) (b0:(-9223372036854775808)≤x0∧x0≤9223372036854775807) (b1:0≤x1∧x1≤18446744073709551615) (b2:(-9223372036854775808)≤x2∧x2≤9223372036854775807) (b3:0≤x3∧x3≤18446744073709551615) (b4:(-9223372036854775808)≤x4∧x4≤9223372036854775807) (b5:0≤x5∧x5≤18446744073709551615) (b6:(-9223372036854775808)≤x6∧x6≤9223372036854775807) (b7:0≤x7∧x7≤18446744073709551615) (b8:(-9223372036854775808)≤x8∧x8≤9223372036854775807) (b9:0≤x9∧x9≤4294967296) (b10:0≤x10∧x10≤4294967296) (b11:0≤x11∧x11≤4294967296) (b12:0≤x12∧x12≤4294967296) (hp:sD.den G (dP ([x0,x1,x2,x3,x4,x5,x6,x7,x8,x9,x10,x11,x12]:List Int))=true):kU Try.prog G GB 120 aFF (dP ([x0,x1,x2,x3,x4,x5,x6,x7,x8,x9,x10,x11,x12]:List Int)):=by
 have hq:=hp
 unfold sD at hq
 simp only[nn,List.cons_append,List.nil_append,Bool.or_eq_true,aL,ne_eq]at hq
 obtain⟨p0,p1,p2,p3,p4,p5,p6,p7,p8,p9,hf⟩:=hq
 have hk:=aEw (n0:=(x0*18446744073709551616+x1)) (n1:=(x2*18446744073709551616+x3)) (n2:=(x4*18446744073709551616+x5)) (n3:=(x6*18446744073709551616+x7)) (d:=x8) ⟨p0,p1⟩ ⟨p2,p3⟩ ⟨p4,p5⟩ ⟨p6,p7⟩ ⟨p8,p9⟩ b9.1 b10.1 b11.1 b12.1 hf
 clear p0 p1 p2 p3 p4 p5 p6 p7 p8 p9 hf
 refine fT (lp:=iH) (run:=aDF Try.prog) (fun _=>rfl) fits (cF ⟨b0,b1,b2,b3,b4,b5,b6,b7,b8,b9,b10,b11,b12,trivial⟩) gM (fun X hX hG=>lS hX hG) (fun X hX hG fn c hf hc=>gB) rfl ?_
 refine aI nF (fun h0=>?_) (fun h0=>?_)
 rotate_left
 ·skip
  refine aY ?_
  unfold nF at h0;exact absurd hp (by unfold sD;rw[h0];decide)
 refine aI pD (fun h1=>?_) (fun h1=>?_)
 rotate_left
 ·skip
  refine aY ?_
  unfold nF at h0;unfold pD at h1;clear hp h0;simp only[nn,List.cons_append,List.nil_append,Bool.or_eq_true,aL,ne_eq]at h1;first|with_reducible exact absurd hk.1 h1|with_reducible exact absurd hk.2 h1
 refine aI rX (fun h2=>?_) (fun h2=>?_)
 ·skip
  refine aG aMw ?_
  unfold nF at h0;unfold pD at h1;unfold rX at h2;unfold aDd;clear hp h0 hk;simp only[cG];refine⟨rfl,?_⟩;simp only[aR];simp only[nn,List.cons_append,List.nil_append,Bool.or_eq_true,aL,ne_eq];(repeat' refine And.intro ?_ ?_)<;>first|with_reducible exact aLi|with_reducible trivial
 refine aY ?_
 unfold nF at h0;unfold pD at h1;unfold rX at h2;clear hp h0;simp only[nn,List.cons_append,List.nil_append,Bool.or_eq_true,aL,ne_eq]at h1 h2;first|with_reducible exact absurd hk.1 h2|with_reducible exact absurd hk.2 h2
def xC:Ctx→List SV→aM→Res (SV × aM):=iM GB aB3 0 sD aFF
theorem aOv {X:Ctx} {ρ:Nat→Int} (hX:X.Ok ρ) (hG:X.G=G):jS Try.prog X ρ GB 120 xC:=by
 obtain⟨XG,XI,XV,XF⟩:=X
 simp only at hG
 subst hG
 refine fO hX ?_
 intro xs ls hw hl hp
 unfold aB3 at hw
 obtain⟨x0,y0,e0,b0,h0⟩:=aF hw
 obtain⟨x1,y1,e1,b1,h1⟩:=aF h0
 obtain⟨x2,y2,e2,b2,h2⟩:=aF h1
 obtain⟨x3,y3,e3,b3,h3⟩:=aF h2
 obtain⟨x4,y4,e4,b4,h4⟩:=aF h3
 obtain⟨x5,y5,e5,b5,h5⟩:=aF h4
 obtain⟨x6,y6,e6,b6,h6⟩:=aF h5
 obtain⟨x7,y7,e7,b7,h7⟩:=aF h6
 obtain⟨x8,y8,e8,b8,h8⟩:=aF h7
 obtain⟨x9,y9,e9,b9,h9⟩:=aF h8
 obtain⟨x10,y10,e10,b10,h10⟩:=aF h9
 obtain⟨x11,y11,e11,b11,h11⟩:=aF h10
 obtain⟨x12,y12,e12,b12,h12⟩:=aF h11
 have e13:=pG h12
 subst e13 e12 e11 e10 e9 e8 e7 e6 e5 e4 e3 e2 e1 e0
 have hl':ls=[]:=List.length_eq_zero_iff.1 hl
 subst hl'
 rw[List.append_nil]
 exact aM7 x0 x1 x2 x3 x4 x5 x6 x7 x8 x9 x10 x11 x12 b0 b1 b2 b3 b4 b5 b6 b7 b8 b9 b10 b11 b12 (by rw[List.append_nil]at hp;exact hp)
def aCU (g h:Ctx→List SV→aM→Res (SV × aM)):Ctx→List SV→aM→Res (SV × aM):=fun X args σ=>
 match g X args σ with
 | .fail _=>h X args σ
 |r=>r
theorem xW {P:Program} {X:Ctx} {ρ:Nat→Int} {gb:dL} {f:FuncId} {g h:Ctx→List SV→aM→Res (SV × aM)} (hg:jS P X ρ gb f g) (hh:jS P X ρ gb f h):jS P X ρ gb f (aCU g h):=by
 intro args σ s σ' e
 unfold aCU at e
 split at e
 ·exact hh args σ s σ' e
 ·exact hg args σ s σ' e
def aHn:aX:=lE 120 (aCU yA xC) vQ
theorem yN {X:Ctx} {ρ:Nat→Int} (hX:X.Ok ρ) (hG:X.G=G):gL Try.prog X ρ GB aHn:=jA (xW (aN5 hX hG) (aOv hX hG)) (lS hX hG)
end Go.Proofs.Ytoiecphddchknaa
set_option maxRecDepth 100000
namespace Go.Proofs.Ytoiecphddchknaa
open Go Go.RowKit Sx Wi
def aNg (P:Program) (fs:List B):Res SV:=bY G GI [((-2147483648),2147483647),((-2147483648),2147483647),((-2147483648),2147483647),((-1801615772808642560),1801615772808642560),((-1801615772808642560),1801615772808642560),((-1801615772808642560),1801615772808642560)] fs fun X=>mW P X GB vQ 4000 124 [(.agg [(.int .i32 (.var 0)),(.int .i32 (.var 1)),(.int .i32 (.var 2))]),(.agg [(.int .i64 (.var 3)),(.int .i64 (.var 4)),(.int .i64 (.var 5))])]
def aKb:List B:=[]
def kZ:B:=(.cmp .lt (.op .add (.op .add (.var 3) (.var 4)) (.var 5)) (.lit 0))
def aRf:List B:=aK kZ++aKb
def uU:B:=(.cmp .le (.op .mul (.lit 2) (.op .sub (.lit 0) (.op .add (.op .add (.var 3) (.var 4)) (.var 5)))) (.lit 9223372036854775807))
def aRa:List B:=aK uU++aRf
def yP:B:=(.cmp .le (.lit (-9223372036854775808)) (.app 71 (.cons (.app 71 (.cons (.op .add (.op .mul (.op .sub (.lit 0) (.op .add (.op .add (.op .add (.lit 0) (.op .mul (.var 0) (.var 3))) (.op .mul (.var 1) (.var 4))) (.op .mul (.var 2) (.var 5)))) (.lit 2)) (.op .mul (.op .sub (.lit 0) (.op .add (.op .add (.var 3) (.var 4)) (.var 5))) (.lit 1))) (.cons (.lit 1) .nil))) (.cons (.op .mul (.lit 2) (.op .sub (.lit 0) (.op .add (.op .add (.var 3) (.var 4)) (.var 5)))) .nil))))
def aRI:List B:=aK yP++aRa
def aB2:B:=(.cmp .le (.app 71 (.cons (.app 71 (.cons (.op .add (.op .mul (.op .sub (.lit 0) (.op .add (.op .add (.op .add (.lit 0) (.op .mul (.var 0) (.var 3))) (.op .mul (.var 1) (.var 4))) (.op .mul (.var 2) (.var 5)))) (.lit 2)) (.op .mul (.op .sub (.lit 0) (.op .add (.op .add (.var 3) (.var 4)) (.var 5))) (.lit 1))) (.cons (.lit 1) .nil))) (.cons (.op .mul (.lit 2) (.op .sub (.lit 0) (.op .add (.op .add (.var 3) (.var 4)) (.var 5)))) .nil))) (.lit 9223372036854775807))
def aRQ:List B:=aK aB2++aRI
def aJ5:SV:=(.int .i64 (.op .max (.lit (-2147483648)) (.op .min (.lit 2147483647) (.app 71 (.cons (.app 71 (.cons (.op .add (.op .mul (.op .sub (.lit 0) (.op .add (.op .add (.op .add (.lit 0) (.op .mul (.var 0) (.var 3))) (.op .mul (.var 1) (.var 4))) (.op .mul (.var 2) (.var 5)))) (.lit 2)) (.op .mul (.op .sub (.lit 0) (.op .add (.op .add (.var 3) (.var 4)) (.var 5))) (.lit 1))) (.cons (.lit 1) .nil))) (.cons (.op .mul (.lit 2) (.op .sub (.lit 0) (.op .add (.op .add (.var 3) (.var 4)) (.var 5)))) .nil))))))
def aQC:List B:=aK (B.neg kZ)++aKb
def qV:B:=(.cmp .le (.op .mul (.lit 2) (.op .add (.op .add (.var 3) (.var 4)) (.var 5))) (.lit 9223372036854775807))
def aQM:List B:=aK qV++aQC
def tR:B:=(.cmp .le (.lit 1) (.op .mul (.lit 2) (.op .add (.op .add (.var 3) (.var 4)) (.var 5))))
def aPo:List B:=aK tR++aQM
def xY:B:=(.cmp .le (.lit (-9223372036854775808)) (.app 71 (.cons (.app 71 (.cons (.op .add (.op .mul (.op .add (.op .add (.op .add (.lit 0) (.op .mul (.var 0) (.var 3))) (.op .mul (.var 1) (.var 4))) (.op .mul (.var 2) (.var 5))) (.lit 2)) (.op .mul (.op .add (.op .add (.var 3) (.var 4)) (.var 5)) (.lit 1))) (.cons (.lit 1) .nil))) (.cons (.op .mul (.lit 2) (.op .add (.op .add (.var 3) (.var 4)) (.var 5))) .nil))))
def aNQ:List B:=aK xY++aPo
def aB7:B:=(.cmp .le (.app 71 (.cons (.app 71 (.cons (.op .add (.op .mul (.op .add (.op .add (.op .add (.lit 0) (.op .mul (.var 0) (.var 3))) (.op .mul (.var 1) (.var 4))) (.op .mul (.var 2) (.var 5))) (.lit 2)) (.op .mul (.op .add (.op .add (.var 3) (.var 4)) (.var 5)) (.lit 1))) (.cons (.lit 1) .nil))) (.cons (.op .mul (.lit 2) (.op .add (.op .add (.var 3) (.var 4)) (.var 5))) .nil))) (.lit 9223372036854775807))
def aOQ:List B:=aK aB7++aNQ
def aLm:SV:=(.int .i64 (.op .max (.lit (-2147483648)) (.op .min (.lit 2147483647) (.app 71 (.cons (.app 71 (.cons (.op .add (.op .mul (.op .add (.op .add (.op .add (.lit 0) (.op .mul (.var 0) (.var 3))) (.op .mul (.var 1) (.var 4))) (.op .mul (.var 2) (.var 5))) (.lit 2)) (.op .mul (.op .add (.op .add (.var 3) (.var 4)) (.var 5)) (.lit 1))) (.cons (.lit 1) .nil))) (.cons (.op .mul (.lit 2) (.op .add (.op .add (.var 3) (.var 4)) (.var 5))) .nil))))))
theorem aRj:aNg Try.prog aRQ = .ok aJ5:=by kernel_rfl
theorem aNA:aNg Try.prog aOQ = .ok aLm:=by kernel_rfl
end Go.Proofs.Ytoiecphddchknaa
namespace Go.Proofs.Ytoiecphddchknaa
open Go Go.RowKit Sx Wi
set_option maxHeartbeats 1000000 in
set_option maxRecDepth 100000 in
theorem aRg (x0 x1 x2 x3 x4 x5:Int) (b0:(-2147483648)≤x0∧x0≤2147483647) (b1:(-2147483648)≤x1∧x1≤2147483647) (b2:(-2147483648)≤x2∧x2≤2147483647) (b3:(-1801615772808642560)≤x3∧x3≤1801615772808642560) (b4:(-1801615772808642560)≤x4∧x4≤1801615772808642560) (b5:(-1801615772808642560)≤x5∧x5≤1801615772808642560) (hf:mY x3 x4 x5) (w:World) (hw:WOk GB w):eB Try.prog 124∧Calls Try.prog 124 #[.agg #[.int .i32 x0,.int .i32 x1,.int .i32 x2],.agg #[.int .i64 x3,.int .i64 x4,.int .i64 x5]] w (fun e w'=>e = .returned (.int .i64 (bZ [x0,x1,x2,x3,x4,x5]))∧Below w.heap.size w w'):=by
 refine iR (eZ (ρ:=dP ([x0,x1,x2,x3,x4,x5]:List Int)) (run:=fun fs=>aNg Try.prog fs) (fun _=>rfl) fits (cF ⟨b0,b1,b2,b3,b4,b5,trivial⟩) gM (fun X hX hG=>lS hX hG) rfl rfl eA ?_ w hw)
 refine aI kZ (fun h0=>?_) (fun h0=>?_)
 ·skip
  refine aI uU (fun h1=>?_) (fun h1=>?_)
  rotate_left
  ·skip
   refine aY ?_
   unfold kZ at h0;unfold uU at h1;simp only[nn]at h0 h1;rcases hf with⟨hA,⟨p0,p1,p2,p3⟩|⟨p0,p1,p2,p3⟩⟩<;>first|(exfalso;clear h1;omega)|(have hS:=mL (by omega : -1125899906842624≤x0∧x0≤1125899906842624) (by omega : -1125899906842624≤x1∧x1≤1125899906842624) (by omega : -1125899906842624≤x2∧x2≤1125899906842624) p0 p1 p2;have hq : -9223372036854775808≤G 71 [G 71 [(0+x0*x3+x1*x4+x2*x5)*2+(x3+x4+x5)*1,1],2*(x3+x4+x5)]∧G 71 [G 71 [(0+x0*x3+x1*x4+x2*x5)*2+(x3+x4+x5)*1,1],2*(x3+x4+x5)]≤9223372036854775807:=pQ (s:=(0+x0*x3+x1*x4+x2*x5)) (a:=(x3+x4+x5)) (d:=1) p3 (by decide) hS;first|with_reducible exact absurd hq.1 h1|with_reducible exact absurd hq.2 h1)|(have hS:=kP (by omega : -1125899906842624≤x0∧x0≤1125899906842624) (by omega : -1125899906842624≤x1∧x1≤1125899906842624) (by omega : -1125899906842624≤x2∧x2≤1125899906842624) p0 p1 p2;have hq : -9223372036854775808≤G 71 [G 71 [(0-(0+x0*x3+x1*x4+x2*x5))*2+(0-(x3+x4+x5))*1,1],2*(0-(x3+x4+x5))]∧G 71 [G 71 [(0-(0+x0*x3+x1*x4+x2*x5))*2+(0-(x3+x4+x5))*1,1],2*(0-(x3+x4+x5))]≤9223372036854775807:=pQ (s:=0-(0+x0*x3+x1*x4+x2*x5)) (a:=0-(x3+x4+x5)) (d:=1) (by omega) (by decide) hS;first|with_reducible exact absurd hq.1 h1|with_reducible exact absurd hq.2 h1)|(exfalso;omega)
  refine aI yP (fun h2=>?_) (fun h2=>?_)
  rotate_left
  ·skip
   refine aY ?_
   unfold kZ at h0;unfold uU at h1;unfold yP at h2;clear h1;simp only[nn]at h0 h2;rcases hf with⟨hA,⟨p0,p1,p2,p3⟩|⟨p0,p1,p2,p3⟩⟩<;>first|(exfalso;clear h2;omega)|(have hS:=mL (by omega : -1125899906842624≤x0∧x0≤1125899906842624) (by omega : -1125899906842624≤x1∧x1≤1125899906842624) (by omega : -1125899906842624≤x2∧x2≤1125899906842624) p0 p1 p2;have hq : -9223372036854775808≤G 71 [G 71 [(0+x0*x3+x1*x4+x2*x5)*2+(x3+x4+x5)*1,1],2*(x3+x4+x5)]∧G 71 [G 71 [(0+x0*x3+x1*x4+x2*x5)*2+(x3+x4+x5)*1,1],2*(x3+x4+x5)]≤9223372036854775807:=pQ (s:=(0+x0*x3+x1*x4+x2*x5)) (a:=(x3+x4+x5)) (d:=1) p3 (by decide) hS;first|with_reducible exact absurd hq.1 h2|with_reducible exact absurd hq.2 h2)|(have hS:=kP (by omega : -1125899906842624≤x0∧x0≤1125899906842624) (by omega : -1125899906842624≤x1∧x1≤1125899906842624) (by omega : -1125899906842624≤x2∧x2≤1125899906842624) p0 p1 p2;have hq : -9223372036854775808≤G 71 [G 71 [(0-(0+x0*x3+x1*x4+x2*x5))*2+(0-(x3+x4+x5))*1,1],2*(0-(x3+x4+x5))]∧G 71 [G 71 [(0-(0+x0*x3+x1*x4+x2*x5))*2+(0-(x3+x4+x5))*1,1],2*(0-(x3+x4+x5))]≤9223372036854775807:=pQ (s:=0-(0+x0*x3+x1*x4+x2*x5)) (a:=0-(x3+x4+x5)) (d:=1) (by omega) (by decide) hS;first|with_reducible exact absurd hq.1 h2|with_reducible exact absurd hq.2 h2)|(exfalso;omega)
  refine aI aB2 (fun h3=>?_) (fun h3=>?_)
  ·skip
   refine aG aRj ?_
   unfold kZ at h0;unfold uU at h1;unfold yP at h2;unfold aB2 at h3;unfold aJ5;clear h1 h2 h3;simp only[nn]at h0;have ec:bZ [x0,x1,x2,x3,x4,x5]=wL (0-wI x0 x1 x2 x3 x4 x5) (0-(x3+x4+x5)) 1:=(by show (if mY x3 x4 x5 then (if x3+x4+x5<0 then _ else _) else _)=_;rw[if_pos hf,if_pos h0]);rw[ec];refine⟨rfl,?_⟩;simp only[nn];rfl
  refine aY ?_
  unfold kZ at h0;unfold uU at h1;unfold yP at h2;unfold aB2 at h3;clear h1 h2;simp only[nn]at h0 h3;rcases hf with⟨hA,⟨p0,p1,p2,p3⟩|⟨p0,p1,p2,p3⟩⟩<;>first|(exfalso;clear h3;omega)|(have hS:=mL (by omega : -1125899906842624≤x0∧x0≤1125899906842624) (by omega : -1125899906842624≤x1∧x1≤1125899906842624) (by omega : -1125899906842624≤x2∧x2≤1125899906842624) p0 p1 p2;have hq : -9223372036854775808≤G 71 [G 71 [(0+x0*x3+x1*x4+x2*x5)*2+(x3+x4+x5)*1,1],2*(x3+x4+x5)]∧G 71 [G 71 [(0+x0*x3+x1*x4+x2*x5)*2+(x3+x4+x5)*1,1],2*(x3+x4+x5)]≤9223372036854775807:=pQ (s:=(0+x0*x3+x1*x4+x2*x5)) (a:=(x3+x4+x5)) (d:=1) p3 (by decide) hS;first|with_reducible exact absurd hq.1 h3|with_reducible exact absurd hq.2 h3)|(have hS:=kP (by omega : -1125899906842624≤x0∧x0≤1125899906842624) (by omega : -1125899906842624≤x1∧x1≤1125899906842624) (by omega : -1125899906842624≤x2∧x2≤1125899906842624) p0 p1 p2;have hq : -9223372036854775808≤G 71 [G 71 [(0-(0+x0*x3+x1*x4+x2*x5))*2+(0-(x3+x4+x5))*1,1],2*(0-(x3+x4+x5))]∧G 71 [G 71 [(0-(0+x0*x3+x1*x4+x2*x5))*2+(0-(x3+x4+x5))*1,1],2*(0-(x3+x4+x5))]≤9223372036854775807:=pQ (s:=0-(0+x0*x3+x1*x4+x2*x5)) (a:=0-(x3+x4+x5)) (d:=1) (by omega) (by decide) hS;first|with_reducible exact absurd hq.1 h3|with_reducible exact absurd hq.2 h3)|(exfalso;omega)
 refine aI qV (fun h1=>?_) (fun h1=>?_)
 rotate_left
 ·skip
  refine aY ?_
  unfold kZ at h0;unfold qV at h1;simp only[nn]at h0 h1;rcases hf with⟨hA,⟨p0,p1,p2,p3⟩|⟨p0,p1,p2,p3⟩⟩<;>first|(exfalso;clear h1;omega)|(have hS:=mL (by omega : -1125899906842624≤x0∧x0≤1125899906842624) (by omega : -1125899906842624≤x1∧x1≤1125899906842624) (by omega : -1125899906842624≤x2∧x2≤1125899906842624) p0 p1 p2;have hq : -9223372036854775808≤G 71 [G 71 [(0+x0*x3+x1*x4+x2*x5)*2+(x3+x4+x5)*1,1],2*(x3+x4+x5)]∧G 71 [G 71 [(0+x0*x3+x1*x4+x2*x5)*2+(x3+x4+x5)*1,1],2*(x3+x4+x5)]≤9223372036854775807:=pQ (s:=(0+x0*x3+x1*x4+x2*x5)) (a:=(x3+x4+x5)) (d:=1) p3 (by decide) hS;first|with_reducible exact absurd hq.1 h1|with_reducible exact absurd hq.2 h1)|(have hS:=kP (by omega : -1125899906842624≤x0∧x0≤1125899906842624) (by omega : -1125899906842624≤x1∧x1≤1125899906842624) (by omega : -1125899906842624≤x2∧x2≤1125899906842624) p0 p1 p2;have hq : -9223372036854775808≤G 71 [G 71 [(0-(0+x0*x3+x1*x4+x2*x5))*2+(0-(x3+x4+x5))*1,1],2*(0-(x3+x4+x5))]∧G 71 [G 71 [(0-(0+x0*x3+x1*x4+x2*x5))*2+(0-(x3+x4+x5))*1,1],2*(0-(x3+x4+x5))]≤9223372036854775807:=pQ (s:=0-(0+x0*x3+x1*x4+x2*x5)) (a:=0-(x3+x4+x5)) (d:=1) (by omega) (by decide) hS;first|with_reducible exact absurd hq.1 h1|with_reducible exact absurd hq.2 h1)|(exfalso;omega)
 refine aI tR (fun h2=>?_) (fun h2=>?_)
 rotate_left
 ·skip
  refine aY ?_
  unfold kZ at h0;unfold qV at h1;unfold tR at h2;clear h1;simp only[nn]at h0 h2;rcases hf with⟨hA,⟨p0,p1,p2,p3⟩|⟨p0,p1,p2,p3⟩⟩<;>first|(exfalso;clear h2;omega)|(have hS:=mL (by omega : -1125899906842624≤x0∧x0≤1125899906842624) (by omega : -1125899906842624≤x1∧x1≤1125899906842624) (by omega : -1125899906842624≤x2∧x2≤1125899906842624) p0 p1 p2;have hq : -9223372036854775808≤G 71 [G 71 [(0+x0*x3+x1*x4+x2*x5)*2+(x3+x4+x5)*1,1],2*(x3+x4+x5)]∧G 71 [G 71 [(0+x0*x3+x1*x4+x2*x5)*2+(x3+x4+x5)*1,1],2*(x3+x4+x5)]≤9223372036854775807:=pQ (s:=(0+x0*x3+x1*x4+x2*x5)) (a:=(x3+x4+x5)) (d:=1) p3 (by decide) hS;first|with_reducible exact absurd hq.1 h2|with_reducible exact absurd hq.2 h2)|(have hS:=kP (by omega : -1125899906842624≤x0∧x0≤1125899906842624) (by omega : -1125899906842624≤x1∧x1≤1125899906842624) (by omega : -1125899906842624≤x2∧x2≤1125899906842624) p0 p1 p2;have hq : -9223372036854775808≤G 71 [G 71 [(0-(0+x0*x3+x1*x4+x2*x5))*2+(0-(x3+x4+x5))*1,1],2*(0-(x3+x4+x5))]∧G 71 [G 71 [(0-(0+x0*x3+x1*x4+x2*x5))*2+(0-(x3+x4+x5))*1,1],2*(0-(x3+x4+x5))]≤9223372036854775807:=pQ (s:=0-(0+x0*x3+x1*x4+x2*x5)) (a:=0-(x3+x4+x5)) (d:=1) (by omega) (by decide) hS;first|with_reducible exact absurd hq.1 h2|with_reducible exact absurd hq.2 h2)|(exfalso;omega)
 refine aI xY (fun h3=>?_) (fun h3=>?_)
 rotate_left
 ·skip
  refine aY ?_
  unfold kZ at h0;unfold qV at h1;unfold tR at h2;unfold xY at h3;clear h1 h2;simp only[nn]at h0 h3;rcases hf with⟨hA,⟨p0,p1,p2,p3⟩|⟨p0,p1,p2,p3⟩⟩<;>first|(exfalso;clear h3;omega)|(have hS:=mL (by omega : -1125899906842624≤x0∧x0≤1125899906842624) (by omega : -1125899906842624≤x1∧x1≤1125899906842624) (by omega : -1125899906842624≤x2∧x2≤1125899906842624) p0 p1 p2;have hq : -9223372036854775808≤G 71 [G 71 [(0+x0*x3+x1*x4+x2*x5)*2+(x3+x4+x5)*1,1],2*(x3+x4+x5)]∧G 71 [G 71 [(0+x0*x3+x1*x4+x2*x5)*2+(x3+x4+x5)*1,1],2*(x3+x4+x5)]≤9223372036854775807:=pQ (s:=(0+x0*x3+x1*x4+x2*x5)) (a:=(x3+x4+x5)) (d:=1) p3 (by decide) hS;first|with_reducible exact absurd hq.1 h3|with_reducible exact absurd hq.2 h3)|(have hS:=kP (by omega : -1125899906842624≤x0∧x0≤1125899906842624) (by omega : -1125899906842624≤x1∧x1≤1125899906842624) (by omega : -1125899906842624≤x2∧x2≤1125899906842624) p0 p1 p2;have hq : -9223372036854775808≤G 71 [G 71 [(0-(0+x0*x3+x1*x4+x2*x5))*2+(0-(x3+x4+x5))*1,1],2*(0-(x3+x4+x5))]∧G 71 [G 71 [(0-(0+x0*x3+x1*x4+x2*x5))*2+(0-(x3+x4+x5))*1,1],2*(0-(x3+x4+x5))]≤9223372036854775807:=pQ (s:=0-(0+x0*x3+x1*x4+x2*x5)) (a:=0-(x3+x4+x5)) (d:=1) (by omega) (by decide) hS;first|with_reducible exact absurd hq.1 h3|with_reducible exact absurd hq.2 h3)|(exfalso;omega)
 refine aI aB7 (fun h4=>?_) (fun h4=>?_)
 ·skip
  refine aG aNA ?_
  unfold kZ at h0;unfold qV at h1;unfold tR at h2;unfold xY at h3;unfold aB7 at h4;unfold aLm;clear h1 h2 h3 h4;simp only[nn]at h0;have ec:bZ [x0,x1,x2,x3,x4,x5]=wL (wI x0 x1 x2 x3 x4 x5) (x3+x4+x5) 1:=(by show (if mY x3 x4 x5 then (if x3+x4+x5<0 then _ else _) else _)=_;rw[if_pos hf,if_neg h0]);rw[ec];refine⟨rfl,?_⟩;simp only[nn];rfl
 refine aY ?_
 unfold kZ at h0;unfold qV at h1;unfold tR at h2;unfold xY at h3;unfold aB7 at h4;clear h1 h2 h3;simp only[nn]at h0 h4;rcases hf with⟨hA,⟨p0,p1,p2,p3⟩|⟨p0,p1,p2,p3⟩⟩<;>first|(exfalso;clear h4;omega)|(have hS:=mL (by omega : -1125899906842624≤x0∧x0≤1125899906842624) (by omega : -1125899906842624≤x1∧x1≤1125899906842624) (by omega : -1125899906842624≤x2∧x2≤1125899906842624) p0 p1 p2;have hq : -9223372036854775808≤G 71 [G 71 [(0+x0*x3+x1*x4+x2*x5)*2+(x3+x4+x5)*1,1],2*(x3+x4+x5)]∧G 71 [G 71 [(0+x0*x3+x1*x4+x2*x5)*2+(x3+x4+x5)*1,1],2*(x3+x4+x5)]≤9223372036854775807:=pQ (s:=(0+x0*x3+x1*x4+x2*x5)) (a:=(x3+x4+x5)) (d:=1) p3 (by decide) hS;first|with_reducible exact absurd hq.1 h4|with_reducible exact absurd hq.2 h4)|(have hS:=kP (by omega : -1125899906842624≤x0∧x0≤1125899906842624) (by omega : -1125899906842624≤x1∧x1≤1125899906842624) (by omega : -1125899906842624≤x2∧x2≤1125899906842624) p0 p1 p2;have hq : -9223372036854775808≤G 71 [G 71 [(0-(0+x0*x3+x1*x4+x2*x5))*2+(0-(x3+x4+x5))*1,1],2*(0-(x3+x4+x5))]∧G 71 [G 71 [(0-(0+x0*x3+x1*x4+x2*x5))*2+(0-(x3+x4+x5))*1,1],2*(0-(x3+x4+x5))]≤9223372036854775807:=pQ (s:=0-(0+x0*x3+x1*x4+x2*x5)) (a:=0-(x3+x4+x5)) (d:=1) (by omega) (by decide) hS;first|with_reducible exact absurd hq.1 h4|with_reducible exact absurd hq.2 h4)|(exfalso;omega)
def aMs (u v w:E):B:=
 .and (.and (.cmp .le (.lit (-3602879701896396800)) (.op .add (.op .add u v) w)) (.cmp .le (.op .add (.op .add u v) w) (.lit 3602879701896396800)))
  (.or (.and (.cmp .le (.lit 0) u) (.and (.cmp .le (.lit 0) v) (.and (.cmp .le (.lit 0) w) (.cmp .le (.lit 1) (.op .add (.op .add u v) w)))))
   (.and (.cmp .le u (.lit 0)) (.and (.cmp .le v (.lit 0)) (.and (.cmp .le w (.lit 0)) (.cmp .le (.op .add (.op .add u v) w) (.lit (-1)))))))
theorem aIX {ρ:Nat→Int} (u v w:E):(aMs u v w).den G ρ=true↔mY (u.den G ρ) (v.den G ρ) (w.den G ρ):=by
 unfold aMs mY
 simp only[B.den,E.den,aBA,aOR,Bool.and_eq_true,Bool.or_eq_true,decide_eq_true_eq]
def sH:iI:=fun X args=>
 match args with
 |[.agg [.int .i32 a,.int .i32 b,.int .i32 c],.agg [.int .i64 u,.int .i64 v,.int .i64 w]]=>
  if a.lies X (-2147483648) 2147483647 && (b.lies X (-2147483648) 2147483647 && (c.lies X (-2147483648) 2147483647 && (u.lies X (-1801615772808642560) 1801615772808642560 && (v.lies X (-1801615772808642560) 1801615772808642560 && w.lies X (-1801615772808642560) 1801615772808642560)))) then
   (Res.testW X (aMs u v w)).bind fun t=>if t then .ok (.int .i64 (.app 72 (.cons a (.cons b (.cons c (.cons u (.cons v (.cons w .nil)))))))) else .fail 203
  else .fail 200
 |_ => .fail 201
theorem aQn {X:Ctx} {ρ:Nat→Int} (hX:X.Ok ρ) (hG:X.G=G):dT Try.prog X ρ GB 124 sH:=by
 obtain⟨XG,XI,XV,XF⟩:=X
 simp only at hG
 subst hG
 intro args s h α w0 vals hv hw
 unfold sH at h
 split at h
 ·split at h
  ·rename_i hg
   simp only[Bool.and_eq_true]at hg
   obtain⟨g0,g1,g2,g3,g4,g5⟩:=hg
   obtain⟨t,ht,h⟩:=Res.bind_ok h
   have ht:=Res.testW_ok hX ht
   cases t with
   |false=>cases h
   |true=>
    cases h
    exact bB hv rfl rfl (aRg _ _ _ _ _ _ (E.lies_in hX g0) (E.lies_in hX g1) (E.lies_in hX g2) (E.lies_in hX g3) (E.lies_in hX g4) (E.lies_in hX g5) ((aIX _ _ _).1 ht) w0 hw)
  ·cases h
 ·cases h
def aFC:aX:=eI 124 sH aHn
theorem aAV {X:Ctx} {ρ:Nat→Int} (hX:X.Ok ρ) (hG:X.G=G):gL Try.prog X ρ GB aFC:=bX (aQn hX hG) (yN hX hG)
end Go.Proofs.Ytoiecphddchknaa
