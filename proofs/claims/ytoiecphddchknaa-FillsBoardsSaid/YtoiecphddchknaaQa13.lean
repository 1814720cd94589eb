/- What is proved: the run of a function over its ways,and what is known on each. No condition. -/
import Derived.Test.YtoiecphddchknaaQa12
import Derived.Test.YtoiecphddchknaaQNn
import Derived.Test.YtoiecphddchknaaQa8
import Derived.Test.YtoiecphddchknaaQg4
import Derived.Test.YtoiecphddchknaaQa3
set_option linter.unusedSimpArgs false
set_option linter.unusedVariables false
set_option maxRecDepth 100000
namespace Go.Proofs.Ytoiecphddchknaa
open Go Go.RowKit Sx Wi
def dK (P:Program) (fs:List B):Res SV:=aA4 P fs
def aHI:List B:=[]
def cB:B:=(.cmp .eq (.var 64) (.op .mul (.var 62) (.var 63)))
def aA5:List B:=aK cB++aHI
def cA:B:=(.cmp .lt (.var 60) (.lit 1))
def aIA:List B:=aK cA++aA5
def aBv:List B:=aK (B.neg cA)++aA5
def cH:B:=(.cmp .lt (.lit 4) (.var 60))
def aIR:List B:=aK cH++aBv
def aAM:List B:=aK (B.neg cH)++aBv
def cL:B:=(.and (.cmp .le (.lit (-671088640)) (.var 0)) (.and (.cmp .le (.var 0) (.lit 671088640)) (.and (.cmp .le (.lit (-671088640)) (.var 1)) (.and (.cmp .le (.var 1) (.lit 671088640)) (.and (.cmp .le (.lit (-671088640)) (.var 2)) (.and (.cmp .le (.var 2) (.lit 671088640)) (.and (.cmp .le (.lit (-671088640)) (.var 3)) (.and (.cmp .le (.var 3) (.lit 671088640)) (.and (.cmp .le (.lit (-671088640)) (.var 4)) (.and (.cmp .le (.var 4) (.lit 671088640)) (.and (.cmp .le (.lit (-671088640)) (.var 5)) (.cmp .le (.var 5) (.lit 671088640)))))))))))))
def aAY:List B:=aK cL++aAM
def cS:B:=(.cmp .lt (.op .min (.var 6) (.var 9)) (.lit 0))
def aJG:List B:=aK cS++aAY
def aBm:List B:=aK (B.neg cS)++aAY
def dA:B:=(.cmp .lt (.lit 65536) (.op .max (.var 6) (.var 9)))
def aI5:List B:=aK dA++aBm
def aAe:List B:=aK (B.neg dA)++aBm
def dH:B:=(.cmp .lt (.op .min (.var 7) (.var 10)) (.lit 0))
def aEJ:List B:=aK dH++aAe
def zK:List B:=aK (B.neg dH)++aAe
def dS:B:=(.cmp .lt (.lit 65536) (.op .max (.var 7) (.var 10)))
def aFm:List B:=aK dS++zK
def zZ:List B:=aK (B.neg dS)++zK
def eE:B:=(.cmp .lt (.op .min (.var 8) (.var 11)) (.lit 0))
def aEU:List B:=aK eE++zZ
def yT:List B:=aK (B.neg eE)++zZ
def eQ:B:=(.cmp .lt (.lit 65536) (.op .max (.var 8) (.var 11)))
def aEs:List B:=aK eQ++yT
def yF:List B:=aK (B.neg eQ)++yT
def eJ:B:=(.and (.cmp .le (.lit (-1125899906842624)) (.op .add (.op .mul (.var 12) (.lit 18446744073709551616)) (.var 13))) (.and (.cmp .le (.op .add (.op .mul (.var 12) (.lit 18446744073709551616)) (.var 13)) (.lit 1125899906842624)) (.and (.cmp .le (.lit (-1125899906842624)) (.op .add (.op .mul (.var 24) (.lit 18446744073709551616)) (.var 25))) (.and (.cmp .le (.op .add (.op .mul (.var 24) (.lit 18446744073709551616)) (.var 25)) (.lit 1125899906842624)) (.and (.cmp .le (.lit (-1125899906842624)) (.op .add (.op .mul (.var 36) (.lit 18446744073709551616)) (.var 37))) (.and (.cmp .le (.op .add (.op .mul (.var 36) (.lit 18446744073709551616)) (.var 37)) (.lit 1125899906842624)) (.and (.cmp .le (.lit (-1125899906842624)) (.op .add (.op .mul (.var 48) (.lit 18446744073709551616)) (.var 49))) (.and (.cmp .le (.op .add (.op .mul (.var 48) (.lit 18446744073709551616)) (.var 49)) (.lit 1125899906842624)) (.and (.cmp .le (.lit 1) (.var 14)) (.and (.cmp .le (.var 14) (.lit 65535)) (.and (.cmp .eq (.var 26) (.var 14)) (.and (.cmp .eq (.var 38) (.var 14)) (.cmp .eq (.var 50) (.var 14))))))))))))))
def yX:List B:=aK eJ++yF
def fA:B:=(.cmp .lt (.lit 1) (.var 60))
def xN:List B:=aK fA++yX
def fV:B:=(.and (.cmp .le (.lit (-1125899906842624)) (.op .add (.op .mul (.var 15) (.lit 18446744073709551616)) (.var 16))) (.and (.cmp .le (.op .add (.op .mul (.var 15) (.lit 18446744073709551616)) (.var 16)) (.lit 1125899906842624)) (.and (.cmp .le (.lit (-1125899906842624)) (.op .add (.op .mul (.var 27) (.lit 18446744073709551616)) (.var 28))) (.and (.cmp .le (.op .add (.op .mul (.var 27) (.lit 18446744073709551616)) (.var 28)) (.lit 1125899906842624)) (.and (.cmp .le (.lit (-1125899906842624)) (.op .add (.op .mul (.var 39) (.lit 18446744073709551616)) (.var 40))) (.and (.cmp .le (.op .add (.op .mul (.var 39) (.lit 18446744073709551616)) (.var 40)) (.lit 1125899906842624)) (.and (.cmp .le (.lit (-1125899906842624)) (.op .add (.op .mul (.var 51) (.lit 18446744073709551616)) (.var 52))) (.and (.cmp .le (.op .add (.op .mul (.var 51) (.lit 18446744073709551616)) (.var 52)) (.lit 1125899906842624)) (.and (.cmp .le (.lit 1) (.var 17)) (.and (.cmp .le (.var 17) (.lit 65535)) (.and (.cmp .eq (.var 29) (.var 17)) (.and (.cmp .eq (.var 41) (.var 17)) (.cmp .eq (.var 53) (.var 17))))))))))))))
def zF:List B:=aK fV++xN
def gV:B:=(.cmp .lt (.lit 2) (.var 60))
def zQ:List B:=aK gV++zF
def jB:B:=(.and (.cmp .le (.lit (-1125899906842624)) (.op .add (.op .mul (.var 18) (.lit 18446744073709551616)) (.var 19))) (.and (.cmp .le (.op .add (.op .mul (.var 18) (.lit 18446744073709551616)) (.var 19)) (.lit 1125899906842624)) (.and (.cmp .le (.lit (-1125899906842624)) (.op .add (.op .mul (.var 30) (.lit 18446744073709551616)) (.var 31))) (.and (.cmp .le (.op .add (.op .mul (.var 30) (.lit 18446744073709551616)) (.var 31)) (.lit 1125899906842624)) (.and (.cmp .le (.lit (-1125899906842624)) (.op .add (.op .mul (.var 42) (.lit 18446744073709551616)) (.var 43))) (.and (.cmp .le (.op .add (.op .mul (.var 42) (.lit 18446744073709551616)) (.var 43)) (.lit 1125899906842624)) (.and (.cmp .le (.lit (-1125899906842624)) (.op .add (.op .mul (.var 54) (.lit 18446744073709551616)) (.var 55))) (.and (.cmp .le (.op .add (.op .mul (.var 54) (.lit 18446744073709551616)) (.var 55)) (.lit 1125899906842624)) (.and (.cmp .le (.lit 1) (.var 20)) (.and (.cmp .le (.var 20) (.lit 65535)) (.and (.cmp .eq (.var 32) (.var 20)) (.and (.cmp .eq (.var 44) (.var 20)) (.cmp .eq (.var 56) (.var 20))))))))))))))
def xG:List B:=aK jB++zQ
def jV:B:=(.cmp .lt (.lit 3) (.var 60))
def aAg:List B:=aK jV++xG
def lP:B:=(.and (.cmp .le (.lit (-1125899906842624)) (.op .add (.op .mul (.var 21) (.lit 18446744073709551616)) (.var 22))) (.and (.cmp .le (.op .add (.op .mul (.var 21) (.lit 18446744073709551616)) (.var 22)) (.lit 1125899906842624)) (.and (.cmp .le (.lit (-1125899906842624)) (.op .add (.op .mul (.var 33) (.lit 18446744073709551616)) (.var 34))) (.and (.cmp .le (.op .add (.op .mul (.var 33) (.lit 18446744073709551616)) (.var 34)) (.lit 1125899906842624)) (.and (.cmp .le (.lit (-1125899906842624)) (.op .add (.op .mul (.var 45) (.lit 18446744073709551616)) (.var 46))) (.and (.cmp .le (.op .add (.op .mul (.var 45) (.lit 18446744073709551616)) (.var 46)) (.lit 1125899906842624)) (.and (.cmp .le (.lit (-1125899906842624)) (.op .add (.op .mul (.var 57) (.lit 18446744073709551616)) (.var 58))) (.and (.cmp .le (.op .add (.op .mul (.var 57) (.lit 18446744073709551616)) (.var 58)) (.lit 1125899906842624)) (.and (.cmp .le (.lit 1) (.var 23)) (.and (.cmp .le (.var 23) (.lit 65535)) (.and (.cmp .eq (.var 35) (.var 23)) (.and (.cmp .eq (.var 47) (.var 23)) (.cmp .eq (.var 59) (.var 23))))))))))))))
def aEH:List B:=aK lP++aAg
def aEj:List B:=aK (B.neg lP)++aAg
def aE8:List B:=aK (B.neg jV)++xG
def aD8:List B:=aK (B.neg jB)++zQ
def aFZ:List B:=aK (B.neg gV)++zF
def aFu:List B:=aK (B.neg fV)++xN
def aFI:List B:=aK (B.neg fA)++yX
def aE3:List B:=aK (B.neg eJ)++yF
def aEa:List B:=aK (B.neg cL)++aAM
end Go.Proofs.Ytoiecphddchknaa
set_option maxRecDepth 100000
namespace Go.Proofs.Ytoiecphddchknaa
open Go Go.RowKit Sx Wi
theorem aIJ:dK Try.prog aIA = .ok (.tuple [(.agg []),(.bool (.lit false))]):=by kernel_rfl
theorem aIY:dK Try.prog aIR = .ok (.tuple [(.agg []),(.bool (.lit false))]):=by kernel_rfl
theorem aIh:dK Try.prog aJG = .ok (.tuple [(.agg []),(.bool (.lit false))]):=by kernel_rfl
theorem aH1:dK Try.prog aI5 = .ok (.tuple [(.agg []),(.bool (.lit false))]):=by kernel_rfl
theorem aF3:dK Try.prog aEJ = .ok (.tuple [(.agg []),(.bool (.lit false))]):=by kernel_rfl
theorem aEu:dK Try.prog aFm = .ok (.tuple [(.agg []),(.bool (.lit false))]):=by kernel_rfl
theorem aEX:dK Try.prog aEU = .ok (.tuple [(.agg []),(.bool (.lit false))]):=by kernel_rfl
theorem aFx:dK Try.prog aEs = .ok (.tuple [(.agg []),(.bool (.lit false))]):=by kernel_rfl
theorem aFN:dK Try.prog aEH = .ok (.tuple [(.agg []),(.bool (.lit true))]):=by kernel_rfl
theorem aFJ:dK Try.prog aEj = .ok (.tuple [(.agg []),(.bool (.lit false))]):=by kernel_rfl
end Go.Proofs.Ytoiecphddchknaa
set_option maxRecDepth 100000
namespace Go.Proofs.Ytoiecphddchknaa
open Go Go.RowKit Sx Wi
theorem aEK:dK Try.prog aE8 = .ok (.tuple [(.agg []),(.bool (.lit true))]):=by kernel_rfl
theorem aFQ:dK Try.prog aD8 = .ok (.tuple [(.agg []),(.bool (.lit false))]):=by kernel_rfl
theorem aEz:dK Try.prog aFZ = .ok (.tuple [(.agg []),(.bool (.lit true))]):=by kernel_rfl
theorem aEL:dK Try.prog aFu = .ok (.tuple [(.agg []),(.bool (.lit false))]):=by kernel_rfl
theorem aEx:dK Try.prog aFI = .ok (.tuple [(.agg []),(.bool (.lit true))]):=by kernel_rfl
theorem aEV:dK Try.prog aE3 = .ok (.tuple [(.agg []),(.bool (.lit false))]):=by kernel_rfl
theorem aEN:dK Try.prog aEa = .ok (.tuple [(.agg []),(.bool (.lit false))]):=by kernel_rfl
end Go.Proofs.Ytoiecphddchknaa
namespace Go.Proofs.Ytoiecphddchknaa
open Go Go.RowKit Sx Wi
set_option maxHeartbeats 8000000 in
set_option maxRecDepth 100000 in
theorem aH8 (x0 x1 x2 x3 x4 x5 x6 x7 x8 x9 x10 x11 x12 x13 x14 x15 x16 x17 x18 x19 x20 x21 x22 x23 x24 x25 x26 x27 x28 x29 x30 x31 x32 x33 x34 x35 x36 x37 x38 x39 x40 x41 x42 x43 x44 x45 x46 x47 x48 x49 x50 x51 x52 x53 x54 x55 x56 x57 x58 x59 x60 x61 x62 x63 x64 C0:Int) (b0:(-9223372036854775808)≤x0∧x0≤9223372036854775807) (b1:(-9223372036854775808)≤x1∧x1≤9223372036854775807) (b2:(-9223372036854775808)≤x2∧x2≤9223372036854775807) (b3:(-9223372036854775808)≤x3∧x3≤9223372036854775807) (b4:(-9223372036854775808)≤x4∧x4≤9223372036854775807) (b5:(-9223372036854775808)≤x5∧x5≤9223372036854775807) (b6:(-2147483648)≤x6∧x6≤2147483647) (b7:(-2147483648)≤x7∧x7≤2147483647) (b8:(-2147483648)≤x8∧x8≤2147483647) (b9:(-2147483648)≤x9∧x9≤2147483647) (b10:(-2147483648)≤x10∧x10≤2147483647) (b11:(-2147483648)≤x11∧x11≤2147483647) (b12:(-9223372036854775808)≤x12∧x12≤9223372036854775807) (b13:0≤x13∧x13≤18446744073709551615) (b14:(-9223372036854775808)≤x14∧x14≤9223372036854775807) (b15:(-9223372036854775808)≤x15∧x15≤9223372036854775807) (b16:0≤x16∧x16≤18446744073709551615) (b17:(-9223372036854775808)≤x17∧x17≤9223372036854775807) (b18:(-9223372036854775808)≤x18∧x18≤9223372036854775807) (b19:0≤x19∧x19≤18446744073709551615) (b20:(-9223372036854775808)≤x20∧x20≤9223372036854775807) (b21:(-9223372036854775808)≤x21∧x21≤9223372036854775807) (b22:0≤x22∧x22≤18446744073709551615) (b23:(-9223372036854775808)≤x23∧x23≤9223372036854775807) (b24:(-9223372036854775808)≤x24∧x24≤9223372036854775807) (b25:0≤x25∧x25≤18446744073709551615) (b26:(-9223372036854775808)≤x26∧x26≤9223372036854775807) (b27:(-9223372036854775808)≤x27∧x27≤9223372036854775807) (b28:0≤x28∧x28≤18446744073709551615) (b29:(-9223372036854775808)≤x29∧x29≤9223372036854775807) (b30:(-9223372036854775808)≤x30∧x30≤9223372036854775807) (b31:0≤x31∧x31≤18446744073709551615) (b32:(-9223372036854775808)≤x32∧x32≤9223372036854775807) (b33:(-9223372036854775808)≤x33∧x33≤9223372036854775807) (b34:0≤x34∧x34≤18446744073709551615) (b35:(-9223372036854775808)≤x35∧x35≤9223372036854775807) (b36:(-9223372036854775808)≤x36∧x36≤9223372036854775807) (b37:0≤x37∧x37≤18446744073709551615) (b38:(-9223372036854775808)≤x38∧x38≤9223372036854775807) (b39:(-9223372036854775808)≤x39∧x39≤9223372036854775807) (b40:0≤x40∧x40≤18446744073709551615) (b41:(-9223372036854775808)≤x41∧x41≤9223372036854775807) (b42:(-9223372036854775808)≤x42∧x42≤9223372036854775807) (b43:0≤x43∧x43≤18446744073709551615) (b44:(-9223372036854775808)≤x44∧x44≤9223372036854775807) (b45:(-9223372036854775808)≤x45∧x45≤9223372036854775807) (b46:0≤x46∧x46≤18446744073709551615) (b47:(-9223372036854775808)≤x47∧x47≤9223372036854775807) (b48:(-9223372036854775808)≤x48∧x48≤9223372036854775807) (b49:0≤x49∧x49≤18446744073709551615) (b50:(-9223372036854775808)≤x50∧x50≤9223372036854775807) (b51:(-9223372036854775808)≤x51∧x51≤9223372036854775807) (b52:0≤x52∧x52≤18446744073709551615) (b53:(-9223372036854775808)≤x53∧x53≤9223372036854775807) (b54:(-9223372036854775808)≤x54∧x54≤9223372036854775807) (b55:0≤x55∧x55≤18446744073709551615) (b56:(-9223372036854775808)≤x56∧x56≤9223372036854775807) (b57:(-9223372036854775808)≤x57∧x57≤9223372036854775807) (b58:0≤x58∧x58≤18446744073709551615) (b59:(-9223372036854775808)≤x59∧x59≤9223372036854775807) (b60:(-9223372036854775808)≤x60∧x60≤9223372036854775807) (b61:(-9223372036854775808)≤x61∧x61≤9223372036854775807) (b62:1≤x62∧x62≤256) (b63:1≤x63∧x63≤256) (b64:1≤x64∧x64≤65536) (hp:uJ.den G (dP (([x0,x1,x2,x3,x4,x5,x6,x7,x8,x9,x10,x11,x12,x13,x14,x15,x16,x17,x18,x19,x20,x21,x22,x23,x24,x25,x26,x27,x28,x29,x30,x31,x32,x33,x34,x35,x36,x37,x38,x39,x40,x41,x42,x43,x44,x45,x46,x47,x48,x49,x50,x51,x52,x53,x54,x55,x56,x57,x58,x59,x60,x61,x62,x63,x64]:List Int)++[C0]))=true):kU Try.prog G GB 26 aCj (dP (([x0,x1,x2,x3,x4,x5,x6,x7,x8,x9,x10,x11,x12,x13,x14,x15,x16,x17,x18,x19,x20,x21,x22,x23,x24,x25,x26,x27,x28,x29,x30,x31,x32,x33,x34,x35,x36,x37,x38,x39,x40,x41,x42,x43,x44,x45,x46,x47,x48,x49,x50,x51,x52,x53,x54,x55,x56,x57,x58,x59,x60,x61,x62,x63,x64]:List Int)++[C0])):=by
 refine fT (lp:=iH) (run:=aA4 Try.prog) (fun _=>rfl) fits (fX (by exact⟨b0,b1,b2,b3,b4,b5,b6,b7,b8,b9,b10,b11,b12,b13,b14,b15,b16,b17,b18,b19,b20,b21,b22,b23,b24,b25,b26,b27,b28,b29,b30,b31,b32,b33,b34,b35,b36,b37,b38,b39,b40,b41,b42,b43,b44,b45,b46,b47,b48,b49,b50,b51,b52,b53,b54,b55,b56,b57,b58,b59,b60,b61,b62,b63,b64,trivial⟩)) gM (fun X hX hG=>aCT hX hG) (fun X hX hG fn c hf hc=>gB) rfl ?_
 clear b0 b1 b2 b3 b4 b5 b6 b7 b8 b9 b10 b11 b12 b13 b14 b15 b16 b17 b18 b19 b20 b21 b22 b23 b24 b25 b26 b27 b28 b29 b30 b31 b32 b33 b34 b35 b36 b37 b38 b39 b40 b41 b42 b43 b44 b45 b46 b47 b48 b49 b50 b51 b52 b53 b54 b55 b56 b57 b58 b59 b60 b61 b62 b63 b64
 refine aI cB (fun h0=>?_) (fun h0=>?_)
 rotate_left
 ·skip
  refine aY ?_
  unfold cB at h0;exact absurd hp (by unfold uJ;rw[h0];decide)
 refine aI cA (fun h1=>?_) (fun h1=>?_)
 ·skip
  refine aG aIJ ?_
  unfold cB at h0;unfold cA at h1;clear hp h0;simp only[cG];refine⟨?_,trivial⟩;show B.den G _ bO=_;unfold bO;rw[Bool.eq_false_iff];intro h;first|(simp only[nn,List.cons_append,List.nil_append,Bool.or_eq_true,aL,ne_eq]at *;omega)|(have hl:=Bool.eq_false_iff.1 h1;clear h1;refine hl ?_;clear hl;simp only[nn,List.cons_append,List.nil_append,Bool.or_eq_true,aL,ne_eq]at *;omega)
 refine aI cH (fun h2=>?_) (fun h2=>?_)
 ·skip
  refine aG aIY ?_
  unfold cB at h0;unfold cA at h1;unfold cH at h2;clear hp h0;simp only[cG];refine⟨?_,trivial⟩;show B.den G _ bO=_;unfold bO;rw[Bool.eq_false_iff];intro h;first|(simp only[nn,List.cons_append,List.nil_append,Bool.or_eq_true,aL,ne_eq]at *;omega)|(have hl:=Bool.eq_false_iff.1 h2;clear h2;refine hl ?_;clear hl;simp only[nn,List.cons_append,List.nil_append,Bool.or_eq_true,aL,ne_eq]at *;omega)
 refine aI cL (fun h3=>?_) (fun h3=>?_)
 rotate_left
 ·skip
  refine aG aEN ?_
  unfold cB at h0;unfold cA at h1;unfold cH at h2;unfold cL at h3;clear hp h0;simp only[cG];refine⟨?_,trivial⟩;show B.den G _ bO=_;unfold bO;rw[Bool.eq_false_iff];intro h;first|(simp only[nn,List.cons_append,List.nil_append,Bool.or_eq_true,aL,ne_eq]at *;omega)|(have hl:=Bool.eq_false_iff.1 h3;clear h3;refine hl ?_;clear hl;simp only[nn,List.cons_append,List.nil_append,Bool.or_eq_true,aL,ne_eq]at *;omega)
 refine aI cS (fun h4=>?_) (fun h4=>?_)
 ·skip
  refine aG aIh ?_
  unfold cB at h0;unfold cA at h1;unfold cH at h2;unfold cL at h3;unfold cS at h4;clear hp h0;simp only[cG];refine⟨?_,trivial⟩;show B.den G _ bO=_;unfold bO;rw[Bool.eq_false_iff];intro h;first|(simp only[nn,List.cons_append,List.nil_append,Bool.or_eq_true,aL,ne_eq]at *;omega)|(have hl:=Bool.eq_false_iff.1 h4;clear h4;refine hl ?_;clear hl;simp only[nn,List.cons_append,List.nil_append,Bool.or_eq_true,aL,ne_eq]at *;omega)
 refine aI dA (fun h5=>?_) (fun h5=>?_)
 ·skip
  refine aG aH1 ?_
  unfold cB at h0;unfold cA at h1;unfold cH at h2;unfold cL at h3;unfold cS at h4;unfold dA at h5;clear hp h0;simp only[cG];refine⟨?_,trivial⟩;show B.den G _ bO=_;unfold bO;rw[Bool.eq_false_iff];intro h;first|(simp only[nn,List.cons_append,List.nil_append,Bool.or_eq_true,aL,ne_eq]at *;omega)|(have hl:=Bool.eq_false_iff.1 h5;clear h5;refine hl ?_;clear hl;simp only[nn,List.cons_append,List.nil_append,Bool.or_eq_true,aL,ne_eq]at *;omega)
 refine aI dH (fun h6=>?_) (fun h6=>?_)
 ·skip
  refine aG aF3 ?_
  unfold cB at h0;unfold cA at h1;unfold cH at h2;unfold cL at h3;unfold cS at h4;unfold dA at h5;unfold dH at h6;clear hp h0;simp only[cG];refine⟨?_,trivial⟩;show B.den G _ bO=_;unfold bO;rw[Bool.eq_false_iff];intro h;first|(simp only[nn,List.cons_append,List.nil_append,Bool.or_eq_true,aL,ne_eq]at *;omega)|(have hl:=Bool.eq_false_iff.1 h6;clear h6;refine hl ?_;clear hl;simp only[nn,List.cons_append,List.nil_append,Bool.or_eq_true,aL,ne_eq]at *;omega)
 refine aI dS (fun h7=>?_) (fun h7=>?_)
 ·skip
  refine aG aEu ?_
  unfold cB at h0;unfold cA at h1;unfold cH at h2;unfold cL at h3;unfold cS at h4;unfold dA at h5;unfold dH at h6;unfold dS at h7;clear hp h0;simp only[cG];refine⟨?_,trivial⟩;show B.den G _ bO=_;unfold bO;rw[Bool.eq_false_iff];intro h;first|(simp only[nn,List.cons_append,List.nil_append,Bool.or_eq_true,aL,ne_eq]at *;omega)|(have hl:=Bool.eq_false_iff.1 h7;clear h7;refine hl ?_;clear hl;simp only[nn,List.cons_append,List.nil_append,Bool.or_eq_true,aL,ne_eq]at *;omega)
 refine aI eE (fun h8=>?_) (fun h8=>?_)
 ·skip
  refine aG aEX ?_
  unfold cB at h0;unfold cA at h1;unfold cH at h2;unfold cL at h3;unfold cS at h4;unfold dA at h5;unfold dH at h6;unfold dS at h7;unfold eE at h8;clear hp h0;simp only[cG];refine⟨?_,trivial⟩;show B.den G _ bO=_;unfold bO;rw[Bool.eq_false_iff];intro h;first|(simp only[nn,List.cons_append,List.nil_append,Bool.or_eq_true,aL,ne_eq]at *;omega)|(have hl:=Bool.eq_false_iff.1 h8;clear h8;refine hl ?_;clear hl;simp only[nn,List.cons_append,List.nil_append,Bool.or_eq_true,aL,ne_eq]at *;omega)
 refine aI eQ (fun h9=>?_) (fun h9=>?_)
 ·skip
  refine aG aFx ?_
  unfold cB at h0;unfold cA at h1;unfold cH at h2;unfold cL at h3;unfold cS at h4;unfold dA at h5;unfold dH at h6;unfold dS at h7;unfold eE at h8;unfold eQ at h9;clear hp h0;simp only[cG];refine⟨?_,trivial⟩;show B.den G _ bO=_;unfold bO;rw[Bool.eq_false_iff];intro h;first|(simp only[nn,List.cons_append,List.nil_append,Bool.or_eq_true,aL,ne_eq]at *;omega)|(have hl:=Bool.eq_false_iff.1 h9;clear h9;refine hl ?_;clear hl;simp only[nn,List.cons_append,List.nil_append,Bool.or_eq_true,aL,ne_eq]at *;omega)
 refine aI eJ (fun h10=>?_) (fun h10=>?_)
 rotate_left
 ·skip
  refine aG aEV ?_
  unfold cB at h0;unfold cA at h1;unfold cH at h2;unfold cL at h3;unfold cS at h4;unfold dA at h5;unfold dH at h6;unfold dS at h7;unfold eE at h8;unfold eQ at h9;unfold eJ at h10;clear hp h0;simp only[cG];refine⟨?_,trivial⟩;show B.den G _ bO=_;unfold bO;rw[Bool.eq_false_iff];intro h;first|(simp only[nn,List.cons_append,List.nil_append,Bool.or_eq_true,aL,ne_eq]at *;omega)|(have hl:=Bool.eq_false_iff.1 h10;clear h10;refine hl ?_;clear hl;simp only[nn,List.cons_append,List.nil_append,Bool.or_eq_true,aL,ne_eq]at *;omega)
 refine aI fA (fun h11=>?_) (fun h11=>?_)
 rotate_left
 ·skip
  refine aG aEx ?_
  unfold cB at h0;unfold cA at h1;unfold cH at h2;unfold cL at h3;unfold cS at h4;unfold dA at h5;unfold dH at h6;unfold dS at h7;unfold eE at h8;unfold eQ at h9;unfold eJ at h10;unfold fA at h11;clear hp h0;simp only[cG];refine⟨?_,trivial⟩;show B.den G _ bO=_;unfold bO;simp only[nn,List.cons_append,List.nil_append,Bool.or_eq_true,aL,ne_eq]at *;(try simp only[Bool.and_eq_true,decide_eq_true_eq]at *);omega
 refine aI fV (fun h12=>?_) (fun h12=>?_)
 rotate_left
 ·skip
  refine aG aEL ?_
  unfold cB at h0;unfold cA at h1;unfold cH at h2;unfold cL at h3;unfold cS at h4;unfold dA at h5;unfold dH at h6;unfold dS at h7;unfold eE at h8;unfold eQ at h9;unfold eJ at h10;unfold fA at h11;unfold fV at h12;clear hp h0;simp only[cG];refine⟨?_,trivial⟩;show B.den G _ bO=_;unfold bO;rw[Bool.eq_false_iff];intro h;first|(simp only[nn,List.cons_append,List.nil_append,Bool.or_eq_true,aL,ne_eq]at *;omega)|(have hl:=Bool.eq_false_iff.1 h12;clear h12;refine hl ?_;clear hl;simp only[nn,List.cons_append,List.nil_append,Bool.or_eq_true,aL,ne_eq]at *;omega)
 refine aI gV (fun h13=>?_) (fun h13=>?_)
 rotate_left
 ·skip
  refine aG aEz ?_
  unfold cB at h0;unfold cA at h1;unfold cH at h2;unfold cL at h3;unfold cS at h4;unfold dA at h5;unfold dH at h6;unfold dS at h7;unfold eE at h8;unfold eQ at h9;unfold eJ at h10;unfold fA at h11;unfold fV at h12;unfold gV at h13;clear hp h0;simp only[cG];refine⟨?_,trivial⟩;show B.den G _ bO=_;unfold bO;simp only[nn,List.cons_append,List.nil_append,Bool.or_eq_true,aL,ne_eq]at *;(try simp only[Bool.and_eq_true,decide_eq_true_eq]at *);omega
 refine aI jB (fun h14=>?_) (fun h14=>?_)
 rotate_left
 ·skip
  refine aG aFQ ?_
  unfold cB at h0;unfold cA at h1;unfold cH at h2;unfold cL at h3;unfold cS at h4;unfold dA at h5;unfold dH at h6;unfold dS at h7;unfold eE at h8;unfold eQ at h9;unfold eJ at h10;unfold fA at h11;unfold fV at h12;unfold gV at h13;unfold jB at h14;clear hp h0;simp only[cG];refine⟨?_,trivial⟩;show B.den G _ bO=_;unfold bO;rw[Bool.eq_false_iff];intro h;first|(simp only[nn,List.cons_append,List.nil_append,Bool.or_eq_true,aL,ne_eq]at *;omega)|(have hl:=Bool.eq_false_iff.1 h14;clear h14;refine hl ?_;clear hl;simp only[nn,List.cons_append,List.nil_append,Bool.or_eq_true,aL,ne_eq]at *;omega)
 refine aI jV (fun h15=>?_) (fun h15=>?_)
 rotate_left
 ·skip
  refine aG aEK ?_
  unfold cB at h0;unfold cA at h1;unfold cH at h2;unfold cL at h3;unfold cS at h4;unfold dA at h5;unfold dH at h6;unfold dS at h7;unfold eE at h8;unfold eQ at h9;unfold eJ at h10;unfold fA at h11;unfold fV at h12;unfold gV at h13;unfold jB at h14;unfold jV at h15;clear hp h0;simp only[cG];refine⟨?_,trivial⟩;show B.den G _ bO=_;unfold bO;simp only[nn,List.cons_append,List.nil_append,Bool.or_eq_true,aL,ne_eq]at *;(try simp only[Bool.and_eq_true,decide_eq_true_eq]at *);omega
 refine aI lP (fun h16=>?_) (fun h16=>?_)
 ·skip
  refine aG aFN ?_
  unfold cB at h0;unfold cA at h1;unfold cH at h2;unfold cL at h3;unfold cS at h4;unfold dA at h5;unfold dH at h6;unfold dS at h7;unfold eE at h8;unfold eQ at h9;unfold eJ at h10;unfold fA at h11;unfold fV at h12;unfold gV at h13;unfold jB at h14;unfold jV at h15;unfold lP at h16;clear hp h0;simp only[cG];refine⟨?_,trivial⟩;show B.den G _ bO=_;unfold bO;simp only[nn,List.cons_append,List.nil_append,Bool.or_eq_true,aL,ne_eq]at *;(try simp only[Bool.and_eq_true,decide_eq_true_eq]at *);omega
 refine aG aFJ ?_
 unfold cB at h0;unfold cA at h1;unfold cH at h2;unfold cL at h3;unfold cS at h4;unfold dA at h5;unfold dH at h6;unfold dS at h7;unfold eE at h8;unfold eQ at h9;unfold eJ at h10;unfold fA at h11;unfold fV at h12;unfold gV at h13;unfold jB at h14;unfold jV at h15;unfold lP at h16;clear hp h0;simp only[cG];refine⟨?_,trivial⟩;show B.den G _ bO=_;unfold bO;rw[Bool.eq_false_iff];intro h;first|(simp only[nn,List.cons_append,List.nil_append,Bool.or_eq_true,aL,ne_eq]at *;omega)|(have hl:=Bool.eq_false_iff.1 h16;clear h16;refine hl ?_;clear hl;simp only[nn,List.cons_append,List.nil_append,Bool.or_eq_true,aL,ne_eq]at *;omega)
def wC:Ctx→List SV→aM→Res (SV × aM):=iM GB xM 1 uJ aCj
theorem aK0 {X:Ctx} {ρ:Nat→Int} (hX:X.Ok ρ) (hG:X.G=G):jS Try.prog X ρ GB 26 wC:=by
 obtain⟨XG,XI,XV,XF⟩:=X
 simp only at hG
 subst hG
 refine fO hX ?_
 intro xs ls hw hl hp
 unfold xM at hw
 obtain⟨x0,y0,e0,b0,h0⟩:=aF hw
 obtain⟨x1,y1,e1,b1,h1⟩:=aF h0
 obtain⟨x2,y2,e2,b2,h2⟩:=aF h1
 obtain⟨x3,y3,e3,b3,h3⟩:=aF h2
 obtain⟨x4,y4,e4,b4,h4⟩:=aF h3
 obtain⟨x5,y5,e5,b5,h5⟩:=aF h4
 obtain⟨x6,y6,e6,b6,h6⟩:=aF h5
 obtain⟨x7,y7,e7,b7,h7⟩:=aF h6
 obtain⟨x8,y8,e8,b8,h8⟩:=aF h7
 obtain⟨x9,y9,e9,b9,h9⟩:=aF h8
 obtain⟨x10,y10,e10,b10,h10⟩:=aF h9
 obtain⟨x11,y11,e11,b11,h11⟩:=aF h10
 obtain⟨x12,y12,e12,b12,h12⟩:=aF h11
 obtain⟨x13,y13,e13,b13,h13⟩:=aF h12
 obtain⟨x14,y14,e14,b14,h14⟩:=aF h13
 obtain⟨x15,y15,e15,b15,h15⟩:=aF h14
 obtain⟨x16,y16,e16,b16,h16⟩:=aF h15
 obtain⟨x17,y17,e17,b17,h17⟩:=aF h16
 obtain⟨x18,y18,e18,b18,h18⟩:=aF h17
 obtain⟨x19,y19,e19,b19,h19⟩:=aF h18
 obtain⟨x20,y20,e20,b20,h20⟩:=aF h19
 obtain⟨x21,y21,e21,b21,h21⟩:=aF h20
 obtain⟨x22,y22,e22,b22,h22⟩:=aF h21
 obtain⟨x23,y23,e23,b23,h23⟩:=aF h22
 obtain⟨x24,y24,e24,b24,h24⟩:=aF h23
 obtain⟨x25,y25,e25,b25,h25⟩:=aF h24
 obtain⟨x26,y26,e26,b26,h26⟩:=aF h25
 obtain⟨x27,y27,e27,b27,h27⟩:=aF h26
 obtain⟨x28,y28,e28,b28,h28⟩:=aF h27
 obtain⟨x29,y29,e29,b29,h29⟩:=aF h28
 obtain⟨x30,y30,e30,b30,h30⟩:=aF h29
 obtain⟨x31,y31,e31,b31,h31⟩:=aF h30
 obtain⟨x32,y32,e32,b32,h32⟩:=aF h31
 obtain⟨x33,y33,e33,b33,h33⟩:=aF h32
 obtain⟨x34,y34,e34,b34,h34⟩:=aF h33
 obtain⟨x35,y35,e35,b35,h35⟩:=aF h34
 obtain⟨x36,y36,e36,b36,h36⟩:=aF h35
 obtain⟨x37,y37,e37,b37,h37⟩:=aF h36
 obtain⟨x38,y38,e38,b38,h38⟩:=aF h37
 obtain⟨x39,y39,e39,b39,h39⟩:=aF h38
 obtain⟨x40,y40,e40,b40,h40⟩:=aF h39
 obtain⟨x41,y41,e41,b41,h41⟩:=aF h40
 obtain⟨x42,y42,e42,b42,h42⟩:=aF h41
 obtain⟨x43,y43,e43,b43,h43⟩:=aF h42
 obtain⟨x44,y44,e44,b44,h44⟩:=aF h43
 obtain⟨x45,y45,e45,b45,h45⟩:=aF h44
 obtain⟨x46,y46,e46,b46,h46⟩:=aF h45
 obtain⟨x47,y47,e47,b47,h47⟩:=aF h46
 obtain⟨x48,y48,e48,b48,h48⟩:=aF h47
 obtain⟨x49,y49,e49,b49,h49⟩:=aF h48
 obtain⟨x50,y50,e50,b50,h50⟩:=aF h49
 obtain⟨x51,y51,e51,b51,h51⟩:=aF h50
 obtain⟨x52,y52,e52,b52,h52⟩:=aF h51
 obtain⟨x53,y53,e53,b53,h53⟩:=aF h52
 obtain⟨x54,y54,e54,b54,h54⟩:=aF h53
 obtain⟨x55,y55,e55,b55,h55⟩:=aF h54
 obtain⟨x56,y56,e56,b56,h56⟩:=aF h55
 obtain⟨x57,y57,e57,b57,h57⟩:=aF h56
 obtain⟨x58,y58,e58,b58,h58⟩:=aF h57
 obtain⟨x59,y59,e59,b59,h59⟩:=aF h58
 obtain⟨x60,y60,e60,b60,h60⟩:=aF h59
 obtain⟨x61,y61,e61,b61,h61⟩:=aF h60
 obtain⟨x62,y62,e62,b62,h62⟩:=aF h61
 obtain⟨x63,y63,e63,b63,h63⟩:=aF h62
 obtain⟨x64,y64,e64,b64,h64⟩:=aF h63
 have e65:=pG h64
 subst e65 e64 e63 e62 e61 e60 e59 e58 e57 e56 e55 e54 e53 e52 e51 e50 e49 e48 e47 e46 e45 e44 e43 e42 e41 e40 e39 e38 e37 e36 e35 e34 e33 e32 e31 e30 e29 e28 e27 e26 e25 e24 e23 e22 e21 e20 e19 e18 e17 e16 e15 e14 e13 e12 e11 e10 e9 e8 e7 e6 e5 e4 e3 e2 e1 e0
 obtain⟨l0,rfl⟩:=aDn hl
 exact aH8 x0 x1 x2 x3 x4 x5 x6 x7 x8 x9 x10 x11 x12 x13 x14 x15 x16 x17 x18 x19 x20 x21 x22 x23 x24 x25 x26 x27 x28 x29 x30 x31 x32 x33 x34 x35 x36 x37 x38 x39 x40 x41 x42 x43 x44 x45 x46 x47 x48 x49 x50 x51 x52 x53 x54 x55 x56 x57 x58 x59 x60 x61 x62 x63 x64 l0 b0 b1 b2 b3 b4 b5 b6 b7 b8 b9 b10 b11 b12 b13 b14 b15 b16 b17 b18 b19 b20 b21 b22 b23 b24 b25 b26 b27 b28 b29 b30 b31 b32 b33 b34 b35 b36 b37 b38 b39 b40 b41 b42 b43 b44 b45 b46 b47 b48 b49 b50 b51 b52 b53 b54 b55 b56 b57 b58 b59 b60 b61 b62 b63 b64 hp
def aCd:aX:=eI 10 oO (lE 26 wC (lE 12 vY aKa))
theorem xL {X:Ctx} {ρ:Nat→Int} (hX:X.Ok ρ) (hG:X.G=G):gL Try.prog X ρ GB aCd:=bX (aKO hX hG) (jA (aK0 hX hG) (jA (aL8 hX hG) (aCT hX hG)))
def aSS:St:=⟨[.any,.any,.any,.any,.any,.any,.any,(.ptr 5 0),.any,(.int .i64 (.var 0)),.any,.any,.any,.any,.any,.any,.any,.any,.any,.any,.any,.any,.any,.any,.any,.any,.any,.any,.any,.any,.any,.any,.any,.any,.any,.any,.any,.any,.any,.any,.any,.any,.any,.any,.any,.any,.any,.any,.any,.any,.any,.any,.any,.any,.any,.any,.any,.any,.any,.any,.any],[none,none,none,none,some ([.vec [.bool,.int .i64,.int .i32,.int .i32,.int .i32,.int .i32,.int .i32,.int .i32] (.var 1) (.lit 36) true],aZ+46),some ([(.int .i64 (.lit 6)),(.int .i64 (.lit 6)),(.own 4 (.lit 36) (some (.lit 36)))],78)]⟩
def aSw:St:=⟨[.any,.any,.any,.any,.any,.any,.any,.any,.any,.any,.any,.any,.any,.any,.any,.any,.any,.any,.any,.any,.any,.any,.any,.any,.any,.any,.any,.any,.any,.any,.any,.any,.any,.any,.any,.any,.any,.any,.any,.any,.any,.any,.any,.any,.any,.any,.any,.any,.any,.any,.any,.any,.any,.any,.any,.any,.any,.any,.any,.any,.any],[none,none,none,none,none,none]⟩
def aR8:LoopS:=⟨0,6,aSS,.lit true,.exit 0,aSw,.exit 0,aSw⟩
def aGh:List (Int × Int):=[(0,36)]
def aQL:List (Int × Int):=[((-9223372036854775808),9223372036854775807),((-9223372036854775808),9223372036854775807),((-9223372036854775808),9223372036854775807),((-9223372036854775808),9223372036854775807),((-9223372036854775808),9223372036854775807),((-9223372036854775808),9223372036854775807),((-9223372036854775808),9223372036854775807),(0,18446744073709551615),((-9223372036854775808),9223372036854775807),((-9223372036854775808),9223372036854775807),(0,18446744073709551615),((-9223372036854775808),9223372036854775807),((-9223372036854775808),9223372036854775807),(0,18446744073709551615),((-9223372036854775808),9223372036854775807),((-9223372036854775808),9223372036854775807),(0,18446744073709551615),((-9223372036854775808),9223372036854775807),((-9223372036854775808),9223372036854775807),(0,18446744073709551615),((-9223372036854775808),9223372036854775807),((-9223372036854775808),9223372036854775807),(0,18446744073709551615),((-9223372036854775808),9223372036854775807),((-9223372036854775808),9223372036854775807),(0,18446744073709551615),((-9223372036854775808),9223372036854775807),((-9223372036854775808),9223372036854775807),(0,18446744073709551615),((-9223372036854775808),9223372036854775807),((-9223372036854775808),9223372036854775807),(0,18446744073709551615),((-9223372036854775808),9223372036854775807),((-9223372036854775808),9223372036854775807),(0,18446744073709551615),((-9223372036854775808),9223372036854775807),((-9223372036854775808),9223372036854775807),(0,18446744073709551615),((-9223372036854775808),9223372036854775807),((-9223372036854775808),9223372036854775807),(0,18446744073709551615),((-9223372036854775808),9223372036854775807),((-9223372036854775808),9223372036854775807),((-9223372036854775808),9223372036854775807),((-9223372036854775808),9223372036854775807),((-9223372036854775808),9223372036854775807),((-9223372036854775808),9223372036854775807),((-9223372036854775808),9223372036854775807),((-9223372036854775808),9223372036854775807),((-9223372036854775808),9223372036854775807),((-2147483648),2147483647),((-2147483648),2147483647),((-2147483648),2147483647),((-2147483648),2147483647),((-2147483648),2147483647),((-2147483648),2147483647),((-9223372036854775808),9223372036854775807),(0,18446744073709551615),((-9223372036854775808),9223372036854775807),((-9223372036854775808),9223372036854775807),(0,18446744073709551615),((-9223372036854775808),9223372036854775807),((-9223372036854775808),9223372036854775807),(0,18446744073709551615),((-9223372036854775808),9223372036854775807),((-9223372036854775808),9223372036854775807),(0,18446744073709551615),((-9223372036854775808),9223372036854775807),((-9223372036854775808),9223372036854775807),(0,18446744073709551615),((-9223372036854775808),9223372036854775807),((-9223372036854775808),9223372036854775807),(0,18446744073709551615),((-9223372036854775808),9223372036854775807),((-9223372036854775808),9223372036854775807),(0,18446744073709551615),((-9223372036854775808),9223372036854775807),((-9223372036854775808),9223372036854775807),(0,18446744073709551615),((-9223372036854775808),9223372036854775807),((-9223372036854775808),9223372036854775807),(0,18446744073709551615),((-9223372036854775808),9223372036854775807),((-9223372036854775808),9223372036854775807),(0,18446744073709551615),((-9223372036854775808),9223372036854775807),((-9223372036854775808),9223372036854775807),(0,18446744073709551615),((-9223372036854775808),9223372036854775807),((-9223372036854775808),9223372036854775807),(0,18446744073709551615),((-9223372036854775808),9223372036854775807),((-9223372036854775808),9223372036854775807),(0,18446744073709551615),((-9223372036854775808),9223372036854775807),((-9223372036854775808),9223372036854775807),(0,18446744073709551615),((-9223372036854775808),9223372036854775807),((-9223372036854775808),9223372036854775807),(0,18446744073709551615),((-9223372036854775808),9223372036854775807),((-9223372036854775808),9223372036854775807),(0,18446744073709551615),((-9223372036854775808),9223372036854775807),((-9223372036854775808),9223372036854775807),((-9223372036854775808),9223372036854775807)]
def aQ0:LoopU:=⟨aR8,[.lit 0,(aLX (.lit 36) [.bool,.int .i64,.int .i32,.int .i32,.int .i32,.int .i32,.int .i32,.int .i32])],aGh,.lit true⟩
def aPY:iG:=oI 6 (kE (bS GB) [aQ0]) iH
def yG (P:Program) (fs:List B):Res SV:=bY G GI aGh fs fun X=>nR P X GB aCd iH 4000 (fB (dJ P 8) 0) aR8
def aR5:FunS:=⟨[(.agg [(.int .i64 (.var 0)),(.int .i64 (.var 1)),(.int .i64 (.var 2)),(.int .i64 (.var 3)),(.int .i64 (.var 4)),(.int .i64 (.var 5)),(.int .i64 (.var 6)),(.int .u64 (.var 7)),(.int .i64 (.var 8)),(.int .i64 (.var 9)),(.int .u64 (.var 10)),(.int .i64 (.var 11)),(.int .i64 (.var 12)),(.int .u64 (.var 13)),(.int .i64 (.var 14)),(.int .i64 (.var 15)),(.int .u64 (.var 16)),(.int .i64 (.var 17)),(.int .i64 (.var 18)),(.int .u64 (.var 19)),(.int .i64 (.var 20)),(.int .i64 (.var 21)),(.int .u64 (.var 22)),(.int .i64 (.var 23)),(.int .i64 (.var 24)),(.int .u64 (.var 25)),(.int .i64 (.var 26)),(.int .i64 (.var 27)),(.int .u64 (.var 28)),(.int .i64 (.var 29)),(.int .i64 (.var 30)),(.int .u64 (.var 31)),(.int .i64 (.var 32)),(.int .i64 (.var 33)),(.int .u64 (.var 34)),(.int .i64 (.var 35)),(.int .i64 (.var 36)),(.int .u64 (.var 37)),(.int .i64 (.var 38)),(.int .i64 (.var 39)),(.int .u64 (.var 40)),(.int .i64 (.var 41)),(.int .i64 (.var 42)),(.int .i64 (.var 43))]),(.agg [(.int .i64 (.var 44)),(.int .i64 (.var 45)),(.int .i64 (.var 46)),(.int .i64 (.var 47)),(.int .i64 (.var 48)),(.int .i64 (.var 49)),(.int .i32 (.var 50)),(.int .i32 (.var 51)),(.int .i32 (.var 52)),(.int .i32 (.var 53)),(.int .i32 (.var 54)),(.int .i32 (.var 55)),(.int .i64 (.var 56)),(.int .u64 (.var 57)),(.int .i64 (.var 58)),(.int .i64 (.var 59)),(.int .u64 (.var 60)),(.int .i64 (.var 61)),(.int .i64 (.var 62)),(.int .u64 (.var 63)),(.int .i64 (.var 64)),(.int .i64 (.var 65)),(.int .u64 (.var 66)),(.int .i64 (.var 67)),(.int .i64 (.var 68)),(.int .u64 (.var 69)),(.int .i64 (.var 70)),(.int .i64 (.var 71)),(.int .u64 (.var 72)),(.int .i64 (.var 73)),(.int .i64 (.var 74)),(.int .u64 (.var 75)),(.int .i64 (.var 76)),(.int .i64 (.var 77)),(.int .u64 (.var 78)),(.int .i64 (.var 79)),(.int .i64 (.var 80)),(.int .u64 (.var 81)),(.int .i64 (.var 82)),(.int .i64 (.var 83)),(.int .u64 (.var 84)),(.int .i64 (.var 85)),(.int .i64 (.var 86)),(.int .u64 (.var 87)),(.int .i64 (.var 88)),(.int .i64 (.var 89)),(.int .u64 (.var 90)),(.int .i64 (.var 91)),(.int .i64 (.var 92)),(.int .u64 (.var 93)),(.int .i64 (.var 94)),(.int .i64 (.var 95)),(.int .u64 (.var 96)),(.int .i64 (.var 97)),(.int .i64 (.var 98)),(.int .u64 (.var 99)),(.int .i64 (.var 100)),(.int .i64 (.var 101)),(.int .u64 (.var 102)),(.int .i64 (.var 103)),(.int .i64 (.var 104)),(.int .i64 (.var 105))])],eN GB,.lit true,.bool (.lit true),eN GB,.bool (.lit true),eN GB⟩
def aK5 (P:Program) (fs:List B):Res SV:=bY G GI aQL fs fun X=>lX P X GB aCd aPY 4000 8 aR5
end Go.Proofs.Ytoiecphddchknaa
set_option maxRecDepth 100000
namespace Go.Proofs.Ytoiecphddchknaa
open Go Go.RowKit Sx Wi
def wX (P:Program) (fs:List B):Res SV:=aK5 P fs
def aDH:List B:=[]
def lZ:B:=(.and (.and (.cmp .le (.lit (-671088640)) (.var 0)) (.and (.cmp .le (.var 0) (.lit 671088640)) (.and (.cmp .le (.lit (-671088640)) (.var 1)) (.and (.cmp .le (.var 1) (.lit 671088640)) (.and (.cmp .le (.lit (-671088640)) (.var 2)) (.and (.cmp .le (.var 2) (.lit 671088640)) (.and (.cmp .le (.lit (-671088640)) (.var 3)) (.and (.cmp .le (.var 3) (.lit 671088640)) (.and (.cmp .le (.lit (-671088640)) (.var 4)) (.and (.cmp .le (.var 4) (.lit 671088640)) (.and (.cmp .le (.lit (-671088640)) (.var 5)) (.cmp .le (.var 5) (.lit 671088640))))))))))))) (.and (.cmp .le (.lit 1) (.var 42)) (.and (.cmp .le (.var 42) (.lit 4)) (.and (.or (.cmp .le (.var 42) (.lit 0)) (.and (.cmp .le (.lit (-1125899906842624)) (.op .add (.op .mul (.var 6) (.lit 18446744073709551616)) (.var 7))) (.and (.cmp .le (.op .add (.op .mul (.var 6) (.lit 18446744073709551616)) (.var 7)) (.lit 1125899906842624)) (.and (.cmp .le (.lit (-1125899906842624)) (.op .add (.op .mul (.var 18) (.lit 18446744073709551616)) (.var 19))) (.and (.cmp .le (.op .add (.op .mul (.var 18) (.lit 18446744073709551616)) (.var 19)) (.lit 1125899906842624)) (.and (.cmp .le (.lit (-1125899906842624)) (.op .add (.op .mul (.var 30) (.lit 18446744073709551616)) (.var 31))) (.and (.cmp .le (.op .add (.op .mul (.var 30) (.lit 18446744073709551616)) (.var 31)) (.lit 1125899906842624)) (.and (.cmp .le (.lit 1) (.var 8)) (.and (.cmp .le (.var 8) (.lit 65535)) (.and (.cmp .eq (.var 20) (.var 8)) (.cmp .eq (.var 32) (.var 8)))))))))))) (.and (.or (.cmp .le (.var 42) (.lit 1)) (.and (.cmp .le (.lit (-1125899906842624)) (.op .add (.op .mul (.var 9) (.lit 18446744073709551616)) (.var 10))) (.and (.cmp .le (.op .add (.op .mul (.var 9) (.lit 18446744073709551616)) (.var 10)) (.lit 1125899906842624)) (.and (.cmp .le (.lit (-1125899906842624)) (.op .add (.op .mul (.var 21) (.lit 18446744073709551616)) (.var 22))) (.and (.cmp .le (.op .add (.op .mul (.var 21) (.lit 18446744073709551616)) (.var 22)) (.lit 1125899906842624)) (.and (.cmp .le (.lit (-1125899906842624)) (.op .add (.op .mul (.var 33) (.lit 18446744073709551616)) (.var 34))) (.and (.cmp .le (.op .add (.op .mul (.var 33) (.lit 18446744073709551616)) (.var 34)) (.lit 1125899906842624)) (.and (.cmp .le (.lit 1) (.var 11)) (.and (.cmp .le (.var 11) (.lit 65535)) (.and (.cmp .eq (.var 23) (.var 11)) (.cmp .eq (.var 35) (.var 11)))))))))))) (.and (.or (.cmp .le (.var 42) (.lit 2)) (.and (.cmp .le (.lit (-1125899906842624)) (.op .add (.op .mul (.var 12) (.lit 18446744073709551616)) (.var 13))) (.and (.cmp .le (.op .add (.op .mul (.var 12) (.lit 18446744073709551616)) (.var 13)) (.lit 1125899906842624)) (.and (.cmp .le (.lit (-1125899906842624)) (.op .add (.op .mul (.var 24) (.lit 18446744073709551616)) (.var 25))) (.and (.cmp .le (.op .add (.op .mul (.var 24) (.lit 18446744073709551616)) (.var 25)) (.lit 1125899906842624)) (.and (.cmp .le (.lit (-1125899906842624)) (.op .add (.op .mul (.var 36) (.lit 18446744073709551616)) (.var 37))) (.and (.cmp .le (.op .add (.op .mul (.var 36) (.lit 18446744073709551616)) (.var 37)) (.lit 1125899906842624)) (.and (.cmp .le (.lit 1) (.var 14)) (.and (.cmp .le (.var 14) (.lit 65535)) (.and (.cmp .eq (.var 26) (.var 14)) (.cmp .eq (.var 38) (.var 14)))))))))))) (.or (.cmp .le (.var 42) (.lit 3)) (.and (.cmp .le (.lit (-1125899906842624)) (.op .add (.op .mul (.var 15) (.lit 18446744073709551616)) (.var 16))) (.and (.cmp .le (.op .add (.op .mul (.var 15) (.lit 18446744073709551616)) (.var 16)) (.lit 1125899906842624)) (.and (.cmp .le (.lit (-1125899906842624)) (.op .add (.op .mul (.var 27) (.lit 18446744073709551616)) (.var 28))) (.and (.cmp .le (.op .add (.op .mul (.var 27) (.lit 18446744073709551616)) (.var 28)) (.lit 1125899906842624)) (.and (.cmp .le (.lit (-1125899906842624)) (.op .add (.op .mul (.var 39) (.lit 18446744073709551616)) (.var 40))) (.and (.cmp .le (.op .add (.op .mul (.var 39) (.lit 18446744073709551616)) (.var 40)) (.lit 1125899906842624)) (.and (.cmp .le (.lit 1) (.var 17)) (.and (.cmp .le (.var 17) (.lit 65535)) (.and (.cmp .eq (.var 29) (.var 17)) (.cmp .eq (.var 41) (.var 17))))))))))))))))))
def aC5:List B:=aK lZ++aDH
def iK:B:=(.and (.and (.cmp .le (.lit (-671088640)) (.var 44)) (.and (.cmp .le (.var 44) (.lit 671088640)) (.and (.cmp .le (.lit (-671088640)) (.var 45)) (.and (.cmp .le (.var 45) (.lit 671088640)) (.and (.cmp .le (.lit (-671088640)) (.var 46)) (.and (.cmp .le (.var 46) (.lit 671088640)) (.and (.cmp .le (.lit (-671088640)) (.var 47)) (.and (.cmp .le (.var 47) (.lit 671088640)) (.and (.cmp .le (.lit (-671088640)) (.var 48)) (.and (.cmp .le (.var 48) (.lit 671088640)) (.and (.cmp .le (.lit (-671088640)) (.var 49)) (.cmp .le (.var 49) (.lit 671088640))))))))))))) (.and (.cmp .le (.lit 0) (.var 50)) (.and (.cmp .le (.var 50) (.lit 65536)) (.and (.cmp .le (.lit 0) (.var 51)) (.and (.cmp .le (.var 51) (.lit 65536)) (.and (.cmp .le (.lit 0) (.var 52)) (.and (.cmp .le (.var 52) (.lit 65536)) (.and (.cmp .le (.lit 0) (.var 53)) (.and (.cmp .le (.var 53) (.lit 65536)) (.and (.cmp .le (.lit 0) (.var 54)) (.and (.cmp .le (.var 54) (.lit 65536)) (.and (.cmp .le (.lit 0) (.var 55)) (.and (.cmp .le (.var 55) (.lit 65536)) (.and (.cmp .le (.lit 1) (.var 104)) (.and (.cmp .le (.var 104) (.lit 4)) (.and (.or (.cmp .le (.var 104) (.lit 0)) (.and (.cmp .le (.lit (-1125899906842624)) (.op .add (.op .mul (.var 56) (.lit 18446744073709551616)) (.var 57))) (.and (.cmp .le (.op .add (.op .mul (.var 56) (.lit 18446744073709551616)) (.var 57)) (.lit 1125899906842624)) (.and (.cmp .le (.lit (-1125899906842624)) (.op .add (.op .mul (.var 68) (.lit 18446744073709551616)) (.var 69))) (.and (.cmp .le (.op .add (.op .mul (.var 68) (.lit 18446744073709551616)) (.var 69)) (.lit 1125899906842624)) (.and (.cmp .le (.lit (-1125899906842624)) (.op .add (.op .mul (.var 80) (.lit 18446744073709551616)) (.var 81))) (.and (.cmp .le (.op .add (.op .mul (.var 80) (.lit 18446744073709551616)) (.var 81)) (.lit 1125899906842624)) (.and (.cmp .le (.lit (-1125899906842624)) (.op .add (.op .mul (.var 92) (.lit 18446744073709551616)) (.var 93))) (.and (.cmp .le (.op .add (.op .mul (.var 92) (.lit 18446744073709551616)) (.var 93)) (.lit 1125899906842624)) (.and (.cmp .le (.lit 1) (.var 58)) (.and (.cmp .le (.var 58) (.lit 65535)) (.and (.cmp .eq (.var 70) (.var 58)) (.and (.cmp .eq (.var 82) (.var 58)) (.cmp .eq (.var 94) (.var 58))))))))))))))) (.and (.or (.cmp .le (.var 104) (.lit 1)) (.and (.cmp .le (.lit (-1125899906842624)) (.op .add (.op .mul (.var 59) (.lit 18446744073709551616)) (.var 60))) (.and (.cmp .le (.op .add (.op .mul (.var 59) (.lit 18446744073709551616)) (.var 60)) (.lit 1125899906842624)) (.and (.cmp .le (.lit (-1125899906842624)) (.op .add (.op .mul (.var 71) (.lit 18446744073709551616)) (.var 72))) (.and (.cmp .le (.op .add (.op .mul (.var 71) (.lit 18446744073709551616)) (.var 72)) (.lit 1125899906842624)) (.and (.cmp .le (.lit (-1125899906842624)) (.op .add (.op .mul (.var 83) (.lit 18446744073709551616)) (.var 84))) (.and (.cmp .le (.op .add (.op .mul (.var 83) (.lit 18446744073709551616)) (.var 84)) (.lit 1125899906842624)) (.and (.cmp .le (.lit (-1125899906842624)) (.op .add (.op .mul (.var 95) (.lit 18446744073709551616)) (.var 96))) (.and (.cmp .le (.op .add (.op .mul (.var 95) (.lit 18446744073709551616)) (.var 96)) (.lit 1125899906842624)) (.and (.cmp .le (.lit 1) (.var 61)) (.and (.cmp .le (.var 61) (.lit 65535)) (.and (.cmp .eq (.var 73) (.var 61)) (.and (.cmp .eq (.var 85) (.var 61)) (.cmp .eq (.var 97) (.var 61))))))))))))))) (.and (.or (.cmp .le (.var 104) (.lit 2)) (.and (.cmp .le (.lit (-1125899906842624)) (.op .add (.op .mul (.var 62) (.lit 18446744073709551616)) (.var 63))) (.and (.cmp .le (.op .add (.op .mul (.var 62) (.lit 18446744073709551616)) (.var 63)) (.lit 1125899906842624)) (.and (.cmp .le (.lit (-1125899906842624)) (.op .add (.op .mul (.var 74) (.lit 18446744073709551616)) (.var 75))) (.and (.cmp .le (.op .add (.op .mul (.var 74) (.lit 18446744073709551616)) (.var 75)) (.lit 1125899906842624)) (.and (.cmp .le (.lit (-1125899906842624)) (.op .add (.op .mul (.var 86) (.lit 18446744073709551616)) (.var 87))) (.and (.cmp .le (.op .add (.op .mul (.var 86) (.lit 18446744073709551616)) (.var 87)) (.lit 1125899906842624)) (.and (.cmp .le (.lit (-1125899906842624)) (.op .add (.op .mul (.var 98) (.lit 18446744073709551616)) (.var 99))) (.and (.cmp .le (.op .add (.op .mul (.var 98) (.lit 18446744073709551616)) (.var 99)) (.lit 1125899906842624)) (.and (.cmp .le (.lit 1) (.var 64)) (.and (.cmp .le (.var 64) (.lit 65535)) (.and (.cmp .eq (.var 76) (.var 64)) (.and (.cmp .eq (.var 88) (.var 64)) (.cmp .eq (.var 100) (.var 64))))))))))))))) (.or (.cmp .le (.var 104) (.lit 3)) (.and (.cmp .le (.lit (-1125899906842624)) (.op .add (.op .mul (.var 65) (.lit 18446744073709551616)) (.var 66))) (.and (.cmp .le (.op .add (.op .mul (.var 65) (.lit 18446744073709551616)) (.var 66)) (.lit 1125899906842624)) (.and (.cmp .le (.lit (-1125899906842624)) (.op .add (.op .mul (.var 77) (.lit 18446744073709551616)) (.var 78))) (.and (.cmp .le (.op .add (.op .mul (.var 77) (.lit 18446744073709551616)) (.var 78)) (.lit 1125899906842624)) (.and (.cmp .le (.lit (-1125899906842624)) (.op .add (.op .mul (.var 89) (.lit 18446744073709551616)) (.var 90))) (.and (.cmp .le (.op .add (.op .mul (.var 89) (.lit 18446744073709551616)) (.var 90)) (.lit 1125899906842624)) (.and (.cmp .le (.lit (-1125899906842624)) (.op .add (.op .mul (.var 101) (.lit 18446744073709551616)) (.var 102))) (.and (.cmp .le (.op .add (.op .mul (.var 101) (.lit 18446744073709551616)) (.var 102)) (.lit 1125899906842624)) (.and (.cmp .le (.lit 1) (.var 67)) (.and (.cmp .le (.var 67) (.lit 65535)) (.and (.cmp .eq (.var 79) (.var 67)) (.and (.cmp .eq (.var 91) (.var 67)) (.cmp .eq (.var 103) (.var 67)))))))))))))))))))))))))))))))))
def aLY:List B:=aK iK++aC5
def aLf:List B:=aK (B.neg iK)++aC5
def aDo:List B:=aK (B.neg lZ)++aDH
def aLc:List B:=aK iK++aDo
def aLe:List B:=aK (B.neg iK)++aDo
theorem aMb:wX Try.prog aLY = .ok (.tuple [(.agg []),(.bool (.lit true))]):=by kernel_rfl
theorem aKQ:wX Try.prog aLf = .ok (.tuple [(.agg []),(.bool (.lit true))]):=by kernel_rfl
theorem aMy:wX Try.prog aLc = .ok (.tuple [(.agg []),(.bool (.lit true))]):=by kernel_rfl
theorem aLl:wX Try.prog aLe = .ok (.tuple [(.agg []),(.bool (.lit true))]):=by kernel_rfl
end Go.Proofs.Ytoiecphddchknaa
set_option maxRecDepth 100000
namespace Go.Proofs.Ytoiecphddchknaa
open Go Go.RowKit Sx Wi
def aHa (P:Program) (fs:List B):Res SV:=yG P fs
def aDI:List B:=[]
def fL:B:=(.cmp .lt (.var 0) (.lit 36))
def aKW:List B:=aK fL++aDI
def hJ:B:=(.cmp .ne (.app 88 (.cons (.var 1) (.cons (.op .add (.op .mul (.op .quo (.var 0) (.lit 6)) (.lit 6)) (.op .rem (.var 0) (.lit 6))) (.cons (.lit 0) .nil)))) (.lit 0))
def aMW:List B:=aK (B.neg hJ)++aKW
def iQ:B:=(.cmp .ne (.app 83 (.cons (.var 1) (.cons (.op .add (.op .mul (.op .quo (.var 0) (.lit 6)) (.lit 6)) (.op .rem (.var 0) (.lit 6))) (.cons (.lit 1) .nil)))) (.lit 0))
def aMc:List B:=aK (B.neg iQ)++aMW
def jP:B:=(.cmp .ne (.app 82 (.cons (.var 1) (.cons (.op .add (.op .mul (.op .quo (.var 0) (.lit 6)) (.lit 6)) (.op .rem (.var 0) (.lit 6))) (.cons (.lit 2) .nil)))) (.lit 0))
def aL4:List B:=aK (B.neg jP)++aMc
def kM:B:=(.cmp .ne (.app 82 (.cons (.var 1) (.cons (.op .add (.op .mul (.op .quo (.var 0) (.lit 6)) (.lit 6)) (.op .rem (.var 0) (.lit 6))) (.cons (.lit 3) .nil)))) (.lit 0))
def aLz:List B:=aK (B.neg kM)++aL4
def lR:B:=(.cmp .ne (.app 82 (.cons (.var 1) (.cons (.op .add (.op .mul (.op .quo (.var 0) (.lit 6)) (.lit 6)) (.op .rem (.var 0) (.lit 6))) (.cons (.lit 4) .nil)))) (.lit 0))
def aI1:List B:=aK (B.neg lR)++aLz
def nC:B:=(.cmp .ne (.app 82 (.cons (.var 1) (.cons (.op .add (.op .mul (.op .quo (.var 0) (.lit 6)) (.lit 6)) (.op .rem (.var 0) (.lit 6))) (.cons (.lit 5) .nil)))) (.lit 0))
def aHS:List B:=aK (B.neg nC)++aI1
def pN:B:=(.cmp .ne (.app 82 (.cons (.var 1) (.cons (.op .add (.op .mul (.op .quo (.var 0) (.lit 6)) (.lit 6)) (.op .rem (.var 0) (.lit 6))) (.cons (.lit 6) .nil)))) (.lit 0))
def aH9:List B:=aK (B.neg pN)++aHS
def sB:B:=(.cmp .ne (.app 82 (.cons (.var 1) (.cons (.op .add (.op .mul (.op .quo (.var 0) (.lit 6)) (.lit 6)) (.op .rem (.var 0) (.lit 6))) (.cons (.lit 7) .nil)))) (.lit 0))
def aJz:List B:=aK (B.neg sB)++aH9
def aIM:List B:=aK (B.neg fL)++aDI
theorem aH7:aHa Try.prog aJz = .ok (.agg [(.int .i64 (.op .add (.var 0) (.lit 1))),(.int .i64 (.var 0)),(.int .i64 (.var 1)),(.int .i64 (.var 1))]):=by kernel_rfl
theorem aJi:aHa Try.prog aIM = .ok (.tuple [(.agg []),(.bool (.lit true))]):=by kernel_rfl
end Go.Proofs.Ytoiecphddchknaa
namespace Go.Proofs.Ytoiecphddchknaa
open Go Go.RowKit Sx Wi
def gS (C:Int) (i:Nat):Nat→Int:=dP [(i:Int),C]
theorem aPO (C:Int) (i:Nat) (hi:i≤36):∀ k q,aGh[k]?=some q→q.1≤gS C i k∧gS C i k≤q.2:=by
 unfold gS aGh
 exact fX (xs:=[(i:Int)]) (ls:=[C]) (by exact⟨by omega,trivial⟩)
def aF5 (C:Int):Prop:=∀ k:Nat,k<36→(Lc.dec C).getD k []=[0,0,0,0,0,0,0,0]
theorem aJP:aF5 (wG 96 [36,0,0,0,0,0,0,0,0]):=by
 intro k hk
 have e0:wG 96 [36,0,0,0,0,0,0,0,0]=Lc.enc (List.replicate 36 [0,0,0,0,0,0,0,0]):=aMU 96 _ (by decide) (by decide)
 rw[e0,Lc.dec_enc,List.getD_eq_getElem?_getD,List.getElem?_replicate,if_pos hk]
 rfl
theorem mJ {C i:Int} (h:aF5 C) (hi:0≤i∧i<36):G 88 [C,Int.tdiv i 6*6+Int.tmod i 6,0]=0∧G 83 [C,Int.tdiv i 6*6+Int.tmod i 6,1]=0∧G 82 [C,Int.tdiv i 6*6+Int.tmod i 6,2]=0∧G 82 [C,Int.tdiv i 6*6+Int.tmod i 6,3]=0∧G 82 [C,Int.tdiv i 6*6+Int.tmod i 6,4]=0∧G 82 [C,Int.tdiv i 6*6+Int.tmod i 6,5]=0∧G 82 [C,Int.tdiv i 6*6+Int.tmod i 6,6]=0∧G 82 [C,Int.tdiv i 6*6+Int.tmod i 6,7]=0:=by
 have hq:Int.tdiv i 6=((i.toNat / 6:Nat):Int):=by rw[Int.tdiv_eq_ediv_of_nonneg hi.1];omega
 have hr:Int.tmod i 6=((i.toNat % 6:Nat):Int):=by rw[Int.tmod_eq_emod_of_nonneg hi.1];omega
 have hk:(Int.tdiv i 6*6+Int.tmod i 6).toNat=i.toNat:=by rw[hq,hr];omega
 have e:=h i.toNat (by omega)
 have r0:G 88 [C,Int.tdiv i 6*6+Int.tmod i 6,0]=((Lc.dec C).getD (Int.tdiv i 6*6+Int.tmod i 6).toNat []).getD (0:Int).toNat 0:=sQ 88 _ (by decide) (by decide)
 have r1:G 83 [C,Int.tdiv i 6*6+Int.tmod i 6,1]=IntKind.i64.wrap (((Lc.dec C).getD (Int.tdiv i 6*6+Int.tmod i 6).toNat []).getD (1:Int).toNat 0):=sQ 83 _ (by decide) (by decide)
 have r2:G 82 [C,Int.tdiv i 6*6+Int.tmod i 6,2]=IntKind.i32.wrap (((Lc.dec C).getD (Int.tdiv i 6*6+Int.tmod i 6).toNat []).getD (2:Int).toNat 0):=sQ 82 _ (by decide) (by decide)
 have r3:G 82 [C,Int.tdiv i 6*6+Int.tmod i 6,3]=IntKind.i32.wrap (((Lc.dec C).getD (Int.tdiv i 6*6+Int.tmod i 6).toNat []).getD (3:Int).toNat 0):=sQ 82 _ (by decide) (by decide)
 have r4:G 82 [C,Int.tdiv i 6*6+Int.tmod i 6,4]=IntKind.i32.wrap (((Lc.dec C).getD (Int.tdiv i 6*6+Int.tmod i 6).toNat []).getD (4:Int).toNat 0):=sQ 82 _ (by decide) (by decide)
 have r5:G 82 [C,Int.tdiv i 6*6+Int.tmod i 6,5]=IntKind.i32.wrap (((Lc.dec C).getD (Int.tdiv i 6*6+Int.tmod i 6).toNat []).getD (5:Int).toNat 0):=sQ 82 _ (by decide) (by decide)
 have r6:G 82 [C,Int.tdiv i 6*6+Int.tmod i 6,6]=IntKind.i32.wrap (((Lc.dec C).getD (Int.tdiv i 6*6+Int.tmod i 6).toNat []).getD (6:Int).toNat 0):=sQ 82 _ (by decide) (by decide)
 have r7:G 82 [C,Int.tdiv i 6*6+Int.tmod i 6,7]=IntKind.i32.wrap (((Lc.dec C).getD (Int.tdiv i 6*6+Int.tmod i 6).toNat []).getD (7:Int).toNat 0):=sQ 82 _ (by decide) (by decide)
 rw[hk,e]at r0 r1 r2 r3 r4 r5 r6 r7
 exact⟨r0,r1,r2,r3,r4,r5,r6,r7⟩
set_option maxHeartbeats 2000000 in
set_option maxRecDepth 100000 in
theorem aQ6 (C:Int) (hC:aF5 C) (ρT:Nat→Int) (i:Nat) (hi:i≤36):Sx.Way (yG Try.prog) G (gS C i) (dG G (gS C) ρT 0 (.lit true) (fun i=>i≤36) (fun i=>36-i) i) []:=by
 refine aI fL (fun h0=>?_) (fun h0=>?_)
 rotate_left
 ·skip
  refine aG aJi ?_
  unfold fL at h0;simp only[dG];exact⟨rfl,fun i hi=>by omega,by simp only[aR]⟩
 refine aI hJ (fun h1=>?_) (fun h1=>?_)
 ·skip
  refine aY ?_
  unfold fL at h0;unfold hJ at h1;simp only[nn,gS,List.cons_append,List.nil_append,Bool.or_eq_true,aL,ne_eq]at h0 h1;have q:=mJ hC ⟨by omega,h0⟩;first|with_reducible exact absurd q.1 h1|with_reducible exact absurd q.2.1 h1|with_reducible exact absurd q.2.2.1 h1|with_reducible exact absurd q.2.2.2.1 h1|with_reducible exact absurd q.2.2.2.2.1 h1|with_reducible exact absurd q.2.2.2.2.2.1 h1|with_reducible exact absurd q.2.2.2.2.2.2.1 h1|with_reducible exact absurd q.2.2.2.2.2.2.2 h1
 refine aI iQ (fun h2=>?_) (fun h2=>?_)
 ·skip
  refine aY ?_
  unfold fL at h0;unfold hJ at h1;unfold iQ at h2;simp only[nn,gS,List.cons_append,List.nil_append,Bool.or_eq_true,aL,ne_eq]at h0 h2;have q:=mJ hC ⟨by omega,h0⟩;first|with_reducible exact absurd q.1 h2|with_reducible exact absurd q.2.1 h2|with_reducible exact absurd q.2.2.1 h2|with_reducible exact absurd q.2.2.2.1 h2|with_reducible exact absurd q.2.2.2.2.1 h2|with_reducible exact absurd q.2.2.2.2.2.1 h2|with_reducible exact absurd q.2.2.2.2.2.2.1 h2|with_reducible exact absurd q.2.2.2.2.2.2.2 h2
 refine aI jP (fun h3=>?_) (fun h3=>?_)
 ·skip
  refine aY ?_
  unfold fL at h0;unfold hJ at h1;unfold iQ at h2;unfold jP at h3;simp only[nn,gS,List.cons_append,List.nil_append,Bool.or_eq_true,aL,ne_eq]at h0 h3;have q:=mJ hC ⟨by omega,h0⟩;first|with_reducible exact absurd q.1 h3|with_reducible exact absurd q.2.1 h3|with_reducible exact absurd q.2.2.1 h3|with_reducible exact absurd q.2.2.2.1 h3|with_reducible exact absurd q.2.2.2.2.1 h3|with_reducible exact absurd q.2.2.2.2.2.1 h3|with_reducible exact absurd q.2.2.2.2.2.2.1 h3|with_reducible exact absurd q.2.2.2.2.2.2.2 h3
 refine aI kM (fun h4=>?_) (fun h4=>?_)
 ·skip
  refine aY ?_
  unfold fL at h0;unfold hJ at h1;unfold iQ at h2;unfold jP at h3;unfold kM at h4;simp only[nn,gS,List.cons_append,List.nil_append,Bool.or_eq_true,aL,ne_eq]at h0 h4;have q:=mJ hC ⟨by omega,h0⟩;first|with_reducible exact absurd q.1 h4|with_reducible exact absurd q.2.1 h4|with_reducible exact absurd q.2.2.1 h4|with_reducible exact absurd q.2.2.2.1 h4|with_reducible exact absurd q.2.2.2.2.1 h4|with_reducible exact absurd q.2.2.2.2.2.1 h4|with_reducible exact absurd q.2.2.2.2.2.2.1 h4|with_reducible exact absurd q.2.2.2.2.2.2.2 h4
 refine aI lR (fun h5=>?_) (fun h5=>?_)
 ·skip
  refine aY ?_
  unfold fL at h0;unfold hJ at h1;unfold iQ at h2;unfold jP at h3;unfold kM at h4;unfold lR at h5;simp only[nn,gS,List.cons_append,List.nil_append,Bool.or_eq_true,aL,ne_eq]at h0 h5;have q:=mJ hC ⟨by omega,h0⟩;first|with_reducible exact absurd q.1 h5|with_reducible exact absurd q.2.1 h5|with_reducible exact absurd q.2.2.1 h5|with_reducible exact absurd q.2.2.2.1 h5|with_reducible exact absurd q.2.2.2.2.1 h5|with_reducible exact absurd q.2.2.2.2.2.1 h5|with_reducible exact absurd q.2.2.2.2.2.2.1 h5|with_reducible exact absurd q.2.2.2.2.2.2.2 h5
 refine aI nC (fun h6=>?_) (fun h6=>?_)
 ·skip
  refine aY ?_
  unfold fL at h0;unfold hJ at h1;unfold iQ at h2;unfold jP at h3;unfold kM at h4;unfold lR at h5;unfold nC at h6;simp only[nn,gS,List.cons_append,List.nil_append,Bool.or_eq_true,aL,ne_eq]at h0 h6;have q:=mJ hC ⟨by omega,h0⟩;first|with_reducible exact absurd q.1 h6|with_reducible exact absurd q.2.1 h6|with_reducible exact absurd q.2.2.1 h6|with_reducible exact absurd q.2.2.2.1 h6|with_reducible exact absurd q.2.2.2.2.1 h6|with_reducible exact absurd q.2.2.2.2.2.1 h6|with_reducible exact absurd q.2.2.2.2.2.2.1 h6|with_reducible exact absurd q.2.2.2.2.2.2.2 h6
 refine aI pN (fun h7=>?_) (fun h7=>?_)
 ·skip
  refine aY ?_
  unfold fL at h0;unfold hJ at h1;unfold iQ at h2;unfold jP at h3;unfold kM at h4;unfold lR at h5;unfold nC at h6;unfold pN at h7;simp only[nn,gS,List.cons_append,List.nil_append,Bool.or_eq_true,aL,ne_eq]at h0 h7;have q:=mJ hC ⟨by omega,h0⟩;first|with_reducible exact absurd q.1 h7|with_reducible exact absurd q.2.1 h7|with_reducible exact absurd q.2.2.1 h7|with_reducible exact absurd q.2.2.2.1 h7|with_reducible exact absurd q.2.2.2.2.1 h7|with_reducible exact absurd q.2.2.2.2.2.1 h7|with_reducible exact absurd q.2.2.2.2.2.2.1 h7|with_reducible exact absurd q.2.2.2.2.2.2.2 h7
 refine aI sB (fun h8=>?_) (fun h8=>?_)
 ·skip
  refine aY ?_
  unfold fL at h0;unfold hJ at h1;unfold iQ at h2;unfold jP at h3;unfold kM at h4;unfold lR at h5;unfold nC at h6;unfold pN at h7;unfold sB at h8;simp only[nn,gS,List.cons_append,List.nil_append,Bool.or_eq_true,aL,ne_eq]at h0 h8;have q:=mJ hC ⟨by omega,h0⟩;first|with_reducible exact absurd q.1 h8|with_reducible exact absurd q.2.1 h8|with_reducible exact absurd q.2.2.1 h8|with_reducible exact absurd q.2.2.2.1 h8|with_reducible exact absurd q.2.2.2.2.1 h8|with_reducible exact absurd q.2.2.2.2.2.1 h8|with_reducible exact absurd q.2.2.2.2.2.2.1 h8|with_reducible exact absurd q.2.2.2.2.2.2.2 h8
 refine aG aH7 ?_
 unfold fL at h0;unfold hJ at h1;unfold iQ at h2;unfold jP at h3;unfold kM at h4;unfold lR at h5;unfold nC at h6;unfold pN at h7;unfold sB at h8;clear h1 h2 h3 h4 h5 h6 h7 h8;simp only[nn,gS,List.cons_append,List.nil_append,Bool.or_eq_true,aL,ne_eq]at h0;simp only[dG];refine⟨i+1,by omega,by omega,fun i hi=>by omega,?_⟩;clear h0;simp only[aR];simp only[nn,gS,List.cons_append,List.nil_append,Bool.or_eq_true,aL,ne_eq];(repeat' refine And.intro ?_ ?_)<;>first|omega|with_reducible trivial
end Go.Proofs.Ytoiecphddchknaa
