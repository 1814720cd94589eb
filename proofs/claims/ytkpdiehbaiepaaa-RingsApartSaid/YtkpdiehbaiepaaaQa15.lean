/- What is proved: the border line's contract. No condition but the numbers' own bounds. -/
import Derived.Test.YtkpdiehbaiepaaaQa14
import Derived.Test.YtkpdiehbaiepaaaQa1
import Derived.Test.YtkpdiehbaiepaaaQa2
import Derived.Test.YtkpdiehbaiepaaaQa3
import Derived.Test.YtkpdiehbaiepaaaQMkF
import Derived.Test.YtkpdiehbaiepaaaQa5
import Derived.Test.YtkpdiehbaiepaaaQa13
import Derived.Test.YtkpdiehbaiepaaaQNn
import Derived.Test.YtkpdiehbaiepaaaQg5
set_option linter.unusedSimpArgs false
set_option linter.unusedVariables false
namespace Go.Proofs.Ytkpdiehbaiepaaa
open Go Go.RowKit Sx Wi
theorem bG {p:Int × Int} {l:List (Int × Int)} {xs:List Int} (h:fE (p::l) xs):∃ x ys,xs=x::ys∧(p.1≤x∧x≤p.2)∧fE l ys:=by
 cases xs with
 |nil=>exact h.elim
 |cons x ys=>exact⟨x,ys,rfl,h.1,h.2⟩
theorem aH3 {xs:List Int} (h:fE [] xs):xs=[]:=by
 cases xs with
 |nil=>rfl
 |cons x ys=>exact h.elim
def aJB:List (Int × Int):=[((-9223372036854775808),9223372036854775807),((-9223372036854775808),9223372036854775807),((-9223372036854775808),9223372036854775807),((-9223372036854775808),9223372036854775807),((-9223372036854775808),9223372036854775807),((-9223372036854775808),9223372036854775807),((-9223372036854775808),9223372036854775807),((-9223372036854775808),9223372036854775807),((-9223372036854775808),9223372036854775807),((-9223372036854775808),9223372036854775807),((-9223372036854775808),9223372036854775807),((-9223372036854775808),9223372036854775807),((-9223372036854775808),9223372036854775807),((-9223372036854775808),9223372036854775807),((-9223372036854775808),9223372036854775807),((-9223372036854775808),9223372036854775807),((-9223372036854775808),9223372036854775807),((-9223372036854775808),9223372036854775807),((-9223372036854775808),9223372036854775807),((-9223372036854775808),9223372036854775807),((-9223372036854775808),9223372036854775807),((-9223372036854775808),9223372036854775807),((-9223372036854775808),9223372036854775807),((-9223372036854775808),9223372036854775807),((-9223372036854775808),9223372036854775807),((-9223372036854775808),9223372036854775807),((-9223372036854775808),9223372036854775807),((-9223372036854775808),9223372036854775807),((-9223372036854775808),9223372036854775807),((-9223372036854775808),9223372036854775807),((-9223372036854775808),9223372036854775807),((-9223372036854775808),9223372036854775807),((-9223372036854775808),9223372036854775807)]
def aAQ:Ctx→List SV→aL→Res (SV × aL):=fL GB aJB 0 (.lit true) aIG
theorem aIk {X:Ctx} {ρ:Nat→Int} (hX:X.Ok ρ) (hG:X.G=G):gY Try.prog X ρ GB 11 aAQ:=by
 obtain⟨XG,XI,XV,XF⟩:=X
 simp only at hG
 subst hG
 refine dS hX ?_
 intro xs ls hw hl _
 have hl':ls=[]:=List.length_eq_zero_iff.1 hl
 subst hl'
 rw[List.append_nil]
 unfold aJB at hw
 obtain⟨x0,y0,e0,b0,h0⟩:=bG hw
 obtain⟨x1,y1,e1,b1,h1⟩:=bG h0
 obtain⟨x2,y2,e2,b2,h2⟩:=bG h1
 obtain⟨x3,y3,e3,b3,h3⟩:=bG h2
 obtain⟨x4,y4,e4,b4,h4⟩:=bG h3
 obtain⟨x5,y5,e5,b5,h5⟩:=bG h4
 obtain⟨x6,y6,e6,b6,h6⟩:=bG h5
 obtain⟨x7,y7,e7,b7,h7⟩:=bG h6
 obtain⟨x8,y8,e8,b8,h8⟩:=bG h7
 obtain⟨x9,y9,e9,b9,h9⟩:=bG h8
 obtain⟨x10,y10,e10,b10,h10⟩:=bG h9
 obtain⟨x11,y11,e11,b11,h11⟩:=bG h10
 obtain⟨x12,y12,e12,b12,h12⟩:=bG h11
 obtain⟨x13,y13,e13,b13,h13⟩:=bG h12
 obtain⟨x14,y14,e14,b14,h14⟩:=bG h13
 obtain⟨x15,y15,e15,b15,h15⟩:=bG h14
 obtain⟨x16,y16,e16,b16,h16⟩:=bG h15
 obtain⟨x17,y17,e17,b17,h17⟩:=bG h16
 obtain⟨x18,y18,e18,b18,h18⟩:=bG h17
 obtain⟨x19,y19,e19,b19,h19⟩:=bG h18
 obtain⟨x20,y20,e20,b20,h20⟩:=bG h19
 obtain⟨x21,y21,e21,b21,h21⟩:=bG h20
 obtain⟨x22,y22,e22,b22,h22⟩:=bG h21
 obtain⟨x23,y23,e23,b23,h23⟩:=bG h22
 obtain⟨x24,y24,e24,b24,h24⟩:=bG h23
 obtain⟨x25,y25,e25,b25,h25⟩:=bG h24
 obtain⟨x26,y26,e26,b26,h26⟩:=bG h25
 obtain⟨x27,y27,e27,b27,h27⟩:=bG h26
 obtain⟨x28,y28,e28,b28,h28⟩:=bG h27
 obtain⟨x29,y29,e29,b29,h29⟩:=bG h28
 obtain⟨x30,y30,e30,b30,h30⟩:=bG h29
 obtain⟨x31,y31,e31,b31,h31⟩:=bG h30
 obtain⟨x32,y32,e32,b32,h32⟩:=bG h31
 have e33:=aH3 h32
 subst e33 e32 e31 e30 e29 e28 e27 e26 e25 e24 e23 e22 e21 e20 e19 e18 e17 e16 e15 e14 e13 e12 e11 e10 e9 e8 e7 e6 e5 e4 e3 e2 e1 e0
 exact aM4 x0 x1 x2 x3 x4 x5 x6 x7 x8 x9 x10 x11 x12 x13 x14 x15 x16 x17 x18 x19 x20 x21 x22 x23 x24 x25 x26 x27 x28 x29 x30 x31 x32 b0 b1 b2 b3 b4 b5 b6 b7 b8 b9 b10 b11 b12 b13 b14 b15 b16 b17 b18 b19 b20 b21 b22 b23 b24 b25 b26 b27 b28 b29 b30 b31 b32
def aTL:bS:=kN 59 aBQ (kN 58 aBT (kN 72 aBI (kN 71 aBP (kN 85 aCb (kN 84 aBA (kN 41 aEY (kN 11 aAQ (kN 15 aHb nS))))))))
theorem aNN {X:Ctx} {ρ:Nat→Int} (hX:X.Ok ρ) (hG:X.G=G):lJ Try.prog X ρ GB aTL:=iK (aUU hX hG) ((iK (aV9 hX hG) ((iK (aWB hX hG) ((iK (aUN hX hG) ((iK (aVY hX hG) ((iK (aUF hX hG) ((iK (aXm hX hG) ((iK (aIk hX hG) ((iK (aM9 hX hG) (iN hX hG)))))))))))))))))
def aTQ:List (Int × Int):=[((-9223372036854775808),9223372036854775807),((-9223372036854775808),9223372036854775807),((-9223372036854775808),9223372036854775807),((-9223372036854775808),9223372036854775807),((-9223372036854775808),9223372036854775807),((-9223372036854775808),9223372036854775807),((-9223372036854775808),9223372036854775807),((-9223372036854775808),9223372036854775807),((-9223372036854775808),9223372036854775807),((-9223372036854775808),9223372036854775807),((-9223372036854775808),9223372036854775807),((-9223372036854775808),9223372036854775807),((-9223372036854775808),9223372036854775807),((-9223372036854775808),9223372036854775807),((-9223372036854775808),9223372036854775807),((-9223372036854775808),9223372036854775807),((-9223372036854775808),9223372036854775807),((-9223372036854775808),9223372036854775807),((-9223372036854775808),9223372036854775807),((-9223372036854775808),9223372036854775807),((-9223372036854775808),9223372036854775807),((-9223372036854775808),9223372036854775807),((-9223372036854775808),9223372036854775807),((-9223372036854775808),9223372036854775807),((-9223372036854775808),9223372036854775807),((-9223372036854775808),9223372036854775807),((-9223372036854775808),9223372036854775807),((-9223372036854775808),9223372036854775807),((-9223372036854775808),9223372036854775807),((-9223372036854775808),9223372036854775807),((-9223372036854775808),9223372036854775807),((-9223372036854775808),9223372036854775807),(0,255)]
def aUa (P:Program) (fs:List B):Res SV:=bM G GI aTQ fs fun X=>aD8 P X GB aTL eJ 4000 10 [(.agg [(.int .i64 (.var 0)),(.int .i64 (.var 1)),(.int .i64 (.var 2)),(.int .i64 (.var 3)),(.int .i64 (.var 4)),(.int .i64 (.var 5)),(.int .i64 (.var 6)),(.int .i64 (.var 7)),(.int .i64 (.var 8)),(.int .i64 (.var 9)),(.int .i64 (.var 10)),(.int .i64 (.var 11)),(.int .i64 (.var 12)),(.int .i64 (.var 13)),(.int .i64 (.var 14)),(.int .i64 (.var 15)),(.int .i64 (.var 16)),(.int .i64 (.var 17)),(.int .i64 (.var 18)),(.int .i64 (.var 19)),(.int .i64 (.var 20)),(.int .i64 (.var 21)),(.int .i64 (.var 22)),(.int .i64 (.var 23)),(.int .i64 (.var 24)),(.int .i64 (.var 25)),(.int .i64 (.var 26)),(.int .i64 (.var 27)),(.int .i64 (.var 28)),(.int .i64 (.var 29)),(.int .i64 (.var 30)),(.int .i64 (.var 31))]),(.int .u8 (.var 32))]
set_option maxRecDepth 100000
open Go Go.RowKit Sx Wi
def aXo (P:Program) (fs:List B):Res SV:=aUa P fs
def aT9:List B:=[]
def aTT:B:=(.and (.cmp .le (.lit 1) (.lit 1)) (.and (.cmp .le (.lit 1) (.op .add (.op .rem (.var 32) (.lit 4)) (.lit 1))) (.and (.cmp .le (.op .add (.op .rem (.var 32) (.lit 4)) (.lit 1)) (.lit 6)) zzF)))
def aXp:List B:=aK aTT++aT9
def aXq:B:=(.cmp .eq (.op .mul (.lit 4) (.op .shl (.lit 1) (.op .add (.op .rem (.var 32) (.lit 4)) (.lit 1)))) (.op .mul (.lit 4) (.op .sub (.op .add (.op .shl (.lit 1) (.op .add (.op .rem (.var 32) (.lit 4)) (.lit 1))) (.lit 2)) (.lit 2))))
def aXi:List B:=aK aXq++aXp
def aXe:B:=(.cmp .eq (.op .mul (.lit 4) (.op .sub (.op .add (.op .shl (.lit 1) (.op .add (.op .rem (.var 32) (.lit 4)) (.lit 1))) (.lit 2)) (.lit 2))) (.op .mul (.lit 4) (.op .shl (.lit 1) (.op .add (.op .rem (.var 32) (.lit 4)) (.lit 1)))))
def aW4:List B:=aK aXe++aXi
def aXf:B:=(.cmp .eq (.op .shl (.lit 4) (.op .add (.op .rem (.var 32) (.lit 4)) (.lit 1))) (.op .mul (.lit 4) (.op .shl (.lit 1) (.op .add (.op .rem (.var 32) (.lit 4)) (.lit 1)))))
def aXd:List B:=aK aXf++aW4
def aW9:B:=(.cmp .eq (.op .mul (.lit 4) (.op .shl (.lit 1) (.op .add (.op .rem (.var 32) (.lit 4)) (.lit 1)))) (.op .shl (.lit 4) (.op .add (.op .rem (.var 32) (.lit 4)) (.lit 1))))
def aXz:List B:=aK aW9++aXd
def aVL:List B:=aK (B.neg aTT)++aT9
def aU6:B:=(.and (.cmp .le (.lit 1) (.op .add (.op .rem (.var 32) (.lit 4)) (.lit 1))) (.and (.cmp .le (.op .add (.op .rem (.var 32) (.lit 4)) (.lit 1)) (.lit 6)) zzF))
def aUp:List B:=aK (B.neg aU6)++aVL
set_option maxRecDepth 100000
open Go Go.RowKit Sx Wi
theorem aXh:aXo Try.prog aXz = .ok (.bool (.lit true)):=by kernel_rfl
set_option maxRecDepth 100000
open Go Go.RowKit Sx Wi
theorem aVl:aXo Try.prog aUp = .ok (.bool (.lit true)):=by kernel_rfl
open Go Go.RowKit Sx Wi
set_option maxHeartbeats 4000000 in
set_option maxRecDepth 100000 in
theorem aA0 (x0 x1 x2 x3 x4 x5 x6 x7 x8 x9 x10 x11 x12 x13 x14 x15 x16 x17 x18 x19 x20 x21 x22 x23 x24 x25 x26 x27 x28 x29 x30 x31 x32:Int) (b0:zzi x0) (b1:zzi x1) (b2:zzi x2) (b3:zzi x3) (b4:zzi x4) (b5:zzi x5) (b6:zzi x6) (b7:zzi x7) (b8:zzi x8) (b9:zzi x9) (b10:zzi x10) (b11:zzi x11) (b12:zzi x12) (b13:zzi x13) (b14:zzi x14) (b15:zzi x15) (b16:zzi x16) (b17:zzi x17) (b18:zzi x18) (b19:zzi x19) (b20:zzi x20) (b21:zzi x21) (b22:zzi x22) (b23:zzi x23) (b24:zzi x24) (b25:zzi x25) (b26:zzi x26) (b27:zzi x27) (b28:zzi x28) (b29:zzi x29) (b30:zzi x30) (b31:zzi x31) (b32:0≤x32∧x32≤255) (w:World) (hw:WOk GB w):Calls Try.prog 10 #[.agg #[.int .i64 x0,.int .i64 x1,.int .i64 x2,.int .i64 x3,.int .i64 x4,.int .i64 x5,.int .i64 x6,.int .i64 x7,.int .i64 x8,.int .i64 x9,.int .i64 x10,.int .i64 x11,.int .i64 x12,.int .i64 x13,.int .i64 x14,.int .i64 x15,.int .i64 x16,.int .i64 x17,.int .i64 x18,.int .i64 x19,.int .i64 x20,.int .i64 x21,.int .i64 x22,.int .i64 x23,.int .i64 x24,.int .i64 x25,.int .i64 x26,.int .i64 x27,.int .i64 x28,.int .i64 x29,.int .i64 x30,.int .i64 x31],.int .u8 x32] w (fun e w'=>e = .returned (.bool true)∧Below w.heap.size w w'):=by
 refine(vU (aIQ (ρ:=dJ ([x0,x1,x2,x3,x4,x5,x6,x7,x8,x9,x10,x11,x12,x13,x14,x15,x16,x17,x18,x19,x20,x21,x22,x23,x24,x25,x26,x27,x28,x29,x30,x31,x32]:List Int)) (lp:=eJ) (run:=aUa Try.prog) (fun _=>rfl) fits (cM (by unfold aTQ;exact⟨b0,b1,b2,b3,b4,b5,b6,b7,b8,b9,b10,b11,b12,b13,b14,b15,b16,b17,b18,b19,b20,b21,b22,b23,b24,b25,b26,b27,b28,b29,b30,b31,b32,trivial⟩)) eE (fun X hX hG=>aNN hX hG) (fun X hX hG fn c hf hc=>cJ) rfl rfl oD ?_ w hw)).2
 refine aG (.and (.cmp .le (.lit 1) (.lit 1)) (.and (.cmp .le (.lit 1) (.op .add (.op .rem (.var 32) (.lit 4)) (.lit 1))) (.and (.cmp .le (.op .add (.op .rem (.var 32) (.lit 4)) (.lit 1)) (.lit 6)) zzF))) (fun h0=>?_) (fun h0=>?_)
 rotate_left
 ·skip
  refine aG (.and (.cmp .le (.lit 1) (.op .add (.op .rem (.var 32) (.lit 4)) (.lit 1))) (.and (.cmp .le (.op .add (.op .rem (.var 32) (.lit 4)) (.lit 1)) (.lit 6)) zzF)) (fun h1=>?_) (fun h1=>?_)
  ·skip
   refine aM ?_
   exfalso;simp only[nn,List.cons_append,List.nil_append,Bool.or_eq_true,aV,ne_eq]at h0 h1;first|exact h0 ⟨by decide,h1⟩|(simp only[h1]at h0;simp at h0)|omega
  refine aH aVl ?_
  exact⟨rfl,rfl⟩
 refine aG (.cmp .eq (.op .mul (.lit 4) (.op .shl (.lit 1) (.op .add (.op .rem (.var 32) (.lit 4)) (.lit 1)))) (.op .mul (.lit 4) (.op .sub (.op .add (.op .shl (.lit 1) (.op .add (.op .rem (.var 32) (.lit 4)) (.lit 1))) (.lit 2)) (.lit 2)))) (fun h1=>?_) (fun h1=>?_)
 rotate_left
 ·skip
  refine aM ?_
  exfalso;simp only[nn,List.cons_append,List.nil_append,Bool.or_eq_true,aV,ne_eq]at h0 h1;first|exact h0 ⟨by decide,h1⟩|(simp only[h1]at h0;simp at h0)|omega
 refine aG (.cmp .eq (.op .mul (.lit 4) (.op .sub (.op .add (.op .shl (.lit 1) (.op .add (.op .rem (.var 32) (.lit 4)) (.lit 1))) (.lit 2)) (.lit 2))) (.op .mul (.lit 4) (.op .shl (.lit 1) (.op .add (.op .rem (.var 32) (.lit 4)) (.lit 1))))) (fun h2=>?_) (fun h2=>?_)
 rotate_left
 ·skip
  refine aM ?_
  exfalso;clear h0 h1;simp only[nn,List.cons_append,List.nil_append,Bool.or_eq_true,aV,ne_eq]at h2;omega
 refine aG (.cmp .eq (.op .shl (.lit 4) (.op .add (.op .rem (.var 32) (.lit 4)) (.lit 1))) (.op .mul (.lit 4) (.op .shl (.lit 1) (.op .add (.op .rem (.var 32) (.lit 4)) (.lit 1))))) (fun h3=>?_) (fun h3=>?_)
 rotate_left
 ·skip
  refine aM ?_
  exfalso;clear h0 h1 h2;simp only[nn,List.cons_append,List.nil_append,Bool.or_eq_true,aV,ne_eq]at h3;omega
 refine aG (.cmp .eq (.op .mul (.lit 4) (.op .shl (.lit 1) (.op .add (.op .rem (.var 32) (.lit 4)) (.lit 1)))) (.op .shl (.lit 4) (.op .add (.op .rem (.var 32) (.lit 4)) (.lit 1)))) (fun h4=>aH aXh ⟨rfl,rfl⟩) (fun h4=>?_)
 refine aM ?_
 exfalso;clear h0 h1 h2 h3;simp only[nn,List.cons_append,List.nil_append,Bool.or_eq_true,aV,ne_eq]at h4;omega
end Go.Proofs.Ytkpdiehbaiepaaa
