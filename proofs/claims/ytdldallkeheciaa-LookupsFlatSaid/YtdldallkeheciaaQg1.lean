/- What is proved: numbers and tests as closed expressions: what they denote,bounds of them,and tests that are decided by what is known. No condition. -/
import Derived.WalkKit
import Derived.LoopN
import Derived.Scope
import Derived.Orders
import Derived.Below
import Derived.Test.YtdldallkeheciaaProg
import Derived.ChangeKeysEq
import Derived.Laws.CopyRow
import Derived.Laws.MakeOwn
import Derived.Lib.MinMax
import Derived.Carry
import Derived.MapKept
import Derived.WideKeyRuns
set_option linter.unusedSimpArgs false
set_option linter.unusedVariables false
namespace Go.Proofs.Ytdldallkeheciaa
namespace Sx
open Go Go.RowKit
inductive IOp where
 |add|sub|mul|quo|rem|max|min|fdiv|shl
 deriving DecidableEq
def IOp.den:IOp→Int→Int→Int
 | .add,x,y=>x+y
 | .sub,x,y=>x-y
 | .mul,x,y=>x*y
 | .quo,x,y=>x.tdiv y
 | .rem,x,y=>x.tmod y
 | .max,x,y=>if y>x then y else x
 | .min,x,y=>if y<x then y else x
 | .fdiv,x,y=>x.fdiv y
 | .shl,x,y=>x*2 ^ y.toNat
def bT (o:BinOp) (k:IntKind) (x y:Int):Int:=
 let a:=BitVec.ofInt k.bits x
 let b:=BitVec.ofInt k.bits y
 match o with
 | .and=>k.wrap (a &&& b).toNat
 | .or=>k.wrap (a |||b).toNat
 | .xor=>k.wrap (a ^^^ b).toNat
 |_=>k.wrap (a &&& ~~~b).toNat
mutual
inductive E where
 |lit (n:Int)
 |var (i:Nat)
 |op (o:IOp) (a b:E)
 |wrap (k:IntKind) (a:E)
 |bit (o:BinOp) (k:IntKind) (a b:E)
 |app (g:Nat) (l:EL)
inductive EL where
 |nil
 |cons (e:E) (l:EL)
end
section den
variable (G:Nat→List Int→Int) (ρ:Nat→Int)
mutual
def E.den:E→Int
 | .lit n=>n
 | .var i=>ρ i
 | .op o a b=>o.den (E.den a) (E.den b)
 | .wrap k a=>k.wrap (E.den a)
 | .bit o k a b=>bT o k (E.den a) (E.den b)
 | .app g l=>G g (EL.den l)
def EL.den:EL→List Int
 | .nil=>[]
 | .cons e l=>E.den e::EL.den l
end
end den
mutual
def E.eqb:E→E→Bool
 | .lit n,.lit m=>decide (n=m)
 | .var i,.var j=>i ==j
 | .op o a b,.op p c d=>decide (o=p) && E.eqb a c && E.eqb b d
 | .wrap k a,.wrap q b=>decide (k=q) && E.eqb a b
 | .bit o k a b,.bit p q c d=>decide (o=p) && decide (k=q) && E.eqb a c && E.eqb b d
 | .app g l,.app h r=>g ==h && EL.eqb l r
 |_,_=>false
def EL.eqb:EL→EL→Bool
 | .nil,.nil=>true
 | .cons a l,.cons b r=>E.eqb a b && EL.eqb l r
 |_,_=>false
end
mutual
theorem E.eqb_eq:∀ (a b:E),E.eqb a b=true→a=b
 | .lit n,b,h=>by cases b<;>simp [E.eqb]at h;rw[h]
 | .var i,b,h=>by cases b<;>simp [E.eqb]at h;rw[h]
 | .op o a c,b,h=>by
  cases b<;>simp [E.eqb]at h
  rw[h.1.1,E.eqb_eq _ _ h.1.2,E.eqb_eq _ _ h.2]
 | .wrap k a,b,h=>by
  cases b<;>simp [E.eqb]at h
  rw[h.1,E.eqb_eq _ _ h.2]
 | .bit o k a c,b,h=>by
  cases b<;>simp [E.eqb]at h
  rw[h.1.1.1,h.1.1.2,E.eqb_eq _ _ h.1.2,E.eqb_eq _ _ h.2]
 | .app g l,b,h=>by
  cases b<;>simp [E.eqb]at h
  rw[h.1,EL.eqb_eq _ _ h.2]
theorem EL.eqb_eq:∀ (a b:EL),EL.eqb a b=true→a=b
 | .nil,b,h=>by cases b<;>simp [EL.eqb]at h;rfl
 | .cons a l,b,h=>by
  cases b<;>simp [EL.eqb]at h
  rw[E.eqb_eq _ _ h.1,EL.eqb_eq _ _ h.2]
end
inductive COp where
 |lt|le|eq|ne
 deriving DecidableEq
def COp.den:COp→Int→Int→Bool
 | .lt,x,y=>decide (x<y)
 | .le,x,y=>decide (x≤y)
 | .eq,x,y=>decide (x=y)
 | .ne,x,y => !decide (x=y)
inductive B where
 |lit (b:Bool)
 |cmp (o:COp) (a b:E)
 |and (x y:B)
 |or (x y:B)
section
variable (G:Nat→List Int→Int) (ρ:Nat→Int)
def B.den:B→Bool
 | .lit b=>b
 | .cmp o a b=>o.den (a.den G ρ) (b.den G ρ)
 | .and x y=>B.den x && B.den y
 | .or x y=>B.den x ||B.den y
end
def B.neg:B→B
 | .lit b => .lit (!b)
 | .cmp .lt a b => .cmp .le b a
 | .cmp .le a b => .cmp .lt b a
 | .cmp .eq a b => .cmp .ne a b
 | .cmp .ne a b => .cmp .eq a b
 | .and x y => .or (B.neg x) (B.neg y)
 | .or x y => .and (B.neg x) (B.neg y)
theorem B.neg_den (G:Nat→List Int→Int) (ρ:Nat→Int):∀ b:B,b.neg.den G ρ = !b.den G ρ
 | .lit b=>rfl
 | .cmp o a b=>by
  cases o<;>simp only[B.neg,B.den,COp.den,Bool.not_not]<;>rw[Bool.eq_iff_iff]<;>simp
 | .and x y=>by simp [B.neg,B.den,B.neg_den G ρ x,B.neg_den G ρ y,Bool.not_and]
 | .or x y=>by simp [B.neg,B.den,B.neg_den G ρ x,B.neg_den G ρ y,Bool.not_or]
def B.eqb:B→B→Bool
 | .lit a,.lit b=>a ==b
 | .cmp o a b,.cmp p c d=>decide (o=p) && E.eqb a c && E.eqb b d
 | .and x y,.and z u=>B.eqb x z && B.eqb y u
 | .or x y,.or z u=>B.eqb x z && B.eqb y u
 |_,_=>false
theorem B.eqb_eq:∀ (a b:B),B.eqb a b=true→a=b
 | .lit n,b,h=>by cases b<;>simp [B.eqb]at h;rw[h]
 | .cmp o a c,b,h=>by
  cases b<;>simp [B.eqb]at h
  rw[h.1.1,E.eqb_eq _ _ h.1.2,E.eqb_eq _ _ h.2]
 | .and x y,b,h=>by
  cases b<;>simp [B.eqb]at h
  rw[B.eqb_eq _ _ h.1,B.eqb_eq _ _ h.2]
 | .or x y,b,h=>by
  cases b<;>simp [B.eqb]at h
  rw[B.eqb_eq _ _ h.1,B.eqb_eq _ _ h.2]
abbrev fV:=Option (Int × Int)
structure Ctx where
 G:Nat→List Int→Int
 GI:Nat→List fV→fV
 vars:List (Int × Int)
 facts:List B
def fV.has:fV→Int→Prop
 |none,_=>True
 |some p,x=>p.1≤x∧x≤p.2
def dE:List fV→List Int→Prop
 |[],[]=>True
 |i::is,x::xs=>i.has x∧dE is xs
 |_,_=>False
theorem iT (k:IntKind) (n:Int):k.min≤k.wrap n∧k.wrap n≤k.max:=by
 unfold IntKind.min IntKind.max IntKind.wrap
 cases k<;>simp [IntKind.bits,IntKind.signed]<;>(try split)<;>omega
namespace Lc
def pr (a b:Nat):Nat:=2 ^ a*(2*b+1)
def tz:Nat→Nat→Nat
 |0,_=>0
 |f+1,n=>if n % 2=1 then 0 else tz f (n / 2)+1
def od:Nat→Nat→Nat
 |0,n=>n
 |f+1,n=>if n % 2=1 then n / 2 else od f (n / 2)
theorem aOA (a b:Nat):pr (a+1) b=2*pr a b:=by unfold pr;rw[Nat.pow_succ,Nat.mul_comm (2 ^ a) 2,Nat.mul_assoc]
theorem aKt (a b:Nat):0<pr a b:=Nat.mul_pos (Nat.pow_pos (by decide)) (by omega)
theorem aS9:∀ (a b f:Nat),a<f→tz f (pr a b)=a∧od f (pr a b)=b
 |0,b,0,h=>by omega
 |0,b,f+1,_=>by
  have e:pr 0 b=2*b+1:=by unfold pr;omega
  simp only[tz,od,e]
  rw[if_pos (by omega),if_pos (by omega)]
  exact⟨rfl,by omega⟩
 |a+1,b,0,h=>by omega
 |a+1,b,f+1,h=>by
  have ih:=aS9 a b f (by omega)
  simp only[tz,od,aOA]
  rw[if_neg (by omega),if_neg (by omega),show 2*pr a b / 2=pr a b by omega,ih.1,ih.2]
  exact⟨rfl,rfl⟩
theorem aWq (a b:Nat):a<pr a b∧b<pr a b:=by
 have h1:a<2 ^ a:=Nat.lt_two_pow_self
 have h2:2 ^ a*1≤2 ^ a*(2*b+1):=Nat.mul_le_mul_left _ (by omega)
 have h3:1*(2*b+1)≤2 ^ a*(2*b+1):=Nat.mul_le_mul_right _ (by omega)
 unfold pr
 omega
def vB:List Nat→Nat
 |[]=>0
 |a::l=>pr a (vB l)
def aId:Nat→Nat→List Nat
 |0,_=>[]
 |f+1,n=>if n=0 then [] else tz n n::aId f (od n n)
theorem yM:∀ (l:List Nat) (f:Nat),vB l≤f→aId f (vB l)=l
 |[],0,_=>rfl
 |[],f+1,_=>by simp [aId,vB]
 |a::l,0,h=>by
  have:=aKt a (vB l)
  simp only[vB]at h
  omega
 |a::l,f+1,h=>by
  simp only[vB]at h ⊢
  have h0:=aKt a (vB l)
  have h1:=aWq a (vB l)
  obtain⟨t1,t2⟩:=aS9 a (vB l) (pr a (vB l)) h1.1
  simp only[aId]
  rw[if_neg (by omega),t1,t2,yM l f (by omega)]
def z:Int→Nat
 | .ofNat n=>2*n
 | .negSucc n=>2*n+1
def uz (n:Nat):Int:=if n % 2=0 then .ofNat (n / 2) else .negSucc (n / 2)
theorem aXw (x:Int):uz (z x)=x:=by
 cases x with
 |ofNat n=>unfold uz z;simp only;rw[if_pos (by omega)];congr 1;omega
 |negSucc n=>unfold uz z;simp only;rw[if_neg (by omega)];congr 1;omega
def aWb (r:List Int):Nat:=vB (r.map z)
def aU4 (n:Nat):List Int:=(aId n n).map uz
theorem aMn (r:List Int):aU4 (aWb r)=r:=by
 unfold aU4 aWb
 rw[yM _ _ (Nat.le_refl _),List.map_map]
 conv=>rhs;rw[←List.map_id r]
 congr 1;funext x;exact aXw x
def enc (L:List (List Int)):Int:=(vB (L.map aWb):Nat)
def dec (x:Int):List (List Int):=(aId x.toNat x.toNat).map aU4
theorem dec_enc (L:List (List Int)):dec (enc L)=L:=by
 unfold dec enc
 rw[Int.toNat_natCast,yM _ _ (Nat.le_refl _),List.map_map]
 conv=>rhs;rw[←List.map_id L]
 congr 1;funext r;exact aMn r
theorem dec_zero:dec 0=[]:=rfl
def row (x i:Int):List Int:=(dec x).getD i.toNat []
def rd (x i j:Int):Int:=(row x i).getD j.toNat 0
def rowPut (w j:Nat) (r row:List Int):List Int:=(List.range w).map fun q=>if j≤q∧q<j+r.length then r.getD (q-j) 0 else row.getD q 0
def gH (n:Nat):Int:=if n≤4611686018427387904 then (n:Int) else 4611686018427387904
def kNo:IntKind→Nat
 | .i8=>0 | .i16=>1 | .i32=>2 | .i64=>3 | .u8=>4 | .u16=>5 | .u32=>6 | .u64=>7
def rd3:List Int→Int
 |[x,i,j]=>rd x i j
 |_=>0
def aVN:List Int→Int
 |[x]=>gH (dec x).length
 |_=>0
theorem aSH (n:Nat):0≤gH n∧gH n≤4611686018427387904:=by unfold gH;split<;>omega
theorem aRB:∀ xs:List Int,0≤aVN xs∧aVN xs≤4611686018427387904
 |[x]=>aSH _
 |[]=>by decide
 |_::_::_=>⟨Int.le_refl 0,(by decide:(0:Int)≤4611686018427387904)⟩
def op91:List Int→Int
 |x::r=>enc (dec x++[r])
 |_=>0
def op92:List Int→Int
 |x::i::r=>enc ((dec x).set i.toNat r)
 |_=>0
def op93:List Int→Int
 |x::i::j::w::r=>enc ((dec x).modify i.toNat (rowPut w.toNat j.toNat r))
 |_=>0
def op94:List Int→Int
 |[a,b]=>enc (dec a++dec b)
 |_=>0
def op95:List Int→Int
 |[a,off,n]=>enc (((dec a).drop off.toNat).take n.toNat)
 |_=>0
def op96:List Int→Int
 |n::r=>enc (List.replicate n.toNat r)
 |_=>0
def fn (g:Nat) (xs:List Int):Int:=
 match g with
 |80=>IntKind.i8.wrap (rd3 xs)
 |81=>IntKind.i16.wrap (rd3 xs)
 |82=>IntKind.i32.wrap (rd3 xs)
 |83=>IntKind.i64.wrap (rd3 xs)
 |84=>IntKind.u8.wrap (rd3 xs)
 |85=>IntKind.u16.wrap (rd3 xs)
 |86=>IntKind.u32.wrap (rd3 xs)
 |87=>IntKind.u64.wrap (rd3 xs)
 |88=>rd3 xs
 |90=>aVN xs
 |91=>op91 xs
 |92=>op92 xs
 |93=>op93 xs
 |94=>op94 xs
 |95=>op95 xs
 |96=>op96 xs
 |_=>0
def fnI (g:Nat):fV:=
 match g with
 |80=>some (-128,127)
 |81=>some (-32768,32767)
 |82=>some (-2147483648,2147483647)
 |83=>some (-9223372036854775808,9223372036854775807)
 |84=>some (0,255)
 |85=>some (0,65535)
 |86=>some (0,4294967295)
 |87=>some (0,18446744073709551615)
 |90=>some (0,4611686018427387904)
 |_=>none
theorem fnI_ok (g:Nat) (xs:List Int):(fnI g).has (fn g xs):=by
 unfold fnI fn
 split
 ·exact iT .i8 _
 ·exact iT .i16 _
 ·exact iT .i32 _
 ·exact iT .i64 _
 ·exact iT .u8 _
 ·exact iT .u16 _
 ·exact iT .u32 _
 ·exact iT .u64 _
 ·exact aRB _
 ·trivial
theorem fn_rd (k:IntKind) (x i j:Int):fn (80+kNo k) [x,i,j]=k.wrap (rd x i j):=by cases k<;>rfl
end Lc
def aJJ (G:Nat→List Int→Int):Prop:=∀ g xs,80≤g→g<100→G g xs=Lc.fn g xs
structure GiOk (G:Nat→List Int→Int) (GI:Nat→List fV→fV):Prop where
 gi:∀ g is xs,dE is xs→(GI g is).has (G g xs)
 lists:aJJ G
structure Ctx.Ok (X:Ctx) (ρ:Nat→Int):Prop where
 vars:∀ i p,X.vars[i]?=some p→p.1≤ρ i∧ρ i≤p.2
 facts:∀ b,b ∈ X.facts→b.den X.G ρ=true
 gi:GiOk X.G X.GI
def lU (a b:Int):Int:=if a≤b then a else b
def nH (a b:Int):Int:=if a≤b then b else a
def fV.op:IOp→(Int × Int)→(Int × Int)→fV
 | .add,p,q=>some (p.1+q.1,p.2+q.2)
 | .sub,p,q=>some (p.1-q.2,p.2-q.1)
 | .mul,p,q=>some (lU (lU (p.1*q.1) (p.1*q.2)) (lU (p.2*q.1) (p.2*q.2)),nH (nH (p.1*q.1) (p.1*q.2)) (nH (p.2*q.1) (p.2*q.2)))
 | .max,p,q=>some (nH p.1 q.1,nH p.2 q.2)
 | .min,p,q=>some (lU p.1 q.1,lU p.2 q.2)
 | .quo,p,q=>if 0<q.1 then (if decide (q.1=q.2) && decide (0≤p.1) then some (p.1 / q.1,p.2 / q.1) else some (lU p.1 0,nH p.2 0)) else none
 | .rem,p,q=>if 0<q.1 then some (if 0≤p.1 then 0 else 1-q.2,if 0≤p.1 then lU p.2 (q.2-1) else q.2-1) else none
 | .fdiv,p,q=>if 0<q.1 && decide (q.1=q.2) then some (p.1 / q.1,p.2 / q.1) else if 0<q.1 && decide (0≤p.1) then some (0,p.2) else none
 | .shl,p,q=>if 0≤p.1 && decide (q.2≤64) then some (p.1*2 ^ q.1.toNat,p.2*2 ^ q.2.toNat) else none
theorem aTU (x y a b c d:Int) (h1:a≤x) (h2:x≤b) (h3:c≤y) (h4:y≤d):
  (a*c≤x*y∨a*d≤x*y∨b*c≤x*y∨b*d≤x*y)∧(x*y≤a*c∨x*y≤a*d∨x*y≤b*c∨x*y≤b*d):=by
 rcases Int.le_total 0 y with hy|hy
 ·have e1:a*y≤x*y:=Int.mul_le_mul_of_nonneg_right h1 hy
  have e2:x*y≤b*y:=Int.mul_le_mul_of_nonneg_right h2 hy
  refine⟨?_,?_⟩
  ·rcases Int.le_total 0 a with ha|ha
   ·have:=Int.mul_le_mul_of_nonneg_left h3 ha;left;omega
   ·have:=Int.mul_le_mul_of_nonpos_left ha h4;right;left;omega
  ·rcases Int.le_total 0 b with hb|hb
   ·have:=Int.mul_le_mul_of_nonneg_left h4 hb;right;right;right;omega
   ·have:=Int.mul_le_mul_of_nonpos_left hb h3;right;right;left;omega
 ·have e1:b*y≤x*y:=Int.mul_le_mul_of_nonpos_right h2 hy
  have e2:x*y≤a*y:=Int.mul_le_mul_of_nonpos_right h1 hy
  refine⟨?_,?_⟩
  ·rcases Int.le_total 0 b with hb|hb
   ·have:=Int.mul_le_mul_of_nonneg_left h3 hb;right;right;left;omega
   ·have:=Int.mul_le_mul_of_nonpos_left hb h4;right;right;right;omega
  ·rcases Int.le_total 0 a with ha|ha
   ·have:=Int.mul_le_mul_of_nonneg_left h4 ha;right;left;omega
   ·have:=Int.mul_le_mul_of_nonpos_left ha h3;left;omega
theorem aHU (x y:Int) (hy:0<y):(0≤x→0≤x.tdiv y∧x.tdiv y≤x)∧(x≤0→x≤x.tdiv y∧x.tdiv y≤0):=by
 refine⟨fun h=>?_,fun h=>?_⟩
 ·rw[Int.tdiv_eq_ediv_of_nonneg h]
  exact⟨Int.ediv_nonneg h (by omega),Int.ediv_le_self _ h⟩
 ·have e:x.tdiv y = -((-x).tdiv y):=by rw[Int.neg_tdiv];omega
  rw[e,Int.tdiv_eq_ediv_of_nonneg (by omega:0 ≤ -x)]
  have h1:=Int.ediv_nonneg (a := -x) (b:=y) (by omega) (by omega)
  have h2:=Int.ediv_le_self (a := -x) y (by omega)
  omega
theorem aOI (x y:Int) (hy:0<y):(0≤x→0≤x.tmod y∧x.tmod y≤x∧x.tmod y<y) ∧ -y<x.tmod y∧x.tmod y<y:=by
 refine⟨fun h=>?_,?_⟩
 ·rw[Int.tmod_eq_emod_of_nonneg h]
  have:=Int.emod_nonneg x (show y≠0 by omega)
  have:=Int.emod_lt_of_pos x hy
  have e:=Int.mul_ediv_add_emod x y
  have:=Int.mul_nonneg (show (0:Int)≤y by omega) (Int.ediv_nonneg h (show (0:Int)≤y by omega))
  omega
 ·rcases Int.le_total 0 x with h|h
  ·rw[Int.tmod_eq_emod_of_nonneg h]
   have:=Int.emod_nonneg x (show y≠0 by omega)
   have:=Int.emod_lt_of_pos x hy
   omega
  ·have e:x.tmod y = -((-x).tmod y):=by rw[Int.neg_tmod];omega
   rw[e,Int.tmod_eq_emod_of_nonneg (by omega:0 ≤ -x)]
   have:=Int.emod_nonneg (-x) (show y≠0 by omega)
   have:=Int.emod_lt_of_pos (-x) hy
   omega
theorem aD6 {a b:Nat} (h:a≤b):(2:Int) ^ a≤2 ^ b:=by
 obtain⟨c,rfl⟩:=Nat.exists_eq_add_of_le h
 rw[Int.pow_add]
 have p0:(0:Int)<2 ^ a:=Int.pow_pos (by decide)
 have p1:(0:Int)<2 ^ c:=Int.pow_pos (by decide)
 have:=Int.mul_le_mul_of_nonneg_left (show (1:Int)≤2 ^ c by omega) (show (0:Int)≤2 ^ a by omega)
 omega
theorem fV.op_has (o:IOp) (p q:Int × Int) (x y:Int) (hx:p.1≤x∧x≤p.2) (hy:q.1≤y∧y≤q.2):(fV.op o p q).has (o.den x y):=by
 obtain⟨a,b⟩:=p
 obtain⟨c,d⟩:=q
 obtain⟨h1,h2⟩:=hx
 obtain⟨h3,h4⟩:=hy
 simp only at h1 h2 h3 h4
 cases o<;>simp only[fV.op,IOp.den]
 case add=>simp only[fV.has];omega
 case sub=>simp only[fV.has];omega
 case mul=>
  obtain⟨m1,m2⟩:=aTU x y a b c d h1 h2 h3 h4
  simp only[fV.has]
  generalize a*c=p1 at *
  generalize a*d=p2 at *
  generalize b*c=p3 at *
  generalize b*d=p4 at *
  generalize x*y=z at *
  unfold lU nH
  refine⟨?_,?_⟩<;>(repeat' split)<;>omega
 case max=>simp only[fV.has];unfold nH;refine⟨?_,?_⟩<;>(repeat' split)<;>omega
 case min=>simp only[fV.has];unfold lU;refine⟨?_,?_⟩<;>(repeat' split)<;>omega
 case quo=>
  split
  ·rename_i hc
   split
   ·rename_i hl
    simp only[Bool.and_eq_true,decide_eq_true_eq]at hl
    have hyc:y=c:=by omega
    subst hyc
    rw[Int.tdiv_eq_ediv_of_nonneg (by omega)]
    exact⟨Int.ediv_le_ediv (by omega) h1,Int.ediv_le_ediv (by omega) h2⟩
   obtain⟨t1,t2⟩:=aHU x y (by omega)
   simp only[fV.has]
   generalize x.tdiv y=z at *
   unfold lU nH
   rcases Int.le_total 0 x with hx|hx
   ·have:=t1 hx;refine⟨?_,?_⟩<;>(repeat' split)<;>omega
   ·have:=t2 hx;refine⟨?_,?_⟩<;>(repeat' split)<;>omega
  ·trivial
 case rem=>
  split
  ·rename_i hc
   obtain⟨t1,t2⟩:=aOI x y (by omega)
   simp only[fV.has]
   generalize x.tmod y=z at *
   unfold lU
   rcases Int.le_total 0 x with hx|hx
   ·have:=t1 hx;refine⟨?_,?_⟩<;>(repeat' split)<;>omega
   ·refine⟨?_,?_⟩<;>(repeat' split)<;>first|omega|(have:=t1 (by omega);omega)
  ·trivial
 case fdiv=>
  split
  ·rename_i hc
   simp only[Bool.and_eq_true,decide_eq_true_eq]at hc
   obtain⟨hc,hd⟩:=hc
   have hyc:y=c:=by omega
   subst hyc
   rw[Int.fdiv_eq_ediv_of_nonneg x (by omega)]
   exact⟨Int.ediv_le_ediv (by omega) h1,Int.ediv_le_ediv (by omega) h2⟩
  ·split
   ·rename_i hc
    simp only[Bool.and_eq_true,decide_eq_true_eq]at hc
    rw[Int.fdiv_eq_ediv_of_nonneg x (by omega)]
    have t1:=(aHU x y (by omega)).1 (by omega)
    rw[Int.tdiv_eq_ediv_of_nonneg (by omega)]at t1
    simp only[fV.has]
    omega
   ·trivial
 case shl=>
  split
  ·rename_i hc
   simp only[Bool.and_eq_true,decide_eq_true_eq]at hc
   have e1:(2:Int) ^ c.toNat≤2 ^ y.toNat:=aD6 (by omega)
   have e2:(2:Int) ^ y.toNat≤2 ^ d.toNat:=aD6 (by omega)
   have p0:(0:Int)<2 ^ c.toNat:=Int.pow_pos (by decide)
   exact⟨Int.mul_le_mul h1 e1 (by omega) (by omega),Int.mul_le_mul h2 e2 (by omega) (by omega)⟩
  ·trivial
theorem iO (k:IntKind) (n:Int) (h1:k.min≤n) (h2:n≤k.max):k.wrap n=n:=by
 unfold IntKind.min IntKind.max at *
 unfold IntKind.wrap
 cases k<;>simp [IntKind.bits,IntKind.signed]at * <;> (try split)<;>omega
theorem aI8 (o:BinOp) (k:IntKind) (x y:Int):k.min≤bT o k x y∧bT o k x y≤k.max:=by
 unfold bT
 cases o<;>exact iT _ _
theorem aVp (k:IntKind) (x y:Int) (h0:0≤y) (h1:y≤k.max):0≤bT .and k x y∧bT .and k x y≤y:=by
 have hb:y<2 ^ k.bits:=by
  have:k.max<2 ^ k.bits:=by cases k<;>decide
  omega
 have e:(BitVec.ofInt k.bits y).toNat=y.toNat:=by
  rw[BitVec.toNat_ofInt]
  congr 1
  exact Int.emod_eq_of_lt h0 (by simpa using hb)
 have hn:(BitVec.ofInt k.bits x &&& BitVec.ofInt k.bits y).toNat≤y.toNat:=by
  rw[BitVec.toNat_and,e];exact Nat.and_le_right
 have hm:k.min≤0:=by cases k<;>decide
 have hw:k.wrap ((BitVec.ofInt k.bits x &&& BitVec.ofInt k.bits y).toNat:Int)=((BitVec.ofInt k.bits x &&& BitVec.ofInt k.bits y).toNat:Int):=iO k _ (by omega) (by omega)
 show 0≤k.wrap ((BitVec.ofInt k.bits x &&& BitVec.ofInt k.bits y).toNat:Int)∧_≤y
 rw[show bT .and k x y=k.wrap ((BitVec.ofInt k.bits x &&& BitVec.ofInt k.bits y).toNat:Int)from rfl,hw]
 omega
def aEW (o:BinOp) (k:IntKind) (i j:fV):fV:=
 match i,j with
 |some p,some q=>if p.1=p.2∧q.1=q.2 then some (bT o k p.1 q.1,bT o k p.1 q.1) else if o = .and∧0≤q.1∧q.2≤k.max then some (0,q.2) else some (k.min,k.max)
 |_,_=>some (k.min,k.max)
theorem aFx {o:BinOp} {k:IntKind} {i j:fV} {x y:Int} (hx:i.has x) (hy:j.has y):(aEW o k i j).has (bT o k x y):=by
 unfold aEW
 split
 ·rename_i p q
  have hx:p.1≤x∧x≤p.2:=hx
  have hy:q.1≤y∧y≤q.2:=hy
  split
  ·rename_i h
   have e1:x=p.1:=by omega
   have e2:y=q.1:=by omega
   rw[e1,e2]
   exact⟨Int.le_refl _,Int.le_refl _⟩
  ·split
   ·rename_i h
    obtain⟨rfl,h1,h2⟩:=h
    have:=aVp k x y (by omega) (by omega)
    show 0≤bT .and k x y∧bT .and k x y≤q.2
    omega
   ·exact aI8 _ _ _ _
 ·exact aI8 _ _ _ _
def sI (e:E) (f:B) (p:Int × Int):Int × Int:=
 match f with
 | .cmp .le a (.lit n)=>if E.eqb a e then (p.1,lU p.2 n) else p
 | .cmp .lt a (.lit n)=>if E.eqb a e then (p.1,lU p.2 (n-1)) else p
 | .cmp .le (.lit n) a=>if E.eqb a e then (nH p.1 n,p.2) else p
 | .cmp .lt (.lit n) a=>if E.eqb a e then (nH p.1 (n+1),p.2) else p
 | .cmp .eq a (.lit n)=>if E.eqb a e then (nH p.1 n,lU p.2 n) else p
 | .cmp .ne a (.lit n)=>if E.eqb a e then (if decide (p.1=n) then (n+1,p.2) else if decide (p.2=n) then (p.1,n-1) else p) else p
 |_=>p
theorem zO (G:Nat→List Int→Int) (ρ:Nat→Int) (e:E) (f:B) (p:Int × Int) (hf:f.den G ρ=true) (h:p.1≤e.den G ρ∧e.den G ρ≤p.2):
  (sI e f p).1≤e.den G ρ∧e.den G ρ≤(sI e f p).2:=by
 obtain⟨h1,h2⟩:=h
 unfold sI
 split
 ·rename_i a n
  split
  ·rename_i he
   have ee:=E.eqb_eq _ _ he
   subst ee
   have hf':a.den G ρ≤n:=of_decide_eq_true hf
   simp only[lU]
   refine⟨h1,?_⟩
   split<;>omega
  ·exact⟨h1,h2⟩
 ·rename_i a n
  split
  ·rename_i he
   have ee:=E.eqb_eq _ _ he
   subst ee
   have hf':a.den G ρ<n:=of_decide_eq_true hf
   simp only[lU]
   refine⟨h1,?_⟩
   split<;>omega
  ·exact⟨h1,h2⟩
 ·rename_i n a _
  split
  ·rename_i he
   have ee:=E.eqb_eq _ _ he
   subst ee
   have hf':n≤a.den G ρ:=of_decide_eq_true hf
   simp only[nH]
   refine⟨?_,h2⟩
   split<;>omega
  ·exact⟨h1,h2⟩
 ·rename_i n a _
  split
  ·rename_i he
   have ee:=E.eqb_eq _ _ he
   subst ee
   have hf':n<a.den G ρ:=of_decide_eq_true hf
   simp only[nH]
   refine⟨?_,h2⟩
   split<;>omega
  ·exact⟨h1,h2⟩
 ·rename_i a n
  split
  ·rename_i he
   have ee:=E.eqb_eq _ _ he
   subst ee
   have hf':a.den G ρ=n:=of_decide_eq_true hf
   simp only[lU,nH]
   refine⟨?_,?_⟩<;>split<;>omega
  ·exact⟨h1,h2⟩
 ·rename_i a n
  split
  ·rename_i he
   have ee:=E.eqb_eq _ _ he
   subst ee
   have hf':¬a.den G ρ=n:=by
    have hf2:(!decide (a.den G ρ=n))=true:=hf
    simpa using hf2
   split
   ·rename_i hp
    simp only[decide_eq_true_eq]at hp
    refine⟨?_,h2⟩
    show n+1≤_
    omega
   ·split
    ·rename_i hp
     simp only[decide_eq_true_eq]at hp
     refine⟨h1,?_⟩
     show _≤n-1
     omega
    ·exact⟨h1,h2⟩
  ·exact⟨h1,h2⟩
 ·exact⟨h1,h2⟩
def mW (e:E):List B→Int × Int→Int × Int
 |[],p=>p
 |f::fs,p=>sI e f (mW e fs p)
theorem mT (G:Nat→List Int→Int) (ρ:Nat→Int) (e:E):∀ (fs:List B) (p:Int × Int),(∀ b,b ∈ fs→b.den G ρ=true)→p.1≤e.den G ρ∧e.den G ρ≤p.2→
  (mW e fs p).1≤e.den G ρ∧e.den G ρ≤(mW e fs p).2
 |[],_,_,h=>h
 |f::fs,p,hf,h=>zO G ρ e f _ (hf f (by simp)) (mT G ρ e fs p (fun b hb=>hf b (by simp [hb])) h)
def aQu (i:Nat):B→Bool
 | .cmp _ (.var j) (.lit _)=>i ==j
 | .cmp _ (.lit _) (.var j)=>i ==j
 |_=>false
def aNU (g:Nat):B→Bool
 | .cmp _ (.app h _) (.lit _)=>g ==h
 | .cmp _ (.lit _) (.app h _)=>g ==h
 |_=>false
def aT0 (o:IOp):B→Bool
 | .cmp _ (.op p _ _) (.lit _)=>decide (o=p)
 | .cmp _ (.lit _) (.op p _ _)=>decide (o=p)
 |_=>false
def Ctx.hits (X:Ctx):E→List B
 | .var i=>X.facts.filter (aQu i)
 | .app g _=>X.facts.filter (aNU g)
 | .op o _ _=>X.facts.filter (aT0 o)
 |_=>[]
theorem Ctx.hits_mem {X:Ctx} {e:E} {b:B} (h:b ∈ X.hits e):b ∈ X.facts:=by
 unfold Ctx.hits at h
 split at h
 ·exact(List.mem_filter.1 h).1
 ·exact(List.mem_filter.1 h).1
 ·exact(List.mem_filter.1 h).1
 ·cases h
def Ctx.narrowed (X:Ctx) (e:E):fV→fV
 |none=>none
 |some p=>some (mW e (X.hits e) (mW e (X.hits e) p))
mutual
def E.itv (X:Ctx):E→fV
 | .lit n=>some (n,n)
 | .var i=>X.narrowed (.var i) X.vars[i]?
 | .op o a b=>
  match E.itv X a,E.itv X b with
  |some p,some q=>X.narrowed (.op o a b) (fV.op o p q)
  |_,_=>none
 | .wrap k _=>some (k.min,k.max)
 | .bit o k a b=>aEW o k (E.itv X a) (E.itv X b)
 | .app g l=>X.narrowed (.app g l) (X.GI g (EL.itv X l))
def EL.itv (X:Ctx):EL→List fV
 | .nil=>[]
 | .cons e l=>E.itv X e::EL.itv X l
end
theorem Ctx.narrowed_has {X:Ctx} {ρ:Nat→Int} (hX:X.Ok ρ) (e:E) (i:fV) (h:i.has (e.den X.G ρ)):(X.narrowed e i).has (e.den X.G ρ):=by
 cases i with
 |none=>trivial
 |some p=>exact mT X.G ρ e (X.hits e) _ (fun b hb=>hX.facts b (Ctx.hits_mem hb)) (mT X.G ρ e (X.hits e) p (fun b hb=>hX.facts b (Ctx.hits_mem hb)) h)
mutual
theorem E.itv_has {X:Ctx} {ρ:Nat→Int} (hX:X.Ok ρ):∀ e:E,(E.itv X e).has (e.den X.G ρ)
 | .lit n=>by simp [E.itv,fV.has,E.den]
 | .var i=>by
  unfold E.itv
  refine Ctx.narrowed_has hX _ _ ?_
  cases h:X.vars[i]? with
  |none=>trivial
  |some p=>exact hX.vars i p h
 | .op o a b=>by
  have ha:=E.itv_has hX a
  have hb:=E.itv_has hX b
  unfold E.itv
  split
  ·rename_i p q hp hq
   rw[hp]at ha
   rw[hq]at hb
   exact Ctx.narrowed_has hX _ _ (fV.op_has o p q _ _ ha hb)
  ·trivial
 | .wrap k a=>iT _ _
 | .bit o k a b=>aFx (E.itv_has hX a) (E.itv_has hX b)
 | .app g l=>by
  unfold E.itv
  exact Ctx.narrowed_has hX _ _ (hX.gi.gi g _ _ (EL.itv_has hX l))
theorem EL.itv_has {X:Ctx} {ρ:Nat→Int} (hX:X.Ok ρ):∀ l:EL,dE (EL.itv X l) (l.den X.G ρ)
 | .nil=>trivial
 | .cons e l=>⟨E.itv_has hX e,EL.itv_has hX l⟩
end
def E.const? (X:Ctx) (e:E):Option Int:=
 match e with
 | .lit n=>some n
 |e=>match E.itv X e with
  |some (a,b)=>if decide (a=b) then some a else none
  |none=>none
theorem E.const_eq {X:Ctx} {ρ:Nat→Int} (hX:X.Ok ρ) {e:E} {n:Int} (h:e.const? X=some n):e.den X.G ρ=n:=by
 have hi:=E.itv_has hX e
 unfold E.const? at h
 split at h
 ·cases h;rfl
 ·split at h
  ·rename_i a b he
   rw[he]at hi
   split at h
   ·rename_i hab
    cases h
    simp only[decide_eq_true_eq]at hab
    simp only[fV.has]at hi
    omega
   ·cases h
  ·cases h
structure Ord3 where
 lt:Bool
 eq:Bool
 gt:Bool
def Ord3.has (o:Ord3) (x y:Int):Prop:=(x<y→o.lt=true)∧(x=y→o.eq=true)∧(y<x→o.gt=true)
def COp.ord:COp→Ord3
 | .lt=>⟨true,false,false⟩
 | .le=>⟨true,true,false⟩
 | .eq=>⟨false,true,false⟩
 | .ne=>⟨true,false,true⟩
def Ord3.flip (o:Ord3):Ord3:=⟨o.gt,o.eq,o.lt⟩
def Ord3.meet (o p:Ord3):Ord3:=⟨o.lt && p.lt,o.eq && p.eq,o.gt && p.gt⟩
theorem Ord3.meet_has {o p:Ord3} {x y:Int} (h:o.has x y) (g:p.has x y):(o.meet p).has x y:=by
 unfold Ord3.has Ord3.meet at *
 simp only[Bool.and_eq_true]
 exact⟨fun e=>⟨h.1 e,g.1 e⟩,fun e=>⟨h.2.1 e,g.2.1 e⟩,fun e=>⟨h.2.2 e,g.2.2 e⟩⟩
theorem COp.ord_has {o:COp} {x y:Int} (h:o.den x y=true):o.ord.has x y:=by
 cases o<;>simp only[COp.den,decide_eq_true_eq,Bool.not_eq_true',decide_eq_false_iff_not]at h<;>simp only[COp.ord,Ord3.has]<;>simp<;>omega
theorem Ord3.flip_has {o:Ord3} {x y:Int} (h:o.has x y):o.flip.has y x:=⟨h.2.2,fun e=>h.2.1 e.symm,h.1⟩
def kZ (a b:E):List B→Ord3→Ord3
 |[],o=>o
 | .cmp c x y::fs,o=>
  if E.eqb x a && E.eqb y b then kZ a b fs (o.meet c.ord)
  else if E.eqb x b && E.eqb y a then kZ a b fs (o.meet c.ord.flip)
  else kZ a b fs o
 |_::fs,o=>kZ a b fs o
theorem eW (G:Nat→List Int→Int) (ρ:Nat→Int) (a b:E):∀ (fs:List B) (o:Ord3),(∀ f,f ∈ fs→f.den G ρ=true)→o.has (a.den G ρ) (b.den G ρ)→(kZ a b fs o).has (a.den G ρ) (b.den G ρ)
 |[],_,_,h=>h
 | .lit _::fs,o,hf,h=>eW G ρ a b fs o (fun f hm=>hf f (by simp [hm])) h
 | .and _ _::fs,o,hf,h=>eW G ρ a b fs o (fun f hm=>hf f (by simp [hm])) h
 | .or _ _::fs,o,hf,h=>eW G ρ a b fs o (fun f hm=>hf f (by simp [hm])) h
 | .cmp c x y::fs,o,hf,h=>by
  have hc:=hf (.cmp c x y) (by simp)
  simp only[B.den]at hc
  unfold kZ
  split
  ·rename_i he
   simp only[Bool.and_eq_true]at he
   rw[E.eqb_eq _ _ he.1,E.eqb_eq _ _ he.2]at hc
   exact eW G ρ a b fs _ (fun f hm=>hf f (by simp [hm])) (Ord3.meet_has h (COp.ord_has hc))
  ·split
   ·rename_i he
    simp only[Bool.and_eq_true]at he
    rw[E.eqb_eq _ _ he.1,E.eqb_eq _ _ he.2]at hc
    exact eW G ρ a b fs _ (fun f hm=>hf f (by simp [hm])) (Ord3.meet_has h (Ord3.flip_has (COp.ord_has hc)))
   ·exact eW G ρ a b fs o (fun f hm=>hf f (by simp [hm])) h
def aFr:fV→fV→Ord3
 |some p,some q=>⟨decide (p.1<q.2),decide (p.1≤q.2) && decide (q.1≤p.2),decide (q.1<p.2)⟩
 |_,_=>⟨true,true,true⟩
theorem aE1 {i j:fV} {x y:Int} (h:i.has x) (g:j.has y):(aFr i j).has x y:=by
 cases i<;>cases j<;>simp only[aFr,Ord3.has,fV.has]at * <;> simp<;>omega
def COp.dec (c:COp) (o:Ord3):Option Bool:=
 let s:=c.ord
 if (!o.lt ||s.lt) && (!o.eq ||s.eq) && (!o.gt ||s.gt) then some true
 else if (!o.lt || !s.lt) && (!o.eq || !s.eq) && (!o.gt || !s.gt) then some false
 else none
theorem COp.dec_eq {c:COp} {o:Ord3} {x y:Int} (h:o.has x y) {r:Bool} (hr:c.dec o=some r):c.den x y=r:=by
 obtain⟨l,e,g⟩:=o
 unfold Ord3.has at h
 simp only at h
 unfold COp.dec at hr
 rcases Int.lt_trichotomy x y with t|t|t
 ·have h1:=h.1 t
  subst h1
  cases c<;>simp [COp.ord,COp.den]at hr ⊢ <;> (try (split at hr))<;>simp_all<;>omega
 ·have h1:=h.2.1 t
  subst h1
  cases c<;>simp [COp.ord,COp.den]at hr ⊢ <;> (try (split at hr))<;>simp_all
 ·have h1:=h.2.2 t
  subst h1
  cases c<;>simp [COp.ord,COp.den]at hr ⊢ <;> (try (split at hr))<;>simp_all<;>omega
def Ctx.whole (X:Ctx) (b:B):Option Bool:=
 if X.facts.any (fun f=>B.eqb f b) then some true else if X.facts.any (fun f=>B.eqb f b.neg) then some false else none
theorem Ctx.whole_eq {X:Ctx} {ρ:Nat→Int} (hX:X.Ok ρ) {b:B} {r:Bool} (h:X.whole b=some r):b.den X.G ρ=r:=by
 unfold Ctx.whole at h
 split at h
 ·rename_i g
  cases h
  obtain⟨f,hf,e⟩:=List.any_eq_true.1 g
  rw[←B.eqb_eq _ _ e];exact hX.facts f hf
 ·split at h
  ·rename_i g
   cases h
   obtain⟨f,hf,e⟩:=List.any_eq_true.1 g
   have:=hX.facts f hf
   rw[B.eqb_eq _ _ e,B.neg_den]at this
   simpa using this
  ·cases h
def B.dec (X:Ctx):B→Option Bool
 | .lit b=>some b
 | .cmp o a b=>if E.eqb a b then o.dec ⟨false,true,false⟩ else o.dec (kZ a b X.facts (aFr (a.itv X) (b.itv X)))
 | .and x y=>
  match B.dec X x,B.dec X y with
  |some false,_=>some false
  |_,some false=>some false
  |some true,some true=>some true
  |_,_=>X.whole (.and x y)
 | .or x y=>
  match B.dec X x,B.dec X y with
  |some true,_=>some true
  |_,some true=>some true
  |some false,some false=>some false
  |_,_=>X.whole (.or x y)
theorem B.dec_eq {X:Ctx} {ρ:Nat→Int} (hX:X.Ok ρ):∀ (b:B) {r:Bool},b.dec X=some r→b.den X.G ρ=r
 | .lit b,r,h=>by simpa [B.dec,B.den]using h
 | .cmp o a b,r,h=>by
  unfold B.dec at h
  split at h
  ·rename_i he
   rw[E.eqb_eq _ _ he]
   exact COp.dec_eq (o:=⟨false,true,false⟩) ⟨fun e=>by omega,fun _=>rfl,fun e=>by omega⟩ h
  ·exact COp.dec_eq (eW X.G ρ a b X.facts _ hX.facts (aE1 (E.itv_has hX a) (E.itv_has hX b))) h
 | .and x y,r,h=>by
  have hx := @B.dec_eq X ρ hX x
  have hy := @B.dec_eq X ρ hX y
  unfold B.dec at h
  split at h
  ·simp_all [B.den]
  ·simp_all [B.den]
  ·simp_all [B.den]
  ·exact Ctx.whole_eq hX h
 | .or x y,r,h=>by
  have hx := @B.dec_eq X ρ hX x
  have hy := @B.dec_eq X ρ hX y
  unfold B.dec at h
  split at h
  ·simp_all [B.den]
  ·simp_all [B.den]
  ·simp_all [B.den]
  ·exact Ctx.whole_eq hX h
def B.atom (X:Ctx):B→B
 | .and x y=>match B.dec X x with|none=>B.atom X x|some _=>B.atom X y
 | .or x y=>match B.dec X x with|none=>B.atom X x|some _=>B.atom X y
 |b=>b
def E.mkOp (o:IOp) (a b:E):E:=
 match a,b with
 | .lit x,.lit y => .lit (o.den x y)
 |a,.lit y=>if decide (y=0) && (decide (o = .add) ||decide (o = .sub)) then a else if decide (y=1) && decide (o = .mul) then a else if decide (y=0) && decide (o = .mul) then .lit 0 else .op o a (.lit y)
 | .lit x,b=>if decide (x=0) && decide (o = .add) then b else if decide (x=1) && decide (o = .mul) then b else if decide (x=0) && decide (o = .mul) then .lit 0 else .op o (.lit x) b
 |a,b => .op o a b
theorem E.mkOp_den (G:Nat→List Int→Int) (ρ:Nat→Int) (o:IOp) (a b:E):(E.mkOp o a b).den G ρ=o.den (a.den G ρ) (b.den G ρ):=by
 unfold E.mkOp
 split
 ·rfl
 ·split
  ·rename_i h
   simp only[Bool.and_eq_true,Bool.or_eq_true,decide_eq_true_eq]at h
   obtain⟨rfl,rfl|rfl⟩:=h<;>simp [IOp.den,E.den]
  ·split
   ·rename_i h
    simp only[Bool.and_eq_true,decide_eq_true_eq]at h
    obtain⟨rfl,rfl⟩:=h
    simp [IOp.den,E.den]
   ·split
    ·rename_i h
     simp only[Bool.and_eq_true,decide_eq_true_eq]at h
     obtain⟨rfl,rfl⟩:=h
     simp [IOp.den,E.den]
    ·rfl
 ·split
  ·rename_i h
   simp only[Bool.and_eq_true,decide_eq_true_eq]at h
   obtain⟨rfl,rfl⟩:=h
   simp [IOp.den,E.den]
  ·split
   ·rename_i h
    simp only[Bool.and_eq_true,decide_eq_true_eq]at h
    obtain⟨rfl,rfl⟩:=h
    simp [IOp.den,E.den]
   ·split
    ·rename_i h
     simp only[Bool.and_eq_true,decide_eq_true_eq]at h
     obtain⟨rfl,rfl⟩:=h
     simp [IOp.den,E.den]
    ·rfl
 ·rfl
def E.fits (X:Ctx) (k:IntKind) (e:E):Bool:=
 match e.itv X with
 |some p=>decide (k.min≤p.1) && decide (p.2≤k.max)
 |none=>false
theorem E.fits_in {X:Ctx} {ρ:Nat→Int} (hX:X.Ok ρ) {k:IntKind} {e:E} (h:e.fits X k=true):k.min≤e.den X.G ρ∧e.den X.G ρ≤k.max:=by
 have hi:=E.itv_has hX e
 unfold E.fits at h
 split at h
 ·rename_i p hp
  rw[hp]at hi
  simp only[Bool.and_eq_true,decide_eq_true_eq]at h
  simp only[fV.has]at hi
  omega
 ·cases h
def E.mkWrap (X:Ctx) (k:IntKind) (e:E):E:=
 match e with
 | .lit n => .lit (k.wrap n)
 |e=>if e.fits X k then e else .wrap k e
theorem E.mkWrap_den {X:Ctx} {ρ:Nat→Int} (hX:X.Ok ρ) (k:IntKind) (e:E):(e.mkWrap X k).den X.G ρ=k.wrap (e.den X.G ρ):=by
 unfold E.mkWrap
 split
 ·rfl
 ·split
  ·rename_i h
   have:=E.fits_in hX h
   exact(iO k _ this.1 this.2).symm
  ·rfl
end Sx
end Go.Proofs.Ytdldallkeheciaa
namespace Go.Proofs.Ytdldallkeheciaa
namespace Sx
open Go Go.RowKit
inductive CK where
 |int (k:IntKind)
 |bool
 deriving DecidableEq
def CK.mk:CK→Int→Value
 | .int k,x => .int k (k.wrap x)
 | .bool,x => .bool (!decide (x=0))
def eK (sh:List CK) (r:List Int):List Value:=sh.zipIdx.map fun p=>p.1.mk (r.getD p.2 0)
def aT (sh:List CK) (L:List (List Int)):List Value:=L.flatMap (eK sh)
structure Loc where
 blk:Nat
 cap:Nat
 nil:Bool
 base:Nat
inductive SV where
 |bool (b:B)
 |int (k:IntKind) (e:E)
 |ptr (id off:Nat)
 |slice (id off len cap:Nat)
 |agg (l:List SV)
 |tuple (l:List SV)
 |iface (t:TypeId) (l:List SV)
 |func (fn:Fn) (first captured:List SV)
 |con (v:Value)
 |map (id:Nat)
 |yld (id:Nat)
 |any
 |vec (sh:List CK) (C n:E) (ex:Bool)
 |own (id:Nat) (n:E) (cap:Option E)
 |vsl (id w:Nat) (off n:E) (cap:Option E)
 |vptr (id w:Nat) (i:E) (j:Nat)
 |text (n:E)
abbrev jD:=Option (List SV × TypeId)
abbrev aM:=List jD
abbrev aV:=Nat→Option Loc
section
variable (G:Nat→List Int→Int) (ρ:Nat→Int)
mutual
def SV.R (α:aV):SV→Value→Prop
 | .bool b,v=>v = .bool (b.den G ρ)
 | .int k e,v=>v = .int k (e.den G ρ)
 | .ptr id off,v=>∃ b,α id=some b∧v = .pointer (some ⟨b.blk,off,none⟩)
 | .slice id off len cap,v=>∃ b,α id=some b∧v = .slice (some ⟨b.blk,off,none⟩) len cap
 | .agg l,v=>∃ cs:List Value,v = .agg cs.toArray∧SV.RL α l cs
 | .tuple l,v=>∃ cs:List Value,v = .tuple cs.toArray∧SV.RL α l cs
 | .iface t l,v=>∃ cs:List Value,v = .iface t (.agg cs.toArray)∧SV.RL α l cs
 | .func fn f c,v=>∃ fs cs:List Value,v = .func fn fs.toArray cs.toArray∧SV.RL α f fs∧SV.RL α c cs
 | .con x,v=>v=x
 | .map id,v=>∃ b,α id=some b∧v = .map (some b.blk)
 | .yld id,v=>∃ b,α id=some b∧v = .func (.yield b.blk) #[] #[]
 | .any,_=>True
 | .text n,v=>∃ s:ByteArray,v = .string s∧(s.size:Int)=n.den G ρ
 | .vec sh C n ex,v=>v = .tuple #[.agg (aT sh (Lc.dec (C.den G ρ))).toArray,.int .i64 sh.length,.bool ex]∧((Lc.dec (C.den G ρ)).length:Int)=n.den G ρ
 | .own id n cap,v=>∃ b,α id=some b∧0≤n.den G ρ∧v=(if b.nil then .slice none 0 0 else .slice (some ⟨b.blk,b.base,none⟩) (n.den G ρ).toNat b.cap)∧(b.nil=true→n.den G ρ=0∧b.cap=0)∧n.den G ρ≤b.cap∧∀ e,cap=some e→n.den G ρ≤e.den G ρ→(b.cap:Int)=e.den G ρ
 | .vsl id w off n cap,v=>∃ b,α id=some b∧0≤n.den G ρ∧0≤off.den G ρ∧((n.den G ρ=0∧∃ a c,v = .slice a 0 c∧(cap=none∨(c=0∧∀ e,cap=some e→e.den G ρ=0)))∨
   (b.nil=false∧∃ c:Nat,v = .slice (some ⟨b.blk,b.base+(off.den G ρ).toNat*w,none⟩) (n.den G ρ).toNat c∧(n.den G ρ).toNat≤c∧∀ e,cap=some e→(c:Int)=e.den G ρ))
 | .vptr id w i j,v=>∃ b,α id=some b∧b.nil=false∧0≤i.den G ρ∧v = .pointer (some ⟨b.blk,b.base+((i.den G ρ).toNat*w+j),none⟩)
def SV.RL (α:aV):List SV→List Value→Prop
 |[],vs=>vs=[]
 |s::l,vs=>∃ v vs',vs=v::vs'∧SV.R α s v∧SV.RL α l vs'
end
end
mutual
def SV.ubd (N:Nat):SV→Bool
 | .ptr id _=>decide (id<N)
 | .slice id _ _ _=>decide (id<N)
 | .agg l=>SV.ubdL N l
 | .tuple l=>SV.ubdL N l
 | .iface _ l=>SV.ubdL N l
 | .func _ f c=>SV.ubdL N f && SV.ubdL N c
 | .map id=>decide (id<N)
 | .yld id=>decide (id<N)
 | .own id _ _=>decide (id<N)
 | .vsl id _ _ _ _=>decide (id<N)
 | .vptr id _ _ _=>decide (id<N)
 | .vec _ _ _ _=>decide (0<N)
 | .any=>decide (0<N)
 | .text _=>decide (0<N)
 |_=>true
def SV.ubdL (N:Nat):List SV→Bool
 |[]=>true
 |s::l=>SV.ubd N s && SV.ubdL N l
end
section
variable {G:Nat→List Int→Int} {ρ:Nat→Int}
mutual
theorem SV.R_agree {α β:aV} (N:Nat) (h:∀ id b,id<N→α id=some b→β id=some b):∀ (s:SV) (v:Value),s.ubd N=true→SV.R G ρ α s v→SV.R G ρ β s v
 | .bool b,v,_,r=>by simpa [SV.R]using r
 | .int k e,v,_,r=>by simpa [SV.R]using r
 | .con x,v,_,r=>by simpa [SV.R]using r
 | .any,v,hb,r=>by simp [SV.R]
 | .text _,v,_,r=>by simpa [SV.R]using r
 | .vec _ _ _ _,v,_,r=>by simpa [SV.R]using r
 | .map id,v,hb,r=>by
  simp only[SV.R,SV.ubd,decide_eq_true_eq]at *
  obtain⟨b,h1,h2⟩:=r
  exact⟨b,h id b hb h1,h2⟩
 | .yld id,v,hb,r=>by
  simp only[SV.R,SV.ubd,decide_eq_true_eq]at *
  obtain⟨b,h1,h2⟩:=r
  exact⟨b,h id b hb h1,h2⟩
 | .own id _ _,v,hb,r=>by
  simp only[SV.R,SV.ubd,decide_eq_true_eq]at *
  obtain⟨b,h1,h2⟩:=r
  exact⟨b,h id b hb h1,h2⟩
 | .vsl id _ _ _ _,v,hb,r=>by
  simp only[SV.R,SV.ubd,decide_eq_true_eq]at *
  obtain⟨b,h1,h2⟩:=r
  exact⟨b,h id b hb h1,h2⟩
 | .vptr id _ _ _,v,hb,r=>by
  simp only[SV.R,SV.ubd,decide_eq_true_eq]at *
  obtain⟨b,h1,h2⟩:=r
  exact⟨b,h id b hb h1,h2⟩
 | .ptr id off,v,hb,r=>by
  simp only[SV.R,SV.ubd,decide_eq_true_eq]at *
  obtain⟨b,h1,h2⟩:=r
  exact⟨b,h id b hb h1,h2⟩
 | .slice id off len cap,v,hb,r=>by
  simp only[SV.R,SV.ubd,decide_eq_true_eq]at *
  obtain⟨b,h1,h2⟩:=r
  exact⟨b,h id b hb h1,h2⟩
 | .agg l,v,hb,r=>by
  simp only[SV.R,SV.ubd]at *
  obtain⟨cs,h1,h2⟩:=r
  exact⟨cs,h1,SV.RL_agree N h l cs hb h2⟩
 | .tuple l,v,hb,r=>by
  simp only[SV.R,SV.ubd]at *
  obtain⟨cs,h1,h2⟩:=r
  exact⟨cs,h1,SV.RL_agree N h l cs hb h2⟩
 | .iface _ l,v,hb,r=>by
  simp only[SV.R,SV.ubd]at *
  obtain⟨cs,h1,h2⟩:=r
  exact⟨cs,h1,SV.RL_agree N h l cs hb h2⟩
 | .func fn f c,v,hb,r=>by
  simp only[SV.R,SV.ubd,Bool.and_eq_true]at *
  obtain⟨fs,cs,h1,h2,h3⟩:=r
  exact⟨fs,cs,h1,SV.RL_agree N h f fs hb.1 h2,SV.RL_agree N h c cs hb.2 h3⟩
theorem SV.RL_agree {α β:aV} (N:Nat) (h:∀ id b,id<N→α id=some b→β id=some b):∀ (l:List SV) (vs:List Value),SV.ubdL N l=true→SV.RL G ρ α l vs→SV.RL G ρ β l vs
 |[],vs,_,r=>by simpa [SV.RL]using r
 |s::l,vs,hb,r=>by
  simp only[SV.RL,SV.ubdL,Bool.and_eq_true]at *
  obtain⟨v,vs',h1,h2,h3⟩:=r
  exact⟨v,vs',h1,SV.R_agree N h s v hb.1 h2,SV.RL_agree N h l vs' hb.2 h3⟩
end
mutual
theorem SV.R_mono {α β:aV} (h:∀ id b,α id=some b→β id=some b):∀ (s:SV) (v:Value),SV.R G ρ α s v→SV.R G ρ β s v
 | .bool b,v,r=>by simpa [SV.R]using r
 | .int k e,v,r=>by simpa [SV.R]using r
 | .con x,v,r=>by simpa [SV.R]using r
 | .any,v,r=>by simp [SV.R]
 | .text _,v,r=>by simpa [SV.R]using r
 | .vec _ _ _ _,v,r=>by simpa [SV.R]using r
 | .map id,v,r=>by
  simp only[SV.R]at *
  obtain⟨b,h1,h2⟩:=r
  exact⟨b,h id b h1,h2⟩
 | .yld id,v,r=>by
  simp only[SV.R]at *
  obtain⟨b,h1,h2⟩:=r
  exact⟨b,h id b h1,h2⟩
 | .own id _ _,v,r=>by
  simp only[SV.R]at *
  obtain⟨b,h1,h2⟩:=r
  exact⟨b,h id b h1,h2⟩
 | .vsl id _ _ _ _,v,r=>by
  simp only[SV.R]at *
  obtain⟨b,h1,h2⟩:=r
  exact⟨b,h id b h1,h2⟩
 | .vptr id _ _ _,v,r=>by
  simp only[SV.R]at *
  obtain⟨b,h1,h2⟩:=r
  exact⟨b,h id b h1,h2⟩
 | .ptr id off,v,r=>by
  simp only[SV.R]at *
  obtain⟨b,h1,h2⟩:=r
  exact⟨b,h id b h1,h2⟩
 | .slice id off len cap,v,r=>by
  simp only[SV.R]at *
  obtain⟨b,h1,h2⟩:=r
  exact⟨b,h id b h1,h2⟩
 | .agg l,v,r=>by
  simp only[SV.R]at *
  obtain⟨cs,h1,h2⟩:=r
  exact⟨cs,h1,SV.RL_mono h l cs h2⟩
 | .tuple l,v,r=>by
  simp only[SV.R]at *
  obtain⟨cs,h1,h2⟩:=r
  exact⟨cs,h1,SV.RL_mono h l cs h2⟩
 | .iface _ l,v,r=>by
  simp only[SV.R]at *
  obtain⟨cs,h1,h2⟩:=r
  exact⟨cs,h1,SV.RL_mono h l cs h2⟩
 | .func fn f c,v,r=>by
  simp only[SV.R]at *
  obtain⟨fs,cs,h1,h2,h3⟩:=r
  exact⟨fs,cs,h1,SV.RL_mono h f fs h2,SV.RL_mono h c cs h3⟩
theorem SV.RL_mono {α β:aV} (h:∀ id b,α id=some b→β id=some b):∀ (l:List SV) (vs:List Value),SV.RL G ρ α l vs→SV.RL G ρ β l vs
 |[],vs,r=>by simpa [SV.RL]using r
 |s::l,vs,r=>by
  simp only[SV.RL]at *
  obtain⟨v,vs',h1,h2,h3⟩:=r
  exact⟨v,vs',h1,SV.R_mono h s v h2,SV.RL_mono h l vs' h3⟩
end
mutual
def SV.sure:SV→Bool
 | .any=>false
 | .text _=>false
 | .vsl _ _ _ _ _=>false
 | .agg l=>SV.sureL l
 | .tuple l=>SV.sureL l
 | .iface _ l=>SV.sureL l
 | .func _ f c=>SV.sureL f && SV.sureL c
 |_=>true
def SV.sureL:List SV→Bool
 |[]=>true
 |s::l=>SV.sure s && SV.sureL l
end
mutual
theorem SV.R_one {α:aV}:∀ (s:SV) (v u:Value),s.sure=true→SV.R G ρ α s v→SV.R G ρ α s u→v=u
 | .any,v,u,hs,r,q=>by simp [SV.sure]at hs
 | .text _,v,u,hs,r,q=>by simp [SV.sure]at hs
 | .vsl _ _ _ _ _,v,u,hs,r,q=>by simp [SV.sure]at hs
 | .vec _ _ _ _,v,u,hs,r,q=>by simp only[SV.R]at r q;rw[r.1,q.1]
 | .own id _ _,v,u,hs,r,q=>by
  simp only[SV.R]at r q
  obtain⟨b,h1,_,rfl,_⟩:=r
  obtain⟨c,g1,_,rfl,_⟩:=q
  rw[h1]at g1;cases g1;rfl
 | .vptr id _ _ _,v,u,hs,r,q=>by
  simp only[SV.R]at r q
  obtain⟨b,h1,_,_,rfl⟩:=r
  obtain⟨c,g1,_,_,rfl⟩:=q
  rw[h1]at g1;cases g1;rfl
 | .bool b,v,u,hs,r,q=>by simp only[SV.R]at r q;rw[r,q]
 | .int k e,v,u,hs,r,q=>by simp only[SV.R]at r q;rw[r,q]
 | .con x,v,u,hs,r,q=>by simp only[SV.R]at r q;rw[r,q]
 | .map id,v,u,hs,r,q=>by
  simp only[SV.R]at r q
  obtain⟨b,h1,rfl⟩:=r
  obtain⟨c,g1,rfl⟩:=q
  rw[h1]at g1;cases g1;rfl
 | .yld id,v,u,hs,r,q=>by
  simp only[SV.R]at r q
  obtain⟨b,h1,rfl⟩:=r
  obtain⟨c,g1,rfl⟩:=q
  rw[h1]at g1;cases g1;rfl
 | .ptr id off,v,u,hs,r,q=>by
  simp only[SV.R]at r q
  obtain⟨b,h1,rfl⟩:=r
  obtain⟨c,g1,rfl⟩:=q
  rw[h1]at g1;cases g1;rfl
 | .slice id off len cap,v,u,hs,r,q=>by
  simp only[SV.R]at r q
  obtain⟨b,h1,rfl⟩:=r
  obtain⟨c,g1,rfl⟩:=q
  rw[h1]at g1;cases g1;rfl
 | .agg l,v,u,hs,r,q=>by
  simp only[SV.R]at r q
  obtain⟨cs,rfl,h2⟩:=r
  obtain⟨ds,rfl,g2⟩:=q
  rw[SV.RL_one l cs ds (by simpa [SV.sure]using hs) h2 g2]
 | .tuple l,v,u,hs,r,q=>by
  simp only[SV.R]at r q
  obtain⟨cs,rfl,h2⟩:=r
  obtain⟨ds,rfl,g2⟩:=q
  rw[SV.RL_one l cs ds (by simpa [SV.sure]using hs) h2 g2]
 | .iface _ l,v,u,hs,r,q=>by
  simp only[SV.R]at r q
  obtain⟨cs,rfl,h2⟩:=r
  obtain⟨ds,rfl,g2⟩:=q
  rw[SV.RL_one l cs ds (by simpa [SV.sure]using hs) h2 g2]
 | .func fn f c,v,u,hs,r,q=>by
  simp only[SV.R]at r q
  obtain⟨fs,cs,rfl,h2,h3⟩:=r
  obtain⟨gs,ds,rfl,g2,g3⟩:=q
  simp only[SV.sure,Bool.and_eq_true]at hs
  rw[SV.RL_one f fs gs hs.1 h2 g2,SV.RL_one c cs ds hs.2 h3 g3]
theorem SV.RL_one {α:aV}:∀ (l:List SV) (vs us:List Value),SV.sureL l=true→SV.RL G ρ α l vs→SV.RL G ρ α l us→vs=us
 |[],vs,us,hs,r,q=>by simp only[SV.RL]at r q;rw[r,q]
 |s::l,vs,us,hs,r,q=>by
  simp only[SV.sureL,Bool.and_eq_true]at hs
  simp only[SV.RL]at r q
  obtain⟨v,vs',rfl,h2,h3⟩:=r
  obtain⟨u,us',rfl,g2,g3⟩:=q
  rw[SV.R_one s v u hs.1 h2 g2,SV.RL_one l vs' us' hs.2 h3 g3]
end
theorem bY {α:aV}:∀ {l:List SV} {vs:List Value},SV.RL G ρ α l vs→vs.length=l.length
 |[],vs,r=>by simp only[SV.RL]at r;rw[r];rfl
 |s::l,vs,r=>by
  simp only[SV.RL]at r
  obtain⟨v,vs',rfl,_,h3⟩:=r
  simp [bY h3]
theorem pK {α:aV}:∀ {l:List SV} {vs:List Value} {i:Nat} {s:SV},SV.RL G ρ α l vs→l[i]?=some s→∃ v,vs[i]?=some v∧SV.R G ρ α s v
 |[],vs,i,s,_,h=>by simp at h
 |t::l,vs,0,s,r,h=>by
  simp only[SV.RL]at r
  obtain⟨v,vs',rfl,h2,_⟩:=r
  simp at h
  subst h
  exact⟨v,rfl,h2⟩
 |t::l,vs,i+1,s,r,h=>by
  simp only[SV.RL]at r
  obtain⟨v,vs',rfl,_,h3⟩:=r
  simp at h
  simpa using pK h3 h
theorem bC {α:aV}:SV.RL G ρ α [] []:=by simp [SV.RL]
theorem aW {α:aV} {s:SV} {l:List SV} {v:Value} {vs:List Value} (h:SV.R G ρ α s v) (g:SV.RL G ρ α l vs):SV.RL G ρ α (s::l) (v::vs):=by
 simp only[SV.RL];exact⟨v,vs,rfl,h,g⟩
theorem dK {α:aV}:∀ {l m:List SV} {vs us:List Value},SV.RL G ρ α l vs→SV.RL G ρ α m us→SV.RL G ρ α (l++m) (vs++us)
 |[],m,vs,us,r,q=>by simp only[SV.RL]at r;subst r;exact q
 |s::l,m,vs,us,r,q=>by
  simp only[SV.RL]at r
  obtain⟨v,vs',rfl,h2,h3⟩:=r
  exact aW h2 (dK h3 q)
theorem iQ {α:aV}:∀ {l:List SV} {vs:List Value} (n:Nat),SV.RL G ρ α l vs→SV.RL G ρ α (l.take n) (vs.take n)
 |[],vs,n,r=>by simp only[SV.RL]at r;subst r;simpa using bC
 |s::l,vs,0,r=>by simpa using bC
 |s::l,vs,n+1,r=>by
  simp only[SV.RL]at r
  obtain⟨v,vs',rfl,h2,h3⟩:=r
  simpa using aW h2 (iQ n h3)
theorem gU {α:aV}:∀ {l:List SV} {vs:List Value} (n:Nat),SV.RL G ρ α l vs→SV.RL G ρ α (l.drop n) (vs.drop n)
 |[],vs,n,r=>by simp only[SV.RL]at r;subst r;simpa using bC
 |s::l,vs,0,r=>r
 |s::l,vs,n+1,r=>by
  simp only[SV.RL]at r
  obtain⟨v,vs',rfl,h2,h3⟩:=r
  simpa using gU n h3
theorem aCa {α:aV}:∀ {l:List SV} {vs:List Value} (i:Nat) {s:SV} {v:Value},SV.RL G ρ α l vs→SV.R G ρ α s v→SV.RL G ρ α (l.set i s) (vs.set i v)
 |[],vs,i,s,v,r,h=>by simp only[SV.RL]at r;subst r;simpa using bC
 |t::l,vs,0,s,v,r,h=>by
  simp only[SV.RL]at r
  obtain⟨u,vs',rfl,_,h3⟩:=r
  simpa using aW h h3
 |t::l,vs,i+1,s,v,r,h=>by
  simp only[SV.RL]at r
  obtain⟨u,vs',rfl,h2,h3⟩:=r
  simpa using aW h2 (aCa i h3 h)
theorem tZ {α:aV} {s:SV} {v:Value} (h:SV.R G ρ α s v):∀ n:Nat,SV.RL G ρ α (List.replicate n s) (List.replicate n v)
 |0=>by simpa using bC
 |n+1=>by simpa [List.replicate_succ]using aW h (tZ h n)
end
def SV.ofCell:Value→SV
 | .int k n => .int k (.lit n)
 | .bool b => .bool (.lit b)
 |v => .con v
def SV.ofV:Value→SV
 | .agg cs => .agg (cs.toList.map SV.ofCell)
 | .tuple cs => .tuple (cs.toList.map SV.ofCell)
 |v=>SV.ofCell v
section
variable {G:Nat→List Int→Int} {ρ:Nat→Int}
theorem aDX {α:aV} (v:Value):SV.R G ρ α (SV.ofCell v) v:=by
 cases v<;>simp [SV.ofCell,SV.R,E.den,B.den]
theorem sH {α:aV}:∀ vs:List Value,SV.RL G ρ α (vs.map SV.ofCell) vs
 |[]=>bC
 |v::vs=>by simpa using aW (aDX v) (sH vs)
theorem qZ {α:aV} (v:Value):SV.R G ρ α (SV.ofV v) v:=by
 cases v with
 |agg cs=>simp only[SV.ofV,SV.R];exact⟨cs.toList,by simp,sH _⟩
 |tuple cs=>simp only[SV.ofV,SV.R];exact⟨cs.toList,by simp,sH _⟩
 |_=>(unfold SV.ofV;exact aDX _)
end
def Value.same:Value→Value→Bool
 | .pointer none,.pointer none=>true
 | .nilFunc,.nilFunc=>true
 | .nilIface,.nilIface=>true
 | .slice none 0 0,.slice none 0 0=>true
 | .map none,.map none=>true
 | .pointer (some ⟨b,o,none⟩),.pointer (some ⟨c,q,none⟩)=>b ==c && o ==q
 | .string a,.string b=>decide (a.data=b.data)
 |_,_=>false
theorem Value.same_eq {v u:Value} (h:Value.same v u=true):v=u:=by
 unfold Value.same at h
 split at h<;>first|rfl|(simp at h;done)|skip
 ·simp only[Bool.and_eq_true,beq_iff_eq]at h;rw[h.1,h.2]
 ·rename_i a b;simp only[decide_eq_true_eq]at h;cases a;cases b;simp only at h;rw[h]
def E.eqbO:Option E→Option E→Bool
 |none,none=>true
 |some a,some b=>E.eqb a b
 |_,_=>false
theorem E.eqbO_eq {a b:Option E} (h:E.eqbO a b=true):a=b:=by
 cases a<;>cases b<;>simp [E.eqbO]at h
 ·rfl
 ·rw[E.eqb_eq _ _ h]
mutual
def SV.eqb:SV→SV→Bool
 | .bool a,.bool b=>B.eqb a b
 | .int k a,.int q b=>decide (k=q) && E.eqb a b
 | .ptr i o,.ptr j p=>i ==j && o ==p
 | .slice i o l c,.slice j p m d=>i ==j && o ==p && l ==m && c ==d
 | .agg l,.agg r=>SV.eqbL l r
 | .tuple l,.tuple r=>SV.eqbL l r
 | .iface t l,.iface u r=>decide (t=u) && SV.eqbL l r
 | .func fn f c,.func gn g d=>decide (fn=gn) && SV.eqbL f g && SV.eqbL c d
 | .con v,.con u=>Value.same v u
 | .map i,.map j=>i ==j
 | .yld i,.yld j=>i ==j
 | .any,.any=>true
 | .text a,.text b=>E.eqb a b
 | .vec s a n x,.vec t b m y=>decide (s=t) && E.eqb a b && E.eqb n m && x ==y
 | .own i n c,.own j m d=>i ==j && E.eqb n m && E.eqbO c d
 | .vsl i w o n c,.vsl j v p m d=>i ==j && w ==v && E.eqb o p && E.eqb n m && E.eqbO c d
 | .vptr i w e q,.vptr j v f r=>i ==j && w ==v && E.eqb e f && q ==r
 |_,_=>false
def SV.eqbL:List SV→List SV→Bool
 |[],[]=>true
 |a::l,b::r=>SV.eqb a b && SV.eqbL l r
 |_,_=>false
end
mutual
theorem SV.eqb_eq:∀ (a b:SV),SV.eqb a b=true→a=b
 | .bool a,b,h=>by cases b<;>simp [SV.eqb]at h;rw[B.eqb_eq _ _ h]
 | .int k a,b,h=>by cases b<;>simp [SV.eqb]at h;rw[h.1,E.eqb_eq _ _ h.2]
 | .ptr i o,b,h=>by cases b<;>simp [SV.eqb]at h;rw[h.1,h.2]
 | .slice i o l c,b,h=>by cases b<;>simp [SV.eqb]at h;rw[h.1.1.1,h.1.1.2,h.1.2,h.2]
 | .agg l,b,h=>by cases b<;>simp [SV.eqb]at h;rw[SV.eqbL_eq _ _ h]
 | .tuple l,b,h=>by cases b<;>simp [SV.eqb]at h;rw[SV.eqbL_eq _ _ h]
 | .iface t l,b,h=>by cases b<;>simp [SV.eqb]at h;rw[h.1,SV.eqbL_eq _ _ h.2]
 | .func fn f c,b,h=>by cases b<;>simp [SV.eqb]at h;rw[h.1.1,SV.eqbL_eq _ _ h.1.2,SV.eqbL_eq _ _ h.2]
 | .con v,b,h=>by cases b<;>simp [SV.eqb]at h;rw[Value.same_eq h]
 | .map i,b,h=>by cases b<;>simp [SV.eqb]at h;rw[h]
 | .yld i,b,h=>by cases b<;>simp [SV.eqb]at h;rw[h]
 | .any,b,h=>by cases b<;>simp [SV.eqb]at h;rfl
 | .text a,b,h=>by cases b<;>simp [SV.eqb]at h;rw[E.eqb_eq _ _ h]
 | .vec s a n x,b,h=>by cases b<;>simp [SV.eqb]at h;rw[h.1.1.1,E.eqb_eq _ _ h.1.1.2,E.eqb_eq _ _ h.1.2,h.2]
 | .own i n c,b,h=>by cases b<;>simp [SV.eqb]at h;rw[h.1.1,E.eqb_eq _ _ h.1.2,E.eqbO_eq h.2]
 | .vsl i w o n c,b,h=>by cases b<;>simp [SV.eqb]at h;rw[h.1.1.1.1,h.1.1.1.2,E.eqb_eq _ _ h.1.1.2,E.eqb_eq _ _ h.1.2,E.eqbO_eq h.2]
 | .vptr i w e q,b,h=>by cases b<;>simp [SV.eqb]at h;rw[h.1.1.1,h.1.1.2,E.eqb_eq _ _ h.1.2,h.2]
theorem SV.eqbL_eq:∀ (a b:List SV),SV.eqbL a b=true→a=b
 |[],b,h=>by cases b<;>simp [SV.eqbL]at h;rfl
 |a::l,b,h=>by
  cases b<;>simp [SV.eqbL]at h
  rw[SV.eqb_eq _ _ h.1,SV.eqbL_eq _ _ h.2]
end
def jD.eqb:jD→jD→Bool
 |none,none=>true
 |some (a,t),some (b,u)=>t ==u && SV.eqbL a b
 |_,_=>false
theorem jD.eqb_eq {a b:jD} (h:jD.eqb a b=true):a=b:=by
 unfold jD.eqb at h
 split at h
 ·rfl
 ·simp only[Bool.and_eq_true,beq_iff_eq]at h
  rw[h.1,SV.eqbL_eq _ _ h.2]
 ·cases h
def aM.begins:aM→aM→Bool
 |[],_=>true
 |a::l,b::r=>jD.eqb a b && aM.begins l r
 |_::_,[]=>false
theorem aM.begins_eq:∀ {m h:aM},aM.begins m h=true→h.take m.length=m
 |[],h,_=>by simp
 |a::l,b::r,h=>by
  simp only[aM.begins,Bool.and_eq_true]at h
  simp [jD.eqb_eq h.1,aM.begins_eq h.2]
 |_::_,[],h=>by simp [aM.begins]at h
section
variable (G:Nat→List Int→Int) (ρ:Nat→Int)
def gK:TypeId:=4000000000
def fB:List Value→List (Value × Value)
 |k::v::l=>(k,v)::fB l
 |_=>[]
def aU:TypeId:=5000000000
def aF:TypeId:=4800000000
def jK (l:Loc) (x:Option Obj) (vs:List Value):Prop:=
 ∃ (cells:List Value) (w:Nat) (ex:Bool),vs=[.tuple #[.agg cells.toArray,.int .i64 w,.bool ex]]∧0<w∧
  ((l.nil=true∧cells=[])∨(l.nil=false∧∃ (cs:Array Value) (T:TypeId) (fz:Nat × Nat),x=some (.cells cs T fz)∧∀ (i:Nat) (v:Value),cells[i]?=some v→cs[l.base+i]?=some v))
def vw (T:TypeId):Bool:=decide (aF≤T) && decide (T<aU)
def aBl (l:Loc) (x:Option Obj) (vs:List Value) (T:TypeId):Prop:=
 ∃ (cells:List Value) (w:Nat) (ex:Bool),vs=[.tuple #[.agg cells.toArray,.int .i64 w,.bool ex]]∧0<w∧
  ((l.nil=true∧cells=[]∧l.cap=0)∨(l.nil=false∧∃ rest:List Value,x=some (.cells (cells++rest).toArray T (0,0))∧(cells++rest).length=l.cap*w∧l.cap≤maxLen∧(ex=true→rest=[])))
def bD:Code→List (Array Tmp × Code × Code)
 | .seq a b=>bD a++bD b
 | .cond _ a b=>bD a++bD b
 | .block _ b=>bD b
 | .scope b=>bD b
 | .loop b=>bD b
 | .rangeFunc _ ps x y=>(ps,x,y)::(bD x++bD y)
 |_=>[]
def bL:TypeId:=4500000000
noncomputable def aAh (f:FuncId):Option (Array Tmp × Code × Code):=((Try.prog.funcs[f]?).bind (·.body)).bind fun c=>(bD c).head?
def aFA (s:Int) (st:LoopState) (pe:Option Code):Prop:=
 (s = -1∧st = .ready∧pe=none)∨(s = -2∧st = .busy∧pe=none)∨(s=0∧st = .done∧pe=some .ret)∨∃ i:Nat,s=i+1∧st = .done∧pe=some (.exit i)
def aM6 (l:Loc) (x:Option Obj) (vs:List Value) (f:FuncId):Prop:=
 l.nil=false∧∃ (r:Loop) (c:Array Tmp × Code × Code) (s:Int),x=some (.loop r)∧aAh f=some c∧r.params=c.1∧r.assign=c.2.1∧r.body=c.2.2∧vs=r.tmps.toList++[.int .i64 s]∧aFA s r.state r.pending
def eN (l:Loc) (x:Option Obj) (vs:List Value) (T:TypeId):Prop:=
 if T=gK then l.nil=false∧∃ (es:Array MapEntry) (c:Nat),x=some (.map es c)∧(es.toList.map fun e=>(e.key,e.val)).Perm (fB vs)
 else if aU≤T then l.base=0∧aBl l x vs (T-aU)
 else if aF≤T then jK l x vs
 else if bL≤T then aM6 l x vs (T-bL)
 else l.nil=false∧x=some (.cells (List.toArray vs) T (0,0))
def fY (T:TypeId):Bool:=decide (T<gK)
theorem vZ {T:TypeId} (h:fY T=true):T≠gK∧¬aU≤T∧¬aF≤T∧¬bL≤T:=by
 simp only[fY,decide_eq_true_eq]at h
 unfold gK at *;unfold aU aF bL
 simp only[TypeId]at *
 omega
theorem aDy {T:TypeId} (h:fY T=true):vw T=false:=by
 obtain⟨_,_,h3,_⟩:=vZ h
 simp [vw,h3]
theorem aVv:vw gK=false:=by decide
theorem aAk {T:TypeId} (h:aU≤T):vw T=false:=by
 simp only[vw,Bool.and_eq_false_imp,decide_eq_true_eq,decide_eq_false_iff_not]
 intro _
 simp only[TypeId]at *
 omega
theorem xD {f:FuncId} (hf:f<100000):vw (bL+f)=false:=by
 simp only[vw,Bool.and_eq_false_imp,decide_eq_true_eq,decide_eq_false_iff_not]
 intro h
 unfold aF bL at h
 simp only[TypeId,FuncId]at *
 omega
theorem aQj {T:TypeId} (h:vw T=true):T≠gK∧¬aU≤T∧aF≤T:=by
 simp only[vw,Bool.and_eq_true,decide_eq_true_eq]at h
 obtain⟨h1,h2⟩:=h
 unfold aU gK aF at *
 simp only[TypeId]at *
 omega
theorem cV {l:Loc} {x:Option Obj} {vs:List Value} {T:TypeId} (h:fY T=true):eN l x vs T↔l.nil=false∧x=some (.cells (List.toArray vs) T (0,0)):=by
 obtain⟨h1,h2,h3,h4⟩:=vZ h
 unfold eN;rw[if_neg h1,if_neg h2,if_neg h3,if_neg h4]
theorem qN {l:Loc} {x:Option Obj} {vs:List Value}:eN l x vs gK↔l.nil=false∧∃ (es:Array MapEntry) (c:Nat),x=some (.map es c)∧(es.toList.map fun e=>(e.key,e.val)).Perm (fB vs):=by unfold eN;rw[if_pos rfl]
theorem dG {l:Loc} {x:Option Obj} {vs:List Value} {T:TypeId} (h:aU≤T):eN l x vs T↔l.base=0∧aBl l x vs (T-aU):=by
 have h1:T≠gK:=fun q=>by rw[q]at h;exact absurd h (by decide)
 unfold eN;rw[if_neg h1,if_pos h]
theorem gZ {l:Loc} {x:Option Obj} {vs:List Value} {T:TypeId} (h:vw T=true):eN l x vs T↔jK l x vs:=by
 obtain⟨h1,h2,h3⟩:=aQj h
 unfold eN;rw[if_neg h1,if_neg h2,if_pos h3]
theorem iA {l:Loc} {x:Option Obj} {vs:List Value} {f:FuncId} (hf:f<100000):eN l x vs (bL+f)↔aM6 l x vs f:=by
 have h1:¬bL+f=gK:=by unfold bL gK;simp only[TypeId,FuncId]at *;omega
 have h2:¬aU≤bL+f:=by unfold bL aU;simp only[TypeId,FuncId]at *;omega
 have h4:¬aF≤bL+f:=by unfold bL aF;simp only[TypeId,FuncId]at *;omega
 have h3:bL≤bL+f:=Nat.le_add_right _ _
 unfold eN;rw[if_neg h1,if_neg h2,if_neg h4,if_pos h3,show bL+f-bL=f from Nat.add_sub_cancel_left _ _]
theorem jK.of_eq {l:Loc} {x y:Option Obj} {vs:List Value} (h:jK l x vs) (e:l.nil=false→y=x):jK l y vs:=by
 obtain⟨c,w,ex,h1,h2,h3⟩:=h
 refine⟨c,w,ex,h1,h2,?_⟩
 rcases h3 with h3|⟨h3,h4⟩
 ·exact .inl h3
 ·rw[e h3];exact .inr ⟨h3,h4⟩
theorem aBl.view {l:Loc} {x:Option Obj} {vs:List Value} {T:TypeId} (h0:l.base=0) (h:aBl l x vs T):jK l x vs:=by
 obtain⟨c,w,ex,h1,h2,h3⟩:=h
 refine⟨c,w,ex,h1,h2,?_⟩
 rcases h3 with⟨h3,h4,_⟩|⟨h3,rest,h4,_⟩
 ·exact .inl ⟨h3,h4⟩
 ·refine .inr ⟨h3,_,T,(0,0),h4,fun i v hv=>?_⟩
  rw[h0,Nat.zero_add,List.getElem?_toArray,List.getElem?_append_left (List.getElem?_eq_some_iff.1 hv).1]
  exact hv
theorem eN.of_eq {l:Loc} {x y:Option Obj} {vs:List Value} {T:TypeId} (h:eN l x vs T) (e:l.nil=false→y=x):eN l y vs T:=by
 unfold eN at *
 split
 ·rename_i hT;rw[if_pos hT]at h;rw[e h.1];exact h
 ·rename_i hT
  rw[if_neg hT]at h
  split
  ·rename_i hv
   rw[if_pos hv]at h
   obtain⟨h0,c,w,ex,h1,h2,h3⟩:=h
   refine⟨h0,c,w,ex,h1,h2,?_⟩
   rcases h3 with h3|⟨h3,h4⟩
   ·exact .inl h3
   ·rw[e h3];exact .inr ⟨h3,h4⟩
  ·rename_i hv
   rw[if_neg hv]at h
   split
   ·rename_i hq;rw[if_pos hq]at h;exact jK.of_eq h e
   ·rename_i hq
    rw[if_neg hq]at h
    split
    ·rename_i hl;rw[if_pos hl]at h;rw[e h.1];exact h
    ·rename_i hl;rw[if_neg hl]at h;rw[e h.1];exact h
def jT (σ:aM) (id:Nat):Prop:=∃ q,σ[id]?=some (some q)∧vw q.2=false
end
def oQ (α:aV) (σ:aM) (k:Nat):Prop:=∀ id b,α id=some b→b.nil=false→b.blk=k→¬jT σ id
section
variable (G:Nat→List Int→Int) (ρ:Nat→Int)
structure RelW (gl:List (Nat × Nat)) (α:aV) (σ:aM) (w:World):Prop where
 dom:∀ id b,α id=some b→id<σ.length∧(b.nil=true∨b.blk<w.heap.size)
 inj:∀ i j b c,α i=some b→α j=some c→b.nil=false→c.nil=false→b.blk=c.blk→jT σ i→jT σ j→i=j
 blk:∀ id cs T,σ[id]?=some (some (cs,T))→∃ b vs,α id=some b∧eN b w.heap[b.blk]? vs T∧SV.RL G ρ α cs vs
 glob:∀ p,p ∈ gl→α p.2=some ⟨p.1,0,false,0⟩
 view:∀ id cs T b,σ[id]?=some (some (cs,T))→vw T=true→α id=some b→b.nil=false→oQ α σ b.blk
end
structure Ext (n:Nat) (σ σ':aM) (α α':aV) (w w':World):Prop where
 os:w'.os=w.os
 tape:w'.tape=w.tape
 output:w'.output=w.output
 size:w.heap.size≤w'.heap.size
 len:σ.length≤σ'.length
 mono:∀ id b,α id=some b→α' id=some b
 fresh:∀ id b,α' id=some b→α id=some b∨(n≤id∧(b.nil=true∨w.heap.size≤b.blk∨∃ j c,α j=some c∧c.nil=false∧c.blk=b.blk∧jT σ j))
 hid:∀ k,k<w.heap.size→oQ α σ k→w'.heap[k]?=w.heap[k]?
 mask:∀ id b,α id=some b→jT σ' id→jT σ id
theorem Ext.refl (n:Nat) (σ:aM) (α:aV) (w:World):Ext n σ σ α α w w:=
 ⟨rfl,rfl,rfl,Nat.le_refl _,Nat.le_refl _,fun _ _ h=>h,fun _ _ h => .inl h,fun _ _ _=>rfl,fun _ _ _ h=>h⟩
theorem oQ.next {n:Nat} {σ σ1:aM} {α α1:aV} {w w1:World} (h:Ext n σ σ1 α α1 w w1) {k:Nat} (hk:k<w.heap.size) (hh:oQ α σ k):oQ α1 σ1 k:=by
 intro id b e hb hbk hv
 rcases h.fresh id b e with e1|⟨_,e2|e2|⟨j,c,e2,e3,e4,e5⟩⟩
 ·exact hh id b e1 hb hbk (h.mask id b e1 hv)
 ·rw[hb]at e2;cases e2
 ·omega
 ·exact hh j c e2 e3 (by omega) e5
theorem Ext.trans {n m:Nat} {σ σ1 σ2:aM} {α α1 α2:aV} {w w1 w2:World} (h:Ext n σ σ1 α α1 w w1) (g:Ext m σ1 σ2 α1 α2 w1 w2) (hnm:n≤m):Ext n σ σ2 α α2 w w2:=by
 refine⟨g.os.trans h.os,g.tape.trans h.tape,g.output.trans h.output,Nat.le_trans h.size g.size,Nat.le_trans h.len g.len,fun id b e=>g.mono _ _ (h.mono _ _ e),?_,?_,?_⟩
 ·intro id b e
  rcases g.fresh id b e with e1|⟨e1,e2⟩
  ·rcases h.fresh id b e1 with e3|e3
   ·exact .inl e3
   ·exact .inr e3
  ·refine .inr ⟨Nat.le_trans hnm e1,?_⟩
   rcases e2 with e2|e2|⟨j,c,e2,e3,e4,e5⟩
   ·exact .inl e2
   ·exact .inr (.inl (Nat.le_trans h.size e2))
   ·rcases h.fresh j c e2 with q|⟨_,q|q|⟨i,d,q1,q2,q3,q4⟩⟩
    ·exact .inr (.inr ⟨j,c,q,e3,e4,h.mask j c q e5⟩)
    ·rw[e3]at q;cases q
    ·exact .inr (.inl (by omega))
    ·exact .inr (.inr ⟨i,d,q1,q2,by omega,q4⟩)
 ·intro b hb hh
  rw[g.hid b (Nat.lt_of_lt_of_le hb h.size) (hh.next h hb),h.hid b hb hh]
 ·intro id b e hv
  exact h.mask id b e (g.mask id b (h.mono _ _ e) hv)
theorem Ext.drawn {m:Nat} {σ σ':aM} {α α':aV} {w w':World} {n:Nat} (h:Ext m σ σ' α α' { w with drawn:=n } w'):Ext m σ σ' α α' w w':=
 ⟨h.os,h.tape,h.output,h.size,h.len,h.mono,h.fresh,h.hid,h.mask⟩
section
variable {G:Nat→List Int→Int} {ρ:Nat→Int} {gl:List (Nat × Nat)}
theorem RelW.only {α:aV} {σ:aM} {w:World} (h:RelW G ρ gl α σ w) {id j:Nat} {b c:Loc} {cs:List SV} {T:TypeId} (e:σ[id]?=some (some (cs,T))) (ei:α id=some b) (ej:α j=some c) (hb:b.nil=false) (hc:c.nil=false) (hbc:c.blk=b.blk) (vj:jT σ j):j=id:=by
 cases hT:vw T
 ·exact h.inj j id c b ej ei hc hb hbc vj ⟨_,e,hT⟩
 ·exact absurd vj (h.view id cs T b e hT ei hb j c ej hc hbc)
theorem RelW.drawn {α:aV} {σ:aM} {w:World} {n:Nat} (h:RelW G ρ gl α σ w):RelW G ρ gl α σ { w with drawn:=n }:=⟨h.dom,h.inj,h.blk,h.glob,h.view⟩
def aCu (N:Nat) (α:aV):aV:=fun id=>if id<N then α id else none
theorem gI {N:Nat} {α:aV} {id:Nat} {b:Loc} (h:aCu N α id=some b):id<N∧α id=some b:=by
 unfold aCu at h;split at h
 ·exact⟨‹_›,h⟩
 ·cases h
theorem qR {N:Nat} {α:aV} {id:Nat} {b:Loc} (h:α id=some b) (hid:id<N):aCu N α id=some b:=by
 unfold aCu;rw[if_pos hid];exact h
def aCv (M F:aM):Prop:=M.length≤F.length∧∀ id,id<M.length→M[id]?=F[id]?∨M[id]?=some none
mutual
def SV.ubdH (N:Nat):aM→Bool
 |[]=>true
 |none::h=>SV.ubdH N h
 |some (cs,_)::h=>SV.ubdL N cs && SV.ubdH N h
end
theorem pB {N:Nat}:∀ {h:aM} {id:Nat} {cs:List SV} {T:TypeId},SV.ubdH N h=true→h[id]?=some (some (cs,T))→SV.ubdL N cs=true
 |[],id,cs,T,_,g=>by simp at g
 |none::h,0,cs,T,_,g=>by simp at g
 |none::h,id+1,cs,T,hb,g=>by
  simp only[SV.ubdH]at hb
  exact pB hb (by simpa using g)
 |some (c,t)::h,0,cs,T,hb,g=>by
  simp only[SV.ubdH,Bool.and_eq_true]at hb
  simp at g
  rw[←g.1];exact hb.1
 |some (c,t)::h,id+1,cs,T,hb,g=>by
  simp only[SV.ubdH,Bool.and_eq_true]at hb
  exact pB hb.2 (by simpa using g)
theorem aCv.get {M F:aM} (hp:aCv M F) {id:Nat} {q:List SV × TypeId} (hq:M[id]?=some (some q)):M[id]?=F[id]?:=by
 have hid:id<M.length:=(List.getElem?_eq_some_iff.1 hq).1
 rcases hp.2 id hid with e|e
 ·exact e
 ·rw[e]at hq;cases hq
theorem aCv.vis {M F:aM} (hp:aCv M F) {id:Nat} (h:jT M id):jT F id∧M[id]?=F[id]?:=by
 obtain⟨q,hq,hv⟩:=h
 exact⟨⟨q,hp.get hq ▸ hq,hv⟩,hp.get hq⟩
theorem RelW.part {α:aV} {F M:aM} {w:World} (h:RelW G ρ gl α F w) (hp:aCv M F) (hb:SV.ubdH M.length M=true) (hg:∀ p,p ∈ gl→p.2<M.length):RelW G ρ gl (aCu M.length α) M w:=by
 refine⟨fun id b e=>⟨(gI e).1,(h.dom id b (gI e).2).2⟩,fun i j b c e f h1 h2 h3 v1 v2=>h.inj i j b c (gI e).2 (gI f).2 h1 h2 h3 (hp.vis v1).1 (hp.vis v2).1,?_,fun p hm=>qR (h.glob p hm) (hg p hm),fun id cs T b e hT ei hb j c ej hc hk vj=>?_⟩
 ·intro id cs T e
  have hid:id<M.length:=(List.getElem?_eq_some_iff.1 e).1
  obtain⟨b,vs,h1,h2,h3⟩:=h.blk id cs T ((hp.get e).symm.trans e)
  exact⟨b,vs,qR h1 hid,h2,SV.RL_agree M.length (fun i c hi e=>qR e hi) cs vs (pB hb e) h3⟩
 ·exact h.view id cs T b ((hp.get e).symm.trans e) hT (gI ei).2 hb j c (gI ej).2 hc hk (hp.vis vj).1
theorem aD3 {σ' M:aM} {id:Nat} (ht:σ'.take M.length=M) (h:jT M id):jT σ' id:=by
 obtain⟨q,hq,hv⟩:=h
 refine⟨q,?_,hv⟩
 rw[←ht,List.getElem?_take]at hq
 split at hq
 ·exact hq
 ·cases hq
theorem wA {σ' M:aM} {id:Nat} {x:jD} (ht:σ'.take M.length=M) (h:M[id]?=some x):σ'[id]?=some x:=by
 rw[←ht,List.getElem?_take]at h
 split at h
 ·exact h
 ·cases h
theorem aE6 {α α1:aV} {F M σ':aM} {w w':World} {s:SV} {v:Value} (h:RelW G ρ gl α F w) (hp:aCv M F) (hb:SV.ubdH M.length M=true)
  (hx:Ext M.length M σ' (aCu M.length α) α1 w w') (hw:RelW G ρ gl α1 σ' w') (ht:σ'.take M.length=M) (hs:s.ubd M.length=true) (hv:SV.R G ρ α1 s v) (hg:∀ p,p ∈ gl→p.2<M.length):
  RelW G ρ gl α F w'∧Ext M.length F F α α w w'∧SV.R G ρ α s v:=by
 have hM:=h.part hp hb hg
 have aCy:∀ id b,id<M.length→α1 id=some b→α id=some b:=by
  intro id b hid e
  rcases hx.fresh id b e with e1|⟨e1,_⟩
  ·exact(gI e1).2
  ·omega
 have hidF:∀ k,k<w.heap.size→(∀ id b,α id=some b→b.nil=false→b.blk=k→¬jT M id)→w'.heap[k]?=w.heap[k]?:=
  fun k hk hh=>hx.hid k hk (fun j c ej hc hck hv=>hh j c (gI ej).2 hc hck hv)
 refine⟨⟨fun id b e=>⟨(h.dom id b e).1,(h.dom id b e).2.imp (fun x=>x) (fun x=>Nat.lt_of_lt_of_le x hx.size)⟩,h.inj,?_,h.glob,h.view⟩,⟨hx.os,hx.tape,hx.output,hx.size,Nat.le_refl _,fun _ _ e=>e,fun _ _ e => .inl e,?_,fun _ _ _ e=>e⟩,SV.R_agree M.length aCy s v hs hv⟩
 ·intro id cs T e
  obtain⟨b,vs,h1,h2,h3⟩:=h.blk id cs T e
  by_cases hid:jT M id
  ·have e2:M[id]?=some (some (cs,T)):=(hp.vis hid).2.trans e
   have hlt:id<M.length:=(List.getElem?_eq_some_iff.1 e2).1
   obtain⟨b',vs',g1,g2,g3⟩:=hw.blk id cs T (wA ht e2)
   have hbb:b'=b:=by
    have:=aCy id b' hlt g1
    rw[h1]at this;cases this;rfl
   subst hbb
   exact⟨b',vs',h1,g2,SV.RL_agree M.length aCy cs vs' (pB hb e2) g3⟩
  ·refine⟨b,vs,h1,h2.of_eq fun hnil=>?_,h3⟩
   have hlt:b.blk<w.heap.size:=by
    rcases(h.dom id b h1).2 with q|q
    ·rw[hnil]at q;cases q
    ·exact q
   refine hidF b.blk hlt ?_
   intro j c ej hc hck hv
   have:j=id:=h.only e h1 ej hnil hc hck (hp.vis hv).1
   subst this
   exact hid hv
 ·intro k hk hh
  exact hidF k hk (fun j c ej hc hck hv=>hh j c ej hc hck (hp.vis hv).1)
theorem aIX {α α1:aV} {F M σ':aM} {w w':World} {s:SV} {v:Value} {c:List SV × TypeId} (h:RelW G ρ gl α F w) (hp:aCv M F) (hb:SV.ubdH M.length M=true)
  (hx:Ext M.length M σ' (aCu M.length α) α1 w w') (hw:RelW G ρ gl α1 σ' w') (hn:σ'=M++[some c]) (hs:s.ubd (M.length+1)=true) (hc:SV.ubdL (M.length+1) c.1=true) (hv:SV.R G ρ α1 s v) (hg:∀ p,p ∈ gl→p.2<M.length)
  (hF:F[M.length]?=some none) (hα:α M.length=none):
  ∃ α',RelW G ρ gl α' (F.set M.length (some c)) w'∧Ext M.length F (F.set M.length (some c)) α α' w w'∧SV.R G ρ α' s v∧(∀ id,id≠M.length→α' id=α id):=by
 obtain⟨c,T0⟩:=c
 have ht:σ'.take M.length=M:=by rw[hn];simp
 have hlt:M.length<F.length:=(List.getElem?_eq_some_iff.1 hF).1
 have aCy:∀ id b,id<M.length→α1 id=some b→α id=some b:=by
  intro id b hid e
  rcases hx.fresh id b e with e1|⟨e1,_⟩
  ·exact(gI e1).2
  ·omega
 obtain⟨bn,vn,n1,n2,n3⟩:=hw.blk M.length c T0 (by rw[hn];simp)
 have gn:σ'[M.length]?=some (some (c,T0)):=by rw[hn];simp
 have hbn:bn.nil=true∨w.heap.size≤bn.blk:=by
  rcases hx.fresh _ _ n1 with e1|⟨_,e1|e1|⟨j,d,e1,e2,e3,e4⟩⟩
  ·have:=(gI e1).1;omega
  ·exact .inl e1
  ·exact .inr e1
  ·cases hq:bn.nil
   ·exfalso
    have hj:=(gI e1).1
    have:=hw.only gn n1 (hx.mono _ _ e1) hq e2 e3 (aD3 ht e4)
    omega
   ·exact .inl rfl
 let α':aV:=fun id=>if id=M.length then some bn else α id
 have aN:α' M.length=some bn:=by simp [α']
 have aO:∀ id,id≠M.length→α' id=α id:=fun id e=>by simp [α',e]
 have mono:∀ id b,α id=some b→α' id=some b:=by
  intro id b e
  by_cases hid:id=M.length
  ·subst hid;rw[hα]at e;cases e
  ·rw[aO id hid];exact e
 have agree:∀ id b,id<M.length+1→α1 id=some b→α' id=some b:=by
  intro id b hid e
  by_cases hi:id=M.length
  ·subst hi;rw[n1]at e;rw[aN];exact e
  ·rw[aO id hi];exact aCy id b (by omega) e
 have vset:∀ id,id≠M.length→(jT (F.set M.length (some (c,T0))) id↔jT F id):=by
  intro id hid
  unfold jT
  rw[List.getElem?_set_ne (fun q=>hid q.symm)]
 have hidF:∀ k,k<w.heap.size→(∀ id b,α id=some b→b.nil=false→b.blk=k→¬jT M id)→w'.heap[k]?=w.heap[k]?:=
  fun k hk hh=>hx.hid k hk (fun j d ej hd hdk hv=>hh j d (gI ej).2 hd hdk hv)
 have old:∀ id b,α id=some b→b.nil=false→b.blk<w.heap.size:=by
  intro id b e hb
  rcases(h.dom id b e).2 with q|q
  ·rw[hb]at q;cases q
  ·exact q
 refine⟨α',⟨?_,?_,?_,fun p hm=>mono _ _ (h.glob p hm),?_⟩,⟨hx.os,hx.tape,hx.output,hx.size,by simp,mono,?_,?_,?_⟩,SV.R_agree _ agree s v hs hv,aO⟩
 ·intro id b e
  by_cases hid:id=M.length
  ·subst hid
   rw[aN]at e;cases e
   exact⟨by simpa using hlt,(hw.dom _ _ n1).2⟩
  ·rw[aO id hid]at e
   exact⟨by simpa using (h.dom id b e).1,(h.dom id b e).2.imp (fun x=>x) (fun x=>Nat.lt_of_lt_of_le x hx.size)⟩
 ·intro i j b d ei ej hb hd hbd vi vj
  by_cases hi:i=M.length<;>by_cases hj:j=M.length
  ·rw[hi,hj]
  ·rw[hi,aN]at ei;rw[aO j hj]at ej
   cases ei
   have:=old j d ej hd
   rcases hbn with q|q
   ·rw[hb]at q;cases q
   ·omega
  ·rw[hj,aN]at ej;rw[aO i hi]at ei
   cases ej
   have:=old i b ei hb
   rcases hbn with q|q
   ·rw[hd]at q;cases q
   ·omega
  ·rw[aO i hi]at ei;rw[aO j hj]at ej
   exact h.inj i j b d ei ej hb hd hbd ((vset i hi).1 vi) ((vset j hj).1 vj)
 ·intro id cs T e
  by_cases hid:id=M.length
  ·subst hid
   rw[List.getElem?_set_self (by omega)]at e
   cases e
   exact⟨bn,vn,aN,n2,SV.RL_agree _ agree c vn hc n3⟩
  ·rw[List.getElem?_set_ne (fun q=>hid q.symm)]at e
   obtain⟨b,vs,h1,h2,h3⟩:=h.blk id cs T e
   by_cases hm:jT M id
   ·have e2:M[id]?=some (some (cs,T)):=(hp.vis hm).2.trans e
    have hl:id<M.length:=(List.getElem?_eq_some_iff.1 e2).1
    obtain⟨b',vs',g1,g2,g3⟩:=hw.blk id cs T (wA ht e2)
    have hbb:b'=b:=by
     have:=aCy id b' hl g1
     rw[h1]at this;cases this;rfl
    subst hbb
    exact⟨b',vs',mono _ _ h1,g2,SV.RL_mono mono cs _ (SV.RL_agree M.length aCy cs vs' (pB hb e2) g3)⟩
   ·refine⟨b,vs,mono _ _ h1,h2.of_eq fun hnil=>?_,SV.RL_mono mono cs _ h3⟩
    refine hidF b.blk (old id b h1 hnil) ?_
    intro j d ej hd hdk hv
    have:j=id:=h.only e h1 ej hnil hd hdk (hp.vis hv).1
    subst this
    exact hm hv
 ·intro id cs T b e hT ei hb j d ej hd hk vj
  have hnv:∀ q,α q=some d→d.nil=false→¬w.heap.size≤d.blk:=fun q e1 e2=>by have:=old q d e1 e2;omega
  by_cases hid:id=M.length
  ·subst hid
   rw[List.getElem?_set_self (by omega)]at e
   cases e
   rw[aN]at ei;cases ei
   by_cases hj:j=M.length
   ·subst hj
    obtain⟨q,hq,hv⟩:=vj
    rw[List.getElem?_set_self (by omega)]at hq
    cases hq
    rw[hT]at hv;cases hv
   ·rw[aO j hj]at ej
    have:=old j d ej hd
    rcases hbn with q|q
    ·rw[hb]at q;cases q
    ·omega
  ·rw[aO id hid]at ei
   rw[List.getElem?_set_ne (fun q=>hid q.symm)]at e
   by_cases hj:j=M.length
   ·subst hj
    rw[aN]at ej;cases ej
    have:=old id b ei hb
    rcases hbn with q|q
    ·rw[hd]at q;cases q
    ·omega
   ·rw[aO j hj]at ej
    exact h.view id cs T b e hT ei hb j d ej hd hk ((vset j hj).1 vj)
 ·intro id b e
  by_cases hid:id=M.length
  ·subst hid
   rw[aN]at e;cases e
   exact .inr ⟨Nat.le_refl _,hbn.imp (fun x=>x) .inl⟩
  ·rw[aO id hid]at e;exact .inl e
 ·intro k hk hh
  exact hidF k hk (fun j d ej hd hdk hv=>hh j d ej hd hdk (hp.vis hv).1)
 ·intro id b e hv
  have hid:id≠M.length:=fun q=>by rw[q,hα]at e;cases e
  exact(vset id hid).1 hv
end
end Sx
end Go.Proofs.Ytdldallkeheciaa
namespace Go.Proofs.Ytdldallkeheciaa
namespace Sx
open Go Go.RowKit
def cP {α β:Type}:List α→(List α→β)→β
 |[],k=>k []
 |a::l,k=>cP l fun l'=>k (a::l')
theorem cQ {α β:Type}:∀ (l:List α) (k:List α→β),cP l k=k l
 |[],k=>rfl
 |a::l,k=>by unfold cP;rw[cQ l]
def lE {β:Type} (e:E) (k:E→β):β:=
 match e with
 | .lit n=>k (.lit n)
 | .var i=>k (.var i)
 | .op o a b=>k (.op o a b)
 | .wrap q a=>k (.wrap q a)
 | .bit o q a b=>k (.bit o q a b)
 | .app g l=>k (.app g l)
theorem vR {β:Type} (e:E) (k:E→β):lE e k=k e:=by cases e<;>rfl
def aMl {β:Type} (b:B) (k:B→β):β:=
 match b with
 | .lit x=>k (.lit x)
 | .cmp o a b=>k (.cmp o a b)
 | .and x y=>k (.and x y)
 | .or x y=>k (.or x y)
theorem aIw {β:Type} (b:B) (k:B→β):aMl b k=k b:=by cases b<;>rfl
def vO {β:Type} (s:SV) (k:SV→β):β:=
 match s with
 | .int q e=>lE e fun e=>k (.int q e)
 | .bool b=>aMl b fun b=>k (.bool b)
 | .agg l=>cP l fun l=>k (.agg l)
 | .tuple l=>cP l fun l=>k (.tuple l)
 | .iface t l=>cP l fun l=>k (.iface t l)
 | .ptr i o=>k (.ptr i o)
 | .slice i o l c=>k (.slice i o l c)
 | .func f a c=>k (.func f a c)
 | .con v=>k (.con v)
 | .map i=>k (.map i)
 | .yld i=>k (.yld i)
 | .any=>k .any
 | .text n=>lE n fun n=>k (.text n)
 | .vec s a n x=>lE a fun a=>lE n fun n=>k (.vec s a n x)
 | .own i n c=>lE n fun n=>k (.own i n c)
 | .vsl i w o n c=>lE o fun o=>lE n fun n=>k (.vsl i w o n c)
 | .vptr i w e q=>lE e fun e=>k (.vptr i w e q)
theorem uL {β:Type} (s:SV) (k:SV→β):vO s k=k s:=by
 cases s<;>simp only[vO,cQ,vR,aIw]
inductive Res (α:Type) where
 |ok (a:α)
 |need (b:B)
 |fail (code:Nat)
def Res.bind {α β:Type} (r:Res α) (f:α→Res β):Res β:=
 match r with
 | .ok a=>f a
 | .need b => .need b
 | .fail c => .fail c
theorem Res.bind_ok {α β:Type} {r:Res α} {f:α→Res β} {b:β} (h:r.bind f = .ok b):∃ a,r = .ok a∧f a = .ok b:=by
 cases r with
 |ok a=>exact⟨a,rfl,h⟩
 |need b=>cases h
 |fail c=>cases h
def Res.ofOpt {α:Type} (code:Nat):Option α→Res α
 |some a => .ok a
 |none => .fail code
theorem Res.ofOpt_ok {α:Type} {code:Nat} {o:Option α} {a:α} (h:Res.ofOpt code o = .ok a):o=some a:=by
 cases o with
 |none=>cases h
 |some b=>cases h;rfl
def Res.test (X:Ctx) (b:B):Res Bool:=
 match b.dec X with
 |some r => .ok r
 |none => .need (b.atom X)
theorem Res.test_ok {X:Ctx} {ρ:Nat→Int} (hX:X.Ok ρ) {b:B} {r:Bool} (h:Res.test X b = .ok r):b.den X.G ρ=r:=by
 unfold Res.test at h
 split at h
 ·cases h;exact B.dec_eq hX b ‹_›
 ·cases h
def Res.testW (X:Ctx) (b:B):Res Bool:=
 match b.dec X with
 |some r => .ok r
 |none => .need b
theorem Res.testW_ok {X:Ctx} {ρ:Nat→Int} (hX:X.Ok ρ) {b:B} {r:Bool} (h:Res.testW X b = .ok r):b.den X.G ρ=r:=by
 unfold Res.testW at h
 split at h
 ·cases h;exact B.dec_eq hX b ‹_›
 ·cases h
def Res.num (X:Ctx) (e:E):Res Int:=
 match e.const? X with
 |some n => .ok n
 |none=>match e.itv X with
  |some p => .need (.cmp .eq e (.lit p.1))
  |none => .fail 1
theorem Res.num_ok {X:Ctx} {ρ:Nat→Int} (hX:X.Ok ρ) {e:E} {n:Int} (h:Res.num X e = .ok n):e.den X.G ρ=n:=by
 unfold Res.num at h
 split at h
 ·cases h;exact E.const_eq hX ‹_›
 ·split at h<;>cases h
def SV.cells:SV→Option (List SV)
 | .agg l=>some l
 | .con (.agg _)=>none
 | .any=>none
 | .vec _ _ _ _=>none
 |s=>some [s]
def Program.isAggT (P:Program) (t:TypeId):Option Bool:=
 match P.underlying t with
 |some (.struct _)=>some true
 |some (.array _ _)=>some true
 |some _=>some false
 |none=>none
def rA (P:Program) (t:TypeId) (l:List SV) (off:Nat):Option SV:=
 match Program.isAggT P t with
 |some true=>match P.info? t with
  |some i=>some (.agg ((l.drop off).take i.size))
  |none=>none
 |some false=>l[off]?
 |none=>none
section
variable {G:Nat→List Int→Int} {ρ:Nat→Int} {P:Program}
theorem jA {α:aV} {s:SV} {v:Value} {l:List SV} (h:s.cells=some l) (r:SV.R G ρ α s v):SV.RL G ρ α l v.cells.toList:=by
 unfold SV.cells at h
 split at h
 ·cases h
  simp only[SV.R]at r
  obtain⟨cs,rfl,h2⟩:=r
  simpa [Value.cells]using h2
 ·cases h
 ·cases h
 ·cases h
 ·rename_i hn1 hn2 hn3 hn4
  cases h
  have:v.cells=#[v]:=by
   cases s<;>simp only[SV.R]at r
   case agg l=>exact absurd rfl (hn1 l)
   case con x=>
    subst r
    cases v<;>first|rfl|(exact absurd rfl (hn2 _))
   case tuple l=>obtain⟨cs,rfl,_⟩:=r;rfl
   case iface t l=>obtain⟨cs,rfl,_⟩:=r;rfl
   case func fn f c=>obtain⟨_,_,rfl,_⟩:=r;rfl
   case ptr=>obtain⟨_,_,rfl⟩:=r;rfl
   case slice=>obtain⟨_,_,rfl⟩:=r;rfl
   case map=>obtain⟨_,_,rfl⟩:=r;rfl
   case yld=>obtain⟨_,_,rfl⟩:=r;rfl
   case any=>exact absurd rfl hn3
   case text=>obtain⟨_,rfl,_⟩:=r;rfl
   case vec=>exact absurd rfl (hn4 _ _ _ _)
   case own=>obtain⟨_,_,_,rfl,_⟩:=r;split<;>rfl
   case vsl=>obtain⟨_,_,_,_,⟨_,_,_,rfl,_⟩|⟨_,_,rfl,_⟩⟩:=r<;>rfl
   case vptr=>obtain⟨_,_,_,_,rfl⟩:=r;rfl
   all_goals (subst r;rfl)
  rw[this]
  simpa using aW r bC
theorem iD {t:TypeId} {b:Bool} (h:Program.isAggT P t=some b) (w:World):(isAgg t).run P w = .ok b w:=by
 unfold Program.isAggT at h
 split at h
 ·rename_i hu;cases h;simp [isAgg,run_underlying hu]
 ·rename_i hu;cases h;simp [isAgg,run_underlying hu]
 ·rename_i d h1 h2 hu
  cases h
  simp only[isAgg,Sem.run_bind,run_underlying hu,Result.andThen_ok]
  rfl
 ·cases h
theorem jL {α:aV} {t:TypeId} {l:List SV} {cs:List Value} {off:Nat} {s:SV} (h:rA P t l off=some s) (r:SV.RL G ρ α l cs) (w:World):
  ∃ v,(part t cs.toArray off).run P w = .ok v w∧SV.R G ρ α s v:=by
 unfold rA at h
 split at h
 ·rename_i ha
  split at h
  ·rename_i i hi
   cases h
   refine⟨.agg (cs.toArray.extract off (off+i.size)),?_,?_⟩
   ·simp only[part,Sem.run_bind,iD ha,Result.andThen_ok,if_true]
    simp [sizeOf,typeInfo,hi]
   ·simp only[SV.R]
    refine⟨(cs.drop off).take i.size,?_,iQ _ (gU _ r)⟩
    congr 1
    simp [List.extract_eq_take_drop]
  ·cases h
 ·rename_i ha
  obtain⟨v,hv,hr⟩:=pK r h
  refine⟨v,?_,hr⟩
  simp only[part,Sem.run_bind,iD ha,Result.andThen_ok,Bool.false_eq_true,if_false]
  simp [hv]
 ·cases h
end
def aCh (cells:List SV) (off:Nat) (c:List SV):List SV:=c.zipIdx.foldl (fun cs p=>cs.set (off+p.2) p.1) cells
def aAp (place:Nat→Option (Nat × Nat)) (cells:List SV):List (Nat × SV)→Option (List SV)
 |[]=>some cells
 |(i,s)::rest=>
  match place i with
  |none=>none
  |some (off,size)=>
   match s.cells with
   |none=>none
   |some c=>if decide (c.length≠size) ||decide (off+c.length>cells.length) then none else aAp place (aCh cells off c) rest
def aFt (P:Program) (t:TypeId) (parts:List (Nat × SV)):Option (List SV):=
 match P.info? t,P.underlying t with
 |some it,some (.array _ e)=>
  match it.zero,P.info? e with
  |some z,some ie=>match (SV.ofV z).cells with
   |some zc=>aAp (fun i=>some (i*ie.size,ie.size)) zc parts
   |none=>none
  |_,_=>none
 |some it,some (.struct fields)=>
  match it.zero,fields.toList.mapM (fun f=>(P.info? f.type).map fun i=>(f.offset,i.size))with
  |some z,some places=>match (SV.ofV z).cells with
   |some zc=>aAp (places.toArray[·]?) zc parts
   |none=>none
  |_,_=>none
 |_,_=>none
section
variable {G:Nat→List Int→Int} {ρ:Nat→Int} {P:Program}
theorem yU {α:aV} (off:Nat):∀ (c:List SV) (vs:List Value) (k:Nat) (cells:List SV) (cs:List Value),SV.RL G ρ α c vs→SV.RL G ρ α cells cs→
  SV.RL G ρ α ((c.zipIdx k).foldl (fun cs p=>cs.set (off+p.2) p.1) cells) ((vs.zipIdx k).foldl (fun cs p=>cs.set (off+p.2) p.1) cs)
 |[],vs,k,cells,cs,r,q=>by simp only[SV.RL]at r;subst r;simpa using q
 |s::c,vs,k,cells,cs,r,q=>by
  simp only[SV.RL]at r
  obtain⟨v,vs',rfl,h2,h3⟩:=r
  simp only[List.zipIdx_cons,List.foldl_cons]
  exact yU off c vs' (k+1) _ _ h3 (aCa _ q h2)
theorem kQ (off:Nat):∀ (l:List (Value × Nat)) (cs:Array Value),(l.foldl (fun (cs:Array Value) p=>cs.setIfInBounds (off+p.2) p.1) cs).toList=l.foldl (fun cs p=>cs.set (off+p.2) p.1) cs.toList
 |[],cs=>rfl
 |p::l,cs=>by
  simp only[List.foldl_cons]
  rw[kQ off l]
  simp
inductive Parts (G:Nat→List Int→Int) (ρ:Nat→Int) (α:aV):List (Nat × SV)→List (Nat × Value)→Prop where
 |nil:Parts G ρ α [] []
 |cons {i:Nat} {s:SV} {v:Value} {l:List (Nat × SV)} {m:List (Nat × Value)} (h:SV.R G ρ α s v) (t:Parts G ρ α l m):Parts G ρ α ((i,s)::l) ((i,v)::m)
theorem sU {α:aV} {place:Nat→Option (Nat × Nat)}:∀ {ps:List (Nat × SV)} {vs:List (Nat × Value)} {cells:List SV} {cs:Array Value} {out:List SV},Parts G ρ α ps vs→SV.RL G ρ α cells cs.toList→
  aAp place cells ps=some out→∃ os:Array Value,Instr.fill place cs vs=some os∧SV.RL G ρ α out os.toList
 |[],_,cells,cs,out,.nil,q,h=>by
  simp only[aAp,Option.some.injEq]at h
  subst h
  exact⟨cs,rfl,q⟩
 |(i,s)::ps,_,cells,cs,out,.cons (v:=v) (m:=m) hv ht,q,h=>by
  unfold aAp at h
  split at h
  ·cases h
  ·rename_i off size hp
   split at h
   ·cases h
   ·rename_i c hc
    have rc:=jA hc hv
    have l1:=bY rc
    have l2:=bY q
    split at h
    ·cases h
    ·rename_i hg
     simp only[Bool.or_eq_true,decide_eq_true_eq,not_or,Decidable.not_not]at hg
     have key:SV.RL G ρ α (aCh cells off c) (v.cells.zipIdx.foldl (fun (cs:Array Value) p=>cs.setIfInBounds (off+p.2) p.1) cs).toList:=by
      rw[←Array.foldl_toList,kQ]
      have:=yU (G:=G) (ρ:=ρ) off c v.cells.toList 0 cells cs.toList rc q
      simpa [aCh]using this
     obtain⟨os,h1,h2⟩:=sU ht key h
     refine⟨os,?_,h2⟩
     unfold Instr.fill
     rw[hp]
     simp only
     rw[if_neg ?_]
     ·exact h1
     ·simp only[Array.length_toList]at l1 l2
      simp only[ne_eq,Bool.or_eq_true,decide_eq_true_eq,not_or,Decidable.not_not]
      omega
theorem aIu {α:aV} {t:TypeId} {ps:List (Nat × SV)} {vs:List (Nat × Value)} {out:List SV} (hp:Parts G ρ α ps vs) (h:aFt P t ps=some out):
  ∃ os:Array Value,P.built t vs=some os∧SV.RL G ρ α out os.toList:=by
 unfold aFt at h
 unfold Program.built
 split at h
 ·rename_i it n e hi hu
  simp only[hi,hu]
  split at h
  ·rename_i z ie hz he
   simp only[hz,he]
   split at h
   ·rename_i zc hzc
    exact sU hp (jA hzc (qZ z)) h
   ·cases h
  ·cases h
 ·rename_i it fs hi hu
  simp only[hi,hu]
  split at h
  ·rename_i z pl hz he
   simp only[hz,he]
   split at h
   ·rename_i zc hzc
    exact sU hp (jA hzc (qZ z)) h
   ·cases h
  ·cases h
 ·cases h
end
def aV6 (x y:B):B := .or (.and x y) (.and x.neg y.neg)
theorem aMt (G:Nat→List Int→Int) (ρ:Nat→Int) (x y:B):(aV6 x y).den G ρ=(x.den G ρ ==y.den G ρ):=by
 simp only[aV6,B.den,B.neg_den]
 cases x.den G ρ<;>cases y.den G ρ<;>rfl
def aGE (x y:B):B:=
 match x,y with
 | .lit true,y=>y
 | .lit false,_ => .lit false
 |x,.lit true=>x
 |x,y => .and x y
theorem aAG (G:Nat→List Int→Int) (ρ:Nat→Int) (x y:B):(aGE x y).den G ρ=(x.den G ρ && y.den G ρ):=by
 unfold aGE
 split<;>simp [B.den]
def kU (P:Program) (eq:TypeId→SV→SV→Option B) (xs ys:List SV):List Field→Option B
 |[]=>some (.lit true)
 |f::fs=>
  if f.name ≠ "_" then
   match rA P f.type xs f.offset,rA P f.type ys f.offset with
   |some a,some b=>match eq f.type a b,kU P eq xs ys fs with
    |some p,some q=>some (aGE p q)
    |_,_=>none
   |_,_=>none
  else kU P eq xs ys fs
def qG (P:Program) (eq:TypeId→SV→SV→Option B) (e:TypeId) (c:Nat) (xs ys:List SV):List Nat→Option B
 |[]=>some (.lit true)
 |i::is=>
  match rA P e xs (i*c),rA P e ys (i*c)with
  |some a,some b=>match eq e a b,qG P eq e c xs ys is with
   |some p,some q=>some (aGE p q)
   |_,_=>none
  |_,_=>none
def sEq (P:Program):Nat→TypeId→SV→SV→Option B
 |0,_,_,_=>none
 |d+1,t,x,y=>
  match P.underlying t with
  |some .bool=>match x,y with
   | .bool a,.bool b=>some (aV6 a b)
   |_,_=>none
  |some (.int _)=>match x,y with
   | .int k a,.int q b=>if decide (k=q) then some (.cmp .eq a b) else none
   |_,_=>none
  |some (.struct fs)=>match x,y with
   | .agg xs,.agg ys=>if P.stoodInHeld t then none else kU P (sEq P d) xs ys fs.toList
   |_,_=>none
  |some (.array n e)=>match x,y with
   | .agg xs,.agg ys=>match P.info? e with
    |some i=>qG P (sEq P d) e i.size xs ys (List.range n)
    |none=>none
   |_,_=>none
  |_=>none
section
variable {G:Nat→List Int→Int} {ρ:Nat→Int} {P:Program}
theorem mM {α:aV} {d:Nat} {eq:TypeId→SV→SV→Option B}
  (heq:∀ (t:TypeId) (x y:SV) (b:B),eq t x y=some b→∀ (u v:Value) (w:World),SV.R G ρ α x u→SV.R G ρ α y v→(Op.equalIn d t u v).run P w = .ok (b.den G ρ) w)
  {xs ys:List SV} {us vs:List Value} (hx:SV.RL G ρ α xs us) (hy:SV.RL G ρ α ys vs):∀ (fs:List Field) (b:B),kU P eq xs ys fs=some b→∀ w:World,
  (Op.eqFields d us.toArray vs.toArray fs).run P w = .ok (b.den G ρ) w
 |[],b,h,w=>by
  simp only[kU,Option.some.injEq]at h
  subst h
  simp [Op.eqFields,B.den]
 |f::fs,b,h,w=>by
  unfold kU at h
  unfold Op.eqFields
  split at h
  ·rename_i hn
   rw[if_pos hn]
   split at h
   ·rename_i x y hpx hpy
    split at h
    ·rename_i p q hp hq
     cases h
     obtain⟨u,hu,ru⟩:=jL (G:=G) (ρ:=ρ) hpx hx w
     obtain⟨v,hv,rv⟩:=jL (G:=G) (ρ:=ρ) hpy hy w
     have h1:=heq _ _ _ _ hp u v w ru rv
     have h2:=mM heq hx hy fs q hq w
     simp only[Sem.run_bind,hu,hv,h1,Result.andThen_ok,aAG]
     cases hb:p.den G ρ
     ·simp
     ·simp only[Bool.not_true,Bool.false_eq_true,if_false,Bool.true_and];exact h2
    ·cases h
   ·cases h
  ·rename_i hn
   rw[if_neg hn]
   exact mM heq hx hy fs b h w
theorem tM {α:aV} {d:Nat} {eq:TypeId→SV→SV→Option B} {e:TypeId} {c:Nat}
  (heq:∀ (t:TypeId) (x y:SV) (b:B),eq t x y=some b→∀ (u v:Value) (w:World),SV.R G ρ α x u→SV.R G ρ α y v→(Op.equalIn d t u v).run P w = .ok (b.den G ρ) w)
  {xs ys:List SV} {us vs:List Value} (hx:SV.RL G ρ α xs us) (hy:SV.RL G ρ α ys vs):∀ (is:List Nat) (b:B),qG P eq e c xs ys is=some b→∀ w:World,
  (Op.eqItems d e c us.toArray vs.toArray is).run P w = .ok (b.den G ρ) w
 |[],b,h,w=>by
  simp only[qG,Option.some.injEq]at h
  subst h
  simp [Op.eqItems,B.den]
 |i::is,b,h,w=>by
  unfold qG at h
  unfold Op.eqItems
  split at h
  ·rename_i x y hpx hpy
   split at h
   ·rename_i p q hp hq
    cases h
    obtain⟨u,hu,ru⟩:=jL (G:=G) (ρ:=ρ) hpx hx w
    obtain⟨v,hv,rv⟩:=jL (G:=G) (ρ:=ρ) hpy hy w
    have h1:=heq _ _ _ _ hp u v w ru rv
    have h2:=tM heq hx hy is q hq w
    simp only[Sem.run_bind,hu,hv,h1,Result.andThen_ok,aAG]
    cases hb:p.den G ρ
    ·simp
    ·simp only[Bool.not_true,Bool.false_eq_true,if_false,Bool.true_and];exact h2
   ·cases h
  ·cases h
theorem oG {α:aV}:∀ (d:Nat) (t:TypeId) (x y:SV) (b:B),sEq P d t x y=some b→∀ (u v:Value) (w:World),SV.R G ρ α x u→SV.R G ρ α y v→(Op.equalIn d t u v).run P w = .ok (b.den G ρ) w
 |0,t,x,y,b,h,_,_,_,_,_=>by simp [sEq]at h
 |d+1,t,x,y,b,h,u,v,w,rx,ry=>by
  unfold sEq at h
  split at h
  ·rename_i hu
   split at h
   ·cases h
    simp only[SV.R]at rx ry
    subst rx;subst ry
    rw[run_equalIn_bool w d t _ _ hu,aMt]
   ·cases h
  ·rename_i k hu
   split at h
   ·rename_i k1 a q c
    split at h
    ·rename_i hk
     cases h
     simp only[decide_eq_true_eq]at hk
     subst hk
     simp only[SV.R]at rx ry
     subst rx;subst ry
     rw[run_equalIn_int w d t _ k _ _ hu]
     simp [B.den,COp.den,BEq.beq]
    ·cases h
   ·cases h
  ·rename_i fs hu
   split at h
   ·rename_i xs ys
    split at h
    ·cases h
    ·rename_i hst
     simp only[SV.R]at rx ry
     obtain⟨us,rfl,rx⟩:=rx
     obtain⟨vs,rfl,ry⟩:=ry
     have hf:P.fieldsOf t=fs:=by simp [Program.fieldsOf,hu]
     rw[run_equalIn_struct w d t _ _ (by rw[hf];exact hu) (by simpa using hst),hf]
     exact mM (fun t x y b hb u v w=>oG d t x y b hb u v w) rx ry fs.toList b h w
   ·cases h
  ·rename_i n e hu
   split at h
   ·rename_i xs ys
    split at h
    ·rename_i i hi
     simp only[SV.R]at rx ry
     obtain⟨us,rfl,rx⟩:=rx
     obtain⟨vs,rfl,ry⟩:=ry
     rw[run_equalIn_array w d _ _ hu hi]
     have hc:P.cellsOf e=i.size:=by simp [Program.cellsOf,hi]
     rw[hc]
     exact tM (fun t x y b hb u v w=>oG d t x y b hb u v w) rx ry _ b h w
    ·cases h
   ·cases h
  ·cases h
end
def E.belowX (X:Ctx) (x y:E):Bool:=
 match y with
 | .lit n=>match x.itv X with
  |some p=>decide (0≤p.1) && decide (p.2<n)
  |none=>false
 |_=>false
theorem E.belowX_in {X:Ctx} {ρ:Nat→Int} (hX:X.Ok ρ) {x y:E} (h:E.belowX X x y=true):0≤x.den X.G ρ∧x.den X.G ρ<y.den X.G ρ:=by
 have hi:=E.itv_has hX x
 unfold E.belowX at h
 split at h
 ·split at h
  ·rename_i p hp
   rw[hp]at hi
   simp only[Bool.and_eq_true,decide_eq_true_eq]at h
   simp only[fV.has]at hi
   simp only[E.den]
   omega
  ·cases h
 ·cases h
def E.quoS (X:Ctx) (x y:E):E:=if E.belowX X x y then .lit 0 else E.mkOp .quo x y
def E.remS (X:Ctx) (x y:E):E:=if E.belowX X x y then x else E.mkOp .rem x y
theorem E.quoS_den {X:Ctx} {ρ:Nat→Int} (hX:X.Ok ρ) (x y:E):(E.quoS X x y).den X.G ρ=(x.den X.G ρ).tdiv (y.den X.G ρ):=by
 unfold E.quoS
 split
 ·rename_i h
  have:=E.belowX_in hX h
  simp only[E.den]
  rw[Int.tdiv_eq_ediv_of_nonneg this.1,Int.ediv_eq_zero_of_lt this.1 this.2]
 ·rw[E.mkOp_den];rfl
theorem E.remS_den {X:Ctx} {ρ:Nat→Int} (hX:X.Ok ρ) (x y:E):(E.remS X x y).den X.G ρ=(x.den X.G ρ).tmod (y.den X.G ρ):=by
 unfold E.remS
 split
 ·rename_i h
  have:=E.belowX_in hX h
  rw[Int.tmod_eq_emod_of_nonneg this.1,Int.emod_eq_of_lt this.1 this.2]
 ·rw[E.mkOp_den];rfl
def aIT:Bool:=true
def qK (X:Ctx) (k:IntKind) (e:E):Res E:=
 match k,e.itv X with
 | .i64,some (a,b)=>
  if aIT && decide (-36893488147419103232≤a) && decide (b≤36893488147419103232) && !(e.fits X .i64) then
   (Res.test X (.cmp .le (.lit (-9223372036854775808)) e)).bind fun t=>(Res.test X (.cmp .le e (.lit 9223372036854775807))).bind fun u => .ok (if t && u then e else .wrap .i64 e)
  else .ok (e.mkWrap X k)
 |_,_ => .ok (e.mkWrap X k)
theorem lX {X:Ctx} {ρ:Nat→Int} (hX:X.Ok ρ) {k:IntKind} {e f:E} (h:qK X k e = .ok f):f.den X.G ρ=k.wrap (e.den X.G ρ):=by
 unfold qK at h
 split at h
 ·split at h
  ·obtain⟨t,ht,h⟩:=Res.bind_ok h
   obtain⟨u,hu,h⟩:=Res.bind_ok h
   have ht:=Res.test_ok hX ht
   have hu:=Res.test_ok hX hu
   cases h
   split
   ·rename_i htu
    simp only[Bool.and_eq_true]at htu
    obtain⟨rfl,rfl⟩:=htu
    have h1:(-9223372036854775808:Int)≤e.den X.G ρ:=of_decide_eq_true ht
    have h2:e.den X.G ρ≤(9223372036854775807:Int):=of_decide_eq_true hu
    simp only[IntKind.wrap,IntKind.bits,IntKind.signed,Bool.true_and,decide_eq_true_eq,show (2:Int) ^ 64=18446744073709551616 from rfl,show (2:Int) ^ (64-1)=9223372036854775808 from rfl]
    split<;>omega
   ·rfl
  ·cases h;exact E.mkWrap_den hX _ _
 ·cases h;exact E.mkWrap_den hX _ _
def aEF (X:Ctx) (op:BinOp) (k:IntKind) (x y:E):Res SV:=
 match op with
 | .add=>(qK X k (E.mkOp .add x y)).bind fun e => .ok (.int k e)
 | .sub=>(qK X k (E.mkOp .sub x y)).bind fun e => .ok (.int k e)
 | .mul=>(qK X k (E.mkOp .mul x y)).bind fun e => .ok (.int k e)
 | .quo=>(Res.test X (.cmp .ne y (.lit 0))).bind fun t=>if t then .ok (.int k ((E.quoS X x y).mkWrap X k)) else .fail 10
 | .rem=>(Res.test X (.cmp .ne y (.lit 0))).bind fun t=>if t then .ok (.int k (E.remS X x y)) else .fail 10
 | .and | .or | .xor | .andNot=>match x,y with
  | .lit a,.lit b => .ok (.int k (.lit (bT op k a b)))
  |x,y => .ok (.int k (.bit op k x y))
 | .eql => .ok (.bool (.cmp .eq x y))
 | .neq => .ok (.bool (.cmp .ne x y))
 | .lss => .ok (.bool (.cmp .lt x y))
 | .leq => .ok (.bool (.cmp .le x y))
 | .gtr => .ok (.bool (.cmp .lt y x))
 | .geq => .ok (.bool (.cmp .le y x))
 |_ => .fail 11
def tH (X:Ctx) (k:IntKind) (y:E):Bool:=
 match y.const? X with
 |some _=>false
 |none=>match y.itv X with
  |some p=>decide (0≤p.1) && decide (p.2≤64) && decide (p.2≤k.bits)
  |none=>false
def aEQ (X:Ctx) (op:BinOp) (k:IntKind) (x y:E):Res SV:=
 if decide (op = .shl) && tH X k y then .ok (.int k ((E.mkOp .shl x y).mkWrap X k)) else
 if decide (op = .shr) && tH X k y then .ok (.int k (E.mkOp .fdiv x (E.mkOp .shl (.lit 1) y))) else
 (Res.num X y).bind fun n=>
  if n<0 then .fail 12
  else match op with
   | .shl => .ok (.int k ((E.mkOp .mul x (.lit (2 ^ (min n.toNat k.bits)))).mkWrap X k))
   | .shr => .ok (.int k (E.mkOp .fdiv x (.lit (2 ^ (min n.toNat k.bits)))))
   |_ => .fail 13
def aVJ (P:Program) (X:Ctx) (op:BinOp) (t:TypeId) (x y:SV):Res SV:=
 match x,y with
 | .int k a,.int q b=>
  match op with
  | .shl | .shr=>aEQ X op k a b
  |op=>if decide (k=q) then aEF X op k a b else .fail 14
 | .bool _,.bool _ | .agg _,.agg _=>
  match op with
  | .eql=>if P.eqGuardType P.depth t then .fail 15 else match sEq P 10000 t x y with
   |some b => .ok (.bool b)
   |none => .fail 16
  | .neq=>if P.eqGuardType P.depth t then .fail 15 else match sEq P 10000 t x y with
   |some b => .ok (.bool b.neg)
   |none => .fail 16
  |_ => .fail 17
 | .ptr _ _,.con (.pointer none)=>
  match P.underlying t with
  |some (.pointer _)=>match op with
   | .eql => .ok (.bool (.lit false))
   | .neq => .ok (.bool (.lit true))
   |_ => .fail 18
  |_ => .fail 19
 | .con (.pointer none),.con (.pointer none)=>
  match P.underlying t with
  |some (.pointer _)=>match op with
   | .eql => .ok (.bool (.lit true))
   | .neq => .ok (.bool (.lit false))
   |_ => .fail 18
  |_ => .fail 19
 |_,_ => .fail 20
def sUn (X:Ctx) (op:UnOp) (x:SV):Res SV:=
 match op,x with
 | .neg,.int k e=>(qK X k (E.mkOp .sub (.lit 0) e)).bind fun e => .ok (.int k e)
 | .xor,.int k e=>match e with
  | .lit b => .ok (.int k (.lit (bT .xor k (if k.signed then -1 else k.max) b)))
  |e => .ok (.int k (.bit .xor k (.lit (if k.signed then -1 else k.max)) e))
 | .not,.bool b => .ok (.bool b.neg)
 |_,_ => .fail 21
section
variable {ρ:Nat→Int} {P:Program} {X:Ctx}
theorem aEZ (hX:X.Ok ρ) {α:aV} {op:BinOp} {k:IntKind} {x y:E} {s:SV} (h:aEF X op k x y = .ok s) (hop:op ≠ .shl∧op ≠ .shr) (t:TypeId) (w:World):
  ∃ v,(binOp op t (.int k (x.den X.G ρ)) (.int k (y.den X.G ρ))).run P w = .ok v w∧SV.R X.G ρ α s v:=by
 cases op<;>simp only[aEF]at h
 case shl=>exact absurd rfl hop.1
 case shr=>exact absurd rfl hop.2
 case add=>obtain⟨e,he,h⟩:=Res.bind_ok h;cases h;refine⟨_,by simp [binOp,Op.intArith];rfl,?_⟩;simp [SV.R,lX hX he,E.mkOp_den,IOp.den]
 case sub=>obtain⟨e,he,h⟩:=Res.bind_ok h;cases h;refine⟨_,by simp [binOp,Op.intArith];rfl,?_⟩;simp [SV.R,lX hX he,E.mkOp_den,IOp.den]
 case mul=>obtain⟨e,he,h⟩:=Res.bind_ok h;cases h;refine⟨_,by simp [binOp,Op.intArith];rfl,?_⟩;simp [SV.R,lX hX he,E.mkOp_den,IOp.den]
 case quo=>
  obtain⟨b,hb,h⟩:=Res.bind_ok h
  have hd:=Res.test_ok hX hb
  cases b
  ·simp at h
  ·simp only[if_true]at h
   cases h
   simp only[B.den,COp.den,E.den,Bool.not_eq_true']at hd
   replace hd:=of_decide_eq_false hd
   refine⟨_,by simp [binOp,Op.intDiv,hd];rfl,?_⟩
   simp [SV.R,E.mkWrap_den hX,E.quoS_den hX]
 case rem=>
  obtain⟨b,hb,h⟩:=Res.bind_ok h
  have hd:=Res.test_ok hX hb
  cases b
  ·simp at h
  ·simp only[if_true]at h
   cases h
   simp only[B.den,COp.den,E.den,Bool.not_eq_true']at hd
   replace hd:=of_decide_eq_false hd
   refine⟨_,by simp [binOp,Op.intDiv,hd];rfl,?_⟩
   simp [SV.R,E.remS_den hX]
 case and=>split at h<;>(cases h;refine⟨_,by simp [binOp,Op.intBits];rfl,?_⟩;simp [SV.R,E.den,bT])
 case or=>split at h<;>(cases h;refine⟨_,by simp [binOp,Op.intBits];rfl,?_⟩;simp [SV.R,E.den,bT])
 case xor=>split at h<;>(cases h;refine⟨_,by simp [binOp,Op.intBits];rfl,?_⟩;simp [SV.R,E.den,bT])
 case andNot=>split at h<;>(cases h;refine⟨_,by simp [binOp,Op.intBits];rfl,?_⟩;simp [SV.R,E.den,bT])
 case eql=>cases h;refine⟨_,by simp [binOp,Op.intCmp];rfl,?_⟩;simp [SV.R,B.den,COp.den,BEq.beq]
 case neq=>cases h;refine⟨_,by simp [binOp,Op.intCmp];rfl,?_⟩;simp [SV.R,B.den,COp.den,bne,BEq.beq]
 case lss=>cases h;refine⟨_,by simp [binOp,Op.intCmp];rfl,?_⟩;simp [SV.R,B.den,COp.den]
 case leq=>cases h;refine⟨_,by simp [binOp,Op.intCmp];rfl,?_⟩;simp [SV.R,B.den,COp.den]
 case gtr=>cases h;refine⟨_,by simp [binOp,Op.intCmp];rfl,?_⟩;simp [SV.R,B.den,COp.den]
 case geq=>cases h;refine⟨_,by simp [binOp,Op.intCmp];rfl,?_⟩;simp [SV.R,B.den,COp.den]
end
section
variable {ρ:Nat→Int} {P:Program} {X:Ctx}
theorem aAd (hX:X.Ok ρ) {α:aV} {op:BinOp} {k q:IntKind} {x y:E} {s:SV} (h:aEQ X op k x y = .ok s) (t:TypeId) (w:World):
  ∃ v,(binOp op t (.int k (x.den X.G ρ)) (.int q (y.den X.G ρ))).run P w = .ok v w∧SV.R X.G ρ α s v:=by
 unfold aEQ at h
 split at h
 ·rename_i hc
  simp only[Bool.and_eq_true,decide_eq_true_eq]at hc
  obtain⟨rfl,hs⟩:=hc
  cases h
  have hb:0≤y.den X.G ρ∧y.den X.G ρ≤k.bits:=by
   have hi:=E.itv_has hX y
   unfold tH at hs
   split at hs
   ·cases hs
   ·split at hs
    ·rename_i p hp
     rw[hp]at hi
     simp only[Bool.and_eq_true,decide_eq_true_eq]at hs
     simp only[fV.has]at hi
     omega
    ·cases hs
  refine⟨_,by simp only[binOp,Op.shift];rw[if_neg (show ¬y.den X.G ρ<0 by omega)];rfl,?_⟩
  have e:min (y.den X.G ρ).toNat k.bits=(y.den X.G ρ).toNat:=by omega
  simp [SV.R,E.mkWrap_den hX,E.mkOp_den,IOp.den,e]
 rename_i hnc0
 split at h
 ·rename_i hc
  simp only[Bool.and_eq_true,decide_eq_true_eq]at hc
  obtain⟨rfl,hs⟩:=hc
  cases h
  have hb:0≤y.den X.G ρ∧y.den X.G ρ≤k.bits:=by
   have hi:=E.itv_has hX y
   unfold tH at hs
   split at hs
   ·cases hs
   ·split at hs
    ·rename_i p hp
     rw[hp]at hi
     simp only[Bool.and_eq_true,decide_eq_true_eq]at hs
     simp only[fV.has]at hi
     omega
    ·cases hs
  refine⟨_,by simp only[binOp,Op.shift];rw[if_neg (show ¬y.den X.G ρ<0 by omega)];rfl,?_⟩
  have e:min (y.den X.G ρ).toNat k.bits=(y.den X.G ρ).toNat:=by omega
  simp [SV.R,E.mkOp_den,IOp.den,E.den,e]
 rename_i hnc
 obtain⟨n,hn,h⟩:=Res.bind_ok h
 have hd:=Res.num_ok hX hn
 split at h
 ·cases h
 ·rename_i hneg
  cases op<;>simp only at h<;>first|(cases h;done)|skip
  ·cases h
   refine⟨_,by simp only[binOp,Op.shift,hd];rw[if_neg hneg];rfl,?_⟩
   simp [SV.R,E.mkWrap_den hX,E.mkOp_den,IOp.den,E.den]
  ·cases h
   refine⟨_,by simp only[binOp,Op.shift,hd];rw[if_neg hneg];rfl,?_⟩
   simp [SV.R,E.mkOp_den,IOp.den,E.den]
theorem wE {t:TypeId} {op:BinOp} {x y:Operand} {us vs:Array Value} (h:P.eqGuardType P.depth t=false) (w:World):(eqGuard op t x y (.agg us) (.agg vs)).run P w = .ok () w:=by
 unfold eqGuard
 split<;>simp [h]
theorem yH {t e:TypeId} (hu:P.underlying t=some (.pointer e)) (a:Addr) (d:Nat) (w:World):(Op.equalIn (d+1) t (.pointer (some a)) (.pointer none)).run P w = .ok false w:=by
 simp only[Op.equalIn,Sem.run_bind,run_underlying hu,Result.andThen_ok]
 rfl
theorem yA {t e:TypeId} (hu:P.underlying t=some (.pointer e)) (d:Nat) (w:World):(Op.equalIn (d+1) t (.pointer none) (.pointer none)).run P w = .ok true w:=by
 simp only[Op.equalIn,Sem.run_bind,run_underlying hu,Result.andThen_ok]
 rfl
theorem aNf (hX:X.Ok ρ) {α:aV} {op:BinOp} {t:TypeId} {x y s:SV} {xo yo:Operand} {u v:Value} (h:aVJ P X op t x y = .ok s) (rx:SV.R X.G ρ α x u) (ry:SV.R X.G ρ α y v) (w:World):
  ∃ r,(do eqGuard op t xo yo u v;binOp op t u v:Sem Value).run P w = .ok r w∧SV.R X.G ρ α s r:=by
 unfold aVJ at h
 split at h
 ·rename_i k a q b
  simp only[SV.R]at rx ry
  subst rx;subst ry
  have hg:(eqGuard op t xo yo (.int k (a.den X.G ρ)) (.int q (b.den X.G ρ))).run P w = .ok () w:=by
   unfold eqGuard;split<;>simp
  simp only[Sem.run_bind,hg,Result.andThen_ok]
  split at h
  ·exact aAd hX h t w
  ·exact aAd hX h t w
  ·rename_i h1 h2
   split at h
   ·rename_i hk
    simp only[decide_eq_true_eq]at hk
    subst hk
    exact aEZ hX h ⟨fun e=>h1 e,fun e=>h2 e⟩ t w
   ·cases h
 ·rename_i a b
  split at h
  ·split at h
   ·cases h
   ·split at h
    ·rename_i b' hb
     cases h
     have hr:=oG (G:=X.G) (ρ:=ρ) 10000 t _ _ b' hb u v w rx ry
     simp only[SV.R]at rx ry
     subst rx;subst ry
     refine⟨.bool (b'.den X.G ρ),?_,by simp [SV.R]⟩
     have hg:(eqGuard .eql t xo yo (.bool (a.den X.G ρ)) (.bool (b.den X.G ρ))).run P w = .ok () w:=by
      unfold eqGuard;split<;>simp
     simp only[Sem.run_bind,hg,Result.andThen_ok,binOp,Op.equal,Op.maxDepth,hr]
     rfl
    ·cases h
  ·split at h
   ·cases h
   ·split at h
    ·rename_i b' hb
     cases h
     have hr:=oG (G:=X.G) (ρ:=ρ) 10000 t _ _ b' hb u v w rx ry
     simp only[SV.R]at rx ry
     subst rx;subst ry
     refine⟨.bool (!b'.den X.G ρ),?_,by simp [SV.R,B.neg_den]⟩
     have hg:(eqGuard .neq t xo yo (.bool (a.den X.G ρ)) (.bool (b.den X.G ρ))).run P w = .ok () w:=by
      unfold eqGuard;split<;>simp
     simp only[Sem.run_bind,hg,Result.andThen_ok,binOp,Op.equal,Op.maxDepth,hr]
     rfl
    ·cases h
  ·cases h
 ·rename_i a b
  split at h
  ·split at h
   ·cases h
   ·rename_i hgt
    split at h
    ·rename_i b' hb
     cases h
     have hr:=oG (G:=X.G) (ρ:=ρ) 10000 t _ _ b' hb u v w rx ry
     simp only[SV.R]at rx ry
     obtain⟨us,rfl,rx⟩:=rx
     obtain⟨vs,rfl,ry⟩:=ry
     refine⟨.bool (b'.den X.G ρ),?_,by simp [SV.R]⟩
     simp only[Sem.run_bind,wE (by simpa using hgt),Result.andThen_ok,binOp,Op.equal,Op.maxDepth,hr]
     rfl
    ·cases h
  ·split at h
   ·cases h
   ·rename_i hgt
    split at h
    ·rename_i b' hb
     cases h
     have hr:=oG (G:=X.G) (ρ:=ρ) 10000 t _ _ b' hb u v w rx ry
     simp only[SV.R]at rx ry
     obtain⟨us,rfl,rx⟩:=rx
     obtain⟨vs,rfl,ry⟩:=ry
     refine⟨.bool (!b'.den X.G ρ),?_,by simp [SV.R,B.neg_den]⟩
     simp only[Sem.run_bind,wE (by simpa using hgt),Result.andThen_ok,binOp,Op.equal,Op.maxDepth,hr]
     rfl
    ·cases h
  ·cases h
 ·rename_i pid poff
  split at h
  ·rename_i e hu
   simp only[SV.R]at rx ry
   obtain⟨b,hb,rfl⟩:=rx
   subst ry
   split at h
   ·cases h
    refine⟨.bool false,?_,by simp [SV.R,B.den]⟩
    have hg:(eqGuard .eql t xo yo (.pointer (some ⟨b.blk,poff,none⟩)) (.pointer none)).run P w = .ok () w:=by
     unfold eqGuard;split<;>simp
    simp only[Sem.run_bind,hg,Result.andThen_ok,binOp,Op.equal,Op.maxDepth,yH hu _ 9999 w]
    rfl
   ·cases h
    refine⟨.bool true,?_,by simp [SV.R,B.den]⟩
    have hg:(eqGuard .neq t xo yo (.pointer (some ⟨b.blk,poff,none⟩)) (.pointer none)).run P w = .ok () w:=by
     unfold eqGuard;split<;>simp
    simp only[Sem.run_bind,hg,Result.andThen_ok,binOp,Op.equal,Op.maxDepth,yH hu _ 9999 w]
    rfl
   ·cases h
  ·cases h
 ·split at h
  ·rename_i e hu
   simp only[SV.R]at rx ry
   subst rx;subst ry
   split at h
   ·cases h
    refine⟨.bool true,?_,by simp [SV.R,B.den]⟩
    have hg:(eqGuard .eql t xo yo (.pointer none) (.pointer none)).run P w = .ok () w:=by
     unfold eqGuard;split<;>simp
    simp only[Sem.run_bind,hg,Result.andThen_ok,binOp,Op.equal,Op.maxDepth,yA hu 9999 w]
    rfl
   ·cases h
    refine⟨.bool false,?_,by simp [SV.R,B.den]⟩
    have hg:(eqGuard .neq t xo yo (.pointer none) (.pointer none)).run P w = .ok () w:=by
     unfold eqGuard;split<;>simp
    simp only[Sem.run_bind,hg,Result.andThen_ok,binOp,Op.equal,Op.maxDepth,yA hu 9999 w]
    rfl
   ·cases h
  ·cases h
 ·cases h
theorem aST (hX:X.Ok ρ) {α:aV} {op:UnOp} {x s:SV} {u:Value} (h:sUn X op x = .ok s) (rx:SV.R X.G ρ α x u) (w:World):
  ∃ r,(Op.unary op u).run P w = .ok r w∧SV.R X.G ρ α s r:=by
 unfold sUn at h
 split at h
 ·obtain⟨f,hf,h⟩:=Res.bind_ok h
  cases h
  simp only[SV.R]at rx
  subst rx
  exact⟨_,by simp [Op.unary,Op.intArith];rfl,by simp [SV.R,lX hX hf,E.mkOp_den,IOp.den,E.den]⟩
 ·simp only[SV.R]at rx
  subst rx
  split at h
  ·cases h
   exact⟨_,by simp only[Op.unary,Op.intBits];rfl,by simp [SV.R,E.den,bT]⟩
  ·cases h
   exact⟨_,by simp only[Op.unary,Op.intBits];rfl,by simp [SV.R,E.den,bT]⟩
 ·cases h
  simp only[SV.R]at rx
  subst rx
  exact⟨_,by simp [Op.unary];rfl,by simp [SV.R,B.neg_den]⟩
 ·cases h
end
end Sx
end Go.Proofs.Ytdldallkeheciaa
namespace Go.Proofs.Ytdldallkeheciaa
namespace Sx
open Go Go.RowKit
def mU (gl:List (Nat × Nat)) (tm:List SV):Operand→SV
 | .tmp t=>tm.getD t (.tuple [])
 | .const v=>SV.ofV v
 | .global g=>match gl.find? (fun p=>p.1 ==g)with
  |some p => .ptr p.2 0
  |none => .con (.pointer (some ⟨g,0,none⟩))
 | .func f => .func (.func f) [] []
def aH5 (P:Program) (t:TypeId) (cs:List SV) (off:Nat):Option SV:=
 match Program.isAggT P t with
 |some true=>match P.info? t with
  |some i=>if decide (off+i.size≤cs.length) then some (.agg ((cs.drop off).take i.size)) else none
  |none=>none
 |some false=>cs[off]?
 |none=>none
def SV.oneCell:SV→Bool
 | .agg _ | .tuple _=>false
 | .con (.agg _) | .con (.tuple _)=>false
 | .any=>false
 | .vec _ _ _ _=>false
 |_=>true
def aBd (P:Program) (t:TypeId):Option (List SV):=
 if fY t=false then none else
 match P.info? t with
 |some i=>match i.zero with
  |some z=>(SV.ofV z).cells
  |none=>none
 |none=>none
def mZ (P:Program) (t:TypeId) (name:String):Option FuncId:=
 match P.underlying t with
 |some (.struct _)=>match (P.info? t).bind fun i=>i.methods.find? (·.name ==name)with
  |some m=>if m.path.isEmpty then match m.func with
    |some (f,false)=>some f
    |_=>none
   else none
  |none=>none
 |_=>none
def oR (X:Ctx) (v:Option SV) (dflt:Nat) (most:Nat):Res Nat:=
 match v with
 |none => .ok dflt
 |some (.int _ e)=>(Res.num X e).bind fun n=>if decide (0≤n) && decide (n≤most) then .ok n.toNat else .fail 30
 |some _ => .fail 31
def xO (P:Program) (X:Ctx) (t:TypeId) (x:SV) (lo hi mx:Option SV):Res SV:=
 match mx with
 |some _=>match P.underlying t,x,hi with
  |some (.slice e),.con (.slice none 0 0),some _=>match P.info? e with
   |some _=>(oR X mx 0 0).bind fun m=>(oR X hi 0 m).bind fun h=>(oR X lo 0 h).bind fun _ => .ok (.con (.slice none 0 0))
   |none => .fail 34
  |_,_,_ => .fail 32
 |none=>
 match P.underlying t,x with
 |some (.array n e),.ptr id off=>
  match P.info? e with
  |some i=>(oR X hi n n).bind fun h=>(oR X lo 0 h).bind fun l => .ok (.slice id (if decide (n=l) then off else off+l*i.size) (h-l) (n-l))
  |none => .fail 33
 |some (.slice e),.slice id off len cap=>
  match P.info? e with
  |some i=>(oR X hi len cap).bind fun h=>(oR X lo 0 h).bind fun l => .ok (.slice id (if decide (cap=l) then off else off+l*i.size) (h-l) (cap-l))
  |none => .fail 34
 |_,_ => .fail 35
def sD (P:Program) (X:Ctx) (t:TypeId) (x i:SV):Res SV:=
 match i with
 | .int _ e=>
  (Res.num X e).bind fun n=>
  match P.underlying t,x with
  |some (.array len el),.ptr id off=>
   match P.info? el with
   |some inf=>if decide (0≤n) && decide (n<len) then .ok (.ptr id (off+n.toNat*inf.size)) else .fail 40
   |none => .fail 41
  |some (.slice el),.slice id off len _=>
   match P.info? el with
   |some inf=>if decide (0≤n) && decide (n<len) then .ok (.ptr id (off+n.toNat*inf.size)) else .fail 42
   |none => .fail 43
  |_,_ => .fail 44
 |_ => .fail 45
def aFS (P:Program) (X:Ctx) (t:TypeId) (x i:SV):Res SV:=
 match i with
 | .int _ e=>
  (Res.num X e).bind fun n=>
  match P.underlying t,x with
  |some (.array len el),.agg cs=>
   match P.info? el with
   |some inf=>if decide (0≤n) && decide (n<len) then Res.ofOpt 46 (rA P el cs (n.toNat*inf.size)) else .fail 47
   |none => .fail 48
  |_,_ => .fail 49
 |_ => .fail 50
def vL (o:IOp) (acc:Res SV) (s:SV):Res SV:=
 match acc,s with
 | .ok (.int q y),.int _ z => .ok (.int q (E.mkOp o y z))
 | .need b,_ => .need b
 |_,_ => .fail 51
def qU (o:IOp):List SV→Res SV
 | .int k x::rest=>rest.foldl (vL o) (.ok (.int k x))
 |_ => .fail 52
def aQ9 (P:Program) (cap:Bool) (t:TypeId) (x:SV):Res SV:=
 match P.underlying t with
 |some (.array n _) => .ok (.int .i64 (.lit n))
 |some (.slice _)=>match x with
  | .slice _ _ n c => .ok (.int .i64 (.lit (if cap then c else n)))
  | .con (.slice _ n c) => .ok (.int .i64 (.lit (if cap then c else n)))
  |_ => .fail 53
 |some (.pointer a)=>match P.underlying a with
  |some (.array n _) => .ok (.int .i64 (.lit n))
  |_ => .fail 54
 |_ => .fail 55
def aF5 (P:Program) (X:Ctx) (t:TypeId) (l c:SV) (σ:aM):Res (SV × aM):=
 match l,c with
 | .int _ a,.int _ b=>
  (Res.num X a).bind fun n=>(Res.num X b).bind fun m=>
  match P.underlying t with
  |some (.slice e)=>match P.info? e,aBd P e with
   |some i,some z=>
    if decide (0≤n) && decide (n≤m) && decide (m*i.bytes≤65536) && decide (m≤65536) && decide (z.length=i.size) then .ok (.slice σ.length 0 n.toNat m.toNat,σ++[some ((List.range (m.toNat*i.size)).map (fun j=>z.getD (j % z.length) (.tuple [])),e)])
    else .fail 56
   |_,_ => .fail 57
  |_ => .fail 58
 |_,_ => .fail 59
def mB (P:Program) (t:TypeId) (len:Nat) (parts:List (Nat × SV)) (σ:aM):Res (SV × aM):=
 match P.underlying t with
 |some (.slice e)=>match P.info? e,aBd P e with
  |some i,some z=>
   if decide (0<len*i.size) && decide (len*i.size≤65536) && decide (z.length=i.size) then
    match aAp (fun j=>some (j*i.size,i.size)) ((List.range (len*i.size)).map (fun j=>z.getD (j % z.length) (.tuple []))) parts with
    |some cs => .ok (.slice σ.length 0 len len,σ++[some (cs,e)])
    |none => .fail 64
   else .fail 65
  |_,_ => .fail 66
 |_ => .fail 67
def aEJ (P:Program) (t:TypeId) (x v:SV) (σ:aM):Res aM:=
 match x with
 | .ptr id off=>
  match σ[id]? with
  |some (some (cs,T))=>
   if fY T=false then .fail 62 else
   match v.cells,P.info? t with
   |some c,some i=>if decide (c.length=i.size) && decide (off+c.length≤cs.length) && c.all SV.oneCell then cP (cs.take off++c++cs.drop (off+c.length)) fun cs' => .ok (σ.set id (some (cs',T))) else .fail 60
   |_,_ => .fail 61
  |_ => .fail 62
 |_ => .fail 63
def kC (P:Program) (X:Ctx) (kt:TypeId) (k:SV):List SV→Res (Option SV)
 |e::v::rest=>match sEq P 10000 kt k e with
  |none => .fail 150
  |some b=>(Res.test X b).bind fun r=>(kC P X kt k rest).bind fun q=>
   if r then (match q with|none => .ok (some v)|some _ => .fail 157) else .ok q
 |[] => .ok none
 |[_] => .fail 151
def aFk:SV→Nat
 | .agg [.int _ (.lit a),.int _ (.lit b)]=>a.toNat*65536+b.toNat
 |_=>0
def aN9 (r:Nat) (k v:SV):List SV→List SV
 |e::x::l=>if r≤aFk e then k::v::e::x::l else e::x::aN9 r k v l
 |_=>[k,v]
def kV (P:Program) (kt:TypeId) (k:SV):Bool:=
 match P.underlying kt,k with
 | some (.struct fs), .agg l => fs.toList.all fun f => (f.name != "_") && (match P.underlying f.type with | some (.int _) => true | _ => false) && (rA P f.type l f.offset).isSome
 |_,_=>false
def xH (P:Program) (X:Ctx) (t:TypeId) (m k v:SV) (σ:aM):Res aM:=
 match P.underlying t,m with
 |some (.map kt _),.map id=>
  match σ[id]? with
  |some (some (cs,T))=>
   if decide (T=gK) && kV P kt k && decide (cs.length % 2=0) then
    (kC P X kt k cs).bind fun r=>match r with
     |none=>cP (aN9 (aFk k) k v cs) fun cs' => .ok (σ.set id (some (cs',T)))
     |some _ => .fail 152
   else .fail 153
  |_ => .fail 154
 |_,_ => .fail 155
def aC5 (P:Program) (X:Ctx) (t:TypeId) (m k:SV) (ok:Bool) (σ:aM):Res SV:=
 match P.underlying t,m with
 |some (.map kt el),.map id=>
  match σ[id]? with
  |some (some (cs,T))=>
   if decide (T=gK) && kV P kt k && decide (cs.length % 2=0) then
    (kC P X kt k cs).bind fun r=>match r with
     |some s => .ok (if ok then .tuple [s,.bool (.lit true)] else s)
     |none=>match (P.info? el).bind (·.zero)with
      |some z => .ok (if ok then .tuple [SV.ofV z,.bool (.lit false)] else SV.ofV z)
      |none => .fail 156
   else .fail 153
  |_ => .fail 154
 |_,_ => .fail 155
def pN (P:Program) (X:Ctx) (ev:Operand→SV) (σ:aM) (o:Oper):Res (SV × aM):=
 let pure (r:Res SV):Res (SV × aM):=r.bind fun s => .ok (s,σ)
 match o.op with
 | .move x | .assign x => .ok (ev x,σ)
 | .pick c a b=>match ev c with
  | .bool t=>(Res.test X t).bind fun r => .ok (if r then ev a else ev b,σ)
  |_ => .fail 70
 | .alloc elem=>match aBd P elem with
  |some cs => .ok (.ptr σ.length 0,σ++[some (cs,elem)])
  |none => .fail 71
 | .box elem x=>if fY elem=false then .fail 72 else match (ev x).cells with
  |some cs => .ok (.ptr σ.length 0,σ++[some (cs,elem)])
  |none => .fail 72
 | .build t parts=>pure ((Res.ofOpt 73 (aFt P t (parts.toList.map fun p=>(p.1,ev p.2)))).bind fun l => .ok (.agg l))
 | .buildSlice t len parts=>mB P t len (parts.toList.map fun p=>(p.1,ev p.2)) σ
 | .load t x=>match ev x with
  | .ptr id off=>match σ[id]? with
   |some (some (cs,T))=>if fY T=false then .fail 75 else pure (Res.ofOpt 74 (aH5 P t cs off))
   |_ => .fail 75
  |_ => .fail 76
 | .store t x v=>(aEJ P t (ev x) (ev v) σ).bind fun σ' => .ok (.tuple [],σ')
 | .makeMap _ none => .ok (.map σ.length,σ++[some ([],gK)])
 | .insert t m k v=>(xH P X t (ev m) (ev k) (ev v) σ).bind fun σ' => .ok (.tuple [],σ')
 | .mapUpdate t m k v=>(xH P X t (ev m) (ev k) (ev v) σ).bind fun σ' => .ok (.tuple [],σ')
 | .lookup t m k ok=>pure (aC5 P X t (ev m) (ev k) ok σ)
 | .nilCheck x=>match ev x with
  | .ptr id off => .ok (.ptr id off,σ)
  | .func (.func f) a b => .ok (.func (.func f) a b,σ)
  | .func (.method m) [.iface t l] c=>match mZ P t m with
   |some _ => .ok (.func (.method m) [.iface t l] c,σ)
   |none => .fail 77
  |_ => .fail 77
 | .binOp op t x y _=>pure (aVJ P X op t (ev x) (ev y))
 | .unOp op _ x=>pure (sUn X op (ev x))
 | .convert src dst x=>match ev x with
  | .int _ e=>match P.underlying src,P.underlying dst with
   |some _,some (.int k) => .ok (.int k (e.mkWrap X k),σ)
   |_,_ => .fail 78
  |_ => .fail 79
 | .makeInterface t x=>match P.underlying t,ev x with
  |some (.struct _),.agg l => .ok (.iface t l,σ)
  |_,_ => .fail 94
 | .makeFunc fn first captured => .ok (.func fn (first.toList.map ev) (captured.toList.map ev),σ)
 | .makeSlice t l c=>aF5 P X t (ev l) (ev c) σ
 | .slice t x lo hi mx=>pure (xO P X t (ev x) (lo.map ev) (hi.map ev) (mx.map ev))
 | .fieldAddr t x f=>match ev x with
  | .ptr id off=>match P.underlying t with
   |some (.struct fs)=>match fs[f]? with
    |some fl=>match P.info? fl.type with
     |some i=>if decide (i.size=0) then .fail 80 else .ok (.ptr id (off+fl.offset),σ)
     |none => .fail 81
    |none => .fail 82
   |_ => .fail 83
  |_ => .fail 84
 | .field t x f=>match ev x with
  | .agg cs=>match P.underlying t with
   |some (.struct fs)=>match fs[f]? with
    |some fl=>pure (Res.ofOpt 85 (rA P fl.type cs fl.offset))
    |none => .fail 86
   |_ => .fail 87
  |_ => .fail 88
 | .indexAddr t x i=>pure (sD P X t (ev x) (ev i))
 | .index t x i=>pure (aFS P X t (ev x) (ev i))
 | .extract x i=>match ev x with
  | .tuple l=>match l[i]? with
   |some s => .ok (s,σ)
   |none => .fail 89
  |_ => .fail 90
 | .call { callee := .builtin b,args,argTypes }=>
  match b with
  | .max=>pure (qU .max (args.toList.map ev))
  | .min=>pure (qU .min (args.toList.map ev))
  | .len=>match argTypes[0]?,args.toList with
   |some t,x::_=>pure (aQ9 P false t (ev x))
   |_,_ => .fail 91
  | .cap=>match argTypes[0]?,args.toList with
   |some t,x::_=>pure (aQ9 P true t (ev x))
   |_,_ => .fail 91
  |_ => .fail 92
 |_ => .fail 93
section
variable {ρ:Nat→Int} {P:Program} {X:Ctx} {gl:List (Nat × Nat)}
theorem aAX {α:aV} {t T:TypeId} {cs:List SV} {vs:List Value} {off b:Nat} {s:SV} {w:World} (h:aH5 P t cs off=some s) (hb:w.heap[b]?=some (.cells vs.toArray T (0,0))) (r:SV.RL X.G ρ α cs vs):
  ∃ v,(loadVar t ⟨b,off,none⟩).run P w = .ok v w∧SV.R X.G ρ α s v:=by
 have hl:=bY r
 have hcell:∀ j v,vs[off+j]?=some v→w.cell? ((⟨b,off,none⟩:Addr).add j)=some v:=by
  intro j v hv
  have e:(⟨b,off,none⟩:Addr).add j=⟨b,off+j,none⟩:=by
   unfold Addr.add;split
   ·rename_i h0;subst h0;rfl
   ·rfl
  rw[e]
  simp [World.cell?,hb,hv]
 unfold aH5 at h
 split at h
 ·rename_i ha
  split at h
  ·rename_i i hi
   split at h
   ·rename_i hle
    simp only[decide_eq_true_eq]at hle
    cases h
    refine⟨.agg ((vs.drop off).take i.size).toArray,?_,?_⟩
    ·have hlen:((vs.drop off).take i.size).length=i.size:=by simp;omega
     have:=run_loadCells_list (P:=P) w ⟨b,off,none⟩ ((vs.drop off).take i.size) (fun j v hv=>by
      have hj:j<i.size:=by
       rcases Nat.lt_or_ge j i.size with q|q
       ·exact q
       ·rw[List.getElem?_eq_none (by omega)]at hv;cases hv
      rw[List.getElem?_take,if_pos hj,List.getElem?_drop]at hv
      exact hcell j v hv)
     rw[hlen]at this
     simp only[loadVar,Sem.run_bind,iD ha,Result.andThen_ok,if_true]
     simp [sizeOf,typeInfo,hi,this]
    ·simp only[SV.R]
     exact⟨_,rfl,iQ _ (gU _ r)⟩
   ·cases h
  ·cases h
 ·rename_i ha
  obtain⟨v,hv,hr⟩:=pK r h
  refine⟨v,?_,hr⟩
  have:=hcell 0 v (by simpa using hv)
  simp only[Addr.add]at this
  simp only[loadVar,Sem.run_bind,iD ha,Result.andThen_ok,Bool.false_eq_true,if_false]
  simp only[run_load]
  simp only[if_true]at this
  rw[this]
 ·cases h
theorem aAD {α:aV} {σ:aM} {w:World} {cs:List SV} {vs:List Value} (T:TypeId) (ob:Obj) (cap:Nat) (hob:eN ⟨w.heap.size,cap,false,0⟩ (some ob) vs T) (h:RelW X.G ρ gl α σ w) (r:SV.RL X.G ρ α cs vs):
  ∃ α',α' σ.length=some ⟨w.heap.size,cap,false,0⟩∧RelW X.G ρ gl α' (σ++[some (cs,T)]) (w.alloc ob)∧Ext σ.length σ (σ++[some (cs,T)]) α α' w (w.alloc ob):=by
 let α':aV:=fun id=>if id=σ.length then some ⟨w.heap.size,cap,false,0⟩ else α id
 have aN:α' σ.length=some ⟨w.heap.size,cap,false,0⟩:=by simp [α']
 have aO:∀ id,id≠σ.length→α' id=α id:=fun id e=>by simp [α',e]
 have hne:∀ id b,α id=some b→id≠σ.length:=fun id b e q=>by have:=(h.dom id b e).1;omega
 have mono:∀ id b,α id=some b→α' id=some b:=fun id b e=>by rw[aO id (hne id b e)];exact e
 have old:∀ id b,α id=some b→b.nil=false→b.blk<w.heap.size:=by
  intro id b e hb
  rcases(h.dom id b e).2 with q|q
  ·rw[hb]at q;cases q
  ·exact q
 have vo:∀ id,id<σ.length→(jT (σ++[some (cs,T)]) id↔jT σ id):=fun id hid=>by unfold jT;rw[List.getElem?_append_left hid]
 refine⟨α',aN,⟨?_,?_,?_,fun p hp=>mono _ _ (h.glob p hp),?_⟩,⟨rfl,rfl,rfl,by simp,by simp,mono,?_,?_,?_⟩⟩
 ·intro id b e
  by_cases hid:id=σ.length
  ·subst hid;rw[aN]at e;cases e;simp
  ·rw[aO id hid]at e
   obtain⟨h1,h2⟩:=h.dom id b e
   refine⟨by simp;omega,h2.imp (fun x=>x) (fun x=>by simp;omega)⟩
 ·intro i j b c ei ej hb hc hbc vi vj
  by_cases hi:i=σ.length<;>by_cases hj:j=σ.length
  ·rw[hi,hj]
  ·rw[hi,aN]at ei;rw[aO j hj]at ej;cases ei
   have:=old j _ ej hc;simp only at hbc;omega
  ·rw[hj,aN]at ej;rw[aO i hi]at ei;cases ej
   have:=old i _ ei hb;simp only at hbc;omega
  ·rw[aO i hi]at ei;rw[aO j hj]at ej
   exact h.inj i j b c ei ej hb hc hbc ((vo i (h.dom i b ei).1).1 vi) ((vo j (h.dom j c ej).1).1 vj)
 ·intro id c U e
  by_cases hid:id<σ.length
  ·rw[List.getElem?_append_left hid]at e
   obtain⟨b,us,h1,h2,h3⟩:=h.blk id c U e
   exact⟨b,us,mono _ _ h1,h2.of_eq fun hb=>Below.heap_alloc w _ b.blk (old id b h1 hb),SV.RL_mono mono c us h3⟩
  ·have hid':id=σ.length:=by
    rcases Nat.lt_or_ge id (σ.length+1)with q|q
    ·omega
    ·rw[List.getElem?_eq_none (by simp;omega)]at e;cases e
   subst hid'
   simp at e
   obtain⟨rfl,rfl⟩:=e
   refine⟨_,vs,aN,?_,SV.RL_mono mono _ vs r⟩
   show eN _ (w.heap.push _)[w.heap.size]? vs T
   rw[Array.getElem?_push,if_pos rfl]
   exact hob
 ·intro id c U b e hT ei hb j d ej hd hk vj
  by_cases hid:id=σ.length<;>by_cases hj:j=σ.length
  ·subst hid hj
   obtain⟨q,hq,hv⟩:=vj
   rw[e]at hq;cases hq
   rw[hT]at hv;cases hv
  ·rw[hid,aN]at ei;rw[aO j hj]at ej;cases ei
   have:=old j _ ej hd;simp only at hk;omega
  ·rw[hj,aN]at ej;rw[aO id hid]at ei;cases ej
   have:=old id _ ei hb;simp only at hk;omega
  ·rw[aO id hid]at ei;rw[aO j hj]at ej
   rw[List.getElem?_append_left (h.dom id b ei).1]at e
   exact h.view id c U b e hT ei hb j d ej hd hk ((vo j (h.dom j d ej).1).1 vj)
 ·intro id b e
  by_cases hid:id=σ.length
  ·subst hid;rw[aN]at e;cases e;exact .inr ⟨Nat.le_refl _,.inr (.inl (Nat.le_refl _))⟩
  ·rw[aO id hid]at e;exact .inl e
 ·intro b hb _
  exact Below.heap_alloc w _ b hb
 ·intro id b e hv
  exact(vo id (h.dom id b e).1).1 hv
theorem uV {α:aV} {σ:aM} {w:World} {cs:List SV} {vs:List Value} (T:TypeId) (ob:Obj) (hob:eN ⟨w.heap.size,0,false,0⟩ (some ob) vs T) (h:RelW X.G ρ gl α σ w) (r:SV.RL X.G ρ α cs vs):
  ∃ α',α' σ.length=some ⟨w.heap.size,0,false,0⟩∧RelW X.G ρ gl α' (σ++[some (cs,T)]) (w.alloc ob)∧Ext σ.length σ (σ++[some (cs,T)]) α α' w (w.alloc ob):=aAD T ob 0 hob h r
theorem qV {α:aV} {σ:aM} {w:World} {cs:List SV} {vs:List Value} (T:TypeId) (hT:fY T=true) (h:RelW X.G ρ gl α σ w) (r:SV.RL X.G ρ α cs vs):
  ∃ α',α' σ.length=some ⟨w.heap.size,0,false,0⟩∧RelW X.G ρ gl α' (σ++[some (cs,T)]) (w.alloc (.cells vs.toArray T))∧Ext σ.length σ (σ++[some (cs,T)]) α α' w (w.alloc (.cells vs.toArray T)):=by
 exact uV T _ ((cV hT).2 ⟨rfl,rfl⟩) h r
theorem jH {α:aV} {σ:aM} {w w':World} {id:Nat} {b:Loc} {cs cs':List SV} {vs':List Value} {T:TypeId} (h:RelW X.G ρ gl α σ w) (hs:σ[id]?=some (some (cs,T))) (hvw:vw T=false) (ha:α id=some b)
  (hnil:b.nil=false) (hos:w'.os=w.os) (htape:w'.tape=w.tape) (hout:w'.output=w.output) (hsz:w'.heap.size=w.heap.size) (other:∀ k,k≠b.blk→w'.heap[k]?=w.heap[k]?) (hob:eN b w'.heap[b.blk]? vs' T) (r:SV.RL X.G ρ α cs' vs'):
  RelW X.G ρ gl α (σ.set id (some (cs',T))) w'∧Ext σ.length σ (σ.set id (some (cs',T))) α α w w':=by
 have hlt:id<σ.length:=(h.dom id b ha).1
 have hvis:jT σ id:=⟨_,hs,hvw⟩
 have vs0:∀ i,jT (σ.set id (some (cs',T))) i→jT σ i:=by
  intro i hv
  by_cases hi:i=id
  ·rw[hi];exact hvis
  ·obtain⟨q,hq,hv⟩:=hv
   rw[List.getElem?_set_ne (fun q=>hi q.symm)]at hq
   exact⟨q,hq,hv⟩
 refine⟨⟨fun i c e=>by have:=h.dom i c e;rw[hsz];simpa using this,fun i j c d ei ej hc hd hcd vi vj=>h.inj i j c d ei ej hc hd hcd (vs0 i vi) (vs0 j vj),?_,h.glob,?_⟩,⟨hos,htape,hout,by omega,by simp,fun _ _ e=>e,fun _ _ e => .inl e,?_,fun i c e hv=>vs0 i hv⟩⟩
 ·intro i c U e
  by_cases hi:i=id
  ·subst hi
   rw[List.getElem?_set_self hlt]at e
   cases e
   exact⟨b,vs',ha,hob,r⟩
  ·rw[List.getElem?_set_ne (fun q=>hi q.symm)]at e
   obtain⟨k,us,h1,h2,h3⟩:=h.blk i c U e
   exact⟨k,us,h1,h2.of_eq fun hk=>other k.blk (fun q=>hi (h.only e h1 ha hk hnil q.symm hvis).symm),h3⟩
 ·intro i c U k e hT ei hk j d ej hd hdk vj
  by_cases hi:i=id
  ·subst hi
   rw[List.getElem?_set_self hlt]at e
   cases e
   rw[hvw]at hT;cases hT
  ·rw[List.getElem?_set_ne (fun q=>hi q.symm)]at e
   exact h.view i c U k e hT ei hk j d ej hd hdk (vs0 j vj)
 ·intro k hk hh
  exact other k (fun q=>hh id b ha hnil q.symm hvis)
theorem aIf {α:aV} {σ:aM} {w:World} {id:Nat} {b:Loc} {cs cs':List SV} {vs vs':List Value} {T:TypeId} (h:RelW X.G ρ gl α σ w) (hs:σ[id]?=some (some (cs,T))) (ha:α id=some b)
  (hT:fY T=true) (hnil:b.nil=false) (hb:w.heap[b.blk]?=some (.cells vs.toArray T (0,0))) (r:SV.RL X.G ρ α cs' vs'):
  RelW X.G ρ gl α (σ.set id (some (cs',T))) (w.setRow b.blk vs'.toArray)∧Ext σ.length σ (σ.set id (some (cs',T))) α α w (w.setRow b.blk vs'.toArray):=by
 refine jH h hs (aDy hT) ha hnil rfl rfl rfl (by simp) (fun k hk=>setRow_other w b.blk k _ hk) ((cV hT).2 ⟨hnil,setRow_heap w b.blk _ _ T (0,0) hb⟩) r
theorem aFp {α:aV} {σ:aM} {w:World} {id:Nat} {b:Loc} {cs cs':List SV} {vs':List Value} {T:TypeId} (h:RelW X.G ρ gl α σ w) (ob:Obj) (hnil:b.nil=false) (hob:eN b (some ob) vs' T) (hs:σ[id]?=some (some (cs,T))) (hvw:vw T=false) (ha:α id=some b) (r:SV.RL X.G ρ α cs' vs'):
  RelW X.G ρ gl α (σ.set id (some (cs',T))) { w with heap:=w.heap.setIfInBounds b.blk (ob) }∧Ext σ.length σ (σ.set id (some (cs',T))) α α w { w with heap:=w.heap.setIfInBounds b.blk (ob) }:=by
 have hbs:b.blk<w.heap.size:=by
  rcases(h.dom id b ha).2 with q|q
  ·rw[hnil]at q;cases q
  ·exact q
 refine jH (w':={ w with heap:=w.heap.setIfInBounds b.blk ob }) h hs hvw ha hnil rfl rfl rfl (by simp) (fun k hk=>Array.getElem?_setIfInBounds_ne (fun q=>hk q.symm)) ?_ r
 show eN b (w.heap.setIfInBounds b.blk ob)[b.blk]? vs' _
 rw[Array.getElem?_setIfInBounds_self_of_lt hbs];exact hob
theorem aIa {α:aV} {s:SV} {v:Value} (h:s.oneCell=true) (r:SV.R X.G ρ α s v):v.oneCell'=true:=by
 cases s<;>simp only[SV.R]at r
 case bool=>subst r;rfl
 case int=>subst r;rfl
 case ptr=>obtain⟨_,_,rfl⟩:=r;rfl
 case slice=>obtain⟨_,_,rfl⟩:=r;rfl
 case map=>obtain⟨_,_,rfl⟩:=r;rfl
 case yld=>obtain⟨_,_,rfl⟩:=r;rfl
 case iface=>obtain⟨_,rfl,_⟩:=r;rfl
 case vec=>simp [SV.oneCell]at h
 case own=>obtain⟨_,_,_,rfl,_⟩:=r;split<;>rfl
 case vsl=>obtain⟨_,_,_,_,⟨_,_,_,rfl,_⟩|⟨_,_,rfl,_⟩⟩:=r<;>rfl
 case vptr=>obtain⟨_,_,_,_,rfl⟩:=r;rfl
 case agg=>simp [SV.oneCell]at h
 case text=>obtain⟨_,rfl,_⟩:=r;rfl
 case any=>simp [SV.oneCell]at h
 case tuple=>simp [SV.oneCell]at h
 case func=>obtain⟨_,_,rfl,_⟩:=r;rfl
 case con x=>
  subst r
  cases v<;>first|rfl|(simp [SV.oneCell]at h)
theorem lB {α:aV}:∀ {l:List SV} {vs:List Value},l.all SV.oneCell=true→SV.RL X.G ρ α l vs→∀ v,v ∈ vs→v.oneCell'=true
 |[],vs,_,r,v,hv=>by simp only[SV.RL]at r;subst r;cases hv
 |s::l,vs,h,r,v,hv=>by
  simp only[SV.RL]at r
  obtain⟨u,vs',rfl,h2,h3⟩:=r
  simp only[List.all_cons,Bool.and_eq_true]at h
  rcases List.mem_cons.1 hv with rfl|hv
  ·exact aIa h.1 h2
  ·exact lB h.2 h3 v hv
theorem aFb {α:aV} {σ σ':aM} {w:World} {t:TypeId} {x v:SV} {xv vv:Value} (h:aEJ P t x v σ = .ok σ') (hW:RelW X.G ρ gl α σ w) (rx:SV.R X.G ρ α x xv) (rv:SV.R X.G ρ α v vv):
  ∃ w',(Instr.storeAt t xv vv).run P w = .ok () w'∧RelW X.G ρ gl α σ' w'∧Ext σ.length σ σ' α α w w':=by
 unfold aEJ at h
 simp only[cQ]at h
 split at h
 ·rename_i id off
  simp only[SV.R]at rx
  obtain⟨b,hb,rfl⟩:=rx
  split at h
  ·rename_i cs T hs
   obtain⟨b',vs,h1,h2,h3⟩:=hW.blk id cs T hs
   rw[hb]at h1;cases h1
   split at h
   ·cases h
   rename_i hT
   simp only[Bool.not_eq_false]at hT
   rw[cV hT]at h2
   obtain⟨hnil,h2⟩:=h2
   split at h
   ·rename_i c i hc hi
    split at h
    ·rename_i hg
     simp only[Bool.and_eq_true,decide_eq_true_eq]at hg
     obtain⟨⟨g1,g2⟩,g3⟩:=hg
     cases h
     have rc:=jA hc rv
     have lc:=bY rc
     have lv:=bY h3
     have hst:=run_storeCells_at (P:=P) b.blk off T vv.cells.toList 0 vs.toArray w h2 (by simp at lc ⊢;omega) (lB g3 rc)
     have rel:SV.RL X.G ρ α (cs.take off++c++cs.drop (off+c.length)) (vs.take off++vv.cells.toList++vs.drop (off+c.length)):=
      dK (dK (iQ _ h3) rc) (gU _ h3)
     obtain⟨r1,r2⟩:=aIf hW hs hb hT hnil h2 rel
     refine⟨_,?_,r1,r2⟩
     have hsz:vv.cells.size=i.size:=by simp at lc;omega
     simp only[Instr.storeAt,Instr.sureAddr,storeVar,Sem.run_bind,Sem.run_pure,Result.andThen_ok]
     simp only[sizeOf,typeInfo,Sem.run_bind,run_program,hi,Result.andThen_ok,Sem.run_pure]
     simp only[hsz,ne_eq,not_true_eq_false,if_false,Sem.run_pure,Result.andThen_ok]
     rw[hst]
     congr 2
     simp only[Nat.add_zero]
     rw[lc]
    ·cases h
   ·cases h
  ·cases h
 ·cases h
end
section
variable {ρ:Nat→Int} {P:Program} {X:Ctx} {gl:List (Nat × Nat)}
theorem uI {α:aV} {ev:Operand→SV} {ea:Operand→Value}:∀ (l:List (Nat × Operand)),(∀ p,p ∈ l→SV.R X.G ρ α (ev p.2) (ea p.2))→Parts X.G ρ α (l.map fun p=>(p.1,ev p.2)) (l.map fun p=>(p.1,ea p.2))
 |[],_ => .nil
 |p::l,h => .cons (h p (by simp)) (uI l fun q hq=>h q (by simp [hq]))
theorem lC {α:aV} {ev:Operand→SV} {ea:Operand→Value}:∀ (l:List Operand),(∀ p,p ∈ l→SV.R X.G ρ α (ev p) (ea p))→SV.RL X.G ρ α (l.map ev) (l.map ea)
 |[],_=>bC
 |p::l,h=>aW (h p (by simp)) (lC l fun q hq=>h q (by simp [hq]))
theorem hZ (hX:X.Ok ρ) {α:aV} {v:Option SV} {u:Option Value} {d m n:Nat} (h:oR X v d m = .ok n) (hu:u.isSome=v.isSome) (hr:∀ s x,v=some s→u=some x→SV.R X.G ρ α s x):
  (u=none∧n=d)∨∃ k i,u=some (.int k i)∧0≤i∧i≤m∧n=i.toNat:=by
 unfold oR at h
 split at h
 ·cases h
  cases u with
  |none=>exact .inl ⟨rfl,rfl⟩
  |some x=>simp at hu
 ·rename_i k e
  obtain⟨i,hi,h⟩:=Res.bind_ok h
  have he:=Res.num_ok hX hi
  split at h
  ·rename_i hg
   simp only[Bool.and_eq_true,decide_eq_true_eq]at hg
   cases h
   cases u with
   |none=>simp at hu
   |some x=>
    have:=hr _ x rfl rfl
    simp only[SV.R]at this
    subst this
    exact .inr ⟨k,i,by rw[he],hg.1,hg.2,rfl⟩
  ·cases h
 ·cases h
theorem cI (b off n:Nat):(⟨b,off,none⟩:Addr).add n=⟨b,off+n,none⟩:=by
 unfold Addr.add;split
 ·rename_i h;subst h;rfl
 ·rfl
theorem zF {isSlice:Bool} {len cap:Nat} {lo hi:Option Value} {l h:Nat} (hh:(hi=none∧h=len)∨∃ k i,hi=some (.int k i)∧0≤i∧i≤cap∧h=i.toNat)
  (hl:(lo=none∧l=0)∨∃ k i,lo=some (.int k i)∧0≤i∧i≤h∧l=i.toNat) (w:World):(Instr.sliceBounds isSlice len cap lo hi none).run P w = .ok (l,h,cap) w:=by
 rcases hh with⟨rfl,rfl⟩|⟨k,i,rfl,h1,h2,rfl⟩
 ·rcases hl with⟨rfl,rfl⟩|⟨q,j,rfl,g1,g2,rfl⟩
  ·simp [Instr.sliceBounds]
  ·simp [Instr.sliceBounds,run_sliceBound w q j h _ g1 g2]
 ·rcases hl with⟨rfl,rfl⟩|⟨q,j,rfl,g1,g2,rfl⟩
  ·simp [Instr.sliceBounds,run_sliceBound w k i cap _ h1 h2]
  ·simp [Instr.sliceBounds,run_sliceBound w k i cap _ h1 h2,run_sliceBound w q j i.toNat _ g1 g2]
theorem aFJ {t:TypeId} {name:String} {g:FuncId} (hm:mZ P t name=some g) (v:Value) (w:World):(method (P.types.size+Made.depth) t v name).run P w = .ok (g,v) w:=by
 unfold mZ at hm
 split at hm
 case h_2=>cases hm
 rename_i fs hu
 split at hm
 case h_2=>cases hm
 rename_i m hb
 split at hm
 case isFalse=>cases hm
 rename_i hp
 split at hm
 case h_2=>cases hm
 rename_i f hf
 cases hm
 obtain⟨i,hi,hfd⟩:=Option.bind_eq_some_iff.1 hb
 obtain⟨q,hq⟩:∃ q,P.types.size+Made.depth=q+1:=⟨P.types.size+99,rfl⟩
 rw[hq]
 have hpl:m.path.toList=[]:=by simpa using hp
 simp [method,typeInfo,hi,hfd,hpl,follow,hf,receiverAt,run_underlying hu,Place.get]
theorem aB3 {t:TypeId} {name:String} {g:FuncId} (hm:mZ P t name=some g) (v:Value) (w:World):(nilAhead (P.types.size+Made.depth) t v name).run P w = .ok (some false) w:=by
 unfold mZ at hm
 split at hm
 case h_2=>cases hm
 rename_i fs hu
 split at hm
 case h_2=>cases hm
 rename_i m hb
 split at hm
 case isFalse=>cases hm
 rename_i hp
 split at hm
 case h_2=>cases hm
 rename_i f hf
 cases hm
 obtain⟨i,hi,hfd⟩:=Option.bind_eq_some_iff.1 hb
 obtain⟨q,hq⟩:∃ q,P.types.size+Made.depth=q+1:=⟨P.types.size+99,rfl⟩
 rw[hq]
 have hpl:m.path.toList=[]:=by simpa using hp
 simp [nilAhead,typeInfo,hi,hfd,hpl,followBlind,hf,run_underlying hu]
theorem wD {isSlice:Bool} {len cap:Nat} {lo hi mx:Option Value} {l h m:Nat} (hm:(mx=none∧m=cap)∨∃ k i,mx=some (.int k i)∧0≤i∧i≤cap∧m=i.toNat)
  (hh:(hi=none∧mx=none∧h=len)∨∃ k i,hi=some (.int k i)∧0≤i∧i≤m∧h=i.toNat)
  (hl:(lo=none∧l=0)∨∃ k i,lo=some (.int k i)∧0≤i∧i≤h∧l=i.toNat) (w:World):(Instr.sliceBounds isSlice len cap lo hi mx).run P w = .ok (l,h,m) w:=by
 rcases hm with⟨rfl,rfl⟩|⟨k,i,rfl,m1,m2,rfl⟩
 ·rcases hh with⟨rfl,_,rfl⟩|⟨k,i,rfl,h1,h2,rfl⟩
  ·rcases hl with⟨rfl,rfl⟩|⟨q,j,rfl,g1,g2,rfl⟩
   ·simp [Instr.sliceBounds]
   ·simp [Instr.sliceBounds,run_sliceBound w q j h _ g1 g2]
  ·rcases hl with⟨rfl,rfl⟩|⟨q,j,rfl,g1,g2,rfl⟩
   ·simp [Instr.sliceBounds,run_sliceBound w k i m _ h1 h2]
   ·simp [Instr.sliceBounds,run_sliceBound w k i m _ h1 h2,run_sliceBound w q j i.toNat _ g1 g2]
 ·rcases hh with⟨rfl,q,rfl⟩|⟨q,u,rfl,h1,h2,rfl⟩
  ·cases q
  ·rcases hl with⟨rfl,rfl⟩|⟨p,j,rfl,g1,g2,rfl⟩
   ·simp [Instr.sliceBounds,run_sliceBound w k i cap _ m1 m2,run_sliceBound w q u i.toNat _ h1 h2]
   ·simp [Instr.sliceBounds,run_sliceBound w k i cap _ m1 m2,run_sliceBound w q u i.toNat _ h1 h2,run_sliceBound w p j u.toNat _ g1 g2]
theorem aDZ (hX:X.Ok ρ) {α:aV} {t:TypeId} {x s m0:SV} {xv:Value} {lo hi:Option SV} {lv hv mv:Option Value} (h:xO P X t x lo hi (some m0) = .ok s) (rx:SV.R X.G ρ α x xv)
  (hl:lv.isSome=lo.isSome) (hlr:∀ s x,lo=some s→lv=some x→SV.R X.G ρ α s x) (hh:hv.isSome=hi.isSome) (hhr:∀ s x,hi=some s→hv=some x→SV.R X.G ρ α s x) (hm:mv.isSome=(some m0).isSome) (hmr:∀ s x,some m0=some s→mv=some x→SV.R X.G ρ α s x) (w:World):
  ∃ v,(Instr.sliceAt t xv lv hv mv).run P w = .ok v w∧SV.R X.G ρ α s v:=by
 unfold xO at h
 simp only at h
 split at h
 case h_2=>cases h
 rename_i e h0 hu
 simp only[SV.R]at rx
 subst rx
 split at h
 case h_2=>cases h
 rename_i i hi'
 obtain⟨M,hM,h⟩:=Res.bind_ok h
 obtain⟨H,hH,h⟩:=Res.bind_ok h
 obtain⟨L,hL,h⟩:=Res.bind_ok h
 cases h
 have c1:=hZ hX hM hm hmr
 have c2:=hZ hX hH hh hhr
 have c3:=hZ hX hL hl hlr
 have hM0:M=0:=by
  rcases c1 with⟨q,_⟩|⟨k,i,q,q1,q2,q3⟩
  ·rw[q]at hm;cases hm
  ·omega
 subst hM0
 have c2':(hv=none∧mv=none∧H=0)∨∃ k i,hv=some (.int k i)∧0≤i∧i≤((0:Nat):Int)∧H=i.toNat:=by
  rcases c2 with⟨q,_⟩|c2
  ·rw[q]at hh;cases hh
  ·exact .inr c2
 have hH0:H=0:=by
  rcases c2' with⟨_,_,q⟩|⟨_,i,_,q1,q2,q3⟩<;>omega
 have hL0:L=0:=by
  rcases c3 with⟨_,q⟩|⟨_,i,_,q1,q2,q3⟩<;>omega
 have hrun:=wD (P:=P) (isSlice:=true) (len:=0) (cap:=0) (m:=0) c1 c2' c3 w
 subst hH0 hL0
 refine⟨.slice none 0 0,?_,by simp only[SV.R]⟩
 simp only[Instr.sliceAt,Instr.slice,Sem.run_bind,run_underlying hu,Result.andThen_ok,Sem.run_pure,hrun]
 simp [sizeOf,typeInfo,Sem.run_bind,run_program,hi',Result.andThen_ok,Sem.run_pure]
theorem aER (hX:X.Ok ρ) {α:aV} {t:TypeId} {x s:SV} {xv:Value} {lo hi:Option SV} {lv hv:Option Value} (h:xO P X t x lo hi none = .ok s) (rx:SV.R X.G ρ α x xv)
  (hl:lv.isSome=lo.isSome) (hlr:∀ s x,lo=some s→lv=some x→SV.R X.G ρ α s x) (hh:hv.isSome=hi.isSome) (hhr:∀ s x,hi=some s→hv=some x→SV.R X.G ρ α s x) (w:World):
  ∃ v,(Instr.sliceAt t xv lv hv none).run P w = .ok v w∧SV.R X.G ρ α s v:=by
 unfold xO at h
 simp only at h
 split at h
 ·rename_i n e id off hu
  simp only[SV.R]at rx
  obtain⟨b,hb,rfl⟩:=rx
  split at h
  ·rename_i i hi'
   obtain⟨H,hH,h⟩:=Res.bind_ok h
   obtain⟨L,hL,h⟩:=Res.bind_ok h
   cases h
   have c1:=hZ hX hH hh hhr
   have c2:=hZ hX hL hl hlr
   refine⟨.slice (some ⟨b.blk,if decide (n=L)=true then off else off+L*i.size,none⟩) (H-L) (n-L),?_,by simp only[SV.R];exact⟨b,hb,rfl⟩⟩
   simp only[Instr.sliceAt,Sem.run_bind,run_underlying hu,Result.andThen_ok,Instr.sureAddr,Sem.run_pure,zF c1 c2]
   simp only[sizeOf,typeInfo,Sem.run_bind,run_program,hi',Result.andThen_ok,Sem.run_pure,cI]
   by_cases hnl:n=L<;>simp [hnl]
  ·cases h
 ·rename_i e id off len cap hu
  simp only[SV.R]at rx
  obtain⟨b,hb,rfl⟩:=rx
  split at h
  ·rename_i i hi'
   obtain⟨H,hH,h⟩:=Res.bind_ok h
   obtain⟨L,hL,h⟩:=Res.bind_ok h
   cases h
   have c1:=hZ hX hH hh hhr
   have c2:=hZ hX hL hl hlr
   refine⟨.slice (some ⟨b.blk,if decide (cap=L)=true then off else off+L*i.size,none⟩) (H-L) (cap-L),?_,by simp only[SV.R];exact⟨b,hb,rfl⟩⟩
   simp only[Instr.sliceAt,Instr.slice,Sem.run_bind,run_underlying hu,Result.andThen_ok,Sem.run_pure,zF c1 c2]
   simp only[sizeOf,typeInfo,Sem.run_bind,run_program,hi',Result.andThen_ok,Sem.run_pure,Option.map_some,cI]
   by_cases hnl:cap=L<;>simp [hnl]
  ·cases h
 ·cases h
theorem zD (hX:X.Ok ρ) {α:aV} {t:TypeId} {x i s:SV} {xv iv:Value} (h:sD P X t x i = .ok s) (rx:SV.R X.G ρ α x xv) (ri:SV.R X.G ρ α i iv) (w:World):
  ∃ v,(Instr.indexAt t xv iv).run P w = .ok v w∧SV.R X.G ρ α s v:=by
 unfold sD at h
 split at h
 ·rename_i k e
  replace h:=Res.bind_ok h
  obtain⟨n,hn,h⟩:=h
  have he:=Res.num_ok hX hn
  simp only[SV.R]at ri
  subst ri
  rw[he]
  split at h
  ·rename_i len el id off hu
   simp only[SV.R]at rx
   obtain⟨b,hb,rfl⟩:=rx
   split at h
   ·rename_i inf hi
    split at h
    ·rename_i hg
     simp only[Bool.and_eq_true,decide_eq_true_eq]at hg
     cases h
     refine⟨.pointer (some ⟨b.blk,off+n.toNat*inf.size,none⟩),?_,by simp only[SV.R];exact⟨b,hb,rfl⟩⟩
     simp [Instr.indexAt,asIntOf,run_underlying hu,Instr.sureAddr,hg.1,hg.2,sizeOf,typeInfo,hi,cI]
    ·cases h
   ·cases h
  ·rename_i el id off len cap hu
   simp only[SV.R]at rx
   obtain⟨b,hb,rfl⟩:=rx
   split at h
   ·rename_i inf hi
    split at h
    ·rename_i hg
     simp only[Bool.and_eq_true,decide_eq_true_eq]at hg
     cases h
     refine⟨.pointer (some ⟨b.blk,off+n.toNat*inf.size,none⟩),?_,by simp only[SV.R];exact⟨b,hb,rfl⟩⟩
     simp [Instr.indexAt,asIntOf,run_underlying hu,hg.1,hg.2,sizeOf,typeInfo,hi,cI]
    ·cases h
   ·cases h
  ·cases h
 ·cases h
theorem aFu (hX:X.Ok ρ) {α:aV} {t:TypeId} {x i s:SV} {xv iv:Value} (h:aFS P X t x i = .ok s) (rx:SV.R X.G ρ α x xv) (ri:SV.R X.G ρ α i iv) (w:World):
  ∃ v,(Instr.index t xv iv).run P w = .ok v w∧SV.R X.G ρ α s v:=by
 unfold aFS at h
 split at h
 ·rename_i k e
  replace h:=Res.bind_ok h
  obtain⟨n,hn,h⟩:=h
  have he:=Res.num_ok hX hn
  simp only[SV.R]at ri
  subst ri
  rw[he]
  split at h
  ·rename_i len el cs hu
   simp only[SV.R]at rx
   obtain⟨vs,rfl,rx⟩:=rx
   split at h
   ·rename_i inf hi
    split at h
    ·rename_i hg
     simp only[Bool.and_eq_true,decide_eq_true_eq]at hg
     obtain⟨v,hv,hr⟩:=jL (P:=P) (Res.ofOpt_ok h) rx w
     refine⟨v,?_,hr⟩
     simp [Instr.index,asIntOf,run_underlying hu,hg.1,hg.2,sizeOf,typeInfo,hi,hv]
    ·cases h
   ·cases h
  ·cases h
 ·cases h
theorem aGD (o:IOp) (c:Nat):∀ l:List SV,∃ c',l.foldl (vL o) (.fail c) = .fail c'
 |[]=>⟨c,rfl⟩
 |x::l=>by
  have:vL o (.fail c) x = .fail 51:=by cases x<;>rfl
  simp only[List.foldl_cons,this]
  exact aGD o 51 l
theorem oH {α:aV} {o:IOp} {m2:Value→Value→Sem Value} (hm:∀ k q x y (w:World),(m2 (.int k x) (.int q y)).run P w = .ok (.int k (o.den x y)) w):∀ (rest:List SV) (vs:List Value) (k:IntKind) (e:E) (s:SV),
  rest.foldl (vL o) (.ok (.int k e)) = .ok s→SV.RL X.G ρ α rest vs→∀ w:World,∃ u,(vs.foldlM m2 (.int k (e.den X.G ρ))).run P w = .ok u w∧SV.R X.G ρ α s u
 |[],vs,k,e,s,h,rl,w=>by
  simp only[SV.RL]at rl
  subst rl
  simp only[List.foldl_nil]at h
  cases h
  exact⟨_,by simp;rfl,by simp [SV.R]⟩
 |x::rest,vs,k,e,s,h,rl,w=>by
  simp only[SV.RL]at rl
  obtain⟨u,vs',rfl,h2,h3⟩:=rl
  simp only[List.foldl_cons]at h
  cases x with
  |int q z=>
   simp only[SV.R]at h2
   subst h2
   have h':rest.foldl (vL o) (.ok (.int k (E.mkOp o e z))) = .ok s:=h
   obtain⟨y,hy,ry⟩:=oH hm rest vs' k _ s h' h3 w
   rw[E.mkOp_den]at hy
   exact⟨y,by simp only[List.foldlM_cons,Sem.run_bind,hm,Result.andThen_ok];exact hy,ry⟩
  |_=>
   exfalso
   simp only[vL]at h
   obtain⟨c,hc⟩:=aGD o 51 rest
   rw[hc]at h
   cases h
theorem aJ5 {α:aV} {l:List SV} {vs:List Value} {s:SV} {ts:Array TypeId} {t:TypeId} (h:qU .max l = .ok s) (r:SV.RL X.G ρ α l vs) (w:World):∃ u,(Builtin.max_ ts t vs.toArray).run P w = .ok u w∧SV.R X.G ρ α s u:=by
 unfold qU at h
 split at h
 ·rename_i k x rest
  simp only[SV.RL]at r
  obtain⟨v,vs',rfl,h2,h3⟩:=r
  simp only[SV.R]at h2
  subst h2
  obtain⟨u,hu,ru⟩:=oH (P:=P) (m2:=Builtin.max2) (fun k q x y w=>by simp [Builtin.max2,IOp.den]) rest vs' k x s h h3 w
  exact⟨u,by simpa [Builtin.max_]using hu,ru⟩
 ·cases h
theorem aKA {α:aV} {l:List SV} {vs:List Value} {s:SV} {ts:Array TypeId} {t:TypeId} (h:qU .min l = .ok s) (r:SV.RL X.G ρ α l vs) (w:World):∃ u,(Builtin.min_ ts t vs.toArray).run P w = .ok u w∧SV.R X.G ρ α s u:=by
 unfold qU at h
 split at h
 ·rename_i k x rest
  simp only[SV.RL]at r
  obtain⟨v,vs',rfl,h2,h3⟩:=r
  simp only[SV.R]at h2
  subst h2
  obtain⟨u,hu,ru⟩:=oH (P:=P) (m2:=Builtin.min2) (fun k q x y w=>by simp [Builtin.min2,IOp.den]) rest vs' k x s h h3 w
  exact⟨u,by simpa [Builtin.min_]using hu,ru⟩
 ·cases h
theorem aDO {α:aV} {t ty:TypeId} {x s:SV} {v:Value} {vs:List Value} {ts:Array TypeId} {c:Bool} (h:aQ9 P c t x = .ok s) (ht:ts[0]?=some t) (r:SV.R X.G ρ α x v) (w:World):
  ∃ u,(if c then Builtin.cap_ ts ty (v::vs).toArray else Builtin.len_ ts ty (v::vs).toArray).run P w = .ok u w∧SV.R X.G ρ α s u:=by
 have hv0:(v::vs).toArray[0]?=some v:=by simp
 unfold aQ9 at h
 split at h
 ·rename_i n e hu
  cases h
  refine⟨.int .i64 n,?_,by simp [SV.R,E.den]⟩
  cases c<;>simp [Builtin.cap_,Builtin.len_,ht,hv0,run_underlying hu,goInt]
 ·rename_i e hu
  split at h
  ·cases h
   simp only[SV.R]at r
   obtain⟨b,hb,rfl⟩:=r
   cases c
   ·exact⟨_,by simp [Builtin.len_,ht,run_underlying hu,goInt];rfl,by simp [SV.R,E.den]⟩
   ·exact⟨_,by simp [Builtin.cap_,ht,run_underlying hu,goInt];rfl,by simp [SV.R,E.den]⟩
  ·cases h
   simp only[SV.R]at r
   subst r
   cases c
   ·exact⟨_,by simp [Builtin.len_,ht,run_underlying hu,goInt];rfl,by simp [SV.R,E.den]⟩
   ·exact⟨_,by simp [Builtin.cap_,ht,run_underlying hu,goInt];rfl,by simp [SV.R,E.den]⟩
  ·cases h
 ·rename_i a hu
  split at h
  ·rename_i n e hu2
   cases h
   refine⟨.int .i64 n,?_,by simp [SV.R,E.den]⟩
   cases c<;>simp [Builtin.cap_,Builtin.len_,ht,hv0,run_underlying hu,run_underlying hu2,goInt]
  ·cases h
 ·cases h
end
end Sx
end Go.Proofs.Ytdldallkeheciaa
namespace Go.Proofs.Ytdldallkeheciaa
namespace Sx
open Go Go.RowKit
section
variable {ρ:Nat→Int} {P:Program} {X:Ctx} {gl:List (Nat × Nat)}
theorem aLg {α:aV} {zv:Value} {z:List SV} (hz:(SV.ofV zv).cells=some z) (n:Nat) (hn:n≠0→0<z.length):
  SV.RL X.G ρ α ((List.range n).map (fun j=>z.getD (j % z.length) (.tuple []))) (madeCells zv.cells n).toList:=by
 have rz:=jA (G:=X.G) (ρ:=ρ) (α:=α) hz (qZ zv)
 have lz:=bY rz
 have hsz:zv.cells.size=z.length:=by simpa using lz
 unfold madeCells
 simp only[Array.toList_map,Array.toList_range]
 have hlt:∀ j,j ∈ List.range n→j % z.length<z.length:=fun j hj=>Nat.mod_lt _ (hn (by intro e;subst e;simp at hj))
 generalize List.range n=js at hlt
 induction js with
 |nil=>exact bC
 |cons j js ih=>
  refine aW ?_ (ih (fun k hk=>hlt k (by simp [hk])))
  have hj:=hlt j (by simp)
  have h1:z[j % z.length]?=some (z[j % z.length]):=by simp [hj]
  obtain⟨v,hv,rv⟩:=pK rz h1
  simp only[List.getD,h1,Option.getD_some]
  rw[hsz,getElem!_pos zv.cells _ (by omega)]
  have:v=zv.cells[j % z.length]'(by omega):=by
   have h2:zv.cells.toList[j % z.length]?=some (zv.cells[j % z.length]'(by omega)):=by simp
   rw[h2]at hv;exact(Option.some.inj hv).symm
  rw[←this];exact rv
theorem wR {α:aV} {σ σ':aM} {w:World} {t:TypeId} {len:Nat} {ps:List (Nat × SV)} {vs:List (Nat × Value)} {s:SV} (h:mB P t len ps σ = .ok (s,σ')) (hW:RelW X.G ρ gl α σ w) (hp:Parts X.G ρ α ps vs):
  ∃ v w' α',(Instr.buildSlice t len vs.toArray).run P w = .ok v w'∧SV.R X.G ρ α' s v∧RelW X.G ρ gl α' σ' w'∧Ext σ.length σ σ' α α' w w':=by
 unfold mB at h
 split at h
 ·rename_i e hu
  split at h
  ·rename_i i z hi hz
   split at h
   ·rename_i hg
    simp only[Bool.and_eq_true,decide_eq_true_eq]at hg
    obtain⟨⟨g1,g2⟩,g3⟩:=hg
    split at h
    ·rename_i cs hf
     cases h
     unfold aBd at hz
     split at hz
     ·cases hz
     rename_i hT
     simp only[Bool.not_eq_false]at hT
     rw[hi]at hz
     simp only at hz
     split at hz
     ·rename_i zv hzv
      have hzp:0<z.length:=by rw[g3];exact Nat.pos_of_mul_pos_left g1
      obtain⟨os,f1,f2⟩:=sU hp (aLg (X:=X) (ρ:=ρ) (α:=α) hz (len*i.size) (fun _=>hzp)) hf
      obtain⟨α',a1,a2,a3⟩:=qV e hT hW f2
      refine⟨.slice (some ⟨w.heap.size,0,none⟩) len len,_,α',?_,by simp only[SV.R];exact⟨_,a1,rfl⟩,a2,a3⟩
      have hne:¬len*i.size=0:=by omega
      have hle:¬len*i.size>2 ^ 24:=by omega
      unfold madeCells at f1
      simp only[Instr.buildSlice,Sem.run_bind,run_underlying hu,Result.andThen_ok,sizeOf,typeInfo,run_program,hi,Sem.run_pure]
      rw[if_neg hle]
      rw[if_neg hne]
      simp [zeroValue,typeInfo,hi,hzv,f1,newRow]
     ·cases hz
    ·cases h
   ·cases h
  ·cases h
 ·cases h
theorem aI0 (hX:X.Ok ρ) {α:aV} {σ σ':aM} {w:World} {t:TypeId} {l c s:SV} {lv cv:Value} (h:aF5 P X t l c σ = .ok (s,σ')) (hW:RelW X.G ρ gl α σ w) (rl:SV.R X.G ρ α l lv) (rc:SV.R X.G ρ α c cv):
  ∃ v w' α',(Instr.makeSlice t lv cv).run P w = .ok v w'∧SV.R X.G ρ α' s v∧RelW X.G ρ gl α' σ' w'∧Ext σ.length σ σ' α α' w w':=by
 unfold aF5 at h
 split at h
 ·rename_i k a q b
  simp only[SV.R]at rl rc
  subst rl;subst rc
  replace h:=Res.bind_ok h
  obtain⟨n,hn,h⟩:=h
  replace h:=Res.bind_ok h
  obtain⟨m,hm,h⟩:=h
  rw[Res.num_ok hX hn,Res.num_ok hX hm]
  split at h
  ·rename_i e hu
   split at h
   ·rename_i i z hi hz
    split at h
    ·rename_i hg
     simp only[Bool.and_eq_true,decide_eq_true_eq]at hg
     obtain⟨⟨⟨⟨g1,g2⟩,g3⟩,g4⟩,g5⟩:=hg
     cases h
     unfold aBd at hz
     split at hz
     ·cases hz
     rename_i hT
     simp only[Bool.not_eq_false]at hT
     rw[hi]at hz
     simp only at hz
     split at hz
     ·rename_i zv hzv
      have rz:=jA (G:=X.G) (ρ:=ρ) (α:=α) hz (qZ zv)
      have lz:=bY rz
      have rel:SV.RL X.G ρ α ((List.range (m.toNat*i.size)).map (fun j=>z.getD (j % z.length) (.tuple []))) ((List.range (m.toNat*i.size)).map (fun j=>zv.cells.toList.getD (j % z.length) undef)):=by
       generalize List.range (m.toNat*i.size)=js
       induction js with
       |nil=>exact bC
       |cons j js ih=>
        refine aW ?_ ih
        by_cases hj:j % z.length<z.length
        ·have h1:z[j % z.length]?=some (z[j % z.length]):=by simp [hj]
         obtain⟨v,hv,rv⟩:=pK rz h1
         simp only[List.getD,h1,hv,Option.getD_some]
         exact rv
        ·have e1:z[j % z.length]?=none:=List.getElem?_eq_none (by omega)
         have e2:zv.cells.toList[j % z.length]?=none:=List.getElem?_eq_none (by omega)
         simp only[List.getD,e1,e2,Option.getD_none]
         simp only[SV.R]
         exact⟨[],rfl,bC⟩
      have hrun:=run_make (P:=P) w t e i zv hu hi hzv k q n m g1 g2 (by rw[Int.mul_comm];omega) (by omega)
      have hcells:madeCells zv.cells (m.toNat*i.size)=((List.range (m.toNat*i.size)).map (fun j=>zv.cells.toList.getD (j % z.length) undef)).toArray:=by
       unfold madeCells
       apply Array.ext'
       simp only[Array.toList_map,Array.toList_range]
       apply List.map_congr_left
       intro j hj
       have hsz:zv.cells.size=z.length:=by simpa using lz
       rw[hsz]
       by_cases hz0:j % z.length<z.length
       ·rw[getElem!_pos zv.cells _ (by omega)]
        rw[List.getD_eq_getElem?_getD,List.getElem?_eq_getElem (by simp;omega)]
        simp
       ·have hz1:z.length=0:=by
         rcases Nat.eq_zero_or_pos z.length with q|q
         ·exact q
         ·exact absurd (Nat.mod_lt j q) hz0
        have:m.toNat*i.size=0:=by rw[←g5,hz1];simp
        rw[this]at hj
        simp at hj
      rw[hcells]at hrun
      obtain⟨α',a1,a2,a3⟩:=qV e hT hW rel
      refine⟨_,_,α',hrun,?_,a2,a3⟩
      simp only[SV.R]
      exact⟨_,a1,rfl⟩
     ·cases hz
    ·cases h
   ·cases h
  ·cases h
 ·cases h
def eX (P:Program) (X:Ctx) (ρ:Nat→Int) (gl:List (Nat × Nat)) (α:aV) (σ σ':aM) (w:World) (s:SV) (m:Sem Next):Prop:=
 ∃ v w' α',(m.run P w = .ok (.value v) w'∨(m.run P w = .ok .skip w'∧v=undef))∧SV.R X.G ρ α' s v∧RelW X.G ρ gl α' σ' w'∧Ext σ.length σ σ' α α' w w'
theorem eX.pure {α:aV} {σ σ':aM} {w:World} {s:SV} {r:Res SV} {m:Sem Value} (hW:RelW X.G ρ gl α σ w) (h:(r.bind fun s=>Res.ok (s,σ)) = .ok (s,σ')) (hr:r = .ok s→∃ v,m.run P w = .ok v w∧SV.R X.G ρ α s v):
  eX P X ρ gl α σ σ' w s (do pure (.value (←m))):=by
 obtain⟨a,ha,h⟩:=Res.bind_ok h
 cases h
 obtain⟨v,h1,h2⟩:=hr ha
 exact⟨v,w,α,.inl (by simp [h1]),h2,hW,Ext.refl _ _ _ _⟩
theorem eX.here {α:aV} {σ:aM} {w:World} {s:SV} {m:Sem Next} {v:Value} (hW:RelW X.G ρ gl α σ w) (h:m.run P w = .ok (.value v) w) (hr:SV.R X.G ρ α s v):eX P X ρ gl α σ σ w s m:=
 ⟨v,w,α,.inl h,hr,hW,Ext.refl _ _ _ _⟩
theorem aDA {α:aV} {k v:SV} {kv vv:Value} (r:Nat) (rk:SV.R X.G ρ α k kv) (rv:SV.R X.G ρ α v vv):∀ (cs:List SV) (vs:List Value),SV.RL X.G ρ α cs vs→cs.length % 2=0→
  ∃ vs',SV.RL X.G ρ α (aN9 r k v cs) vs'∧(fB vs').Perm ((kv,vv)::fB vs)
 |[],vs,rl,_=>by
  simp only[SV.RL]at rl
  subst rl
  exact⟨[kv,vv],aW rk (aW rv bC),by simp [fB]⟩
 |[x],vs,rl,h=>by simp at h
 |e::x::l,vs,rl,h=>by
  have rl0:=rl
  simp only[SV.RL]at rl
  obtain⟨ev,vs1,rfl,r1,xv,vs2,rfl,r2,r3⟩:=rl
  unfold aN9
  split
  ·exact⟨kv::vv::ev::xv::vs2,aW rk (aW rv rl0),by simp [fB]⟩
  ·obtain⟨vs',q1,q2⟩:=aDA r rk rv l vs2 r3 (by simp only[List.length_cons]at h;omega)
   refine⟨ev::xv::vs',aW r1 (aW r2 q1),?_⟩
   simp only[fB]
   exact(List.Perm.cons _ q2).trans (List.Perm.swap _ _ _)
theorem aA6 (hX:X.Ok ρ) {α:aV} {kt:TypeId} {k:SV} {kv:Value} (rk:SV.R X.G ρ α k kv) (w:World):∀ (cs:List SV) (vs:List Value) (r:Option SV),kC P X kt k cs = .ok r→SV.RL X.G ρ α cs vs→
  (∀ p,p ∈ fB vs→∃ t:Bool,(Op.equal kt kv p.1).run P w = .ok t w∧(t=true→∃ s,r=some s∧SV.R X.G ρ α s p.2))∧(∀ s,r=some s→∃ p,p ∈ fB vs∧(Op.equal kt kv p.1).run P w = .ok true w)
 |[],vs,r,h,rl=>by
  simp only[kC]at h
  cases h
  simp only[SV.RL]at rl
  subst rl
  exact⟨fun p hp=>by simp [fB]at hp,fun s hs=>by cases hs⟩
 |[x],vs,r,h,rl=>by simp [kC]at h
 |e::v::rest,vs,r,h,rl=>by
  simp only[SV.RL]at rl
  obtain⟨ev,vs',rfl,r1,vv,vs'',rfl,r2,r3⟩:=rl
  unfold kC at h
  split at h
  ·cases h
  ·rename_i b hb
   obtain⟨t,ht,h⟩:=Res.bind_ok h
   obtain⟨q,hq,h⟩:=Res.bind_ok h
   have hd:=Res.test_ok hX ht
   have he:=oG (G:=X.G) (ρ:=ρ) 10000 kt k e b hb kv ev w rk r1
   have heq:(Op.equal kt kv ev).run P w = .ok (b.den X.G ρ) w:=by simp only[Op.equal,Op.maxDepth,he]
   rw[hd]at heq
   obtain⟨a1,a2⟩:=aA6 hX rk w rest vs'' q hq r3
   simp only[fB,List.mem_cons]
   cases t
   ·simp only[Bool.false_eq_true,if_false]at h
    cases h
    refine⟨?_,fun s hs=>?_⟩
    ·rintro p (rfl|hp)
     ·exact⟨false,heq,fun z=>by cases z⟩
     ·exact a1 p hp
    ·obtain⟨p,hp,hr⟩:=a2 s hs
     exact⟨p,.inr hp,hr⟩
   ·simp only[if_true]at h
    cases q with
    |some _=>cases h
    |none=>
     cases h
     refine⟨?_,fun s hs=>⟨(ev,vv),.inl rfl,heq⟩⟩
     rintro p (rfl|hp)
     ·exact⟨true,heq,fun _=>⟨v,rfl,r2⟩⟩
     ·obtain⟨t,h1,h2⟩:=a1 p hp
      refine⟨t,h1,fun z=>?_⟩
      obtain⟨s,hs,_⟩:=h2 z
      cases hs
theorem zS {α:aV} {kt:TypeId} {kv:Value} {r:Option SV} (w:World):∀ (es:List MapEntry) (j:Nat),(∀ e,e ∈ es→∃ t:Bool,(Op.equal kt kv e.key).run P w = .ok t w∧(t=true→∃ s,r=some s∧SV.R X.G ρ α s e.val))→
  ((Instr.findAsking kt kv es j).run P w = .ok none w∧∀ e,e ∈ es→(Op.equal kt kv e.key).run P w = .ok false w)∨∃ s n val,r=some s∧(Instr.findAsking kt kv es j).run P w = .ok (some (n,val)) w∧SV.R X.G ρ α s val
 |[],j,_ => .inl ⟨by simp [Instr.findAsking],fun e he=>by cases he⟩
 |e::es,j,h=>by
  obtain⟨t,h1,h2⟩:=h e (by simp)
  cases t with
  |true=>
   obtain⟨s,hs,hr⟩:=h2 rfl
   exact .inr ⟨s,j,e.val,hs,by simp [Instr.findAsking,h1],hr⟩
  |false=>
   rcases zS w es (j+1) (fun x hx=>h x (by simp [hx]))with⟨q1,q2⟩|⟨s,n,val,q1,q2,q3⟩
   ·refine .inl ⟨by simp [Instr.findAsking,h1,q1],?_⟩
    intro x hx
    rcases List.mem_cons.1 hx with rfl|hx
    ·exact h1
    ·exact q2 x hx
   ·exact .inr ⟨s,n,val,q1,by simp [Instr.findAsking,h1,q2],q3⟩
theorem aAE (hX:X.Ok ρ) {α:aV} {kt:TypeId} {k:SV} {kv:Value} (rk:SV.R X.G ρ α k kv) (w:World) (cs:List SV) (vs:List Value) (es:List MapEntry) (j:Nat) (r:Option SV) (h:kC P X kt k cs = .ok r) (rl:SV.RL X.G ρ α cs vs)
  (hp:(es.map fun e=>(e.key,e.val)).Perm (fB vs)):
  (r=none∧(Instr.findAsking kt kv es j).run P w = .ok none w)∨∃ s n val,r=some s∧(Instr.findAsking kt kv es j).run P w = .ok (some (n,val)) w∧SV.R X.G ρ α s val:=by
 obtain⟨a1,a2⟩:=aA6 (P:=P) hX rk w cs vs r h rl
 rcases zS (X:=X) (ρ:=ρ) (α:=α) (r:=r) (P:=P) (kt:=kt) (kv:=kv) w es j (fun e he=>a1 (e.key,e.val) (hp.mem_iff.1 (List.mem_map.2 ⟨e,he,rfl⟩)))with⟨q1,q2⟩|q
 ·cases r with
  |none=>exact .inl ⟨rfl,q1⟩
  |some s=>
   obtain⟨p,hp1,hp2⟩:=a2 s rfl
   obtain⟨e,he,rfl⟩:=List.mem_map.1 (hp.mem_iff.2 hp1)
   rw[q2 e he]at hp2
   cases hp2
 ·exact .inr q
theorem mJ {α:aV} {kt:TypeId} {k:SV} {kv:Value} (h:kV P kt k=true) (rk:SV.R X.G ρ α k kv) (em:Bool) (w:World):(Instr.checkKey em 10000 kt kv).run P w = .ok () w:=by
 unfold kV at h
 split at h
 ·rename_i fs l hu
  simp only[SV.R]at rk
  obtain⟨cs,rfl,rl⟩:=rk
  rw[show (10000:Nat)=9999+1 from rfl,Instr.checkKey]
  simp only[Sem.run_bind,run_underlying hu,Result.andThen_ok]
  rw[←Array.forIn_toList]
  have h' : ∀ f, f ∈ fs.toList → f.name ≠ "_" ∧ (∃ q, P.underlying f.type = some (.int q)) ∧ (rA P f.type l f.offset).isSome = true := by
   intro f hf
   have:=List.all_eq_true.1 h f hf
   simp only[Bool.and_eq_true,bne_iff_ne,ne_eq]at this
   refine⟨this.1.1,?_,this.2⟩
   have h2:=this.1.2
   split at h2
   ·exact⟨_,by assumption⟩
   ·cases h2
  generalize fs.toList=L at h'
  clear h hu
  induction L with
  |nil=>simp
  |cons f L ih=>
   obtain⟨hn,⟨q,hq⟩,hs⟩:=h' f (by simp)
   obtain⟨s,hs⟩:=Option.isSome_iff_exists.1 hs
   obtain⟨a,p1,_⟩:=jL (G:=X.G) (ρ:=ρ) hs rl w
   have p2:(Instr.checkKey em 9999 f.type a).run P w = .ok () w:=by
    rw[show (9999:Nat)=9998+1 from rfl,Instr.checkKey]
    simp [run_underlying hq]
   simp only[List.forIn_cons,Sem.run_bind,hn,ne_eq,not_false_eq_true,if_true,Result.andThen_ok,p1,p2,Sem.run_pure]
   exact ih (fun y hy=>h' y (by simp [hy]))
 ·cases h
theorem pF {kt:TypeId} {k:SV} (h:kV P kt k=true):(match P.underlying kt with|some (.array _ _)|some (.struct _)=>true|_=>false)=true:=by
 unfold kV at h
 split at h
 ·rename_i fs l hu;rw[hu]
 ·cases h
theorem wO (hX:X.Ok ρ) {α:aV} {σ σ':aM} {w:World} {t:TypeId} {m k v:SV} {mv kv vv:Value} (h:xH P X t m k v σ = .ok σ') (hW:RelW X.G ρ gl α σ w) (rm:SV.R X.G ρ α m mv) (rk:SV.R X.G ρ α k kv) (rv:SV.R X.G ρ α v vv):
  ∃ w',(Instr.mapUpdate t mv kv vv).run P w = .ok () w'∧RelW X.G ρ gl α σ' w'∧Ext σ.length σ σ' α α w w':=by
 unfold xH at h
 split at h
 ·rename_i kt el id hu
  simp only[SV.R]at rm
  obtain⟨b,hb,rfl⟩:=rm
  split at h
  ·rename_i cs T hs
   split at h
   ·rename_i hg
    simp only[Bool.and_eq_true,decide_eq_true_eq]at hg
    obtain⟨⟨rfl,hk⟩,hev⟩:=hg
    obtain⟨r,hr,h⟩:=Res.bind_ok h
    cases r with
    |some s=>cases h
    |none=>
     simp only[cQ]at h
     cases h
     obtain⟨b',vs,h1,h2,h3⟩:=hW.blk id cs _ hs
     rw[hb]at h1;cases h1
     have hl:=bY h3
     obtain⟨hnil,es,clock,h2',hp⟩:=qN.1 h2
     have hf:(Instr.findKey kt kv es.toList).run P w = .ok none w:=by
      rw[run_findKey_eq (P:=P) (w:=w) (pF hk)]
      rcases aAE hX rk w cs vs es.toList 0 none hr h3 hp with⟨_,q⟩|⟨s,n,val,q,_⟩
      ·exact q
      ·cases q
     obtain⟨vs',rel,pm⟩:=aDA (aFk k) rk rv cs vs h3 hev
     have hob:eN b (some (Obj.map (es.push { key:=kv,val:=vv,born:=clock }) (clock+1))) vs' gK:=by
      refine qN.2 ⟨hnil,_,_,rfl,?_⟩
      refine List.Perm.trans ?_ pm.symm
      simp only[Array.toList_push,List.map_append,List.map_cons,List.map_nil]
      exact(List.perm_append_comm (l₁:=es.toList.map fun e=>(e.key,e.val)) (l₂:=[(kv,vv)])).trans (show ([(kv,vv)]++es.toList.map fun e=>(e.key,e.val)).Perm ((kv,vv)::fB vs)from List.Perm.cons _ hp)
     obtain⟨r1,r2⟩:=aFp hW _ hnil hob hs aVv hb rel
     refine⟨_,?_,r1,r2⟩
     simp only[Instr.mapUpdate,Sem.run_bind,run_underlying hu,Result.andThen_ok,MapKept.run_getObj_map h2',mJ hk rk,hf,MapKept.run_setObj_map _ h2']
   ·cases h
  ·cases h
 ·cases h
theorem aEt (hX:X.Ok ρ) {α:aV} {σ:aM} {w:World} {t:TypeId} {m k s:SV} {mv kv:Value} {ok:Bool} (h:aC5 P X t m k ok σ = .ok s) (hW:RelW X.G ρ gl α σ w) (rm:SV.R X.G ρ α m mv) (rk:SV.R X.G ρ α k kv):
  ∃ v,(Instr.lookup t mv kv ok).run P w = .ok v w∧SV.R X.G ρ α s v:=by
 unfold aC5 at h
 split at h
 ·rename_i kt el id hu
  simp only[SV.R]at rm
  obtain⟨b,hb,rfl⟩:=rm
  split at h
  ·rename_i cs T hs
   split at h
   ·rename_i hg
    simp only[Bool.and_eq_true,decide_eq_true_eq]at hg
    obtain⟨⟨rfl,hk⟩,hev⟩:=hg
    obtain⟨r,hr,h⟩:=Res.bind_ok h
    obtain⟨b',vs,h1,h2,h3⟩:=hW.blk id cs _ hs
    rw[hb]at h1;cases h1
    obtain⟨hnil,es,clock,h2',hp⟩:=qN.1 h2
    have hfe:=run_findKey_eq (P:=P) (w:=w) (pF hk) kv es.toList
    have key:∀ (x:Value) (o:Bool) (sx:SV),SV.R X.G ρ α sx x→SV.R X.G ρ α (if ok then .tuple [sx,.bool (.lit o)] else sx) (if ok then .tuple #[x,.bool o] else x):=by
     intro x o sx rx
     cases ok
     ·simpa using rx
     ·simp only[if_true,SV.R]
      exact⟨[x,.bool o],rfl,aW rx (aW (by simp [SV.R,B.den]) bC)⟩
    rcases aAE hX rk w cs vs es.toList 0 r hr h3 hp with⟨rfl,q⟩|⟨sx,n,val,rfl,q,rx⟩
    ·simp only at h
     split at h
     ·rename_i z hz
      cases h
      obtain⟨i,hi,hz⟩:=Option.bind_eq_some_iff.1 hz
      refine⟨_,?_,key z false _ (qZ z)⟩
      simp only[Instr.lookup,Sem.run_bind,run_underlying hu,Result.andThen_ok,MapKept.run_getObj_map h2',Sem.run_pure,mJ hk rk,hfe,q]
      simp [zeroValue,typeInfo,hi,hz]
     ·cases h
    ·simp only at h
     cases h
     refine⟨_,?_,key val true _ rx⟩
     simp only[Instr.lookup,Sem.run_bind,run_underlying hu,Result.andThen_ok,MapKept.run_getObj_map h2',Sem.run_pure,mJ hk rk,hfe,q]
   ·cases h
  ·cases h
 ·cases h
theorem aIc (hX:X.Ok ρ) {α:aV} {σ σ':aM} {w:World} {ev:Operand→SV} {ea:Operand→Value} {o:Oper} {s:SV} (h:pN P X ev σ o = .ok (s,σ')) (hW:RelW X.G ρ gl α σ w)
  (hop:∀ x,x ∈ o.op.operands→SV.R X.G ρ α (ev x) (ea x)):eX P X ρ gl α σ σ' w s (execOp ea o):=by
 obtain⟨dst,op,type,pos,after,guard⟩:=o
 simp only[pN]at h
 cases op<;>simp only[Op.operands]at hop<;>(try simp only at h)
 case move x=>cases h;exact eX.here hW (by simp [execOp]) (hop x (by simp))
 case assign x=>cases h;exact eX.here hW (by simp [execOp]) (hop x (by simp))
 case pick c a b=>
  have rc:=hop c (by simp)
  split at h
  ·rename_i t ht
   rw[ht]at rc
   simp only[SV.R]at rc
   obtain⟨r,hr,h⟩:=Res.bind_ok h
   have hd:=Res.test_ok hX hr
   cases h
   cases r
   ·exact eX.here hW (v:=ea b) (by simp [execOp,rc,hd,asBool]) (hop b (by simp))
   ·exact eX.here hW (v:=ea a) (by simp [execOp,rc,hd,asBool]) (hop a (by simp))
  ·cases h
 case alloc elem=>
  split at h
  ·rename_i cs hz
   cases h
   unfold aBd at hz
   split at hz
   ·cases hz
   rename_i hT
   simp only[Bool.not_eq_false]at hT
   split at hz
   ·rename_i i hi
    split at hz
    ·rename_i z hzz
     have rz:=jA (G:=X.G) (ρ:=ρ) (α:=α) hz (qZ z)
     obtain⟨α',a1,a2,a3⟩:=qV elem hT hW rz
     refine⟨.pointer (some ⟨w.heap.size,0,none⟩),_,α',.inl ?_,?_,a2,a3⟩
     ·simp [execOp,Instr.alloc,zeroValue,typeInfo,hi,hzz,newVar,newRow]
     ·simp only[SV.R];exact⟨_,a1,rfl⟩
    ·cases hz
   ·cases hz
  ·cases h
 case box elem x=>
  split at h
  ·cases h
  rename_i hT
  simp only[Bool.not_eq_false]at hT
  split at h
  ·rename_i cs hz
   cases h
   have rz:=jA hz (hop x (by simp))
   obtain⟨α',a1,a2,a3⟩:=qV elem hT hW rz
   refine⟨.pointer (some ⟨w.heap.size,0,none⟩),_,α',.inl ?_,?_,a2,a3⟩
   ·simp [execOp,Instr.box,newVar,newRow]
   ·simp only[SV.R];exact⟨_,a1,rfl⟩
  ·cases h
 case build t parts=>
  refine eX.pure hW h ?_
  intro hb
  replace hb:=Res.bind_ok hb
  obtain⟨l,hl,hb⟩:=hb
  cases hb
  have hp:=uI (X:=X) (ρ:=ρ) (α:=α) (ev:=ev) (ea:=ea) parts.toList (fun p hp=>hop p.2 (by simp;exact⟨p.1,by simpa using hp⟩))
  obtain⟨os,h1,h2⟩:=aIu (P:=P) hp (Res.ofOpt_ok hl)
  refine⟨.agg os,?_,by simp only[SV.R];exact⟨os.toList,by simp,h2⟩⟩
  exact run_build w t _ os (by simpa using h1)
 case buildSlice t len parts=>
  have hp:=uI (X:=X) (ρ:=ρ) (α:=α) (ev:=ev) (ea:=ea) parts.toList (fun p hp=>hop p.2 (by simp;exact⟨p.1,by simpa using hp⟩))
  obtain⟨v,w',α',h1,h2,h3,h4⟩:=wR h hW hp
  have e:(parts.toList.map fun p=>(p.1,ea p.2)).toArray=parts.map fun x=>(x.1,ea x.2):=by rw[←Array.toList_map]
  rw[e]at h1
  exact⟨v,w',α',.inl (by simp [execOp,h1]),h2,h3,h4⟩
 case load t x=>
  have rx:=hop x (by simp)
  split at h
  ·rename_i id off he
   rw[he]at rx
   simp only[SV.R]at rx
   obtain⟨b,hb,rx⟩:=rx
   split at h
   ·rename_i cs T hs
    split at h
    ·cases h
    rename_i hT
    simp only[Bool.not_eq_false]at hT
    refine eX.pure hW h ?_
    intro hl
    obtain⟨b',vs,h1,h2,h3⟩:=hW.blk id cs T hs
    rw[hb]at h1;cases h1
    rw[cV hT]at h2
    obtain⟨v,hv,rv⟩:=aAX (Res.ofOpt_ok hl) h2.2 h3
    exact⟨v,by simp [rx,Instr.loadAt,Instr.sureAddr,hv],rv⟩
   ·cases h
  ·cases h
 case store t x v=>
  obtain⟨σ2,h2,h⟩:=Res.bind_ok h
  cases h
  obtain⟨w',h3,h4,h5⟩:=aFb h2 hW (hop x (by simp)) (hop v (by simp))
  exact⟨undef,w',α,.inr ⟨by simp [execOp,h3],rfl⟩,by simp only[SV.R];exact⟨[],rfl,bC⟩,h4,h5⟩
 case makeMap t r=>
  cases r with
  |some _=>cases h
  |none=>
   cases h
   obtain⟨α',a1,a2,a3⟩:=uV gK (.map #[] 0) (qN.2 ⟨rfl,#[],0,rfl,by simp [fB]⟩) hW (bC (G:=X.G) (ρ:=ρ) (α:=α))
   refine⟨.map (some w.heap.size),_,α',.inl ?_,?_,a2,a3⟩
   ·simp [execOp,run_makeMap]
   ·simp only[SV.R];exact⟨_,a1,rfl⟩
 case insert t m k v=>
  obtain⟨σ2,h2,h⟩:=Res.bind_ok h
  cases h
  obtain⟨w',h3,h4,h5⟩:=wO hX h2 hW (hop m (by simp)) (hop k (by simp)) (hop v (by simp))
  exact⟨undef,w',α,.inr ⟨by simp [execOp,h3],rfl⟩,by simp only[SV.R];exact⟨[],rfl,bC⟩,h4,h5⟩
 case mapUpdate t m k v=>
  obtain⟨σ2,h2,h⟩:=Res.bind_ok h
  cases h
  obtain⟨w',h3,h4,h5⟩:=wO hX h2 hW (hop m (by simp)) (hop k (by simp)) (hop v (by simp))
  exact⟨undef,w',α,.inr ⟨by simp [execOp,h3],rfl⟩,by simp only[SV.R];exact⟨[],rfl,bC⟩,h4,h5⟩
 case lookup t m k ok=>
  refine eX.pure hW h ?_
  intro hl
  obtain⟨v,h1,h2⟩:=aEt hX hl hW (hop m (by simp)) (hop k (by simp))
  exact⟨v,by simp [h1],h2⟩
 case nilCheck x=>
  have rx:=hop x (by simp)
  split at h
  ·rename_i id off he
   cases h
   rw[he]at rx
   have rx':=rx
   simp only[SV.R]at rx'
   obtain⟨b,hb,rx'⟩:=rx'
   exact eX.here hW (v:=ea x) (by simp [execOp,rx']) rx
  ·rename_i f a b he
   cases h
   rw[he]at rx
   have rx':=rx
   simp only[SV.R]at rx'
   obtain⟨fs,cs,rx',_⟩:=rx'
   exact eX.here hW (v:=ea x) (by simp [execOp,rx']) rx
  ·rename_i m t l c he
   split at h
   case h_2=>cases h
   rename_i g hm
   cases h
   rw[he]at rx
   have rx':=rx
   simp only[SV.R,SV.RL]at rx'
   obtain⟨fs,cs,rx',⟨v1,vs1,rfl,⟨ds,rfl,_⟩,rfl⟩,_⟩:=rx'
   exact eX.here hW (v:=ea x) (by simp [execOp,rx',aB3 hm]) rx
  ·cases h
 case binOp op t x y yt=>
  refine eX.pure hW h ?_
  intro hb
  exact aNf hX hb (hop x (by simp)) (hop y (by simp)) w
 case unOp op t x=>
  refine eX.pure hW h ?_
  intro hb
  exact aST hX hb (hop x (by simp)) w
 case convert src dst x=>
  have rx:=hop x (by simp)
  split at h
  ·rename_i k e he
   rw[he]at rx
   simp only[SV.R]at rx
   split at h
   ·rename_i d q hs hd
    cases h
    refine eX.here hW (v := .int q (q.wrap (e.den X.G ρ))) ?_ (by simp [SV.R,E.mkWrap_den hX])
    simp [execOp,convert,rx,run_underlying hs,run_underlying hd,Conv.intToInt]
   ·cases h
  ·cases h
 case makeInterface t x=>
  have rx:=hop x (by simp)
  split at h
  ·rename_i fs l hu he
   cases h
   rw[he]at rx
   simp only[SV.R]at rx
   obtain⟨cs,rx,rl⟩:=rx
   exact eX.here hW (v := .iface t (.agg cs.toArray)) (by simp [execOp,Instr.makeInterface,run_underlying hu,rx]) (by simp only[SV.R];exact⟨cs,rfl,rl⟩)
  ·cases h
 case makeFunc fn first captured=>
  cases h
  refine eX.here hW (v := .func fn (first.map ea) (captured.map ea)) (by simp [execOp,Instr.makeFunc]) ?_
  simp only[SV.R]
  refine⟨first.toList.map ea,captured.toList.map ea,by rw[←Array.toList_map,←Array.toList_map],lC _ (fun p hp=>hop p (by simp;exact .inl (by simpa using hp))),lC _ (fun p hp=>hop p (by simp;exact .inr (by simpa using hp)))⟩
 case makeSlice t l c=>
  obtain⟨v,w',α',h1,h2,h3,h4⟩:=aI0 hX h hW (hop l (by simp)) (hop c (by simp))
  exact⟨v,w',α',.inl (by simp [execOp,h1]),h2,h3,h4⟩
 case slice t x lo hi mx=>
  refine eX.pure hW h ?_
  intro hb
  cases mx with
  |some m=>
   exact aDZ hX hb (hop x (by simp)) (by simp) (fun s v hs hv=>by
    cases lo with
    |none=>cases hs
    |some l=>cases hs;cases hv;exact hop l (by simp)) (by simp) (fun s v hs hv=>by
    cases hi with
    |none=>cases hs
    |some l=>cases hs;cases hv;exact hop l (by simp)) (by simp) (fun s v hs hv=>by
    cases hs;cases hv;exact hop m (by simp)) w
  |none=>
   exact aER hX hb (hop x (by simp)) (by simp) (fun s v hs hv=>by
    cases lo with
    |none=>cases hs
    |some l=>cases hs;cases hv;exact hop l (by simp)) (by simp) (fun s v hs hv=>by
    cases hi with
    |none=>cases hs
    |some l=>cases hs;cases hv;exact hop l (by simp)) w
 case fieldAddr t x f=>
  have rx:=hop x (by simp)
  split at h
  ·rename_i id off he
   rw[he]at rx
   simp only[SV.R]at rx
   obtain⟨b,hb,rx⟩:=rx
   split at h
   ·rename_i fs hu
    split at h
    ·rename_i fl hf
     split at h
     ·rename_i i hi
      split at h
      ·cases h
      ·rename_i hz
       simp only[decide_eq_true_eq]at hz
       cases h
       refine eX.here hW (v := .pointer (some ⟨b.blk,off+fl.offset,none⟩)) ?_ (by simp only[SV.R];exact⟨b,hb,rfl⟩)
       simp [execOp,Instr.fieldAt,rx,run_underlying hu,hf,Instr.sureAddr,fieldPlace,sizeOf,typeInfo,hi,hz,cI]
     ·cases h
    ·cases h
   ·cases h
  ·cases h
 case field t x f=>
  have rx:=hop x (by simp)
  split at h
  ·rename_i cs he
   rw[he]at rx
   simp only[SV.R]at rx
   obtain⟨vs,rx,rl⟩:=rx
   split at h
   ·rename_i fs hu
    split at h
    ·rename_i fl hf
     refine eX.pure hW h ?_
     intro hb
     obtain⟨v,hv,rv⟩:=jL (P:=P) (Res.ofOpt_ok hb) rl w
     exact⟨v,by simp [Instr.field,rx,run_underlying hu,hf,asAgg,hv],rv⟩
    ·cases h
   ·cases h
  ·cases h
 case indexAddr t x i=>
  refine eX.pure hW h ?_
  intro hb
  exact zD hX hb (hop x (by simp)) (hop i (by simp)) w
 case index t x i=>
  refine eX.pure hW h ?_
  intro hb
  exact aFu hX hb (hop x (by simp)) (hop i (by simp)) w
 case extract x i=>
  have rx:=hop x (by simp)
  split at h
  ·rename_i l he
   rw[he]at rx
   simp only[SV.R]at rx
   obtain⟨vs,rx,rl⟩:=rx
   split at h
   ·rename_i s0 hs
    cases h
    obtain⟨v,hv,rv⟩:=pK rl hs
    exact eX.here hW (v:=v) (by simp [execOp,Instr.extract,rx,hv]) rv
   ·cases h
  ·cases h
 case call c=>
  obtain⟨callee,args,argTypes⟩:=c
  cases callee with
  |value f=>cases h
  |invoke r m=>cases h
  |builtin b=>
   have hargs:∀ p,p ∈ args.toList→SV.R X.G ρ α (ev p) (ea p):=fun p hp=>hop p (by simp [Call.operands]at *;exact hp)
   have rl:=lC (X:=X) (ρ:=ρ) (α:=α) (ev:=ev) (ea:=ea) args.toList hargs
   have harr:args.map ea=(args.toList.map ea).toArray:=by rw[←Array.toList_map]
   cases b<;>(try simp only at h)<;>first|(cases h;done)|skip
   case cap=>
    split at h
    ·rename_i t x rest ht hx
     rw[hx]at rl harr
     simp only[List.map_cons]at rl harr
     have rx:=hargs x (by rw[hx];simp)
     have e:execOp ea { dst:=dst,op := .call { callee := .builtin .cap,args:=args,argTypes:=argTypes },type:=type,pos:=pos,after:=after,guard:=guard }=(do pure (.value (←Builtin.cap_ argTypes type (args.map ea))):Sem Next):=rfl
     rw[e,harr]
     refine eX.pure hW h ?_
     intro hb
     exact aDO (c:=true) (ty:=type) (vs:=rest.map ea) hb ht rx w
    ·cases h
   case len=>
    split at h
    ·rename_i t x rest ht hx
     rw[hx]at rl harr
     simp only[List.map_cons]at rl harr
     have rx:=hargs x (by rw[hx];simp)
     have e:execOp ea { dst:=dst,op := .call { callee := .builtin .len,args:=args,argTypes:=argTypes },type:=type,pos:=pos,after:=after,guard:=guard }=(do pure (.value (←Builtin.len_ argTypes type (args.map ea))):Sem Next):=rfl
     rw[e,harr]
     refine eX.pure hW h ?_
     intro hb
     exact aDO (c:=false) (ty:=type) (vs:=rest.map ea) hb ht rx w
    ·cases h
   case max=>
    have e:execOp ea { dst:=dst,op := .call { callee := .builtin .max,args:=args,argTypes:=argTypes },type:=type,pos:=pos,after:=after,guard:=guard }=(do pure (.value (←Builtin.max_ argTypes type (args.map ea))):Sem Next):=rfl
    rw[e,harr]
    refine eX.pure hW h ?_
    intro hb
    exact aJ5 hb rl w
   case min=>
    have e:execOp ea { dst:=dst,op := .call { callee := .builtin .min,args:=args,argTypes:=argTypes },type:=type,pos:=pos,after:=after,guard:=guard }=(do pure (.value (←Builtin.min_ argTypes type (args.map ea))):Sem Next):=rfl
    rw[e,harr]
    refine eX.pure hW h ?_
    intro hb
    exact aKA hb rl w
 all_goals (cases h)
end
end Sx
end Go.Proofs.Ytdldallkeheciaa
