/- What is proved: loops: where each round ends in the state that a round begins in,the loop ends in the state that it leaves. No condition. -/
import Derived.Test.YtdldallkeheciaaQg3
set_option linter.unusedSimpArgs false
set_option linter.unusedVariables false
namespace Go.Proofs.Ytdldallkeheciaa
namespace Sx
open Go Go.RowKit
variable {mm:Nat}
mutual
def E.low (n:Nat):E→Bool
 | .lit _=>true
 | .var i=>decide (i<n)
 | .op _ a b=>E.low n a && E.low n b
 | .wrap _ a=>E.low n a
 | .bit _ _ a b=>E.low n a && E.low n b
 | .app _ l=>EL.low n l
def EL.low (n:Nat):EL→Bool
 | .nil=>true
 | .cons e l=>E.low n e && EL.low n l
end
def B.low (n:Nat):B→Bool
 | .lit _=>true
 | .cmp _ a b=>E.low n a && E.low n b
 | .and a b=>B.low n a && B.low n b
 | .or a b=>B.low n a && B.low n b
def eO (n:Nat) (ρ ρ':Nat→Int):Prop:=∀ i,i<n→ρ i=ρ' i
mutual
theorem E.low_den {n:Nat} {ρ ρ':Nat→Int} (G:Nat→List Int→Int) (h:eO n ρ ρ'):∀ e:E,e.low n=true→e.den G ρ=e.den G ρ'
 | .lit _,_=>by simp only[E.den]
 | .var i,g=>by simp only[E.low,decide_eq_true_eq]at g;simp only[E.den];exact h i g
 | .op _ a b,g=>by simp only[E.low,Bool.and_eq_true]at g;simp only[E.den];rw[E.low_den G h a g.1,E.low_den G h b g.2]
 | .wrap _ a,g=>by simp only[E.low]at g;simp only[E.den];rw[E.low_den G h a g]
 | .bit _ _ a b,g=>by simp only[E.low,Bool.and_eq_true]at g;simp only[E.den];rw[E.low_den G h a g.1,E.low_den G h b g.2]
 | .app _ l,g=>by simp only[E.low]at g;simp only[E.den];rw[EL.low_den G h l g]
theorem EL.low_den {n:Nat} {ρ ρ':Nat→Int} (G:Nat→List Int→Int) (h:eO n ρ ρ'):∀ l:EL,l.low n=true→l.den G ρ=l.den G ρ'
 | .nil,_=>by simp only[EL.den]
 | .cons e l,g=>by simp only[EL.low,Bool.and_eq_true]at g;simp only[EL.den];rw[E.low_den G h e g.1,EL.low_den G h l g.2]
end
theorem B.low_den {n:Nat} {ρ ρ':Nat→Int} (G:Nat→List Int→Int) (h:eO n ρ ρ'):∀ b:B,b.low n=true→b.den G ρ=b.den G ρ'
 | .lit _,_=>by simp only[B.den]
 | .cmp _ a b,g=>by simp only[B.low,Bool.and_eq_true]at g;simp only[B.den];rw[E.low_den G h a g.1,E.low_den G h b g.2]
 | .and a b,g=>by simp only[B.low,Bool.and_eq_true]at g;simp only[B.den];rw[B.low_den G h a g.1,B.low_den G h b g.2]
 | .or a b,g=>by simp only[B.low,Bool.and_eq_true]at g;simp only[B.den];rw[B.low_den G h a g.1,B.low_den G h b g.2]
abbrev Ren:=List (Option Nat)
def rn (ren:Ren) (j i:Nat):Bool:=match ren[j]? with|some (some k)=>k ==i|_=>false
def aWk:E→E→Bool
 | .lit a,.lit b=>decide (a≠b)
 |_,_=>false
def iI (n:Nat) (e f:E):List SV:=if E.eqb e f && e.low n then [] else [.int .i64 e,.int .i64 f]
def nA (n:Nat):Option E→Option E→Option (List SV)
 |_,none=>some []
 |some e,some f=>some (iI n e f)
 |none,some _=>none
mutual
def SV.diff (n:Nat) (ren:Ren):SV→SV→Option (List SV)
 | .any,.any=>some []
 | .int k e,.int q f=>if decide (k=q) && !aWk e f then some (iI n e f) else none
 | .bool b,.bool c=>if B.eqb b c && b.low n then some [] else some [.bool b,.bool c]
 | .ptr i o,.ptr j p=>if rn ren j i && o ==p then some [] else none
 | .slice i o l c,.slice j p m d=>if rn ren j i && o ==p && l ==m && c ==d then some [] else none
 | .agg l,.agg r=>SV.diffL n ren l r
 | .tuple l,.tuple r=>SV.diffL n ren l r
 | .iface t l,.iface u r=>if decide (t=u) then SV.diffL n ren l r else none
 | .func fn f c,.func gn g d=>if decide (fn=gn) then match SV.diffL n ren f g with
   |some x=>match SV.diffL n ren c d with
    |some y=>some (x++y)
    |none=>none
   |none=>none
  else none
 | .con v,.con u=>if Value.same v u then some [] else none
 | .map i,.map j=>if rn ren j i then some [] else none
 | .yld i,.yld j=>if rn ren j i then some [] else none
 | .vec s a m x,.vec t b q y=>if decide (s=t) && (x ==y) then some (iI n a b++iI n m q) else none
 | .own i m c,.own j q d=>if rn ren j i then match nA n c d with
   |some y=>some (iI n m q++y)
   |none=>none
  else none
 | .con (.slice none 0 0),.own j q none=>match ren[j]? with
  |some none=>some (iI n (.lit 0) q)
  |_=>none
 | .con (.slice none 0 0),.vsl j _ p q none=>match ren[j]? with
  |some none=>some (iI n (.lit 0) p++iI n (.lit 0) q)
  |_=>none
 | .vsl i w o m c,.vsl j v p q d=>if rn ren j i && w ==v then match nA n c d with
   |some y=>some (iI n o p++iI n m q++y)
   |none=>none
  else none
 | .own i m _,.vsl j _ p q none=>if rn ren j i then some (iI n (.lit 0) p++iI n m q) else none
 | .vptr i w e o,.vptr j v f p=>if rn ren j i && w ==v && o ==p then some (iI n e f) else none
 | .text a,.text b=>some (iI n a b)
 |_,.any=>some []
 |_,_=>none
def SV.diffL (n:Nat) (ren:Ren):List SV→List SV→Option (List SV)
 |[],[]=>some []
 |a::l,b::r=>match SV.diff n ren a b with
  |some x=>match SV.diffL n ren l r with
   |some y=>some (x++y)
   |none=>none
  |none=>none
 |_,_=>none
end
def jO (ren:Ren) (α:aV):aV:=fun j=>match ren[j]? with
 |some (some i)=>α i
 |some none=>some ⟨0,0,true,0⟩
 |none=>none
theorem lY {ren:Ren} {α:aV} {j i:Nat} (h:rn ren j i=true):jO ren α j=α i:=by
 unfold rn at h
 unfold jO
 split at h
 ·rename_i k hk
  simp only[beq_iff_eq]at h
  rw[hk,h]
 ·cases h
section
variable (G:Nat→List Int→Int)
def aI (ρ ρ':Nat→Int):List SV→Prop
 |[]=>True
 | .int _ a :: .int _ b::l=>a.den G ρ=b.den G ρ'∧aI ρ ρ' l
 | .bool a :: .bool b::l=>a.den G ρ=b.den G ρ'∧aI ρ ρ' l
 |_=>False
end
section
variable {G:Nat→List Int→Int} {ρ ρ':Nat→Int} {n:Nat} {ren:Ren}
inductive Pairs:List SV→Prop where
 |nil:Pairs []
 |cons (k q:IntKind) (a b:E) {l:List SV} (h:Pairs l):Pairs (.int k a :: .int q b::l)
 |bool (a b:B) {l:List SV} (h:Pairs l):Pairs (.bool a :: .bool b::l)
theorem Pairs.append {l r:List SV} (h:Pairs l) (g:Pairs r):Pairs (l++r):=by
 induction h with
 |nil=>exact g
 |cons k q a b _ ih=>exact .cons k q a b ih
 |bool a b _ ih=>exact .bool a b ih
theorem aI.split {l r:List SV} (h:Pairs l) (g:aI G ρ ρ' (l++r)):aI G ρ ρ' l∧aI G ρ ρ' r:=by
 induction h with
 |nil=>exact⟨trivial,g⟩
 |cons k q a b _ ih=>
  simp only[List.cons_append,aI]at g
  exact⟨⟨g.1,(ih g.2).1⟩,(ih g.2).2⟩
 |bool a b _ ih=>
  simp only[List.cons_append,aI]at g
  exact⟨⟨g.1,(ih g.2).1⟩,(ih g.2).2⟩
theorem bE (e f:E):Pairs (iI n e f):=by
 unfold iI;split
 ·exact .nil
 ·exact .cons _ _ _ _ .nil
theorem dI (hl:eO n ρ ρ') {e f:E} (h:aI G ρ ρ' (iI n e f)):e.den G ρ=f.den G ρ':=by
 unfold iI at h
 split at h
 ·rename_i he
  simp only[Bool.and_eq_true]at he
  rw[←E.eqb_eq _ _ he.1,E.low_den G hl e he.2]
 ·exact h.1
theorem vY:∀ {c d:Option E} {L:List SV},nA n c d=some L→Pairs L
 |_,none,L,h=>by simp only[nA]at h;cases h;exact .nil
 |some e,some f,L,h=>by simp only[nA]at h;cases h;exact bE e f
 |none,some _,L,h=>by simp [nA]at h
theorem aEk (hl:eO n ρ ρ'):∀ {c d:Option E} {L:List SV},nA n c d=some L→aI G ρ ρ' L→∀ {x:Int},(∀ e,c=some e→x=e.den G ρ)→∀ f,d=some f→x=f.den G ρ'
 |_,none,L,h,_,x,_,f,hf=>by cases hf
 |some e,some f,L,h,ha,x,hx,f',hf=>by
  simp only[nA]at h;cases h;cases hf
  rw[hx e rfl,dI hl ha]
 |none,some _,L,h,_,x,_,f,hf=>by simp [nA]at h
theorem aFi (hl:eO n ρ ρ'):∀ {c d:Option E} {L:List SV},nA n c d=some L→aI G ρ ρ' L→∀ f,d=some f→∃ e,c=some e∧e.den G ρ=f.den G ρ'
 |_,none,L,h,_,f,hf=>by cases hf
 |some e,some f,L,h,ha,f',hf=>by
  simp only[nA]at h;cases h;cases hf
  exact⟨e,rfl,dI hl ha⟩
 |none,some _,L,h,_,_,_=>by simp [nA]at h
mutual
theorem SV.diff_pairs:∀ (s t:SV) (L:List SV),SV.diff n ren s t=some L→Pairs L
 |s,t,L,h=>by
  unfold SV.diff at h
  split at h
  ·cases h;exact .nil
  ·split at h
   ·cases h;exact bE _ _
   ·cases h
  ·split at h<;>cases h
   ·exact .nil
   ·exact .bool _ _ .nil
  ·split at h<;>cases h;exact .nil
  ·split at h<;>cases h;exact .nil
  ·rename_i l r;exact SV.diffL_pairs l r L h
  ·rename_i l r;exact SV.diffL_pairs l r L h
  ·rename_i t l u r
   split at h
   ·exact SV.diffL_pairs l r L h
   ·cases h
  ·rename_i fn f c gn g d
   split at h
   ·split at h
    ·rename_i x hx
     split at h
     ·rename_i y hy
      cases h
      exact(SV.diffL_pairs f g x hx).append (SV.diffL_pairs c d y hy)
     ·cases h
    ·cases h
   ·cases h
  ·split at h<;>cases h;exact .nil
  ·split at h<;>cases h;exact .nil
  ·split at h<;>cases h;exact .nil
  ·split at h<;>cases h;exact(bE _ _).append (bE _ _)
  ·split at h
   ·split at h
    ·rename_i y hy;cases h;exact(bE _ _).append (vY hy)
    ·cases h
   ·cases h
  ·split at h<;>cases h;exact bE _ _
  ·split at h<;>cases h;exact(bE _ _).append (bE _ _)
  ·split at h
   ·split at h
    ·rename_i y hy;cases h;exact((bE _ _).append (bE _ _)).append (vY hy)
    ·cases h
   ·cases h
  ·split at h<;>cases h;exact(bE _ _).append (bE _ _)
  ·split at h<;>cases h;exact bE _ _
  ·cases h;exact bE _ _
  ·cases h;exact .nil
  ·cases h
theorem SV.diffL_pairs:∀ (s t:List SV) (L:List SV),SV.diffL n ren s t=some L→Pairs L
 |[],t,L,h=>by
  cases t with
  |nil=>simp only[SV.diffL]at h;cases h;exact .nil
  |cons=>simp [SV.diffL]at h
 |a::l,t,L,h=>by
  cases t with
  |nil=>simp [SV.diffL]at h
  |cons b r=>
   simp only[SV.diffL]at h
   split at h
   ·rename_i x hx
    split at h
    ·rename_i y hy
     cases h
     exact(SV.diff_pairs a b x hx).append (SV.diffL_pairs l r y hy)
    ·cases h
   ·cases h
end
mutual
theorem SV.diff_R (hl:eO n ρ ρ') {α:aV}:∀ (s t:SV) (L:List SV),SV.diff n ren s t=some L→aI G ρ ρ' L→∀ v,SV.R G ρ α s v→SV.R G ρ' (jO ren α) t v
 |s,t,L,h,ha,v,hr=>by
  unfold SV.diff at h
  split at h
  ·simp [SV.R]
  ·rename_i k e q f
   split at h
   ·rename_i hk
    simp only[Bool.and_eq_true,decide_eq_true_eq]at hk
    replace hk:=hk.1
    subst hk
    cases h
    simp only[SV.R]at hr ⊢
    rw[hr,dI hl ha]
   ·cases h
  ·split at h
   ·rename_i he
    simp only[Bool.and_eq_true]at he
    simp only[SV.R]at hr ⊢
    rw[hr,←B.eqb_eq _ _ he.1,B.low_den G hl _ he.2]
   ·cases h
    simp only[SV.R]at hr ⊢
    rw[hr,ha.1]
  ·split at h
   ·rename_i he
    simp only[Bool.and_eq_true,beq_iff_eq]at he
    simp only[SV.R]at hr ⊢
    rw[lY he.1,←he.2]
    exact hr
   ·cases h
  ·split at h
   ·rename_i he
    simp only[Bool.and_eq_true,beq_iff_eq]at he
    simp only[SV.R]at hr ⊢
    rw[lY he.1.1.1,←he.1.1.2,←he.1.2,←he.2]
    exact hr
   ·cases h
  ·rename_i l r
   simp only[SV.R]at hr ⊢
   obtain⟨cs,rfl,h2⟩:=hr
   exact⟨cs,rfl,SV.diffL_R hl l r L h ha cs h2⟩
  ·rename_i l r
   simp only[SV.R]at hr ⊢
   obtain⟨cs,rfl,h2⟩:=hr
   exact⟨cs,rfl,SV.diffL_R hl l r L h ha cs h2⟩
  ·rename_i t l u r
   split at h
   ·rename_i htu
    simp only[decide_eq_true_eq]at htu
    subst htu
    simp only[SV.R]at hr ⊢
    obtain⟨cs,rfl,h2⟩:=hr
    exact⟨cs,rfl,SV.diffL_R hl l r L h ha cs h2⟩
   ·cases h
  ·rename_i fn f c gn g d
   split at h
   ·rename_i hfn
    simp only[decide_eq_true_eq]at hfn
    subst hfn
    split at h
    ·rename_i x hx
     split at h
     ·rename_i y hy
      cases h
      obtain⟨a1,a2⟩:=aI.split (SV.diffL_pairs f g x hx) ha
      simp only[SV.R]at hr ⊢
      obtain⟨fs,cs,rfl,h2,h3⟩:=hr
      exact⟨fs,cs,rfl,SV.diffL_R hl f g x hx a1 fs h2,SV.diffL_R hl c d y hy a2 cs h3⟩
     ·cases h
    ·cases h
   ·cases h
  ·split at h
   ·rename_i he
    rw[←Value.same_eq he]
    simpa [SV.R]using hr
   ·cases h
  ·split at h
   ·rename_i he
    simp only[SV.R]at hr ⊢
    rw[lY he]
    exact hr
   ·cases h
  ·split at h
   ·rename_i he
    simp only[SV.R]at hr ⊢
    rw[lY he]
    exact hr
   ·cases h
  ·split at h
   ·rename_i he
    simp only[Bool.and_eq_true,decide_eq_true_eq,beq_iff_eq]at he
    obtain⟨rfl,rfl⟩:=he
    cases h
    obtain⟨a1,a2⟩:=aI.split (bE _ _) ha
    simp only[SV.R]at hr ⊢
    rw[←dI hl a1,←dI hl a2]
    exact hr
   ·cases h
  ·split at h
   ·rename_i he
    split at h
    ·rename_i y hy
     cases h
     obtain⟨a1,a2⟩:=aI.split (bE _ _) ha
     simp only[SV.R]at hr ⊢
     rw[lY he,←dI hl a1]
     obtain⟨b,h1,h2,h3,h4,h5,h6⟩:=hr
     exact⟨b,h1,h2,h3,h4,h5,fun f hf hle=>by
      obtain⟨e,he,q⟩:=aFi hl hy a2 f hf
      rw[←q]at hle ⊢
      exact h6 e he hle⟩
    ·cases h
   ·cases h
  ·rename_i j q
   split at h
   ·rename_i hj
    cases h
    have he:=dI hl ha
    simp only[SV.R]at hr ⊢
    refine⟨⟨0,0,true,0⟩,by unfold jO;rw[hj],?_⟩
    rw[←he]
    simp only[E.den]
    exact⟨Int.le_refl _,hr,by simp,by simp,fun e he _=>by cases he⟩
   ·cases h
  ·rename_i j w p q
   split at h
   ·rename_i hj
    cases h
    obtain⟨a1,a2⟩:=aI.split (bE _ _) ha
    have e1:=dI hl a1
    have e2:=dI hl a2
    simp only[E.den]at e1 e2
    simp only[SV.R]at hr ⊢
    refine⟨⟨0,0,true,0⟩,by unfold jO;rw[hj],by omega,by omega,.inl ⟨by omega,none,0,hr,.inl (by simp)⟩⟩
   ·cases h
  ·split at h
   ·rename_i he
    simp only[Bool.and_eq_true,beq_iff_eq]at he
    split at h
    ·rename_i y hy
     cases h
     obtain⟨a1,a2⟩:=aI.split ((bE _ _).append (bE _ _)) ha
     obtain⟨a0,a1⟩:=aI.split (bE _ _) a1
     simp only[SV.R]at hr ⊢
     rw[lY he.1,←dI hl a0,←dI hl a1,←he.2]
     obtain⟨b,h1,h2,h3,h4⟩:=hr
     refine⟨b,h1,h2,h3,?_⟩
     rcases h4 with⟨q1,a,c,q2,q3⟩|⟨q1,c,q2,q3,q4⟩
     ·refine .inl ⟨q1,a,c,q2,?_⟩
      rcases q3 with q3|⟨q3,q4⟩
      ·subst q3
       unfold nA at hy
       split at hy
       ·exact .inl rfl
       ·exact absurd ‹none=some _› (by simp)
       ·cases hy
      ·subst q3
       exact .inr ⟨rfl,fun f hf=>by
        have:=aEk hl hy a2 (x:=0) (fun e he=>(q4 e he).symm) f hf
        exact this.symm⟩
     ·exact .inr ⟨q1,c,q2,q3,aEk hl hy a2 q4⟩
    ·cases h
   ·cases h
  ·split at h
   ·rename_i he
    cases h
    obtain⟨a1,a2⟩:=aI.split (bE _ _) ha
    simp only[SV.R]at hr ⊢
    rw[lY he,←dI hl a1,←dI hl a2]
    obtain⟨b,h1,h2,h3,h4,h5,h6⟩:=hr
    refine⟨b,h1,h2,Int.le_refl _,?_⟩
    cases q:b.nil
    ·rw[q]at h3
     exact .inr ⟨rfl,b.cap,by simpa [E.den]using h3,by omega,fun e he=>by cases he⟩
    ·rw[q]at h3
     exact .inl ⟨(h4 q).1,none,0,h3,.inl (by simp)⟩
   ·cases h
  ·split at h
   ·rename_i he
    simp only[Bool.and_eq_true,beq_iff_eq]at he
    cases h
    simp only[SV.R]at hr ⊢
    rw[lY he.1.1,←dI hl ha,←he.1.2,←he.2]
    exact hr
   ·cases h
  ·cases h
   simp only[SV.R]at hr ⊢
   obtain⟨q,h1,h2⟩:=hr
   exact⟨q,h1,by rw[h2];exact dI hl ha⟩
  ·simp [SV.R]
  ·cases h
theorem SV.diffL_R (hl:eO n ρ ρ') {α:aV}:∀ (s t:List SV) (L:List SV),SV.diffL n ren s t=some L→aI G ρ ρ' L→∀ v,SV.RL G ρ α s v→SV.RL G ρ' (jO ren α) t v
 |[],t,L,h,ha,v,hr=>by
  cases t with
  |nil=>simpa [SV.RL]using hr
  |cons=>simp [SV.diffL]at h
 |a::l,t,L,h,ha,v,hr=>by
  cases t with
  |nil=>simp [SV.diffL]at h
  |cons b r=>
   simp only[SV.diffL]at h
   split at h
   ·rename_i x hx
    split at h
    ·rename_i y hy
     cases h
     obtain⟨a1,a2⟩:=aI.split (SV.diff_pairs a b x hx) ha
     simp only[SV.RL]at hr ⊢
     obtain⟨u,us,rfl,h2,h3⟩:=hr
     exact⟨u,us,rfl,SV.diff_R hl a b x hx a1 u h2,SV.diffL_R hl l r y hy a2 us h3⟩
    ·cases h
   ·cases h
end
end
def aCs:List SV→List SV→List SV
 |[.vec s a m _],[.vec _ _ _ y]=>[.vec s a m y]
 |cs,_=>cs
theorem aDR {G:Nat→List Int→Int} {ρ:Nat→Int} {α:aV} {b:Loc} {x:Option Obj} {cs ds:List SV} {vs:List Value} (h:jK b x vs) (hr:SV.RL G ρ α cs vs):∃ us,jK b x us∧SV.RL G ρ α (aCs cs ds) us:=by
 unfold aCs
 split
 ·rename_i s a m z _ _ _ y
  obtain⟨c,w,ex,h1,h2,h3⟩:=h
  subst h1
  simp only[SV.RL,SV.R]at hr
  obtain⟨v,vs',e1,⟨e2,e3⟩,_⟩:=hr
  have e4:=(List.cons.inj e1).1
  rw[e2]at e4
  simp only[Value.tuple.injEq,Array.mk.injEq,List.cons.injEq,Value.agg.injEq,Value.int.injEq,Value.bool.injEq,and_true,true_and]at e4
  obtain⟨e5,e6,e7⟩:=e4
  refine⟨_,⟨c,w,y,rfl,h2,h3⟩,aW ?_ bC⟩
  simp only[SV.R]
  refine⟨?_,e3⟩
  rw[e5,e6]
 ·exact⟨vs,h,hr⟩
def jD.diff (n:Nat) (ren:Ren) (σ:aM) (r:Option Nat):jD→Option (List SV)
 |none=>some []
 |some (ds,U)=>match r with
  |some i=>match σ[i]? with
   |some (some (cs,T))=>if T ==U ||(decide (aU≤T) && vw U) then SV.diffL n ren (if vw U then aCs cs ds else cs) ds else none
   |_=>none
  |none=>match ds with
   |[.vec sh C q _]=>if (decide (aU≤U) ||vw U) && decide (0<sh.length) then some (iI n (.lit 0) C++iI n (.lit 0) q) else none
   |[.tuple [.any,.int .i64 (.lit wd),.bool (.lit _)]]=>if decide (aU≤U) && decide (0<wd) then some [] else none
   |_=>none
def aM.diff (n:Nat) (ren:Ren) (σ:aM):Ren→aM→Option (List SV)
 |[],[]=>some []
 |r::rs,t::τ=>match jD.diff n ren σ r t with
  |some x=>match aM.diff n ren σ rs τ with
   |some y=>some (x++y)
   |none=>none
  |none=>none
 |_,_=>none
section
variable {G:Nat→List Int→Int} {ρ ρ':Nat→Int} {n:Nat} {gl:List (Nat × Nat)} {ren:Ren}
theorem jD.diff_pairs {σ:aM} {r:Option Nat} {t:jD} {L:List SV} (h:jD.diff n ren σ r t=some L):Pairs L:=by
 unfold jD.diff at h
 split at h
 ·cases h;exact .nil
 ·split at h
  ·split at h
   ·split at h
    ·exact SV.diffL_pairs _ _ _ h
    ·cases h
   ·cases h
  ·split at h
   ·split at h
    ·cases h;exact(bE _ _).append (bE _ _)
    ·cases h
   ·split at h
    ·cases h;exact .nil
    ·cases h
   ·cases h
theorem aM.diff_pairs {σ:aM}:∀ (rs:Ren) (τ:aM) (L:List SV),aM.diff n ren σ rs τ=some L→Pairs L
 |[],[],L,h=>by simp only[aM.diff]at h;cases h;exact .nil
 |r::rs,t::τ,L,h=>by
  simp only[aM.diff]at h
  split at h
  ·rename_i x hx
   split at h
   ·rename_i y hy
    cases h
    exact(jD.diff_pairs hx).append (aM.diff_pairs rs τ y hy)
   ·cases h
  ·cases h
 |[],_::_,L,h=>by simp [aM.diff]at h
 |_::_,[],L,h=>by simp [aM.diff]at h
theorem aM.diff_length {σ:aM}:∀ (rs:Ren) (τ:aM) (L:List SV),aM.diff n ren σ rs τ=some L→rs.length=τ.length
 |[],[],L,h=>rfl
 |r::rs,t::τ,L,h=>by
  simp only[aM.diff]at h
  split at h
  ·split at h
   ·rename_i y hy
    simp [aM.diff_length rs τ y hy]
   ·cases h
  ·cases h
 |[],_::_,L,h=>by simp [aM.diff]at h
 |_::_,[],L,h=>by simp [aM.diff]at h
theorem aM.diff_get {σ:aM}:∀ (rs:Ren) (τ:aM) (L:List SV),aM.diff n ren σ rs τ=some L→aI G ρ ρ' L→∀ (j:Nat) (t:jD),τ[j]?=some t→∃ r x,rs[j]?=some r∧jD.diff n ren σ r t=some x∧aI G ρ ρ' x
 |[],[],L,h,ha,j,t,e=>by simp at e
 |r::rs,t::τ,L,h,ha,j,u,e=>by
  simp only[aM.diff]at h
  split at h
  ·rename_i x hx
   split at h
   ·rename_i y hy
    cases h
    obtain⟨a1,a2⟩:=aI.split (jD.diff_pairs hx) ha
    cases j with
    |zero=>
     simp only[List.getElem?_cons_zero,Option.some.injEq]at e
     subst e
     exact⟨r,x,rfl,hx,a1⟩
    |succ k=>simpa using aM.diff_get rs τ y hy a2 k u (by simpa using e)
   ·cases h
  ·cases h
 |[],_::_,L,h,ha,_,_,_=>by simp [aM.diff]at h
 |_::_,[],L,h,ha,_,_,_=>by simp [aM.diff]at h
def lJ:Ren→aM→List Nat
 |some i::rs,some _::τ=>i::lJ rs τ
 |_::rs,_::τ=>lJ rs τ
 |_,_=>[]
def aB4:List Nat→Bool
 |[]=>true
 |i::l => !l.contains i && aB4 l
theorem wJ:∀ {l:List Nat},aB4 l=true→l.Nodup
 |[],_=>List.nodup_nil
 |i::l,h=>by
  simp only[aB4,Bool.and_eq_true,Bool.not_eq_true',List.contains_eq_mem,decide_eq_false_iff_not]at h
  exact List.nodup_cons.2 ⟨h.1,wJ h.2⟩
theorem aFw:∀ {rs:Ren} {τ:aM},(lJ rs τ).Nodup→∀ (j k i:Nat) (p q:List SV × TypeId),rs[j]?=some (some i)→rs[k]?=some (some i)→τ[j]?=some (some p)→τ[k]?=some (some q)→j=k:=by
 intro rs τ
 have mem:∀ {rs:Ren} {τ:aM} (j i:Nat) (p:List SV × TypeId),rs[j]?=some (some i)→τ[j]?=some (some p)→i ∈ lJ rs τ:=by
  intro rs
  induction rs with
  |nil=>intro τ j i p h;simp at h
  |cons r rs ih=>
   intro τ j i p h g
   cases τ with
   |nil=>simp at g
   |cons t τ=>
    cases j with
    |zero=>
     simp only[List.getElem?_cons_zero,Option.some.injEq]at h g
     subst h;subst g
     simp [lJ]
    |succ j=>
     have:=ih j i p (by simpa using h) (by simpa using g)
     cases r<;>cases t<;>simp [lJ,this]
 induction rs generalizing τ with
 |nil=>intro _ j k i p q h;simp at h
 |cons r rs ih=>
  intro hn j k i p q hj hk gj gk
  cases τ with
  |nil=>simp at gj
  |cons t τ=>
   have tailN:(lJ rs τ).Nodup:=by
    cases r<;>cases t<;>simp only[lJ]at hn<;>first|exact hn|exact(List.nodup_cons.1 hn).2
   cases j with
   |zero=>
    cases k with
    |zero=>rfl
    |succ k=>
     simp only[List.getElem?_cons_zero,Option.some.injEq]at hj gj
     subst hj;subst gj
     simp only[lJ]at hn
     exact absurd (mem k i q (by simpa using hk) (by simpa using gk)) (List.nodup_cons.1 hn).1
   |succ j=>
    cases k with
    |zero=>
     simp only[List.getElem?_cons_zero,Option.some.injEq]at hk gk
     subst hk;subst gk
     simp only[lJ]at hn
     exact absurd (mem j i p (by simpa using hj) (by simpa using gj)) (List.nodup_cons.1 hn).1
    |succ k=>rw[ih tailN j k i p q (by simpa using hj) (by simpa using hk) (by simpa using gj) (by simpa using gk)]
def aJx (base:Nat) (gl:List (Nat × Nat)) (ren:Ren) (τ:aM):Bool:=
 aB4 (lJ ren τ) && (List.range base).all (fun j=>rn ren j j) && gl.all (fun p=>decide (p.2<base)) &&
  (List.range τ.length).all (fun j=>decide (j<base) ||(match τ[j]? with|some (some _)=>true|_=>match ren[j]? with|some none=>true|_=>false))
structure RenOk (base:Nat) (gl:List (Nat × Nat)) (ren:Ren) (τ:aM):Prop where
 inj:∀ (j k i:Nat) (p q:List SV × TypeId),ren[j]?=some (some i)→ren[k]?=some (some i)→τ[j]?=some (some p)→τ[k]?=some (some q)→j=k
 low:∀ j,j<base→ren[j]?=some (some j)
 gl:∀ p,p ∈ gl→p.2<base
 high:∀ j i,ren[j]?=some (some i)→j<base∨τ.length≤j∨∃ q,τ[j]?=some (some q)
theorem zP {base:Nat} {τ:aM} (h:aJx base gl ren τ=true):RenOk base gl ren τ:=by
 unfold aJx at h
 simp only[Bool.and_eq_true]at h
 obtain⟨⟨⟨h1,h2⟩,h3⟩,h4⟩:=h
 refine⟨aFw (wJ h1),?_,fun p hp=>by simpa using List.all_eq_true.1 h3 p hp,?_⟩
 ·intro j hj
  have:=List.all_eq_true.1 h2 j (by simpa using hj)
  unfold rn at this
  split at this
  ·rename_i k hk
   simp only[beq_iff_eq]at this
   rw[hk,this]
  ·cases this
 ·intro j i hj
  rcases Nat.lt_or_ge j τ.length with q|q
  ·have:=List.all_eq_true.1 h4 j (by simpa using q)
   simp only[Bool.or_eq_true,decide_eq_true_eq]at this
   rcases this with z|z
   ·exact .inl z
   ·split at z
    ·rename_i p hp;exact .inr (.inr ⟨p,hp⟩)
    ·split at z
     ·rename_i hn;rw[hj]at hn;cases hn
     ·cases z
  ·exact .inr (.inl q)
theorem aM.diff_vis {σ τ:aM} {L:List SV} (h:aM.diff n ren σ ren τ=some L) (ha:aI G ρ ρ' L) {j i:Nat} (hv:jT τ j) (hi:ren[j]?=some (some i)):jT σ i:=by
 obtain⟨q,e,hq⟩:=hv
 obtain⟨r,x,h1,h2,_⟩:=aM.diff_get (G:=G) _ _ _ h ha j _ e
 rw[hi]at h1;cases h1
 unfold jD.diff at h2
 obtain⟨ds,U⟩:=q
 simp only at h2 hq
 split at h2
 ·rename_i cs T hc
  split at h2
  ·rename_i hT
   refine⟨_,hc,?_⟩
   simp only[Bool.or_eq_true,Bool.and_eq_true,beq_iff_eq,decide_eq_true_eq]at hT
   rcases hT with rfl|⟨hT,hU⟩
   ·exact hq
   ·rw[hU]at hq;cases hq
  ·cases h2
 ·cases h2
theorem aM.diff_rel (hl:eO n ρ ρ') {base:Nat} {σ τ:aM} {L:List SV} {α:aV} {w:World} (hR:RenOk base gl ren τ) (h:aM.diff n ren σ ren τ=some L) (ha:aI G ρ ρ' L) (hW:RelW G ρ gl α σ w):RelW G ρ' gl (jO ren α) τ w:=by
 have hlen:=aM.diff_length _ _ _ h
 have vis:∀ j,jT τ j→∀ i,ren[j]?=some (some i)→jT σ i:=fun j hv i hi=>aM.diff_vis h ha hv hi
 have notnil:∀ j b,jO ren α j=some b→b.nil=false→∃ i,ren[j]?=some (some i)∧α i=some b:=by
  intro j b e hb
  unfold jO at e
  split at e
  ·rename_i i hi;exact⟨i,hi,e⟩
  ·cases e;cases hb
  ·cases e
 refine⟨?_,?_,?_,?_,?_⟩
 ·intro j b e
  unfold jO at e
  split at e
  ·rename_i i hi
   exact⟨by rw[←hlen];exact(List.getElem?_eq_some_iff.1 hi).1,(hW.dom i b e).2⟩
  ·rename_i hi
   cases e
   exact⟨by rw[←hlen];exact(List.getElem?_eq_some_iff.1 hi).1,.inl rfl⟩
  ·cases e
 ·intro j k b c ej ek hb hc hbc vj vk
  obtain⟨i,hi,ei⟩:=notnil j b ej hb
  obtain⟨m,hm,em⟩:=notnil k c ek hc
  have:=hW.inj i m b c ei em hb hc hbc (vis j vj i hi) (vis k vk m hm)
  subst this
  obtain⟨p,vj,_⟩:=vj
  obtain⟨q,vk,_⟩:=vk
  exact hR.inj j k i p q hi hm vj vk
 ·intro j ds U e
  obtain⟨r,x,h1,h2,h3⟩:=aM.diff_get (G:=G) _ _ _ h ha j _ e
  unfold jD.diff at h2
  simp only at h2
  split at h2
  ·rename_i i
   split at h2
   ·rename_i cs T hs
    split at h2
    ·rename_i hT
     obtain⟨b,vs,g1,g2,g3⟩:=hW.blk i cs T hs
     simp only[Bool.or_eq_true,Bool.and_eq_true,beq_iff_eq,decide_eq_true_eq]at hT
     have g2':eN b w.heap[b.blk]? vs U:=by
      rcases hT with rfl|⟨hT,hU⟩
      ·exact g2
      ·obtain⟨q1,q2⟩:=(dG hT).1 g2
       exact(gZ hU).2 (aBl.view q1 q2)
     obtain⟨us,k1,k2⟩:∃ us,eN b w.heap[b.blk]? us U∧SV.RL G ρ α (if vw U then aCs cs ds else cs) us:=by
      by_cases hU:vw U=true
      ·rw[if_pos hU]
       obtain⟨us,k1,k2⟩:=aDR (ds:=ds) ((gZ hU).1 g2') g3
       exact⟨us,(gZ hU).2 k1,k2⟩
      ·rw[if_neg hU];exact⟨vs,g2',g3⟩
     exact⟨b,us,by unfold jO;rw[h1];exact g1,k1,SV.diffL_R hl _ ds x h2 h3 us k2⟩
    ·cases h2
   ·cases h2
  ·split at h2
   ·rename_i sh C q ex
    split at h2
    ·rename_i hg
     simp only[Bool.and_eq_true,decide_eq_true_eq]at hg
     cases h2
     obtain⟨a1,a2⟩:=aI.split (bE _ _) h3
     have e1:=dI hl a1
     have e2:=dI hl a2
     simp only[E.den]at e1 e2
     refine⟨⟨0,0,true,0⟩,[.tuple #[.agg (aT sh []).toArray,.int .i64 sh.length,.bool ex]],by unfold jO;rw[h1],?_,?_⟩
     ·rcases Bool.or_eq_true_iff.1 hg.1 with hU|hU
      ·rw[dG (of_decide_eq_true hU)]
       exact⟨rfl,_,sh.length,ex,rfl,hg.2,.inl ⟨rfl,rfl,rfl⟩⟩
      ·rw[gZ hU]
       exact⟨_,sh.length,ex,rfl,hg.2,.inl ⟨rfl,rfl⟩⟩
     ·refine aW ?_ bC
      simp only[SV.R]
      rw[←e1,←e2,Lc.dec_zero]
      exact⟨rfl,rfl⟩
    ·cases h2
   ·rename_i wd ex
    split at h2
    ·rename_i hg
     simp only[Bool.and_eq_true,decide_eq_true_eq]at hg
     refine⟨⟨0,0,true,0⟩,[.tuple #[.agg ([]:List Value).toArray,.int .i64 wd.toNat,.bool ex]],by unfold jO;rw[h1],?_,?_⟩
     ·rw[dG hg.1]
      exact⟨rfl,_,wd.toNat,ex,rfl,by omega,.inl ⟨rfl,rfl,rfl⟩⟩
     ·refine aW ?_ bC
      simp only[SV.R]
      refine⟨[.agg ([]:List Value).toArray,.int .i64 wd.toNat,.bool ex],rfl,aW (by simp only[SV.R]) (aW ?_ (aW ?_ bC))⟩
      ·simp only[SV.R,E.den];rw[Int.toNat_of_nonneg (by omega)]
      ·simp only[SV.R,B.den]
    ·cases h2
   ·cases h2
 ·intro p hp
  unfold jO
  rw[hR.low p.2 (hR.gl p hp)]
  exact hW.glob p hp
 ·intro j ds U b e hU ej hb k c ek hc hcb vk
  obtain⟨i,hi,ei⟩:=notnil j b ej hb
  obtain⟨m,hm,em⟩:=notnil k c ek hc
  obtain⟨r,x,h1,h2,h3⟩:=aM.diff_get (G:=G) _ _ _ h ha j _ e
  rw[hi]at h1;cases h1
  unfold jD.diff at h2
  simp only at h2
  split at h2
  ·rename_i cs T hs
   have:m=i:=hW.only hs ei em hb hc hcb (vis k vk m hm)
   subst this
   obtain⟨q,vk,hv⟩:=vk
   have:=hR.inj j k m _ _ hi hm e vk
   subst this
   rw[e]at vk;cases vk
   rw[hU]at hv;cases hv
  ·cases h2
def nI (base:Nat) (τ:aM):Bool:=(τ.drop base).all fun b=>match b with|some (_,T) => !vw T|none=>true
theorem tF {base:Nat} {τ:aM} (h:nI base τ=true) {j:Nat} {q:List SV × TypeId} (hq:τ[j]?=some (some q)) (hj:base≤j):vw q.2=false:=by
 have:=List.all_eq_true.1 h (some q) (List.mem_iff_getElem?.2 ⟨j-base,by rw[List.getElem?_drop,show base+(j-base)=j by omega];exact hq⟩)
 simpa using this
theorem aM.diff_ext {base m:Nat} {σ0 σ τ:aM} {L:List SV} {α0 α:aV} {w0 w:World} (hR:RenOk base gl ren τ) (h:aM.diff n ren σ ren τ=some L) (ha:aI G ρ ρ' L) (hd:∀ id b,α0 id=some b→id<σ0.length) (hb:σ0.length≤base) (hm:m≤base) (hvl:nI base τ=true) (x:Ext m σ0 σ α0 α w0 w):
  Ext m σ0 τ α0 (jO ren α) w0 w:=by
 have hlen:=aM.diff_length _ _ _ h
 have hbase:base≤τ.length:=by
  rcases Nat.eq_zero_or_pos base with q|q
  ·omega
  ·have:=(List.getElem?_eq_some_iff.1 (hR.low (base-1) (by omega))).1
   omega
 have vis:∀ j,jT τ j→∀ i,ren[j]?=some (some i)→jT σ i:=fun j hv i hi=>aM.diff_vis h ha hv hi
 have lowA:∀ id,id<base→jO ren α id=α id:=fun id hid=>by unfold jO;rw[hR.low id hid]
 refine⟨x.os,x.tape,x.output,x.size,by omega,fun id b e=>by rw[lowA id (by have:=hd id b e;omega)];exact x.mono id b e,?_,x.hid,?_⟩
 ·intro j b e
  by_cases hj:j<base
  ·rw[lowA j hj]at e;exact x.fresh j b e
  ·refine .inr ⟨by omega,?_⟩
   unfold jO at e
   split at e
   ·rename_i i hi
    have hvis:jT τ j:=by
     rcases hR.high j i hi with q|q|q
     ·omega
     ·have:=(List.getElem?_eq_some_iff.1 hi).1;omega
     ·obtain⟨q,hq⟩:=q
      exact⟨q,hq,tF hvl hq (by omega)⟩
    have hs:=vis j hvis i hi
    rcases x.fresh i b e with q|⟨_,q⟩
    ·cases hb:b.nil
     ·exact .inr (.inr ⟨i,b,q,hb,rfl,x.mask i b q hs⟩)
     ·exact .inl rfl
    ·exact q
   ·cases e;exact .inl rfl
   ·cases e
 ·intro id b e hv
  have hid:id<base:=by have:=hd id b e;omega
  exact x.mask id b e (vis id hv id (hR.low id hid))
theorem aM.diff_hid {σ τ:aM} {L:List SV} {α:aV} (h:aM.diff n ren σ ren τ=some L) (ha:aI G ρ ρ' L) {D:Nat} (hD:oQ α σ D):oQ (jO ren α) τ D:=by
 intro j b e hn hk hv
 unfold jO at e
 split at e
 ·rename_i i hi
  exact hD i b e hn hk (aM.diff_vis h ha hv hi)
 ·cases e;cases hn
 ·cases e
def St.diff (n base:Nat) (gl:List (Nat × Nat)) (ren:Ren) (s t:St):Option (List SV):=
 if aJx base gl ren t.heap then match SV.diffL n ren s.tmps t.tmps with
  |some x=>match aM.diff n ren s.heap ren t.heap with
   |some y=>some (x++y)
   |none=>none
  |none=>none
 else none
theorem St.diff_rel {X X':Ctx} (hX:X.G=G) (hX':X'.G=G) (hl:eO n ρ ρ') {base:Nat} {s t:St} {L:List SV} (h:St.diff n base gl ren s t=some L) (ha:aI G ρ ρ' L) {α:aV} {a:Act} {w:World} (hr:RelSt mm X ρ gl α s a w):
  RelSt mm X' ρ' gl (jO ren α) t a w∧∀ (m:Nat) (σ0:aM) (α0:aV) (w0:World),(∀ id b,α0 id=some b→id<σ0.length)→σ0.length≤base→m≤base→nI base t.heap=true→Ext m σ0 s.heap α0 α w0 w→Ext m σ0 t.heap α0 (jO ren α) w0 w:=by
 unfold St.diff at h
 split at h
 case isFalse=>cases h
 rename_i hren
 have hR:=zP hren
 split at h
 ·rename_i x hx
  split at h
  ·rename_i y hy
   cases h
   obtain⟨a1,a2⟩:=aI.split (SV.diffL_pairs _ _ x hx) ha
   have h1:=hr.tmps
   have h2:=hr.mem
   rw[hX]at h1 h2
   refine⟨⟨by rw[hX'];exact SV.diffL_R hl _ _ x hx a1 _ h1,⟨hr.defers.1,hr.defers.2.1,fun d hd=>by obtain⟨D,z1,z2,z3,z4⟩:=hr.defers.2.2 d hd;exact⟨D,z1,z2,z3,aM.diff_hid hy a2 z4⟩⟩,by rw[hX'];exact aM.diff_rel hl hR hy a2 h2⟩,?_⟩
   intro m σ0 α0 w0 hd hb hm hv hx
   exact aM.diff_ext hR hy a2 hd hb hm hv hx
  ·cases h
 ·cases h
end
mutual
def E.subst (es:List E):E→E
 | .lit n => .lit n
 | .var i=>es.getD i (.lit 0)
 | .op o a b=>E.mkOp o (E.subst es a) (E.subst es b)
 | .wrap k a => .wrap k (E.subst es a)
 | .bit o k a b => .bit o k (E.subst es a) (E.subst es b)
 | .app g l => .app g (EL.subst es l)
def EL.subst (es:List E):EL→EL
 | .nil => .nil
 | .cons e l => .cons (E.subst es e) (EL.subst es l)
end
def B.subst (es:List E):B→B
 | .lit b => .lit b
 | .cmp o a b => .cmp o (a.subst es) (b.subst es)
 | .and x y => .and (B.subst es x) (B.subst es y)
 | .or x y => .or (B.subst es x) (B.subst es y)
def gA (G:Nat→List Int→Int) (ρ:Nat→Int) (es:List E):Nat→Int:=fun i=>(es.getD i (.lit 0)).den G ρ
section
variable {G:Nat→List Int→Int} {ρ:Nat→Int} {es:List E}
mutual
theorem E.subst_den:∀ e:E,(e.subst es).den G ρ=e.den G (gA G ρ es)
 | .lit _=>by simp only[E.subst,E.den]
 | .var i=>by simp only[E.subst,E.den,gA]
 | .op o a b=>by simp only[E.subst,E.mkOp_den,E.den,E.subst_den a,E.subst_den b]
 | .wrap k a=>by simp only[E.subst,E.den,E.subst_den a]
 | .bit o k a b=>by simp only[E.subst,E.den,E.subst_den a,E.subst_den b]
 | .app g l=>by simp only[E.subst,E.den,EL.subst_den l]
theorem EL.subst_den:∀ l:EL,(l.subst es).den G ρ=l.den G (gA G ρ es)
 | .nil=>by simp only[EL.subst,EL.den]
 | .cons e l=>by simp only[EL.subst,EL.den,E.subst_den e,EL.subst_den l]
end
theorem B.subst_den:∀ b:B,(b.subst es).den G ρ=b.den G (gA G ρ es)
 | .lit _=>rfl
 | .cmp o a b=>by simp only[B.subst,B.den,E.subst_den]
 | .and x y=>by simp only[B.subst,B.den,B.subst_den x,B.subst_den y]
 | .or x y=>by simp only[B.subst,B.den,B.subst_den x,B.subst_den y]
end
def pP (i:Nat):List SV→Option E
 | .int _ a :: .int _ t::l=>match t,a with
  | .var j,_=>if j=i then some a else pP i l
  | .app g (.cons (.var j) .nil),.app h (.cons e .nil)=>if j=i && g ==h then some e else pP i l
  |_,_=>pP i l
 |_::_::l=>pP i l
 |_=>none
def xK (m:Nat) (L:List SV):List E:=(List.range m).map fun i=>(pP i L).getD (.lit 0)
def oI (X:Ctx) (es:List E):List SV→Bool
 |[]=>true
 | .int _ a :: .int _ t::l=>(E.eqb a (t.subst es) ||(match B.dec X (.cmp .eq a (t.subst es))with|some true=>true|_=>false)) && oI X es l
 | .bool a :: .bool t::l=>(B.eqb a (t.subst es) ||(match B.dec X a,B.dec X (t.subst es)with|some x,some y=>x ==y|_,_=>false)) && oI X es l
 |_=>false
theorem qI {X:Ctx} {ρ:Nat→Int} (hX:X.Ok ρ) {es:List E}:∀ {L:List SV},oI X es L=true→aI X.G ρ (gA X.G ρ es) L
 |[],_=>trivial
 | .int k a :: .int q t::l,h=>by
  simp only[oI,Bool.and_eq_true,Bool.or_eq_true]at h
  refine⟨?_,qI hX h.2⟩
  rw[←E.subst_den]
  rcases h.1 with h1|h1
  ·rw[←E.eqb_eq _ _ h1]
  ·split at h1
   ·rename_i hd
    exact of_decide_eq_true (B.dec_eq hX _ hd)
   ·cases h1
 | .bool a :: .bool t::l,h=>by
  simp only[oI,Bool.and_eq_true,Bool.or_eq_true]at h
  refine⟨?_,qI hX h.2⟩
  rw[←B.subst_den]
  rcases h.1 with h1|h1
  ·rw[←B.eqb_eq _ _ h1]
  ·split at h1
   ·rename_i x y hx hy
    rw[B.dec_eq hX _ hx,B.dec_eq hX _ hy]
    exact eq_of_beq h1
   ·cases h1
 |[.int _ _],h=>by simp [oI]at h
 |[.bool _],h=>by simp [oI]at h
end Sx
end Go.Proofs.Ytdldallkeheciaa
namespace Go.Proofs.Ytdldallkeheciaa
namespace Sx
open Go Go.RowKit
variable {mm:Nat}
def bI:Code→List Code
 | .seq a b=>bI a++bI b
 | .cond _ a b=>bI a++bI b
 | .block _ b=>bI b
 | .scope b=>bI b
 | .loop b=>b::bI b
 |_=>[]
def gP:Code→Option Nat
 | .region id _ _=>some id
 | .seq a b=>match gP a with
  |some i=>some i
  |none=>gP b
 | .cond _ a b=>match gP a with
  |some i=>some i
  |none=>gP b
 | .block _ b=>gP b
 | .scope b=>gP b
 | .loop b=>gP b
 |_=>none
abbrev fH:=Nat→Option (Ctx→St→Res (Ex × St))
def bU (P:Program) (X:Ctx) (gb:dF) (ct:bA) (lp:fH):Nat→FuncId→Code→St→Res (Ex × St)
 |0,_,_,_ => .fail 130
 |n+1,f,c,st=>
  match c with
  | .seq a b=>(bU P X gb ct lp n f a st).bind fun r=>
   match r.1 with
   | .normal=>bU P X gb ct lp n f b r.2
   |_ => .ok r
  | .cond o a b=>
   match mU (bN gb) st.tmps o with
   | .bool t=>(Res.test X t).bind fun r=>if r then bU P X gb ct lp n f a st else bU P X gb ct lp n f b st
   |_ => .fail 131
  | .block id b=>(bU P X gb ct lp n f b st).bind fun r=>
   match r.1 with
   | .exit i=>if i=id then .ok (.normal,r.2) else .ok r
   |_ => .ok r
  | .loop b=>
   match (gP b).bind lp with
   |some g=>match g X st with
    | .fail 199=>(bU P X gb ct lp n f b st).bind fun r=>
     match r.1 with
     | .normal=>bU P X gb ct lp n f (.loop b) r.2
     |_ => .ok r
    |r=>r
   |none=>(bU P X gb ct lp n f b st).bind fun r=>
    match r.1 with
    | .normal=>bU P X gb ct lp n f (.loop b) r.2
    |_ => .ok r
  | .scope b=>bU P X gb ct lp n f b st
  |c=>cM P X gb ct (n+1) f false c st
def aLA (P:Program) (X:Ctx) (gb:dF) (ct:bA) (lp:fH) (n:Nat) (f:FuncId) (inr:Bool) (c:Code) (st:St):Res (Ex × St):=if inr then .fail 157 else bU P X gb ct lp n f c st
def lN (P:Program) (c:Code) (Q:Exit→Act→World→Prop) (a:Act) (w:World):Prop:=
 ∀ (b:Frame) (k:List Item) (cs:List Frame),∃ e a' w',Q e a' w'∧Arrives P (lone (b.at a (.code c :: .inLoop c::k)) cs w) b k cs e a' w'
theorem rD {P:Program} {c:Code} {Q:Exit→Act→World→Prop} {a:Act} {w:World} (h:c.wp P (Exit.then (lN P c Q) Q) a w):lN P c Q a w:=by
 intro b k cs
 obtain⟨e,a₁,w₁,hq,harr⟩:=h b (.inLoop c::k) cs
 cases e with
 |normal=>
  obtain⟨e₂,a₂,w₂,hq₂,harr₂⟩:=hq b k cs
  exact⟨e₂,a₂,w₂,hq₂,.of_steps (Steps.trans harr (.one step_inLoop)) harr₂⟩
 |exit id=>exact⟨_,a₁,w₁,hq,.pass (x := .inLoop c) rfl (fun _ _ => .inl (by simp)) harr⟩
 |goto l=>exact⟨_,a₁,w₁,hq,.pass (x := .inLoop c) rfl (fun _ _ => .inl (by simp)) harr⟩
 |ret=>exact⟨_,a₁,w₁,hq,.pass (x := .inLoop c) rfl (fun _ _ => .inl (by simp)) harr⟩
 |panic ch=>exact⟨_,a₁,w₁,hq,.pass (x := .inLoop c) rfl (fun _ _ => .inl (by simp)) harr⟩
 |outgrown=>exact⟨_,a₁,w₁,hq,.pass (x := .inLoop c) rfl (fun _ _ => .inl (by simp)) harr⟩
theorem oW {P:Program} {c:Code} {Q:Exit→Act→World→Prop}:∀ (n:Nat) (a:Act) (w:World),Code.rounds P c Q n a w→lN P c Q a w
 |0,_,_,h=>h.elim
 |n+1,a,w,h=>by
  refine rD (wp_mono h ?_)
  intro e a' w' hq
  cases e with
  |normal=>exact oW n a' w' hq
  |_=>exact hq
theorem aDY {P:Program} {c:Code} {Q:Exit→Act→World→Prop} {a:Act} {w:World} (h:lN P c Q a w):(Code.loop c).wp P Q a w:=by
 intro b k cs
 obtain⟨e,a',w',hq,harr⟩:=h b k cs
 exact⟨e,a',w',hq,.of_steps (.one step_loop) harr⟩
def aI1 (P:Program) (X:Ctx) (ρ:Nat→Int) (gl:List (Nat × Nat)) (lp:fH) (b:Code):Prop:=
 ∀ k g,gP b=some k→lp k=some g→∀ st e st',g X st = .ok (e,st')→∀ (mm:Nat) α a w Q,RelSt mm X ρ gl α st a w→
  (∀ a' w' α',RelSt mm X ρ gl α' st' a' w'→Ext st.heap.length st.heap st'.heap α α' w w'→Q e.toExit a' w')→∃ k,Code.rounds P b Q k a w
def pA (P:Program) (X:Ctx) (ρ:Nat→Int) (gl:List (Nat × Nat)) (lp:fH) (c:Code):Prop:=∀ b,b ∈ bI c→aI1 P X ρ gl lp b
section
variable {P:Program} {X:Ctx} {ρ:Nat→Int} {gb:dF} {ct:bA}
theorem wI {lp:fH} (hX:X.Ok ρ) (hct:fF P X ρ gb ct) (hfl:jN gb=true) (hm:kT P) {f:FuncId}:∀ n:Nat,
  (∀ (c:Code) (st:St) (e:Ex) (st':St),pA P X ρ (bN gb) lp c→(∀ x,x ∈ bD c→bX P f=some x)→bU P X gb ct lp n f c st = .ok (e,st')→
   ∀ α a w Q,RelSt mm X ρ (bN gb) α st a w→(∀ a' w' α',RelSt mm X ρ (bN gb) α' st' a' w'→Ext st.heap.length st.heap st'.heap α α' w w'→Q e.toExit a' w')→c.wp P Q a w)∧
  (∀ (b:Code) (st:St) (e:Ex) (st':St),pA P X ρ (bN gb) lp (.loop b)→(∀ x,x ∈ bD b→bX P f=some x)→bU P X gb ct lp n f (.loop b) st = .ok (e,st')→
   ∀ α a w Q,RelSt mm X ρ (bN gb) α st a w→(∀ a' w' α',RelSt mm X ρ (bN gb) α' st' a' w'→Ext st.heap.length st.heap st'.heap α α' w w'→Q e.toExit a' w')→lN P b Q a w)
 |0=>⟨fun c st e st' _ _ h=>by simp [bU]at h,fun b st e st' _ _ h=>by simp [bU]at h⟩
 |n+1=>by
  obtain⟨ih,ihl⟩:=wI hX hct hfl hm n
  have loop:∀ (b:Code) (st:St) (e:Ex) (st':St),pA P X ρ (bN gb) lp (.loop b)→(∀ x,x ∈ bD b→bX P f=some x)→bU P X gb ct lp (n+1) f (.loop b) st = .ok (e,st')→
    ∀ α a w Q,RelSt mm X ρ (bN gb) α st a w→(∀ a' w' α',RelSt mm X ρ (bN gb) α' st' a' w'→Ext st.heap.length st.heap st'.heap α α' w w'→Q e.toExit a' w')→lN P b Q a w:=by
   intro b st e st' hl hg h α a w Q hr hQ
   have hb:b ∈ bI (.loop b):=by simp [bI]
   have lb:pA P X ρ (bN gb) lp b:=fun d hd=>hl d (by simp only[bI];exact List.mem_cons_of_mem _ hd)
   have one:((bU P X gb ct lp n f b st).bind fun r=>match r.1 with
     | .normal=>bU P X gb ct lp n f (.loop b) r.2
     |_ => .ok r) = .ok (e,st')→lN P b Q a w:=by
    intro h
    obtain⟨r,h1,h⟩:=Res.bind_ok h
    obtain⟨e1,s1⟩:=r
    refine rD (ih b st e1 s1 lb hg h1 α a w _ hr ?_)
    intro a1 w1 α1 r1 x1
    cases e1 with
    |normal=>
     simp only at h
     simp only[Ex.toExit,Exit.then]
     exact ihl b s1 e st' hl hg h α1 a1 w1 Q r1 (fun a' w' α' r2 x2=>hQ a' w' α' r2 (x1.trans x2 x1.len))
    |exit id=>cases h;exact hQ a1 w1 α1 r1 x1
    |ret=>cases h;exact hQ a1 w1 α1 r1 x1
   simp only[bU]at h
   cases hk:(gP b).bind lp with
   |none=>simp only[hk]at h;exact one h
   |some g=>
    simp only[hk]at h
    obtain⟨k,hk1,hk2⟩:=Option.bind_eq_some_iff.1 hk
    split at h
    ·exact one h
    ·obtain⟨m,hm⟩:=hl b hb k g hk1 hk2 st e st' h mm α a w Q hr hQ
     exact oW m a w hm
  refine⟨?_,loop⟩
  intro c st e st' hlp hrg h
  have plain:cM P X gb ct (n+1) f false c st = .ok (e,st')→∀ α a w Q,RelSt mm X ρ (bN gb) α st a w→(∀ a' w' α',RelSt mm X ρ (bN gb) α' st' a' w'→Ext st.heap.length st.heap st'.heap α α' w w'→Q e.toExit a' w')→c.wp P Q a w:=
   fun hh α a w Q hr hQ=>(wpIn_wide (n:=0)).1 ((vE hX hct hfl hm (n+1)).1 f false c st e st' hh hrg mm none 0 rfl α a w Q hr hQ)
  intro α a w Q hr hQ
  cases c with
  |seq x y=>
   simp only[bU]at h
   obtain⟨r,h1,h⟩:=Res.bind_ok h
   obtain⟨e1,s1⟩:=r
   have lx:pA P X ρ (bN gb) lp x:=fun b hb=>hlp b (by simp only[bI];exact List.mem_append_left _ hb)
   have ly:pA P X ρ (bN gb) lp y:=fun b hb=>hlp b (by simp only[bI];exact List.mem_append_right _ hb)
   have rx:∀ z,z ∈ bD x→bX P f=some z:=fun z hz=>hrg z (List.mem_append_left _ hz)
   have ry:∀ z,z ∈ bD y→bX P f=some z:=fun z hz=>hrg z (List.mem_append_right _ hz)
   refine wp_seq (ih x st e1 s1 lx rx h1 α a w _ hr ?_)
   intro a1 w1 α1 r1 x1
   cases e1 with
   |normal=>
    simp only at h
    simp only[Ex.toExit,Exit.then]
    exact ih y s1 e st' ly ry h α1 a1 w1 Q r1 (fun a' w' α' r2 x2=>hQ a' w' α' r2 (x1.trans x2 x1.len))
   |exit id=>cases h;exact hQ a1 w1 α1 r1 x1
   |ret=>cases h;exact hQ a1 w1 α1 r1 x1
  |cond o x y=>
   simp only[bU]at h
   have lx:pA P X ρ (bN gb) lp x:=fun b hb=>hlp b (by simp only[bI];exact List.mem_append_left _ hb)
   have ly:pA P X ρ (bN gb) lp y:=fun b hb=>hlp b (by simp only[bI];exact List.mem_append_right _ hb)
   split at h
   ·rename_i t ht
    replace h:=Res.bind_ok h
    obtain⟨r,h1,h⟩:=h
    have hd:=Res.test_ok hX h1
    have ho:=rF hr.tmps hr.mem.glob o
    rw[ht]at ho
    simp only[SV.R]at ho
    rw[hd]at ho
    have rx:∀ z,z ∈ bD x→bX P f=some z:=fun z hz=>hrg z (List.mem_append_left _ hz)
    have ry:∀ z,z ∈ bD y→bX P f=some z:=fun z hz=>hrg z (List.mem_append_right _ hz)
    refine wp_cond ho ?_
    cases r
    ·simp only[Bool.false_eq_true,if_false]at h ⊢
     exact ih y st e st' ly ry h α a w Q hr hQ
    ·simp only[if_true]at h ⊢
     exact ih x st e st' lx rx h α a w Q hr hQ
   ·cases h
  |block id x=>
   simp only[bU]at h
   have lx:pA P X ρ (bN gb) lp x:=fun b hb=>hlp b (by simp only[bI];exact hb)
   obtain⟨r,h1,h⟩:=Res.bind_ok h
   obtain⟨e1,s1⟩:=r
   refine wp_block (ih x st e1 s1 lx hrg h1 α a w _ hr ?_)
   intro a1 w1 α1 r1 x1
   cases e1 with
   |normal=>cases h;exact hQ a1 w1 α1 r1 x1
   |exit i=>
    simp only at h
    simp only[Ex.toExit,Exit.inBlock]
    split at h
    ·rename_i hi
     cases h
     rw[if_pos hi]
     exact hQ a1 w1 α1 r1 x1
    ·rename_i hi
     cases h
     rw[if_neg hi]
     exact hQ a1 w1 α1 r1 x1
   |ret=>cases h;exact hQ a1 w1 α1 r1 x1
  |loop b=>
   exact aDY (loop b st e st' hlp hrg h α a w Q hr hQ)
  |scope x=>
   simp only[bU]at h
   have lx:pA P X ρ (bN gb) lp x:=fun b hb=>hlp b (by simp only[bI];exact hb)
   refine wp_scope_straight (ih x st e st' lx hrg h α a w _ hr ?_)
   intro a1 w1 α1 r1 x1
   have:=hQ a1 w1 α1 r1 x1
   cases e<;>exact this
  |skip=>simp only[bU]at h;exact plain h α a w Q hr hQ
  |label l=>simp only[bU]at h;exact plain h α a w Q hr hQ
  |exit id=>simp only[bU]at h;exact plain h α a w Q hr hQ
  |ret=>simp only[bU]at h;exact plain h α a w Q hr hQ
  |region id ops draw=>simp only[bU]at h;exact plain h α a w Q hr hQ
  |rangeFunc f ps x y=>simp only[bU]at h;exact plain h α a w Q hr hQ
  |goto l=>simp only[bU]at h;exact plain h α a w Q hr hQ
  |refuse y=>simp only[bU]at h;exact plain h α a w Q hr hQ
theorem sB {lp:fH} (hX:X.Ok ρ) (hct:fF P X ρ gb ct) (hfl:jN gb=true) (hm:kT P) (n:Nat) {f:FuncId} (c:Code) (st:St) (e:Ex) (st':St) (hlp:pA P X ρ (bN gb) lp c) (hrg:∀ x,x ∈ bD c→bX P f=some x) (h:bU P X gb ct lp n f c st = .ok (e,st')):
  ∀ α a w Q,RelSt mm X ρ (bN gb) α st a w→(∀ a' w' α',RelSt mm X ρ (bN gb) α' st' a' w'→Ext st.heap.length st.heap st'.heap α α' w w'→Q e.toExit a' w')→c.wp P Q a w:=(wI hX hct hfl hm n).1 c st e st' hlp hrg h
open Classical in
theorem aCj {lp:fH} (hX:X.Ok ρ) (hct:fF P X ρ gb ct) (hfl:jN gb=true) (hm:kT P) {n:Nat} {f:FuncId} {args:List SV} {σ:aM} {s:SV} {σ':aM}
  (hY:f<YB) (hlp:∀ fn c,P.funcs[f]?=some fn→fn.body=some c→pA P X ρ (bN gb) lp c) (h:fX P X gb ct (aLA P X gb ct lp n) f args σ = .ok (s,σ')):∀ α w vals,RelW X.G ρ (bN gb) α σ w→SV.RL X.G ρ α args vals→
  fU P f∧Calls P f vals.toArray w (fun e w'=>∃ v α',e = .returned v∧SV.R X.G ρ α' s v∧RelW X.G ρ (bN gb) α' σ' w'∧Ext σ.length σ σ' α α' w w'):=by
 let run:FuncId→Bool→Code→St→Res (Ex × St):=fun g inr c st=>if pA P X ρ (bN gb) lp c then aLA P X gb ct lp n g inr c st else .fail 999
 have key:fX P X gb ct run f args σ = .ok (s,σ'):=by
  rw[←h]
  unfold fX
  have hd:¬decide (YB≤f)=true:=by simpa using hY
  rw[if_neg hd,if_neg hd]
  have inl:rO P X gb run f args σ=rO P X gb (aLA P X gb ct lp n) f args σ:=by
   unfold rO
   cases hf:P.funcs[f]? with
   |none=>rfl
   |some fn=>
    simp only
    cases hb:fn.body with
    |none=>rfl
    |some c=>
     have:=hlp fn c hf hb
     simp only[run,cQ,if_pos this]
  cases ct f with
  |some g=>cases g with
   |pure g=>rfl
   |mem g=>simp only[inl]
  |none=>exact inl
 intro α w vals hW hv
 refine(qB hm hct hfl (run:=run) ?_ f args σ s σ' key α w vals hW hv).1 hY
 intro g inr c st e st' hh hrg mm ro kk hro α a w Q hr hQ
 simp only[run]at hh
 split at hh
 ·rename_i hl
  unfold aLA at hh
  split at hh
  ·cases hh
  rename_i hinr
  have hro':ro=none:=by
   cases ro with
   |none=>rfl
   |some l=>exact absurd hro.symm hinr
  subst hro'
  exact(wpIn_wide (n:=kk)).2 (sB hX hct hfl hm n c st e st' hl hrg hh α a w Q hr hQ)
 ·cases hh
end
mutual
def SV.guess:SV→SV→List (Nat × Option Nat)
 | .ptr i _,.ptr j _=>[(j,some i)]
 | .slice i _ _ _,.slice j _ _ _=>[(j,some i)]
 | .map i,.map j=>[(j,some i)]
 | .yld i,.yld j=>[(j,some i)]
 | .own i _ _,.own j _ _=>[(j,some i)]
 | .own i _ _,.vsl j _ _ _ _=>[(j,some i)]
 | .vsl i _ _ _ _,.vsl j _ _ _ _=>[(j,some i)]
 | .vptr i _ _ _,.vptr j _ _ _=>[(j,some i)]
 | .con _,.own j _ _=>[(j,none)]
 | .con _,.vsl j _ _ _ _=>[(j,none)]
 | .agg l,.agg r=>SV.guessL l r
 | .tuple l,.tuple r=>SV.guessL l r
 | .iface _ l,.iface _ r=>SV.guessL l r
 | .func _ a b,.func _ c d=>SV.guessL a c++SV.guessL b d
 |_,_=>[]
def SV.guessL:List SV→List SV→List (Nat × Option Nat)
 |a::l,b::r=>SV.guess a b++SV.guessL l r
 |_,_=>[]
end
def aWs (base:Nat) (l:List (Nat × Option Nat)) (j:Nat):Option Nat:=
 if j<base then some j else match l.find? (fun p=>p.1 ==j)with
  |some p=>p.2
  |none=>none
def aCN (σ:aM):Nat→List (Option Nat)→aM→List (Nat × Option Nat)
 |k,some i::rs,some (ds,_)::τ=>(match σ[i]? with|some (some (cs,_))=>SV.guessL cs ds|_=>[])++aCN σ (k+1) rs τ
 |k,_::rs,_::τ=>aCN σ (k+1) rs τ
 |_,_,_=>[]
def aKg (base:Nat) (τ:aM) (l:List (Nat × Option Nat)):Ren:=(List.range τ.length).map (aWs base l)
def aWw (base:Nat) (τ:aM) (r:Ren):Ren:=r.zipIdx.map fun p=>if p.2<base then p.1 else match τ[p.2]? with|some (some _)=>p.1|_=>none
def aDd (base:Nat) (s t:St):Ren:=
 let l0:=SV.guessL s.tmps t.tmps
 let l1:=l0++aCN s.heap 0 (aKg base t.heap l0) t.heap
 let l2:=l1++aCN s.heap 0 (aKg base t.heap l1) t.heap
 aWw base t.heap (aKg base t.heap l2)
def St.diffG (n base:Nat) (gl:List (Nat × Nat)) (s t:St):Option (List SV):=if nI base t.heap then cP (aDd base s t) fun ren=>St.diff n base gl ren s t else none
theorem St.diffG_rel {X X':Ctx} {G:Nat→List Int→Int} {ρ ρ':Nat→Int} {n:Nat} {gl:List (Nat × Nat)} (hX:X.G=G) (hX':X'.G=G) (hl:eO n ρ ρ') {base:Nat} {s t:St} {L:List SV} (h:St.diffG n base gl s t=some L) (ha:aI G ρ ρ' L) {α:aV} {a:Act} {w:World} (hr:RelSt mm X ρ gl α s a w):
  ∃ α',RelSt mm X' ρ' gl α' t a w∧∀ (m:Nat) (σ0:aM) (α0:aV) (w0:World),(∀ id b,α0 id=some b→id<σ0.length)→σ0.length≤base→m≤base→Ext m σ0 s.heap α0 α w0 w→Ext m σ0 t.heap α0 α' w0 w:=by
 unfold St.diffG at h
 split at h
 case isFalse=>cases h
 rename_i hv
 rw[cQ]at h
 obtain⟨h1,h2⟩:=St.diff_rel hX hX' hl h ha hr
 exact⟨_,h1,fun m σ0 α0 w0 g1 g2 g3=>h2 m σ0 α0 w0 g1 g2 g3 hv⟩
structure LoopS where
 n0:Nat
 base:Nat
 S:St
 b:B
 e1:Ex
 T1:St
 e2:Ex
 T2:St
def Ex.same:Ex→Ex→Bool
 | .normal,.normal=>true
 | .exit i,.exit j=>i ==j
 | .ret,.ret=>true
 |_,_=>false
theorem Ex.same_eq {a b:Ex} (h:Ex.same a b=true):a=b:=by
 cases a<;>cases b<;>simp [Ex.same]at h<;>first|rfl|rw[h]
def aQ6 (gl:List (Nat × Nat)) (l:LoopS) (S:St) (r:Ex × St):Res SV:=
 match r.1 with
 | .normal=>match St.diffG l.n0 l.base gl r.2 S with
  |some L => .ok (.agg L)
  |none => .fail 160
 |e=>match (if Ex.same e l.e1 then St.diffG l.n0 l.base gl r.2 l.T1 else none)with
  |some L => .ok (.tuple [.agg L,.bool (.lit true)])
  |none=>match (if Ex.same e l.e2 then St.diffG l.n0 l.base gl r.2 l.T2 else none)with
   |some L => .ok (.tuple [.agg L,.bool (.lit false)])
   |none => .fail 161
def oP (P:Program) (X:Ctx) (gb:dF) (ct:bA) (lp:fH) (n:Nat) (b:Code) (l:LoopS):Res SV:=
 if (bD b).isEmpty then (bU P X gb ct lp n 0 b l.S).bind (aQ6 (bN gb) l l.S) else .fail 158
theorem RelSt.ctx {X X':Ctx} {ρ:Nat→Int} {gl:List (Nat × Nat)} {α:aV} {st:St} {a:Act} {w:World} (h:X.G=X'.G) (r:RelSt mm X ρ gl α st a w):RelSt mm X' ρ gl α st a w:=
 ⟨by rw[←h];exact r.tmps,r.defers,by rw[←h];exact r.mem⟩
def cF {ι:Type} (G:Nat→List Int→Int) (ρ:ι→Nat→Int) (ρT:Nat→Int) (n0:Nat) (b:B) (Good:ι→Prop) (m:ι→Nat) (x:ι):SV→Prop
 | .agg l=>∃ y,Good y∧m y<m x∧eO n0 (ρ x) (ρ y)∧aI G (ρ x) (ρ y) l
 | .tuple [.agg l,.bool (.lit r)]=>b.den G ρT=r∧eO n0 (ρ x) ρT∧aI G (ρ x) ρT l
 |_=>False
def aFI (P:Program) (G:Nat→List Int→Int) (gl:List (Nat × Nat)) (c:Code) (l:LoopS) (ρ ρT:Nat→Int) (k:Nat):Prop:=
 ∀ X:Ctx,X.G=G→∀ (m0:Nat) (σ0:aM) (α0:aV) (w0:World),(∀ id b,α0 id=some b→id<σ0.length)→σ0.length≤l.base→m0≤l.base→
  ∀ (mm:Nat) α a w Q,RelSt mm X ρ gl α l.S a w→Ext m0 σ0 l.S.heap α0 α w0 w→
   (∀ (r:Bool) a' w' α',l.b.den G ρT=r→RelSt mm X ρT gl α' (if r then l.T1 else l.T2) a' w'→Ext m0 σ0 (if r then l.T1 else l.T2).heap α0 α' w0 w'→Q (if r then l.e1 else l.e2).toExit a' w')→Code.rounds P c Q k a w
theorem gB {ι:Type} {P:Program} {G:Nat→List Int→Int} {GI:Nat→List fV→fV} {gb:dF} {ct:bA} {lp:fH} {n:Nat} {b:Code} {l:LoopS} {vars:List (Int × Int)} {ρ:ι→Nat→Int} {ρT:Nat→Int} {m:ι→Nat} {Good:ι→Prop} {run:List B→Res SV}
  (hrun:∀ fs,run fs=cB G GI vars fs fun X=>oP P X gb ct lp n b l) (hm:kT P) (hfl:jN gb=true) (hg:GiOk G GI)
  (hv:∀ x,Good x→∀ i q,vars[i]?=some q→q.1≤ρ x i∧ρ x i≤q.2)
  (hct:∀ x,Good x→∀ X:Ctx,X.Ok (ρ x)→X.G=G→fF P X (ρ x) gb ct)
  (hlp:∀ x,Good x→∀ X:Ctx,X.Ok (ρ x)→X.G=G→pA P X (ρ x) (bN gb) lp b)
  (way:∀ x,Good x→Way run G (ρ x) (cF G ρ ρT l.n0 l.b Good m x) []) (hbase:l.base≤l.S.heap.length):
  ∀ k x,Good x→m x<k→aFI P G (bN gb) b l (ρ x) ρT k
 |0,x,_,hk=>by omega
 |k+1,x,hx,hk=>by
  intro X hXG m0 σ0 α0 w0 hd hs hm0 mm α a w Q hr x0 hQ
  have ih:=gB hrun hm hfl hg hv hct hlp way hbase k
  obtain⟨fs,s,h1,h2,h3⟩:=way x hx (fun b hb=>by cases hb)
  rw[hrun,oS]at h2
  have hX1:=nT (show Ctx.Ok ⟨G,GI,vars,fs⟩ (ρ x)from⟨hv x hx,h1,hg⟩)
  unfold oP at h2
  split at h2
  case isFalse=>cases h2
  rename_i hrg
  obtain⟨r,q1,q2⟩:=Res.bind_ok h2
  obtain⟨e,st'⟩:=r
  rw[rounds_succ]
  refine sB hX1 (hct x hx _ hX1 rfl) hfl hm n b l.S e st' (hlp x hx _ hX1 rfl) (by rw[List.isEmpty_iff.1 hrg];simp) q1 α a w _ (RelSt.ctx hXG hr) ?_
  intro a1 w1 α1 r1 x1
  have x2:=x0.trans x1 (Nat.le_trans hm0 hbase)
  unfold aQ6 at q2
  split at q2
  ·rename_i he
   simp only at he
   subst he
   split at q2
   ·rename_i L hL
    cases q2
    simp only[cF]at h3
    obtain⟨y,hy,hmy,hlow,hag⟩:=h3
    obtain⟨α2,r2,sn⟩:=St.diffG_rel (X':=X) (G:=G) rfl hXG hlow hL hag r1
    simp only[Ex.toExit,Exit.then]
    exact ih y hy (by omega) X hXG m0 σ0 α0 w0 hd hs hm0 mm α2 a1 w1 Q r2 (sn _ _ _ _ hd hs hm0 x2) hQ
   ·cases q2
  ·rename_i he
   have fin:∀ (r:Bool) (L:List SV),e=(if r then l.e1 else l.e2)→St.diffG l.n0 l.base (bN gb) st' (if r then l.T1 else l.T2)=some L→l.b.den G ρT=r∧eO l.n0 (ρ x) ρT∧aI G (ρ x) ρT L→Exit.then (fun a w=>Code.rounds P b Q k a w) Q e.toExit a1 w1:=by
    intro r L he1 hL ⟨g1,g2,g3⟩
    obtain⟨α2,r2,sn⟩:=St.diffG_rel (X':=X) (G:=G) rfl hXG g2 hL g3 r1
    have:=hQ r a1 w1 α2 g1 r2 (sn _ _ _ _ hd hs hm0 x2)
    rw[←he1]at this
    cases e with
    |normal=>exact absurd rfl he
    |exit id=>exact this
    |ret=>exact this
   split at q2
   ·rename_i L hL
    cases q2
    simp only[cF]at h3
    split at hL
    ·rename_i hs1
     exact fin true L (Ex.same_eq hs1) hL h3
    ·cases hL
   ·split at q2
    ·rename_i L hL
     cases q2
     simp only[cF]at h3
     split at hL
     ·rename_i hs1
      exact fin false L (Ex.same_eq hs1) hL h3
     ·cases hL
    ·cases q2
structure LoopU where
 l:LoopS
 es:List E
 vars:List (Int × Int)
 pre:B
def aE4 (X:Ctx) (b:B):Bool:=match B.dec X b with|some true=>true|_=>false
theorem aIr {X:Ctx} {ρ:Nat→Int} (hX:X.Ok ρ) {b:B} (h:aE4 X b=true):b.den X.G ρ=true:=by
 unfold aE4 at h
 split at h
 ·exact B.dec_eq hX _ ‹_›
 ·cases h
def uC (gl:List (Nat × Nat)) (u:LoopU):Ctx→St→Res (Ex × St):=fun X st=>
 if decide (st.heap.length=u.l.base) then match St.diffG 0 u.l.base gl st u.l.S with
  |some L=>if oI X u.es L then (if oA X u.vars (u.es.take u.vars.length) && aE4 X (u.pre.subst u.es) then (Res.testW X u.l.b).bind fun r => .ok (if r then (u.l.e1,u.l.T1) else (u.l.e2,u.l.T2)) else .fail 174) else .fail 170
  |none => .fail 171
 else .fail 172
def gG (P:Program) (G:Nat→List Int→Int) (gl:List (Nat × Nat)) (b:Code) (u:LoopU) (ρ0:Nat→Int):Prop:=
 dW u.vars ((u.es.take u.vars.length).map (E.den G ρ0))→u.pre.den G (gA G ρ0 u.es)=true→∃ k,aFI P G gl b u.l (gA G ρ0 u.es) ρ0 k
def fS (gl:List (Nat × Nat)):List LoopU→Ctx→St→Res (Ex × St)
 |[],_,_ => .fail 173
 |p::ps,X,st=>match uC gl p X st with
  | .ok r => .ok r
  | .need b => .need b
  | .fail _=>fS gl ps X st
def jM (key:Nat) (g:Ctx→St→Res (Ex × St)) (lp:fH):fH:=fun k=>if k=key then some g else lp k
theorem aDk {P:Program} {G:Nat→List Int→Int} {gl:List (Nat × Nat)} {b:Code} {u:LoopU} {X:Ctx} {ρ0:Nat→Int} (hX:X.Ok ρ0) (hXG:X.G=G)
  (hloopU:gG P G gl b u ρ0) {st st':St} {e:Ex} (h:uC gl u X st = .ok (e,st')) {α:aV} {a:Act} {w:World} {Q:Exit→Act→World→Prop} (hr:RelSt mm X ρ0 gl α st a w)
  (hQ:∀ a' w' α',RelSt mm X ρ0 gl α' st' a' w'→Ext st.heap.length st.heap st'.heap α α' w w'→Q e.toExit a' w'):∃ k,Code.rounds P b Q k a w:=by
 unfold uC at h
 split at h
 case isFalse=>cases h
 rename_i hbase
 simp only[decide_eq_true_eq]at hbase
 split at h
 case h_2=>cases h
 rename_i L hL
 split at h
 case isFalse=>cases h
 rename_i he
 split at h
 case isFalse=>cases h
 rename_i hw
 simp only[Bool.and_eq_true]at hw
 have hag:=qI hX he
 have hwi:=sJ hX hw.1
 have hpr:=aIr hX hw.2
 rw[B.subst_den]at hpr
 rw[hXG]at hag hwi hpr
 obtain⟨k,hloop⟩:=hloopU hwi hpr
 obtain⟨r,hr1,h⟩:=Res.bind_ok h
 have hb:=Res.testW_ok hX hr1
 have hq:(e,st')=(if r then (u.l.e1,u.l.T1) else (u.l.e2,u.l.T2)):=(Res.ok.inj h).symm
 obtain⟨α2,r2,sn⟩:=St.diffG_rel (X':=X) (G:=G) hXG hXG (fun i hi=>by omega) hL hag hr
 refine⟨k,hloop X hXG st.heap.length st.heap α w (fun id b e=>(hr.mem.dom id b e).1) (by omega) (by omega) mm α2 a w Q r2 (sn _ _ _ _ (fun id b e=>(hr.mem.dom id b e).1) (by omega) (by omega) (Ext.refl _ _ _ _)) ?_⟩
 intro r' a' w' α' g1 g2 g3
 rw[hXG]at hb
 rw[hb]at g1
 subst g1
 cases r
 ·cases hq;exact hQ a' w' α' g2 g3
 ·cases hq;exact hQ a' w' α' g2 g3
theorem yX {P:Program} {G:Nat→List Int→Int} {gl:List (Nat × Nat)} {b:Code} {X:Ctx} {ρ0:Nat→Int} (hX:X.Ok ρ0) (hXG:X.G=G):∀ (ps:List LoopU),(∀ p,p ∈ ps→gG P G gl b p ρ0)→∀ {st st':St} {e:Ex},fS gl ps X st = .ok (e,st')→∀ {α:aV} {a:Act} {w:World} {Q:Exit→Act→World→Prop},RelSt mm X ρ0 gl α st a w→
  (∀ a' w' α',RelSt mm X ρ0 gl α' st' a' w'→Ext st.heap.length st.heap st'.heap α α' w w'→Q e.toExit a' w')→∃ k,Code.rounds P b Q k a w
 |[],_,st,st',e,h,_,_,_,_,_,_=>by simp [fS]at h
 |p::ps,hp,st,st',e,h,α,a,w,Q,hr,hQ=>by
  unfold fS at h
  split at h
  ·rename_i r hr1
   cases h
   exact aDk hX hXG (hp p (by simp)) hr1 hr hQ
  ·cases h
  ·exact yX hX hXG ps (fun q hq=>hp q (by simp [hq])) h hr hQ
theorem iJ {P:Program} {G:Nat→List Int→Int} {gl:List (Nat × Nat)} {b:Code} {key:Nat} {ps:List LoopU} {lp:fH} {X:Ctx} {ρ0:Nat→Int} (hX:X.Ok ρ0) (hXG:X.G=G) (hkey:gP b=some key)
  (hp:∀ p,p ∈ ps→gG P G gl b p ρ0):aI1 P X ρ0 gl (jM key (fS gl ps) lp) b:=by
 intro k' g hk hg st e st' h mm α a w Q hr hQ
 rw[hkey]at hk
 cases hk
 unfold jM at hg
 rw[if_pos rfl]at hg
 cases hg
 exact yX hX hXG ps hp h hr hQ
theorem aKH {P:Program} {gl:List (Nat × Nat)} {b:Code} {X:Ctx} {ρ0:Nat→Int}:aI1 P X ρ0 gl (fun _=>none) b:=by
 intro k g _ hg
 cases hg
theorem qX {P:Program} {gl:List (Nat × Nat)} {b:Code} {key j:Nat} {g:Ctx→St→Res (Ex × St)} {lp:fH} {X:Ctx} {ρ0:Nat→Int} (hkey:gP b=some j) (hj:j≠key) (h:aI1 P X ρ0 gl lp b):aI1 P X ρ0 gl (jM key g lp) b:=by
 intro k' g' hk hg
 rw[hkey]at hk
 cases hk
 unfold jM at hg
 rw[if_neg hj]at hg
 exact h j g' hkey hg
theorem kX {P:Program} {X:Ctx} {ρ:Nat→Int} {gl:List (Nat × Nat)} {lp:fH} {bs:List Code} {c:Code} (h:bI c=bs) (hb:∀ b,b ∈ bs→aI1 P X ρ gl lp b):pA P X ρ gl lp c:=by
 intro d hd
 rw[h]at hd
 exact hb d hd
theorem aQ {run:List B→Res SV} {G:Nat→List Int→Int} {ρ:Nat→Int} {p:SV→Prop} {fs:List B} (h:False):Way run G ρ p fs:=h.elim
def dQ:fH:=fun _=>none
theorem cG {P:Program} {X:Ctx} {ρ:Nat→Int} {gl:List (Nat × Nat)} {c:Code}:pA P X ρ gl dQ c:=by
 intro b _ k g _ hg
 simp [dQ]at hg
def bW (P:Program) (f:FuncId):Code:=
 match P.funcs[f]? with
 |some fn=>match fn.body with
  |some c=>c
  |none => .skip
 |none => .skip
def cN (c:Code) (k:Nat):Code:=(bI c).getD k .skip
theorem nM {P:Program} {f:FuncId} {fn:Func} {c:Code} (h:P.funcs[f]?=some fn) (g:fn.body=some c):bW P f=c:=by
 unfold bW;rw[h];simp only;rw[g]
end Sx
end Go.Proofs.Ytdldallkeheciaa
namespace Go.Proofs.Ytdldallkeheciaa
namespace Sx
open Go Go.RowKit
variable {mm:Nat}
def iF {α β:Type}:Option α→(α→Option β)→Option β
 |some a,f=>f a
 |none,_=>none
theorem bS {α β:Type} {o:Option α} {f:α→Option β} {b:β} (h:iF o f=some b):∃ a,o=some a∧f a=some b:=by
 cases o with
 |none=>cases h
 |some a=>exact⟨a,rfl,h⟩
mutual
def SV.inst (es:List E) (f:Nat→Option Nat):SV→Option SV
 | .bool b=>some (.bool (b.subst es))
 | .int k e=>some (.int k (e.subst es))
 | .ptr id o=>iF (f id) fun i=>some (.ptr i o)
 | .slice id o l c=>iF (f id) fun i=>some (.slice i o l c)
 | .agg l=>iF (SV.instL es f l) fun l=>some (.agg l)
 | .tuple l=>iF (SV.instL es f l) fun l=>some (.tuple l)
 | .iface t l=>iF (SV.instL es f l) fun l=>some (.iface t l)
 | .func fn a c=>iF (SV.instL es f a) fun a=>iF (SV.instL es f c) fun c=>some (.func fn a c)
 | .con v=>some (.con v)
 | .map id=>iF (f id) fun i=>some (.map i)
 | .yld id=>iF (f id) fun i=>some (.yld i)
 | .any=>some .any
 | .text n=>some (.text (n.subst es))
 | .vec sh C n ex=>some (.vec sh (C.subst es) (n.subst es) ex)
 | .own id n c=>iF (f id) fun i=>some (.own i (n.subst es) (c.map (E.subst es)))
 | .vsl id w o n c=>iF (f id) fun i=>some (.vsl i w (o.subst es) (n.subst es) (c.map (E.subst es)))
 | .vptr id w e j=>iF (f id) fun i=>some (.vptr i w (e.subst es) j)
def SV.instL (es:List E) (f:Nat→Option Nat):List SV→Option (List SV)
 |[]=>some []
 |s::l=>iF (SV.inst es f s) fun s=>iF (SV.instL es f l) fun l=>some (s::l)
end
section
variable {G:Nat→List Int→Int} {ρ:Nat→Int} {es:List E} {f:Nat→Option Nat} {α β:aV}
theorem aAI {c:Option E} {x:Int} (h:∀ e,c=some e→x=e.den G (gA G ρ es)):∀ e,c.map (E.subst es)=some e→x=e.den G ρ:=by
 intro e he
 obtain⟨e0,h0,rfl⟩:=Option.map_eq_some_iff.1 he
 rw[E.subst_den];exact h e0 h0
mutual
theorem SV.inst_R (hf:∀ j i b,f j=some i→α j=some b→β i=some b):∀ (s t:SV) (v:Value),SV.inst es f s=some t→SV.R G (gA G ρ es) α s v→SV.R G ρ β t v
 | .bool b,t,v,h,r=>by simp only[SV.inst]at h;cases h;simp only[SV.R,B.subst_den]at *;exact r
 | .int k e,t,v,h,r=>by simp only[SV.inst]at h;cases h;simp only[SV.R,E.subst_den]at *;exact r
 | .con x,t,v,h,r=>by simp only[SV.inst]at h;cases h;simp only[SV.R]at *;exact r
 | .any,t,v,h,r=>by simp only[SV.inst]at h;cases h;simp only[SV.R]
 | .text n,t,v,h,r=>by simp only[SV.inst]at h;cases h;simp only[SV.R,E.subst_den]at *;exact r
 | .vec sh C n ex,t,v,h,r=>by simp only[SV.inst]at h;cases h;simp only[SV.R,E.subst_den]at *;exact r
 | .ptr id o,t,v,h,r=>by
  simp only[SV.inst]at h
  obtain⟨i,hi,h⟩:=bS h;cases h
  simp only[SV.R]at *
  obtain⟨b,h1,h2⟩:=r
  exact⟨b,hf _ _ _ hi h1,h2⟩
 | .slice id o l c,t,v,h,r=>by
  simp only[SV.inst]at h
  obtain⟨i,hi,h⟩:=bS h;cases h
  simp only[SV.R]at *
  obtain⟨b,h1,h2⟩:=r
  exact⟨b,hf _ _ _ hi h1,h2⟩
 | .map id,t,v,h,r=>by
  simp only[SV.inst]at h
  obtain⟨i,hi,h⟩:=bS h;cases h
  simp only[SV.R]at *
  obtain⟨b,h1,h2⟩:=r
  exact⟨b,hf _ _ _ hi h1,h2⟩
 | .yld id,t,v,h,r=>by
  simp only[SV.inst]at h
  obtain⟨i,hi,h⟩:=bS h;cases h
  simp only[SV.R]at *
  obtain⟨b,h1,h2⟩:=r
  exact⟨b,hf _ _ _ hi h1,h2⟩
 | .own id n c,t,v,h,r=>by
  simp only[SV.inst]at h
  obtain⟨i,hi,h⟩:=bS h;cases h
  simp only[SV.R,E.subst_den]at *
  obtain⟨b,h1,h2,h3,h4,h5,h6⟩:=r
  exact⟨b,hf _ _ _ hi h1,h2,h3,h4,h5,fun e he hle=>by
   obtain⟨e0,h0,rfl⟩:=Option.map_eq_some_iff.1 he
   rw[E.subst_den]at hle ⊢
   exact h6 e0 h0 hle⟩
 | .vsl id w o n c,t,v,h,r=>by
  simp only[SV.inst]at h
  obtain⟨i,hi,h⟩:=bS h;cases h
  simp only[SV.R,E.subst_den]at *
  obtain⟨b,h1,h2,h3,h4⟩:=r
  refine⟨b,hf _ _ _ hi h1,h2,h3,?_⟩
  rcases h4 with⟨q1,a,c0,q2,q3⟩|⟨q1,c0,q2,q3,q4⟩
  ·refine .inl ⟨q1,a,c0,q2,?_⟩
   rcases q3 with q3|⟨q3,q4⟩
   ·subst q3;exact .inl rfl
   ·subst q3
    exact .inr ⟨rfl,fun e he=>(aAI (x:=0) (fun e he=>(q4 e he).symm) e he).symm⟩
  ·exact .inr ⟨q1,c0,q2,q3,aAI q4⟩
 | .vptr id w e j,t,v,h,r=>by
  simp only[SV.inst]at h
  obtain⟨i,hi,h⟩:=bS h;cases h
  simp only[SV.R,E.subst_den]at *
  obtain⟨b,h1,h2⟩:=r
  exact⟨b,hf _ _ _ hi h1,h2⟩
 | .agg l,t,v,h,r=>by
  simp only[SV.inst]at h
  obtain⟨q,hq,h⟩:=bS h;cases h
  simp only[SV.R]at *
  obtain⟨cs,h1,h2⟩:=r
  exact⟨cs,h1,SV.inst_RL hf l q cs hq h2⟩
 | .tuple l,t,v,h,r=>by
  simp only[SV.inst]at h
  obtain⟨q,hq,h⟩:=bS h;cases h
  simp only[SV.R]at *
  obtain⟨cs,h1,h2⟩:=r
  exact⟨cs,h1,SV.inst_RL hf l q cs hq h2⟩
 | .iface _ l,t,v,h,r=>by
  simp only[SV.inst]at h
  obtain⟨q,hq,h⟩:=bS h;cases h
  simp only[SV.R]at *
  obtain⟨cs,h1,h2⟩:=r
  exact⟨cs,h1,SV.inst_RL hf l q cs hq h2⟩
 | .func fn a c,t,v,h,r=>by
  simp only[SV.inst]at h
  obtain⟨q,hq,h⟩:=bS h
  obtain⟨p,hp,h⟩:=bS h;cases h
  simp only[SV.R]at *
  obtain⟨fs,cs,h1,h2,h3⟩:=r
  exact⟨fs,cs,h1,SV.inst_RL hf a q fs hq h2,SV.inst_RL hf c p cs hp h3⟩
theorem SV.inst_RL (hf:∀ j i b,f j=some i→α j=some b→β i=some b):∀ (l m:List SV) (vs:List Value),SV.instL es f l=some m→SV.RL G (gA G ρ es) α l vs→SV.RL G ρ β m vs
 |[],m,vs,h,r=>by simp only[SV.instL]at h;cases h;simpa [SV.RL]using r
 |s::l,m,vs,h,r=>by
  simp only[SV.instL]at h
  obtain⟨q,hq,h⟩:=bS h
  obtain⟨p,hp,h⟩:=bS h;cases h
  simp only[SV.RL]at *
  obtain⟨v,vs',h1,h2,h3⟩:=r
  exact⟨v,vs',h1,SV.inst_R hf s q v hq h2,SV.inst_RL hf l p vs' hp h3⟩
end
end
structure FunS where
 args:List SV
 H:aM
 b:B
 s1:SV
 H1:aM
 s2:SV
 H2:aM
def gD (P:Program) (G:Nat→List Int→Int) (gb:dF) (f:FuncId) (F:FunS) (ρ:Nat→Int):Prop:=
 ∀ α w vals,RelW G ρ (bN gb) α F.H w→SV.RL G ρ α F.args vals→
  fU P f∧Calls P f vals.toArray w (fun e w'=>∃ v α' r,F.b.den G ρ=r∧e = .returned v∧SV.R G ρ α' (if r then F.s1 else F.s2) v∧RelW G ρ (bN gb) α' (if r then F.H1 else F.H2) w'∧Ext F.H.length F.H (if r then F.H1 else F.H2) α α' w w')
def aWE (gl:List (Nat × Nat)) (F:FunS) (r:SV × aM):Res SV:=
 match St.diffG 100000 F.H.length gl ⟨[r.1],r.2⟩ ⟨[F.s1],F.H1⟩with
 |some L => .ok (.tuple [.agg L,.bool (.lit true)])
 |none=>match St.diffG 100000 F.H.length gl ⟨[r.1],r.2⟩ ⟨[F.s2],F.H2⟩with
  |some L => .ok (.tuple [.agg L,.bool (.lit false)])
  |none => .fail 180
def gJ (P:Program) (X:Ctx) (gb:dF) (ct:bA) (lp:fH) (n:Nat) (f:FuncId) (F:FunS):Res SV:=
 if decide (YB≤f) then .fail 141 else (fX P X gb ct (aLA P X gb ct lp n) f F.args F.H).bind (aWE (bN gb) F)
def bK (G:Nat→List Int→Int) (ρ:Nat→Int) (b:B):SV→Prop
 | .tuple [.agg l,.bool (.lit r)]=>b.den G ρ=r∧aI G ρ ρ l
 |_=>False
theorem cX {P:Program} {lp:fH} {G:Nat→List Int→Int} {GI:Nat→List fV→fV} {vars:List (Int × Int)} {ρ:Nat→Int} {gb:dF} {ct:bA} {n:Nat} {f:FuncId} {F:FunS} {run:List B→Res SV}
  (hrun:∀ fs,run fs=cB G GI vars fs fun X=>gJ P X gb ct lp n f F) (hm:kT P)
  (hv:∀ i q,vars[i]?=some q→q.1≤ρ i∧ρ i≤q.2) (hg:GiOk G GI)
  (hct:∀ X:Ctx,X.Ok ρ→X.G=G→fF P X ρ gb ct) (hlp:∀ X:Ctx,X.Ok ρ→X.G=G→∀ fn c,P.funcs[f]?=some fn→fn.body=some c→pA P X ρ (bN gb) lp c) (hfl:jN gb=true)
  (hgood:Way run G ρ (bK G ρ F.b) []):gD P G gb f F ρ:=by
 intro α w vals hW hv'
 obtain⟨fs,s,h1,h2,h3⟩:=hgood (fun b hb=>by cases hb)
 rw[hrun,oS]at h2
 have hX:=nT (show Ctx.Ok ⟨G,GI,vars,fs⟩ ρ from⟨hv,h1,hg⟩)
 unfold gJ at h2
 split at h2
 ·cases h2
 rename_i hY
 simp only[decide_eq_true_eq,Nat.not_le]at hY
 obtain⟨r,q1,q2⟩:=Res.bind_ok h2
 obtain⟨s0,σ'⟩:=r
 obtain⟨hk,hc⟩:=aCj hX (hct _ hX rfl) hfl hm hY (hlp _ hX rfl) q1 α w vals hW hv'
 refine⟨hk,hc.mono ?_⟩
 rintro e w' ⟨v,α',rfl,r1,r2,x1⟩
 have fin:∀ (r:Bool) (L:List SV),St.diffG 100000 F.H.length (bN gb) ⟨[s0],σ'⟩ ⟨[if r then F.s1 else F.s2],if r then F.H1 else F.H2⟩=some L→F.b.den G ρ=r∧aI G ρ ρ L→∃ v' α' r,F.b.den G ρ=r∧Ending.returned v = .returned v'∧SV.R G ρ α' (if r then F.s1 else F.s2) v'∧RelW G ρ (bN gb) α' (if r then F.H1 else F.H2) w'∧Ext F.H.length F.H (if r then F.H1 else F.H2) α α' w w':=by
  intro r L hL ⟨g1,g2⟩
  have hst:RelSt 0 ⟨G,GI,vars,fs⟩ ρ (bN gb) α' ⟨[s0],σ'⟩ { tmps:=#[v],defers:=[] } w':=⟨aW r1 bC,iK.nil (Nat.zero_le _),r2⟩
  obtain⟨α2,z1,z2⟩:=St.diffG_rel (X:=⟨G,GI,vars,fs⟩) (X':=⟨G,GI,vars,fs⟩) (G:=G) rfl rfl (fun _ _=>rfl) hL g2 hst
  have z3:=z1.tmps
  simp only[SV.RL]at z3
  obtain⟨u,us,e1,z4,_⟩:=z3
  have e2:v=u:=(List.cons.inj e1).1
  subst e2
  exact⟨v,α2,r,g1,rfl,z4,z1.mem,z2 _ _ _ _ (fun id b e=>(hW.dom id b e).1) (Nat.le_refl _) (Nat.le_refl _) x1⟩
 unfold aWE at q2
 split at q2
 ·rename_i L hL
  cases q2
  simp only[bK]at h3
  exact fin true L hL h3
 ·split at q2
  ·rename_i L hL
   cases q2
   simp only[bK]at h3
   exact fin false L hL h3
  ·cases q2
end Sx
end Go.Proofs.Ytdldallkeheciaa
namespace Go.Proofs.Ytdldallkeheciaa
namespace Sx
open Go Go.RowKit
theorem zQ:∀ {l:List (Int × Int)} {xs:List Int},dW l xs→l.length=xs.length
 |[],[],_=>rfl
 |p::l,x::xs,h=>by simp [zQ h.2]
 |[],_::_,h=>by simp [dW]at h
 |_::_,[],h=>by simp [dW]at h
theorem bP {l:List (Int × Int)} {xs ls:List Int} (h:dW l xs):∀ i q,l[i]?=some q→q.1≤cR (xs++ls) i∧cR (xs++ls) i≤q.2:=by
 intro i q hq
 have hi:i<xs.length:=by rw[←zQ h];exact(List.getElem?_eq_some_iff.1 hq).1
 have:=lD h i q hq
 unfold cR at this ⊢
 simpa [List.getD,List.getElem?_append_left hi]using this
theorem eI {G:Nat→List Int→Int} {ρ:Nat→Int} (es:List E):gA G ρ es=cR (es.map (E.den G ρ)):=by
 funext i
 unfold gA cR
 simp only[List.getD,List.getElem?_map]
 cases es[i]?<;>simp [E.den]
def rE (es:List E) (f:Nat→Option Nat):jD→Option jD
 |none=>some none
 |some (cs,T)=>iF (SV.instL es f cs) fun cs=>some (some (cs,T))
def qA (ren:Ren) (H:aM) (i:Nat):Option Nat:=(List.range H.length).find? fun j=>rn ren j i && (match H[j]? with|some (some (_,T)) => !vw T|_=>false)
def tK (es:List E) (f:Nat→Option Nat) (inv:Nat→Option Nat) (H':aM):Nat→aM→Option aM
 |_,[]=>some []
 |k,x::σ=>iF (match inv k with|some j=>rE es f (H'.getD j none)|none=>some x) fun y=>iF (tK es f inv H' (k+1) σ) fun τ=>some (y::τ)
def sQ (es:List E) (f:Nat→Option Nat):aM→Option aM
 |[]=>some []
 |x::H=>iF (rE es f x) fun y=>iF (sQ es f H) fun τ=>some (y::τ)
def yJ (ren:Ren) (h s:Nat) (j:Nat):Option Nat:=if j<h then (match ren[j]? with|some r=>r|none=>none) else some (s+(j-h))
def aFG (H H':aM):Bool:=(List.range H.length).all fun j=>match H'[j]? with
 |some (some (_,T)) => !vw T ||(match H[j]? with|some (some (_,U))=>vw U|_=>false)
 |_=>true
theorem aES {H H':aM} (h:aFG H H'=true) {j:Nat} {p q:List SV × TypeId} (hj:H'[j]?=some (some p)) (hq:H[j]?=some (some q)) (hv:vw q.2=false):vw p.2=false:=by
 have:=List.all_eq_true.1 h j (by simpa using (List.getElem?_eq_some_iff.1 hq).1)
 rw[hj,hq]at this
 simpa [hv]using this
def dZ (gb:dF) (vars:List (Int × Int)) (nl:Nat) (pre:B) (F:FunS):Ctx→List SV→aM→Res (SV × aM):=fun X args σ=>
 cP (aDd gb.length ⟨args,σ⟩ ⟨F.args,F.H⟩) fun ren=>
  match St.diff 0 gb.length (bN gb) ren ⟨args,σ⟩ ⟨F.args,F.H⟩with
  |some L=>cP (xK (vars.length+nl) L) fun es=>
   if oI X es L && oA X vars (es.take vars.length) then
    (Res.testW X (pre.subst es)).bind fun p=>if p then (Res.testW X (F.b.subst es)).bind fun r=>
      match SV.inst es (yJ ren F.H.length σ.length) (if r then F.s1 else F.s2),tK es (yJ ren F.H.length σ.length) (qA ren F.H) (if r then F.H1 else F.H2) 0 σ,sQ es (yJ ren F.H.length σ.length) ((if r then F.H1 else F.H2).drop F.H.length)with
      |some s,some τ,some ν=>if nI 0 ν && aFG F.H (if r then F.H1 else F.H2) then .ok (s,τ++ν) else .fail 189
      |_,_,_ => .fail 190
     else .fail 191
   else .fail 192
  |none => .fail 193
section
variable {es:List E} {f:Nat→Option Nat}
theorem wN {inv:Nat→Option Nat} {H':aM}:∀ {σ τ:aM} {k:Nat},tK es f inv H' k σ=some τ→τ.length=σ.length∧∀ i x,σ[i]?=some x→∃ y,τ[i]?=some y∧((inv (k+i)=none∧y=x)∨∃ j,inv (k+i)=some j∧rE es f (H'.getD j none)=some y)
 |[],τ,k,h=>by simp only[tK]at h;cases h;exact⟨rfl,fun i x e=>by simp at e⟩
 |z::σ,τ,k,h=>by
  simp only[tK]at h
  obtain⟨y,hy,h⟩:=bS h
  obtain⟨τ',ht,h⟩:=bS h
  cases h
  obtain⟨h1,h2⟩:=wN ht
  refine⟨by simp [h1],?_⟩
  intro i x e
  cases i with
  |zero=>
   simp only[List.getElem?_cons_zero,Option.some.injEq]at e
   subst e
   refine⟨y,rfl,?_⟩
   split at hy
   ·rename_i j hj;exact .inr ⟨j,hj,hy⟩
   ·rename_i hj;cases hy;exact .inl ⟨hj,rfl⟩
  |succ i=>
   obtain⟨y',h3,h4⟩:=h2 i x (by simpa using e)
   exact⟨y',by simpa using h3,by rw[show k+(i+1)=k+1+i by omega];exact h4⟩
theorem vU:∀ {H ν:aM},sQ es f H=some ν→ν.length=H.length∧∀ (i:Nat) (y:jD),ν[i]?=some y→∃ x,H[i]?=some x∧rE es f x=some y
 |[],ν,h=>by simp only[sQ]at h;cases h;exact⟨rfl,fun i y e=>by simp at e⟩
 |z::H,ν,h=>by
  simp only[sQ]at h
  obtain⟨y,hy,h⟩:=bS h
  obtain⟨τ',ht,h⟩:=bS h
  cases h
  obtain⟨h1,h2⟩:=vU ht
  refine⟨by simp [h1],?_⟩
  intro i x e
  cases i with
  |zero=>
   simp only[List.getElem?_cons_zero,Option.some.injEq]at e
   subst e
   exact⟨z,rfl,hy⟩
  |succ i=>
   obtain⟨x',h3,h4⟩:=h2 i x (by simpa using e)
   exact⟨x',by simpa using h3,h4⟩
theorem vS {x y:jD} (h:rE es f x=some y) {q:List SV × TypeId} (hy:y=some q):∃ p,x=some p∧p.2=q.2:=by
 unfold rE at h
 split at h
 ·cases h;cases hy
 ·obtain⟨c,_,h⟩:=bS h;cases h;cases hy
  exact⟨_,rfl,rfl⟩
end
theorem cU {P:Program} {X:Ctx} {ρ:Nat→Int} {gb:dF} {f:FuncId} {vars:List (Int × Int)} {nl:Nat} {pre:B} {F:FunS} (hX:X.Ok ρ)
  (hfun:∀ xs ls,dW vars xs→ls.length=nl→pre.den X.G (cR (xs++ls))=true→gD P X.G gb f F (cR (xs++ls))):eU P X ρ gb f (dZ gb vars nl pre F):=by
 intro args σ s σ' h α w vals hW hv
 unfold dZ at h
 rw[cQ]at h
 obtain⟨ren,hren⟩:∃ ren,ren=aDd gb.length ⟨args,σ⟩ ⟨F.args,F.H⟩:=⟨_,rfl⟩
 rw[←hren]at h
 split at h
 case h_2=>cases h
 rename_i L hL
 rw[cQ]at h
 obtain⟨es,hes⟩:∃ es,es=xK (vars.length+nl) L:=⟨_,rfl⟩
 rw[←hes]at h
 split at h
 case isFalse=>cases h
 rename_i hg
 simp only[Bool.and_eq_true]at hg
 replace h:=Res.bind_ok h;obtain⟨p,hp,h⟩:=h
 have hp:=Res.testW_ok hX hp
 cases p
 case false=>simp at h
 simp only[if_true]at h
 replace h:=Res.bind_ok h;obtain⟨r0,hr0,h⟩:=h
 have hr0:=Res.testW_ok hX hr0
 split at h
 case h_2=>cases h
 rename_i s1 τ ν hs hτ hν
 cases hgd:nI 0 ν && aFG F.H (if r0=true then F.H1 else F.H2)
 case false=>rw[hgd]at h;simp at h
 rw[hgd,if_pos rfl]at h
 rw[Bool.and_eq_true]at hgd
 obtain⟨hvl,hkv⟩:=hgd
 cases h
 have hag:=qI hX hg.1
 have hwi:=sJ hX hg.2
 rw[B.subst_den,eI]at hp hr0
 have hesl:es.length=vars.length+nl:=by rw[hes];simp [xK]
 have hcat:es.map (E.den X.G ρ)=(es.take vars.length).map (E.den X.G ρ)++(es.drop vars.length).map (E.den X.G ρ):=by rw[←List.map_append,List.take_append_drop]
 have hp':=hp
 rw[hcat]at hp'
 have hF:=hfun _ _ hwi (by simp [hesl]) hp'
 rw[←hcat]at hF
 rw[←eI]at hF hr0
 unfold St.diff at hL
 split at hL
 case isFalse=>cases hL
 rename_i hrk
 have hR:=zP hrk
 split at hL
 case h_2=>cases hL
 rename_i x1 hx1
 split at hL
 case h_2=>cases hL
 rename_i y1 hy1
 cases hL
 obtain⟨a1,a2⟩:=aI.split (SV.diffL_pairs _ _ x1 hx1) hag
 have hlow:eO 0 ρ (gA X.G ρ es):=fun i hi=>by omega
 have hW0:=aM.diff_rel hlow hR hy1 a2 hW
 have hv0:=SV.diffL_R hlow _ _ x1 hx1 a1 _ hv
 have hlen:ren.length=F.H.length:=aM.diff_length _ _ _ hy1
 obtain⟨hk,hc⟩:=hF _ w vals hW0 hv0
 refine⟨hk,hc.mono ?_⟩
 rintro e w' ⟨v,α1,r,hr,rfl,rv,rw1,x⟩
 rw[hr0]at hr
 subst hr
 obtain⟨H',hH'⟩:∃ H',H'=(if r0=true then F.H1 else F.H2):=⟨_,rfl⟩
 obtain⟨S',hS'⟩:∃ S',S'=(if r0=true then F.s1 else F.s2):=⟨_,rfl⟩
 rw[←hH']at hτ hν rw1 x hkv
 rw[←hS']at hs rv
 
 have visF:∀ j,jT F.H j→∀ i,ren[j]?=some (some i)→jT σ i:=fun j hv i hi=>aM.diff_vis hy1 a2 hv hi
 have inv_some:∀ i j,qA ren F.H i=some j→ren[j]?=some (some i)∧jT F.H j∧j<F.H.length:=by
  intro i j hj
  have h1:=List.find?_some hj
  simp only[Bool.and_eq_true]at h1
  obtain⟨h1,h2⟩:=h1
  unfold rn at h1
  split at h1
  ·rename_i k hk
   simp only[beq_iff_eq]at h1
   subst h1
   split at h2
   ·rename_i q T hq;exact⟨hk,⟨_,hq,by simpa using h2⟩,(List.getElem?_eq_some_iff.1 hq).1⟩
   ·cases h2
  ·cases h1
 have inv_none:∀ i j,qA ren F.H i=none→ren[j]?=some (some i)→jT F.H j→False:=by
  intro i j hj hi ⟨q,hq,hv⟩
  have:=List.find?_eq_none.1 hj j (by simpa using (List.getElem?_eq_some_iff.1 hq).1)
  apply this
  simp only[Bool.and_eq_true]
  exact⟨by unfold rn;rw[hi];simp,by rw[hq];simpa using hv⟩
 have low1:∀ j b,j<F.H.length→α1 j=some b→jO ren α j=some b:=by
  intro j b hj e
  rcases x.fresh j b e with q|⟨q,_⟩
  ·exact q
  ·omega
 have renA_some:∀ j b,jO ren α j=some b→b.nil=false→∃ i,ren[j]?=some (some i)∧α i=some b:=by
  intro j b e hb
  unfold jO at e
  split at e
  ·rename_i i hi;exact⟨i,hi,e⟩
  ·cases e;cases hb
  ·cases e
 let α':aV:=fun id=>if id<σ.length then α id else α1 (id-σ.length+F.H.length)
 have aO:∀ id,id<σ.length→α' id=α id:=fun id hid=>by simp [α',hid]
 have aN:∀ id,σ.length≤id→α' id=α1 (id-σ.length+F.H.length):=fun id hid=>by simp [α',Nat.not_lt.2 hid]
 have mono:∀ id b,α id=some b→α' id=some b:=fun id b e=>by rw[aO id (hW.dom id b e).1];exact e
 have hf:∀ j i b,yJ ren F.H.length σ.length j=some i→α1 j=some b→α' i=some b:=by
  intro j i b hj e
  unfold yJ at hj
  split at hj
  ·rename_i hlt
   split at hj
   ·rename_i r hr
    subst hj
    have:=low1 j b hlt e
    unfold jO at this
    rw[hr]at this
    exact mono i b this
   ·cases hj
  ·rename_i hge
   cases hj
   rw[aN _ (by omega),show σ.length+(j-F.H.length)-σ.length+F.H.length=j by omega]
   exact e
 obtain⟨t1,t2⟩:=wN hτ
 obtain⟨n1,n2⟩:=vU hν
 have getO:∀ i y,(τ++ν)[i]?=some y→i<σ.length→(qA ren F.H i=none∧σ[i]?=some y)∨∃ j,qA ren F.H i=some j∧rE es (yJ ren F.H.length σ.length) (H'.getD j none)=some y:=by
  intro i y e hi
  rw[List.getElem?_append_left (by omega)]at e
  obtain⟨y',h1,h2⟩:=t2 i σ[i] (by simp [hi])
  rw[e]at h1;cases h1
  rw[Nat.zero_add]at h2
  rcases h2 with⟨h3,h4⟩|h2
  ·exact .inl ⟨h3,by rw[h4];simp [hi]⟩
  ·exact .inr h2
 have getN:∀ i y,(τ++ν)[i]?=some y→σ.length≤i→∃ z,H'[i-σ.length+F.H.length]?=some z∧rE es (yJ ren F.H.length σ.length) z=some y:=by
  intro i y e hi
  rw[List.getElem?_append_right (by omega),t1]at e
  obtain⟨z,h1,h2⟩:=n2 _ y e
  rw[List.getElem?_drop]at h1
  exact⟨z,by rw[Nat.add_comm];exact h1,h2⟩
 have getD_some:∀ j q,H'.getD j none=some q→H'[j]?=some (some q):=by
  intro j q e
  simp only[List.getD]at e
  cases hz:H'[j]? with
  |none=>rw[hz]at e;cases e
  |some z=>rw[hz]at e;simp only[Option.getD_some]at e;rw[e]
 
 have visO:∀ i,i<σ.length→jT (τ++ν) i→jT σ i∧∀ j,qA ren F.H i=some j→jT H' j:=by
  intro i hi ⟨q,hq,hv⟩
  rcases getO i _ hq hi with⟨h1,h2⟩|⟨j,h1,h2⟩
  ·exact⟨⟨q,h2,hv⟩,fun j hj=>by rw[h1]at hj;cases hj⟩
  ·obtain⟨i1,i2,_⟩:=inv_some i j h1
   refine⟨visF j i2 i i1,fun k hk=>?_⟩
   rw[h1]at hk;cases hk
   obtain⟨q',hq',hT⟩:=vS h2 rfl
   exact⟨q',getD_some j q' hq',by rw[hT];exact hv⟩
 have visN:∀ i,σ.length≤i→jT (τ++ν) i→jT H' (i-σ.length+F.H.length):=by
  intro i hi ⟨q,hq,hv⟩
  obtain⟨z,h1,h2⟩:=getN i _ hq hi
  obtain⟨q',hq',hT⟩:=vS h2 rfl
  subst hq'
  exact⟨q',h1,by rw[hT];exact hv⟩
 have oldblk:∀ i b,α i=some b→b.nil=false→b.blk<w.heap.size:=by
  intro i b e hb
  rcases(hW.dom i b e).2 with q|q
  ·rw[hb]at q;cases q
  ·exact q
 have oldnew:∀ i k b c,i<σ.length→F.H.length≤k→α i=some b→α1 k=some c→b.nil=false→c.nil=false→b.blk=c.blk→jT (τ++ν) i→jT H' k→False:=by
  intro i k b c hi hk ei ek hb hc hbc vi vk
  rcases x.fresh k c ek with q|⟨_,q|q|⟨j0,c0,q1,q2,q3,q4⟩⟩
  ·obtain⟨z,hz,_⟩:=renA_some k c q hc
   have:=(List.getElem?_eq_some_iff.1 hz).1
   omega
  ·rw[hc]at q;cases q
  ·have:=oldblk i b ei hb;omega
  ·obtain⟨i0,hi0,e0⟩:=renA_some j0 c0 q1 q2
   obtain⟨v1,v2⟩:=visO i hi vi
   have:i0=i:=hW.inj i0 i c0 b e0 ei q2 hb (by omega) (visF j0 q4 i0 hi0) v1
   subst this
   have hinv:qA ren F.H i0=some j0:=by
    cases hz:qA ren F.H i0 with
    |none=>exact(inv_none i0 j0 hz hi0 q4).elim
    |some j1=>
     obtain⟨z1,⟨p1,z2,_⟩,_⟩:=inv_some i0 j1 hz
     obtain⟨p2,z3,_⟩:=q4
     rw[hR.inj j1 j0 i0 p1 p2 z1 hi0 z2 z3]
   have vj:=v2 j0 hinv
   have:=rw1.inj j0 k c0 c (x.mono _ _ q1) ek q2 hc q3 vj vk
   have:j0<F.H.length:=(hW0.dom j0 c0 q1).1
   omega
 refine⟨v,α',rfl,SV.inst_R hf _ _ v hs rv,⟨?_,?_,?_,fun p hp=>mono _ _ (hW.glob p hp),?_⟩,⟨x.os,x.tape,x.output,x.size,by simp [t1],mono,?_,?_,?_⟩⟩
 ·intro id b e
  by_cases hid:id<σ.length
  ·rw[aO id hid]at e
   exact⟨by simp;omega,(hW.dom id b e).2.imp (fun z=>z) (fun z=>Nat.lt_of_lt_of_le z x.size)⟩
  ·rw[aN id (by omega)]at e
   obtain⟨h1,h2⟩:=rw1.dom _ b e
   refine⟨?_,h2⟩
   simp only[List.length_append,t1,n1,List.length_drop]
   omega
 ·intro i j b c ei ej hb hc hbc vi vj
  by_cases hi:i<σ.length<;>by_cases hj:j<σ.length
  ·rw[aO i hi]at ei;rw[aO j hj]at ej
   exact hW.inj i j b c ei ej hb hc hbc (visO i hi vi).1 (visO j hj vj).1
  ·rw[aO i hi]at ei;rw[aN j (by omega)]at ej
   exact(oldnew i _ b c hi (by omega) ei ej hb hc hbc vi (visN j (by omega) vj)).elim
  ·rw[aN i (by omega)]at ei;rw[aO j hj]at ej
   exact(oldnew j _ c b hj (by omega) ej ei hc hb hbc.symm vj (visN i (by omega) vi)).elim
  ·rw[aN i (by omega)]at ei;rw[aN j (by omega)]at ej
   have:=rw1.inj _ _ b c ei ej hb hc hbc (visN i (by omega) vi) (visN j (by omega) vj)
   omega
 ·intro id cs T e
  by_cases hid:id<σ.length
  ·rcases getO id _ e hid with⟨h1,h2⟩|⟨j,h1,h2⟩
   ·obtain⟨b,vs,g1,g2,g3⟩:=hW.blk id cs T h2
    refine⟨b,vs,mono _ _ g1,g2.of_eq fun hb=>x.hid b.blk (oldblk id b g1 hb) ?_,SV.RL_mono mono cs vs g3⟩
    intro j c ej hc hck vj
    obtain⟨i0,hi0,e0⟩:=renA_some j c ej hc
    have:i0=id:=hW.only h2 g1 e0 hb hc hck (visF j vj i0 hi0)
    subst this
    exact inv_none i0 j h1 hi0 vj
   ·obtain⟨i1,i2,i3⟩:=inv_some id j h1
    unfold rE at h2
    split at h2
    ·cases h2
    ·rename_i ds U hz
     obtain⟨c,hc,h2⟩:=bS h2
     cases h2
     obtain⟨b,vs,g1,g2,g3⟩:=rw1.blk j ds _ (getD_some j _ hz)
     have e1:=low1 j b i3 g1
     unfold jO at e1
     rw[i1]at e1
     exact⟨b,vs,mono _ _ e1,g2,SV.inst_RL hf ds cs vs hc g3⟩
  ·obtain⟨z,h1,h2⟩:=getN id _ e (by omega)
   unfold rE at h2
   split at h2
   ·cases h2
   ·rename_i ds U
    obtain⟨c,hc,h2⟩:=bS h2
    cases h2
    obtain⟨b,vs,g1,g2,g3⟩:=rw1.blk _ ds _ h1
    exact⟨b,vs,by rw[aN id (by omega)];exact g1,g2,SV.inst_RL hf ds cs vs hc g3⟩
 ·intro id cs T b e hT ei hb j c ej hc hk vj
  have hid:id<σ.length:=by
   rcases Nat.lt_or_ge id σ.length with q|q
   ·exact q
   ·rw[List.getElem?_append_right (by omega)]at e
    have:=tF hvl e (Nat.zero_le _)
    rw[hT]at this;cases this
  have e2:σ[id]?=some (some (cs,T)):=by
   rcases getO id _ e hid with⟨h1,h2⟩|⟨i,h1,h2⟩
   ·exact h2
   ·exfalso
    obtain⟨i1,i2,i3⟩:=inv_some id i h1
    obtain⟨p,hp,hpT⟩:=vS h2 rfl
    simp only at hpT
    have hz:=getD_some i p hp
    obtain⟨q,hq,hv⟩:=i2
    have:=aES hkv hz hq hv
    rw[hpT,hT]at this;cases this
  rw[aO id hid]at ei
  by_cases hj:j<σ.length
  ·rw[aO j hj]at ej
   exact hW.view id cs T b e2 hT ei hb j c ej hc hk (visO j hj vj).1
  ·rw[aN j (by omega)]at ej
   have vk:=visN j (by omega) vj
   rcases x.fresh _ c ej with q|⟨_,q|q|⟨j0,c0,q1,q2,q3,q4⟩⟩
   ·obtain⟨z,hz,_⟩:=renA_some _ c q hc
    have:=(List.getElem?_eq_some_iff.1 hz).1
    omega
   ·rw[hc]at q;cases q
   ·have:=oldblk id b ei hb;omega
   ·obtain⟨i0,hi0,e0⟩:=renA_some j0 c0 q1 q2
    exact hW.view id cs T b e2 hT ei hb i0 c0 e0 q2 (by omega) (visF j0 q4 i0 hi0)
 ·intro id b e
  by_cases hid:id<σ.length
  ·rw[aO id hid]at e;exact .inl e
  ·rw[aN id (by omega)]at e
   refine .inr ⟨by omega,?_⟩
   rcases x.fresh _ b e with q|⟨_,q|q|⟨j0,c0,q1,q2,q3,q4⟩⟩
   ·cases hb:b.nil
    ·obtain⟨z,hz,_⟩:=renA_some _ b q hb
     have:=(List.getElem?_eq_some_iff.1 hz).1
     omega
    ·exact .inl rfl
   ·exact .inl q
   ·exact .inr (.inl q)
   ·obtain⟨i0,hi0,e0⟩:=renA_some j0 c0 q1 q2
    exact .inr (.inr ⟨i0,c0,e0,q2,q3,visF j0 q4 i0 hi0⟩)
 ·intro k hk hh
  refine x.hid k hk ?_
  intro j c ej hc hck vj
  obtain⟨i0,hi0,e0⟩:=renA_some j c ej hc
  exact hh i0 c e0 hc hck (visF j vj i0 hi0)
 ·intro id b e hv'
  exact(visO id (hW.dom id b e).1 hv').1
def aP (C:E):E := .app 90 (.cons C .nil)
end Sx
end Go.Proofs.Ytdldallkeheciaa
