/- What is proved: loops: where each round ends in the state that a round begins in,the loop ends in the state that it leaves. No condition. -/
import Derived.Test.YtkpdiehbaiepaaaQg3
set_option linter.unusedSimpArgs false
set_option linter.unusedVariables false
namespace Go.Proofs.Ytkpdiehbaiepaaa
namespace Sx
open Go Go.RowKit
variable {mm:Nat}
mutual
def E.low (n:Nat):E→Bool
 | .lit _=>true
 | .var i=>decide (i<n)
 | .op _ a b=>E.low n a && E.low n b
 | .wrap _ a=>E.low n a
 | .bit _ _ a b=>E.low n a && E.low n b
 | .app _ l=>EL.low n l
def EL.low (n:Nat):EL→Bool
 | .nil=>true
 | .cons e l=>E.low n e && EL.low n l
end
def B.low (n:Nat):B→Bool
 | .lit _=>true
 | .cmp _ a b=>E.low n a && E.low n b
 | .and a b=>B.low n a && B.low n b
 | .or a b=>B.low n a && B.low n b
def eI (n:Nat) (ρ ρ':Nat→Int):Prop:=∀ i,i<n→ρ i=ρ' i
mutual
theorem E.low_den {n:Nat} {ρ ρ':Nat→Int} (G:Nat→List Int→Int) (h:eI n ρ ρ'):∀ e:E,e.low n=true→e.den G ρ=e.den G ρ'
 | .lit _,_=>by simp only[E.den]
 | .var i,g=>by simp only[E.low,decide_eq_true_eq]at g;simp only[E.den];exact h i g
 | .op _ a b,g=>by simp only[E.low,Bool.and_eq_true]at g;simp only[E.den];rw[E.low_den G h a g.1,E.low_den G h b g.2]
 | .wrap _ a,g=>by simp only[E.low]at g;simp only[E.den];rw[E.low_den G h a g]
 | .bit _ _ a b,g=>by simp only[E.low,Bool.and_eq_true]at g;simp only[E.den];rw[E.low_den G h a g.1,E.low_den G h b g.2]
 | .app _ l,g=>by simp only[E.low]at g;simp only[E.den];rw[EL.low_den G h l g]
theorem EL.low_den {n:Nat} {ρ ρ':Nat→Int} (G:Nat→List Int→Int) (h:eI n ρ ρ'):∀ l:EL,l.low n=true→l.den G ρ=l.den G ρ'
 | .nil,_=>by simp only[EL.den]
 | .cons e l,g=>by simp only[EL.low,Bool.and_eq_true]at g;simp only[EL.den];rw[E.low_den G h e g.1,EL.low_den G h l g.2]
end
theorem B.low_den {n:Nat} {ρ ρ':Nat→Int} (G:Nat→List Int→Int) (h:eI n ρ ρ'):∀ b:B,b.low n=true→b.den G ρ=b.den G ρ'
 | .lit _,_=>by simp only[B.den]
 | .cmp _ a b,g=>by simp only[B.low,Bool.and_eq_true]at g;simp only[B.den];rw[E.low_den G h a g.1,E.low_den G h b g.2]
 | .and a b,g=>by simp only[B.low,Bool.and_eq_true]at g;simp only[B.den];rw[B.low_den G h a g.1,B.low_den G h b g.2]
 | .or a b,g=>by simp only[B.low,Bool.and_eq_true]at g;simp only[B.den];rw[B.low_den G h a g.1,B.low_den G h b g.2]
abbrev Ren:=List (Option Nat)
def rn (ren:Ren) (j i:Nat):Bool:=match ren[j]? with|some (some k)=>k ==i|_=>false
def bDJ:E→E→Bool
 | .lit a,.lit b=>decide (a≠b)
 |_,_=>false
def gX (n:Nat) (e f:E):List SV:=if E.eqb e f && e.low n then [] else [.int .i64 e,.int .i64 f]
def lA (n:Nat):Option E→Option E→Option (List SV)
 |_,none=>some []
 |some e,some f=>some (gX n e f)
 |none,some _=>none
mutual
def SV.diff (n:Nat) (ren:Ren):SV→SV→Option (List SV)
 | .any,.any=>some []
 | .int k e,.int q f=>if decide (k=q) && !bDJ e f then some (gX n e f) else none
 | .bool b,.bool c=>if B.eqb b c && b.low n then some [] else some [.bool b,.bool c]
 | .ptr i o,.ptr j p=>if rn ren j i && o ==p then some [] else none
 | .slice i o l c,.slice j p m d=>if rn ren j i && o ==p && l ==m && c ==d then some [] else none
 | .agg l,.agg r=>SV.diffL n ren l r
 | .tuple l,.tuple r=>SV.diffL n ren l r
 | .iface t l,.iface u r=>if decide (t=u) then SV.diffL n ren l r else none
 | .func fn f c,.func gn g d=>if decide (fn=gn) then match SV.diffL n ren f g with
   |some x=>match SV.diffL n ren c d with
    |some y=>some (x++y)
    |none=>none
   |none=>none
  else none
 | .con v,.con u=>if Value.same v u then some [] else none
 | .map i,.map j=>if rn ren j i then some [] else none
 | .yld i,.yld j=>if rn ren j i then some [] else none
 | .vec s a m x,.vec t b q y=>if decide (s=t) && (x ==y) then some (gX n a b++gX n m q) else none
 | .own i m c,.own j q d=>if rn ren j i then match lA n c d with
   |some y=>some (gX n m q++y)
   |none=>none
  else none
 | .con (.slice none 0 0),.own j q none=>match ren[j]? with
  |some none=>some (gX n (.lit 0) q)
  |_=>none
 | .con (.slice none 0 0),.vsl j _ p q none=>match ren[j]? with
  |some none=>some (gX n (.lit 0) p++gX n (.lit 0) q)
  |_=>none
 | .vsl i w o m c,.vsl j v p q d=>if rn ren j i && w ==v then match lA n c d with
   |some y=>some (gX n o p++gX n m q++y)
   |none=>none
  else none
 | .own i m _,.vsl j _ p q none=>if rn ren j i then some (gX n (.lit 0) p++gX n m q) else none
 | .vptr i w e o,.vptr j v f p=>if rn ren j i && w ==v && o ==p then some (gX n e f) else none
 |_,.any=>some []
 |_,_=>none
def SV.diffL (n:Nat) (ren:Ren):List SV→List SV→Option (List SV)
 |[],[]=>some []
 |a::l,b::r=>match SV.diff n ren a b with
  |some x=>match SV.diffL n ren l r with
   |some y=>some (x++y)
   |none=>none
  |none=>none
 |_,_=>none
end
def iK (ren:Ren) (α:bA):bA:=fun j=>match ren[j]? with
 |some (some i)=>α i
 |some none=>some ⟨0,0,true,0⟩
 |none=>none
theorem kF {ren:Ren} {α:bA} {j i:Nat} (h:rn ren j i=true):iK ren α j=α i:=by
 unfold rn at h
 unfold iK
 split at h
 ·rename_i k hk
  simp only[beq_iff_eq]at h
  rw[hk,h]
 ·cases h
section
variable (G:Nat→List Int→Int)
def aJ (ρ ρ':Nat→Int):List SV→Prop
 |[]=>True
 | .int _ a :: .int _ b::l=>a.den G ρ=b.den G ρ'∧aJ ρ ρ' l
 | .bool a :: .bool b::l=>a.den G ρ=b.den G ρ'∧aJ ρ ρ' l
 |_=>False
end
section
variable {G:Nat→List Int→Int} {ρ ρ':Nat→Int} {n:Nat} {ren:Ren}
inductive Pairs:List SV→Prop where
 |nil:Pairs []
 |cons (k q:IntKind) (a b:E) {l:List SV} (h:Pairs l):Pairs (.int k a :: .int q b::l)
 |bool (a b:B) {l:List SV} (h:Pairs l):Pairs (.bool a :: .bool b::l)
theorem Pairs.append {l r:List SV} (h:Pairs l) (g:Pairs r):Pairs (l++r):=by
 induction h with
 |nil=>exact g
 |cons k q a b _ ih=>exact .cons k q a b ih
 |bool a b _ ih=>exact .bool a b ih
theorem aJ.split {l r:List SV} (h:Pairs l) (g:aJ G ρ ρ' (l++r)):aJ G ρ ρ' l∧aJ G ρ ρ' r:=by
 induction h with
 |nil=>exact⟨trivial,g⟩
 |cons k q a b _ ih=>
  simp only[List.cons_append,aJ]at g
  exact⟨⟨g.1,(ih g.2).1⟩,(ih g.2).2⟩
 |bool a b _ ih=>
  simp only[List.cons_append,aJ]at g
  exact⟨⟨g.1,(ih g.2).1⟩,(ih g.2).2⟩
theorem bR (e f:E):Pairs (gX n e f):=by
 unfold gX;split
 ·exact .nil
 ·exact .cons _ _ _ _ .nil
theorem eH (hl:eI n ρ ρ') {e f:E} (h:aJ G ρ ρ' (gX n e f)):e.den G ρ=f.den G ρ':=by
 unfold gX at h
 split at h
 ·rename_i he
  simp only[Bool.and_eq_true]at he
  rw[←E.eqb_eq _ _ he.1,E.low_den G hl e he.2]
 ·exact h.1
theorem vN:∀ {c d:Option E} {L:List SV},lA n c d=some L→Pairs L
 |_,none,L,h=>by simp only[lA]at h;cases h;exact .nil
 |some e,some f,L,h=>by simp only[lA]at h;cases h;exact bR e f
 |none,some _,L,h=>by simp [lA]at h
theorem aGV (hl:eI n ρ ρ'):∀ {c d:Option E} {L:List SV},lA n c d=some L→aJ G ρ ρ' L→∀ {x:Int},(∀ e,c=some e→x=e.den G ρ)→∀ f,d=some f→x=f.den G ρ'
 |_,none,L,h,_,x,_,f,hf=>by cases hf
 |some e,some f,L,h,ha,x,hx,f',hf=>by
  simp only[lA]at h;cases h;cases hf
  rw[hx e rfl,eH hl ha]
 |none,some _,L,h,_,x,_,f,hf=>by simp [lA]at h
theorem aJO (hl:eI n ρ ρ'):∀ {c d:Option E} {L:List SV},lA n c d=some L→aJ G ρ ρ' L→∀ f,d=some f→∃ e,c=some e∧e.den G ρ=f.den G ρ'
 |_,none,L,h,_,f,hf=>by cases hf
 |some e,some f,L,h,ha,f',hf=>by
  simp only[lA]at h;cases h;cases hf
  exact⟨e,rfl,eH hl ha⟩
 |none,some _,L,h,_,_,_=>by simp [lA]at h
mutual
theorem SV.diff_pairs:∀ (s t:SV) (L:List SV),SV.diff n ren s t=some L→Pairs L
 |s,t,L,h=>by
  unfold SV.diff at h
  split at h
  ·cases h;exact .nil
  ·split at h
   ·cases h;exact bR _ _
   ·cases h
  ·split at h<;>cases h
   ·exact .nil
   ·exact .bool _ _ .nil
  ·split at h<;>cases h;exact .nil
  ·split at h<;>cases h;exact .nil
  ·rename_i l r;exact SV.diffL_pairs l r L h
  ·rename_i l r;exact SV.diffL_pairs l r L h
  ·rename_i t l u r
   split at h
   ·exact SV.diffL_pairs l r L h
   ·cases h
  ·rename_i fn f c gn g d
   split at h
   ·split at h
    ·rename_i x hx
     split at h
     ·rename_i y hy
      cases h
      exact(SV.diffL_pairs f g x hx).append (SV.diffL_pairs c d y hy)
     ·cases h
    ·cases h
   ·cases h
  ·split at h<;>cases h;exact .nil
  ·split at h<;>cases h;exact .nil
  ·split at h<;>cases h;exact .nil
  ·split at h<;>cases h;exact(bR _ _).append (bR _ _)
  ·split at h
   ·split at h
    ·rename_i y hy;cases h;exact(bR _ _).append (vN hy)
    ·cases h
   ·cases h
  ·split at h<;>cases h;exact bR _ _
  ·split at h<;>cases h;exact(bR _ _).append (bR _ _)
  ·split at h
   ·split at h
    ·rename_i y hy;cases h;exact((bR _ _).append (bR _ _)).append (vN hy)
    ·cases h
   ·cases h
  ·split at h<;>cases h;exact(bR _ _).append (bR _ _)
  ·split at h<;>cases h;exact bR _ _
  ·cases h;exact .nil
  ·cases h
theorem SV.diffL_pairs:∀ (s t:List SV) (L:List SV),SV.diffL n ren s t=some L→Pairs L
 |[],t,L,h=>by
  cases t with
  |nil=>simp only[SV.diffL]at h;cases h;exact .nil
  |cons=>simp [SV.diffL]at h
 |a::l,t,L,h=>by
  cases t with
  |nil=>simp [SV.diffL]at h
  |cons b r=>
   simp only[SV.diffL]at h
   split at h
   ·rename_i x hx
    split at h
    ·rename_i y hy
     cases h
     exact(SV.diff_pairs a b x hx).append (SV.diffL_pairs l r y hy)
    ·cases h
   ·cases h
end
mutual
theorem SV.diff_R (hl:eI n ρ ρ') {α:bA}:∀ (s t:SV) (L:List SV),SV.diff n ren s t=some L→aJ G ρ ρ' L→∀ v,SV.R G ρ α s v→SV.R G ρ' (iK ren α) t v
 |s,t,L,h,ha,v,hr=>by
  unfold SV.diff at h
  split at h
  ·simp [SV.R]
  ·rename_i k e q f
   split at h
   ·rename_i hk
    simp only[Bool.and_eq_true,decide_eq_true_eq]at hk
    replace hk:=hk.1
    subst hk
    cases h
    simp only[SV.R]at hr ⊢
    rw[hr,eH hl ha]
   ·cases h
  ·split at h
   ·rename_i he
    simp only[Bool.and_eq_true]at he
    simp only[SV.R]at hr ⊢
    rw[hr,←B.eqb_eq _ _ he.1,B.low_den G hl _ he.2]
   ·cases h
    simp only[SV.R]at hr ⊢
    rw[hr,ha.1]
  ·split at h
   ·rename_i he
    simp only[Bool.and_eq_true,beq_iff_eq]at he
    simp only[SV.R]at hr ⊢
    rw[kF he.1,←he.2]
    exact hr
   ·cases h
  ·split at h
   ·rename_i he
    simp only[Bool.and_eq_true,beq_iff_eq]at he
    simp only[SV.R]at hr ⊢
    rw[kF he.1.1.1,←he.1.1.2,←he.1.2,←he.2]
    exact hr
   ·cases h
  ·rename_i l r
   simp only[SV.R]at hr ⊢
   obtain⟨cs,rfl,h2⟩:=hr
   exact⟨cs,rfl,SV.diffL_R hl l r L h ha cs h2⟩
  ·rename_i l r
   simp only[SV.R]at hr ⊢
   obtain⟨cs,rfl,h2⟩:=hr
   exact⟨cs,rfl,SV.diffL_R hl l r L h ha cs h2⟩
  ·rename_i t l u r
   split at h
   ·rename_i htu
    simp only[decide_eq_true_eq]at htu
    subst htu
    simp only[SV.R]at hr ⊢
    obtain⟨cs,rfl,h2⟩:=hr
    exact⟨cs,rfl,SV.diffL_R hl l r L h ha cs h2⟩
   ·cases h
  ·rename_i fn f c gn g d
   split at h
   ·rename_i hfn
    simp only[decide_eq_true_eq]at hfn
    subst hfn
    split at h
    ·rename_i x hx
     split at h
     ·rename_i y hy
      cases h
      obtain⟨a1,a2⟩:=aJ.split (SV.diffL_pairs f g x hx) ha
      simp only[SV.R]at hr ⊢
      obtain⟨fs,cs,rfl,h2,h3⟩:=hr
      exact⟨fs,cs,rfl,SV.diffL_R hl f g x hx a1 fs h2,SV.diffL_R hl c d y hy a2 cs h3⟩
     ·cases h
    ·cases h
   ·cases h
  ·split at h
   ·rename_i he
    rw[←Value.same_eq he]
    simpa [SV.R]using hr
   ·cases h
  ·split at h
   ·rename_i he
    simp only[SV.R]at hr ⊢
    rw[kF he]
    exact hr
   ·cases h
  ·split at h
   ·rename_i he
    simp only[SV.R]at hr ⊢
    rw[kF he]
    exact hr
   ·cases h
  ·split at h
   ·rename_i he
    simp only[Bool.and_eq_true,decide_eq_true_eq,beq_iff_eq]at he
    obtain⟨rfl,rfl⟩:=he
    cases h
    obtain⟨a1,a2⟩:=aJ.split (bR _ _) ha
    simp only[SV.R]at hr ⊢
    rw[←eH hl a1,←eH hl a2]
    exact hr
   ·cases h
  ·split at h
   ·rename_i he
    split at h
    ·rename_i y hy
     cases h
     obtain⟨a1,a2⟩:=aJ.split (bR _ _) ha
     simp only[SV.R]at hr ⊢
     rw[kF he,←eH hl a1]
     obtain⟨b,h1,h2,h3,h4,h5,h6⟩:=hr
     exact⟨b,h1,h2,h3,h4,h5,fun f hf hle=>by
      obtain⟨e,he,q⟩:=aJO hl hy a2 f hf
      rw[←q]at hle ⊢
      exact h6 e he hle⟩
    ·cases h
   ·cases h
  ·rename_i j q
   split at h
   ·rename_i hj
    cases h
    have he:=eH hl ha
    simp only[SV.R]at hr ⊢
    refine⟨⟨0,0,true,0⟩,by unfold iK;rw[hj],?_⟩
    rw[←he]
    simp only[E.den]
    exact⟨Int.le_refl _,hr,by simp,by simp,fun e he _=>by cases he⟩
   ·cases h
  ·rename_i j w p q
   split at h
   ·rename_i hj
    cases h
    obtain⟨a1,a2⟩:=aJ.split (bR _ _) ha
    have e1:=eH hl a1
    have e2:=eH hl a2
    simp only[E.den]at e1 e2
    simp only[SV.R]at hr ⊢
    refine⟨⟨0,0,true,0⟩,by unfold iK;rw[hj],by omega,by omega,.inl ⟨by omega,none,0,hr,.inl (by simp)⟩⟩
   ·cases h
  ·split at h
   ·rename_i he
    simp only[Bool.and_eq_true,beq_iff_eq]at he
    split at h
    ·rename_i y hy
     cases h
     obtain⟨a1,a2⟩:=aJ.split ((bR _ _).append (bR _ _)) ha
     obtain⟨a0,a1⟩:=aJ.split (bR _ _) a1
     simp only[SV.R]at hr ⊢
     rw[kF he.1,←eH hl a0,←eH hl a1,←he.2]
     obtain⟨b,h1,h2,h3,h4⟩:=hr
     refine⟨b,h1,h2,h3,?_⟩
     rcases h4 with⟨q1,a,c,q2,q3⟩|⟨q1,c,q2,q3,q4⟩
     ·refine .inl ⟨q1,a,c,q2,?_⟩
      rcases q3 with q3|⟨q3,q4⟩
      ·subst q3
       unfold lA at hy
       split at hy
       ·exact .inl rfl
       ·exact absurd ‹none=some _› (by simp)
       ·cases hy
      ·subst q3
       exact .inr ⟨rfl,fun f hf=>by
        have:=aGV hl hy a2 (x:=0) (fun e he=>(q4 e he).symm) f hf
        exact this.symm⟩
     ·exact .inr ⟨q1,c,q2,q3,aGV hl hy a2 q4⟩
    ·cases h
   ·cases h
  ·split at h
   ·rename_i he
    cases h
    obtain⟨a1,a2⟩:=aJ.split (bR _ _) ha
    simp only[SV.R]at hr ⊢
    rw[kF he,←eH hl a1,←eH hl a2]
    obtain⟨b,h1,h2,h3,h4,h5,h6⟩:=hr
    refine⟨b,h1,h2,Int.le_refl _,?_⟩
    cases q:b.nil
    ·rw[q]at h3
     exact .inr ⟨rfl,b.cap,by simpa [E.den]using h3,by omega,fun e he=>by cases he⟩
    ·rw[q]at h3
     exact .inl ⟨(h4 q).1,none,0,h3,.inl (by simp)⟩
   ·cases h
  ·split at h
   ·rename_i he
    simp only[Bool.and_eq_true,beq_iff_eq]at he
    cases h
    simp only[SV.R]at hr ⊢
    rw[kF he.1.1,←eH hl ha,←he.1.2,←he.2]
    exact hr
   ·cases h
  ·simp [SV.R]
  ·cases h
theorem SV.diffL_R (hl:eI n ρ ρ') {α:bA}:∀ (s t:List SV) (L:List SV),SV.diffL n ren s t=some L→aJ G ρ ρ' L→∀ v,SV.RL G ρ α s v→SV.RL G ρ' (iK ren α) t v
 |[],t,L,h,ha,v,hr=>by
  cases t with
  |nil=>simpa [SV.RL]using hr
  |cons=>simp [SV.diffL]at h
 |a::l,t,L,h,ha,v,hr=>by
  cases t with
  |nil=>simp [SV.diffL]at h
  |cons b r=>
   simp only[SV.diffL]at h
   split at h
   ·rename_i x hx
    split at h
    ·rename_i y hy
     cases h
     obtain⟨a1,a2⟩:=aJ.split (SV.diff_pairs a b x hx) ha
     simp only[SV.RL]at hr ⊢
     obtain⟨u,us,rfl,h2,h3⟩:=hr
     exact⟨u,us,rfl,SV.diff_R hl a b x hx a1 u h2,SV.diffL_R hl l r y hy a2 us h3⟩
    ·cases h
   ·cases h
end
end
def iC.diff (n:Nat) (ren:Ren) (σ:aR) (r:Option Nat):iC→Option (List SV)
 |none=>some []
 |some (ds,U)=>match r with
  |some i=>match σ[i]? with
   |some (some (cs,T))=>if T ==U ||(decide (bF≤T) && vw U) then SV.diffL n ren cs ds else none
   |_=>none
  |none=>match ds with
   |[.vec sh C q _]=>if decide (bF≤U) && decide (0<sh.length) then some (gX n (.lit 0) C++gX n (.lit 0) q) else none
   |[.tuple [.any,.int .i64 (.lit wd),.bool (.lit _)]]=>if decide (bF≤U) && decide (0<wd) then some [] else none
   |_=>none
def aR.diff (n:Nat) (ren:Ren) (σ:aR):Ren→aR→Option (List SV)
 |[],[]=>some []
 |r::rs,t::τ=>match iC.diff n ren σ r t with
  |some x=>match aR.diff n ren σ rs τ with
   |some y=>some (x++y)
   |none=>none
  |none=>none
 |_,_=>none
section
variable {G:Nat→List Int→Int} {ρ ρ':Nat→Int} {n:Nat} {gl:List (Nat × Nat)} {ren:Ren}
theorem iC.diff_pairs {σ:aR} {r:Option Nat} {t:iC} {L:List SV} (h:iC.diff n ren σ r t=some L):Pairs L:=by
 unfold iC.diff at h
 split at h
 ·cases h;exact .nil
 ·split at h
  ·split at h
   ·split at h
    ·exact SV.diffL_pairs _ _ _ h
    ·cases h
   ·cases h
  ·split at h
   ·split at h
    ·cases h;exact(bR _ _).append (bR _ _)
    ·cases h
   ·split at h
    ·cases h;exact .nil
    ·cases h
   ·cases h
theorem aR.diff_pairs {σ:aR}:∀ (rs:Ren) (τ:aR) (L:List SV),aR.diff n ren σ rs τ=some L→Pairs L
 |[],[],L,h=>by simp only[aR.diff]at h;cases h;exact .nil
 |r::rs,t::τ,L,h=>by
  simp only[aR.diff]at h
  split at h
  ·rename_i x hx
   split at h
   ·rename_i y hy
    cases h
    exact(iC.diff_pairs hx).append (aR.diff_pairs rs τ y hy)
   ·cases h
  ·cases h
 |[],_::_,L,h=>by simp [aR.diff]at h
 |_::_,[],L,h=>by simp [aR.diff]at h
theorem aR.diff_length {σ:aR}:∀ (rs:Ren) (τ:aR) (L:List SV),aR.diff n ren σ rs τ=some L→rs.length=τ.length
 |[],[],L,h=>rfl
 |r::rs,t::τ,L,h=>by
  simp only[aR.diff]at h
  split at h
  ·split at h
   ·rename_i y hy
    simp [aR.diff_length rs τ y hy]
   ·cases h
  ·cases h
 |[],_::_,L,h=>by simp [aR.diff]at h
 |_::_,[],L,h=>by simp [aR.diff]at h
theorem aR.diff_get {σ:aR}:∀ (rs:Ren) (τ:aR) (L:List SV),aR.diff n ren σ rs τ=some L→aJ G ρ ρ' L→∀ (j:Nat) (t:iC),τ[j]?=some t→∃ r x,rs[j]?=some r∧iC.diff n ren σ r t=some x∧aJ G ρ ρ' x
 |[],[],L,h,ha,j,t,e=>by simp at e
 |r::rs,t::τ,L,h,ha,j,u,e=>by
  simp only[aR.diff]at h
  split at h
  ·rename_i x hx
   split at h
   ·rename_i y hy
    cases h
    obtain⟨a1,a2⟩:=aJ.split (iC.diff_pairs hx) ha
    cases j with
    |zero=>
     simp only[List.getElem?_cons_zero,Option.some.injEq]at e
     subst e
     exact⟨r,x,rfl,hx,a1⟩
    |succ k=>simpa using aR.diff_get rs τ y hy a2 k u (by simpa using e)
   ·cases h
  ·cases h
 |[],_::_,L,h,ha,_,_,_=>by simp [aR.diff]at h
 |_::_,[],L,h,ha,_,_,_=>by simp [aR.diff]at h
def jS:Ren→aR→List Nat
 |some i::rs,some _::τ=>i::jS rs τ
 |_::rs,_::τ=>jS rs τ
 |_,_=>[]
def aCa:List Nat→Bool
 |[]=>true
 |i::l => !l.contains i && aCa l
theorem tK:∀ {l:List Nat},aCa l=true→l.Nodup
 |[],_=>List.nodup_nil
 |i::l,h=>by
  simp only[aCa,Bool.and_eq_true,Bool.not_eq_true',List.contains_eq_mem,decide_eq_false_iff_not]at h
  exact List.nodup_cons.2 ⟨h.1,tK h.2⟩
theorem aIO:∀ {rs:Ren} {τ:aR},(jS rs τ).Nodup→∀ (j k i:Nat) (p q:List SV × TypeId),rs[j]?=some (some i)→rs[k]?=some (some i)→τ[j]?=some (some p)→τ[k]?=some (some q)→j=k:=by
 intro rs τ
 have mem:∀ {rs:Ren} {τ:aR} (j i:Nat) (p:List SV × TypeId),rs[j]?=some (some i)→τ[j]?=some (some p)→i ∈ jS rs τ:=by
  intro rs
  induction rs with
  |nil=>intro τ j i p h;simp at h
  |cons r rs ih=>
   intro τ j i p h g
   cases τ with
   |nil=>simp at g
   |cons t τ=>
    cases j with
    |zero=>
     simp only[List.getElem?_cons_zero,Option.some.injEq]at h g
     subst h;subst g
     simp [jS]
    |succ j=>
     have:=ih j i p (by simpa using h) (by simpa using g)
     cases r<;>cases t<;>simp [jS,this]
 induction rs generalizing τ with
 |nil=>intro _ j k i p q h;simp at h
 |cons r rs ih=>
  intro hn j k i p q hj hk gj gk
  cases τ with
  |nil=>simp at gj
  |cons t τ=>
   have tailN:(jS rs τ).Nodup:=by
    cases r<;>cases t<;>simp only[jS]at hn<;>first|exact hn|exact(List.nodup_cons.1 hn).2
   cases j with
   |zero=>
    cases k with
    |zero=>rfl
    |succ k=>
     simp only[List.getElem?_cons_zero,Option.some.injEq]at hj gj
     subst hj;subst gj
     simp only[jS]at hn
     exact absurd (mem k i q (by simpa using hk) (by simpa using gk)) (List.nodup_cons.1 hn).1
   |succ j=>
    cases k with
    |zero=>
     simp only[List.getElem?_cons_zero,Option.some.injEq]at hk gk
     subst hk;subst gk
     simp only[jS]at hn
     exact absurd (mem j i p (by simpa using hj) (by simpa using gj)) (List.nodup_cons.1 hn).1
    |succ k=>rw[ih tailN j k i p q (by simpa using hj) (by simpa using hk) (by simpa using gj) (by simpa using gk)]
def aR7 (base:Nat) (gl:List (Nat × Nat)) (ren:Ren) (τ:aR):Bool:=
 aCa (jS ren τ) && (List.range base).all (fun j=>rn ren j j) && gl.all (fun p=>decide (p.2<base)) &&
  (List.range τ.length).all (fun j=>decide (j<base) ||(match τ[j]? with|some (some _)=>true|_=>match ren[j]? with|some none=>true|_=>false))
structure RenOk (base:Nat) (gl:List (Nat × Nat)) (ren:Ren) (τ:aR):Prop where
 inj:∀ (j k i:Nat) (p q:List SV × TypeId),ren[j]?=some (some i)→ren[k]?=some (some i)→τ[j]?=some (some p)→τ[k]?=some (some q)→j=k
 low:∀ j,j<base→ren[j]?=some (some j)
 gl:∀ p,p ∈ gl→p.2<base
 high:∀ j i,ren[j]?=some (some i)→j<base∨τ.length≤j∨∃ q,τ[j]?=some (some q)
theorem aAK {base:Nat} {τ:aR} (h:aR7 base gl ren τ=true):RenOk base gl ren τ:=by
 unfold aR7 at h
 simp only[Bool.and_eq_true]at h
 obtain⟨⟨⟨h1,h2⟩,h3⟩,h4⟩:=h
 refine⟨aIO (tK h1),?_,fun p hp=>by simpa using List.all_eq_true.1 h3 p hp,?_⟩
 ·intro j hj
  have:=List.all_eq_true.1 h2 j (by simpa using hj)
  unfold rn at this
  split at this
  ·rename_i k hk
   simp only[beq_iff_eq]at this
   rw[hk,this]
  ·cases this
 ·intro j i hj
  rcases Nat.lt_or_ge j τ.length with q|q
  ·have:=List.all_eq_true.1 h4 j (by simpa using q)
   simp only[Bool.or_eq_true,decide_eq_true_eq]at this
   rcases this with z|z
   ·exact .inl z
   ·split at z
    ·rename_i p hp;exact .inr (.inr ⟨p,hp⟩)
    ·split at z
     ·rename_i hn;rw[hj]at hn;cases hn
     ·cases z
  ·exact .inr (.inl q)
theorem aR.diff_vis {σ τ:aR} {L:List SV} (h:aR.diff n ren σ ren τ=some L) (ha:aJ G ρ ρ' L) {j i:Nat} (hv:iZ τ j) (hi:ren[j]?=some (some i)):iZ σ i:=by
 obtain⟨q,e,hq⟩:=hv
 obtain⟨r,x,h1,h2,_⟩:=aR.diff_get (G:=G) _ _ _ h ha j _ e
 rw[hi]at h1;cases h1
 unfold iC.diff at h2
 obtain⟨ds,U⟩:=q
 simp only at h2 hq
 split at h2
 ·rename_i cs T hc
  split at h2
  ·rename_i hT
   refine⟨_,hc,?_⟩
   simp only[Bool.or_eq_true,Bool.and_eq_true,beq_iff_eq,decide_eq_true_eq]at hT
   rcases hT with rfl|⟨hT,hU⟩
   ·exact hq
   ·rw[hU]at hq;cases hq
  ·cases h2
 ·cases h2
theorem aR.diff_rel (hl:eI n ρ ρ') {base:Nat} {σ τ:aR} {L:List SV} {α:bA} {w:World} (hR:RenOk base gl ren τ) (h:aR.diff n ren σ ren τ=some L) (ha:aJ G ρ ρ' L) (hW:RelW G ρ gl α σ w):RelW G ρ' gl (iK ren α) τ w:=by
 have hlen:=aR.diff_length _ _ _ h
 have vis:∀ j,iZ τ j→∀ i,ren[j]?=some (some i)→iZ σ i:=fun j hv i hi=>aR.diff_vis h ha hv hi
 have notnil:∀ j b,iK ren α j=some b→b.nil=false→∃ i,ren[j]?=some (some i)∧α i=some b:=by
  intro j b e hb
  unfold iK at e
  split at e
  ·rename_i i hi;exact⟨i,hi,e⟩
  ·cases e;cases hb
  ·cases e
 refine⟨?_,?_,?_,?_,?_⟩
 ·intro j b e
  unfold iK at e
  split at e
  ·rename_i i hi
   exact⟨by rw[←hlen];exact(List.getElem?_eq_some_iff.1 hi).1,(hW.dom i b e).2⟩
  ·rename_i hi
   cases e
   exact⟨by rw[←hlen];exact(List.getElem?_eq_some_iff.1 hi).1,.inl rfl⟩
  ·cases e
 ·intro j k b c ej ek hb hc hbc vj vk
  obtain⟨i,hi,ei⟩:=notnil j b ej hb
  obtain⟨m,hm,em⟩:=notnil k c ek hc
  have:=hW.inj i m b c ei em hb hc hbc (vis j vj i hi) (vis k vk m hm)
  subst this
  obtain⟨p,vj,_⟩:=vj
  obtain⟨q,vk,_⟩:=vk
  exact hR.inj j k i p q hi hm vj vk
 ·intro j ds U e
  obtain⟨r,x,h1,h2,h3⟩:=aR.diff_get (G:=G) _ _ _ h ha j _ e
  unfold iC.diff at h2
  simp only at h2
  split at h2
  ·rename_i i
   split at h2
   ·rename_i cs T hs
    split at h2
    ·rename_i hT
     obtain⟨b,vs,g1,g2,g3⟩:=hW.blk i cs T hs
     refine⟨b,vs,by unfold iK;rw[h1];exact g1,?_,SV.diffL_R hl cs ds x h2 h3 vs g3⟩
     simp only[Bool.or_eq_true,Bool.and_eq_true,beq_iff_eq,decide_eq_true_eq]at hT
     rcases hT with rfl|⟨hT,hU⟩
     ·exact g2
     ·obtain⟨q1,q2⟩:=(dV hT).1 g2
      exact(oN hU).2 (aBF.view q1 q2)
    ·cases h2
   ·cases h2
  ·split at h2
   ·rename_i sh C q ex
    split at h2
    ·rename_i hg
     simp only[Bool.and_eq_true,decide_eq_true_eq]at hg
     cases h2
     obtain⟨a1,a2⟩:=aJ.split (bR _ _) h3
     have e1:=eH hl a1
     have e2:=eH hl a2
     simp only[E.den]at e1 e2
     refine⟨⟨0,0,true,0⟩,[.tuple #[.agg (aU sh []).toArray,.int .i64 sh.length,.bool ex]],by unfold iK;rw[h1],?_,?_⟩
     ·rw[dV hg.1]
      exact⟨rfl,_,sh.length,ex,rfl,hg.2,.inl ⟨rfl,rfl,rfl⟩⟩
     ·refine bG ?_ bN
      simp only[SV.R]
      rw[←e1,←e2,Lc.dec_zero]
      exact⟨rfl,rfl⟩
    ·cases h2
   ·rename_i wd ex
    split at h2
    ·rename_i hg
     simp only[Bool.and_eq_true,decide_eq_true_eq]at hg
     refine⟨⟨0,0,true,0⟩,[.tuple #[.agg ([]:List Value).toArray,.int .i64 wd.toNat,.bool ex]],by unfold iK;rw[h1],?_,?_⟩
     ·rw[dV hg.1]
      exact⟨rfl,_,wd.toNat,ex,rfl,by omega,.inl ⟨rfl,rfl,rfl⟩⟩
     ·refine bG ?_ bN
      simp only[SV.R]
      refine⟨[.agg ([]:List Value).toArray,.int .i64 wd.toNat,.bool ex],rfl,bG (by simp only[SV.R]) (bG ?_ (bG ?_ bN))⟩
      ·simp only[SV.R,E.den];rw[Int.toNat_of_nonneg (by omega)]
      ·simp only[SV.R,B.den]
    ·cases h2
   ·cases h2
 ·intro p hp
  unfold iK
  rw[hR.low p.2 (hR.gl p hp)]
  exact hW.glob p hp
 ·intro j ds U b e hU ej hb k c ek hc hcb vk
  obtain⟨i,hi,ei⟩:=notnil j b ej hb
  obtain⟨m,hm,em⟩:=notnil k c ek hc
  obtain⟨r,x,h1,h2,h3⟩:=aR.diff_get (G:=G) _ _ _ h ha j _ e
  rw[hi]at h1;cases h1
  unfold iC.diff at h2
  simp only at h2
  split at h2
  ·rename_i cs T hs
   have:m=i:=hW.only hs ei em hb hc hcb (vis k vk m hm)
   subst this
   obtain⟨q,vk,hv⟩:=vk
   have:=hR.inj j k m _ _ hi hm e vk
   subst this
   rw[e]at vk;cases vk
   rw[hU]at hv;cases hv
  ·cases h2
def lC (base:Nat) (τ:aR):Bool:=(τ.drop base).all fun b=>match b with|some (_,T) => !vw T|none=>true
theorem pY {base:Nat} {τ:aR} (h:lC base τ=true) {j:Nat} {q:List SV × TypeId} (hq:τ[j]?=some (some q)) (hj:base≤j):vw q.2=false:=by
 have:=List.all_eq_true.1 h (some q) (List.mem_iff_getElem?.2 ⟨j-base,by rw[List.getElem?_drop,show base+(j-base)=j by omega];exact hq⟩)
 simpa using this
theorem aR.diff_ext {base m:Nat} {σ0 σ τ:aR} {L:List SV} {α0 α:bA} {w0 w:World} (hR:RenOk base gl ren τ) (h:aR.diff n ren σ ren τ=some L) (ha:aJ G ρ ρ' L) (hd:∀ id b,α0 id=some b→id<σ0.length) (hb:σ0.length≤base) (hm:m≤base) (hvl:lC base τ=true) (x:Ext m σ0 σ α0 α w0 w):
  Ext m σ0 τ α0 (iK ren α) w0 w:=by
 have hlen:=aR.diff_length _ _ _ h
 have hbase:base≤τ.length:=by
  rcases Nat.eq_zero_or_pos base with q|q
  ·omega
  ·have:=(List.getElem?_eq_some_iff.1 (hR.low (base-1) (by omega))).1
   omega
 have vis:∀ j,iZ τ j→∀ i,ren[j]?=some (some i)→iZ σ i:=fun j hv i hi=>aR.diff_vis h ha hv hi
 have lowA:∀ id,id<base→iK ren α id=α id:=fun id hid=>by unfold iK;rw[hR.low id hid]
 refine⟨x.os,x.tape,x.output,x.size,by omega,fun id b e=>by rw[lowA id (by have:=hd id b e;omega)];exact x.mono id b e,?_,x.hid,?_⟩
 ·intro j b e
  by_cases hj:j<base
  ·rw[lowA j hj]at e;exact x.fresh j b e
  ·refine .inr ⟨by omega,?_⟩
   unfold iK at e
   split at e
   ·rename_i i hi
    have hvis:iZ τ j:=by
     rcases hR.high j i hi with q|q|q
     ·omega
     ·have:=(List.getElem?_eq_some_iff.1 hi).1;omega
     ·obtain⟨q,hq⟩:=q
      exact⟨q,hq,pY hvl hq (by omega)⟩
    have hs:=vis j hvis i hi
    rcases x.fresh i b e with q|⟨_,q⟩
    ·cases hb:b.nil
     ·exact .inr (.inr ⟨i,b,q,hb,rfl,x.mask i b q hs⟩)
     ·exact .inl rfl
    ·exact q
   ·cases e;exact .inl rfl
   ·cases e
 ·intro id b e hv
  have hid:id<base:=by have:=hd id b e;omega
  exact x.mask id b e (vis id hv id (hR.low id hid))
theorem aR.diff_hid {σ τ:aR} {L:List SV} {α:bA} (h:aR.diff n ren σ ren τ=some L) (ha:aJ G ρ ρ' L) {D:Nat} (hD:lY α σ D):lY (iK ren α) τ D:=by
 intro j b e hn hk hv
 unfold iK at e
 split at e
 ·rename_i i hi
  exact hD i b e hn hk (aR.diff_vis h ha hv hi)
 ·cases e;cases hn
 ·cases e
def St.diff (n base:Nat) (gl:List (Nat × Nat)) (ren:Ren) (s t:St):Option (List SV):=
 if aR7 base gl ren t.heap then match SV.diffL n ren s.tmps t.tmps with
  |some x=>match aR.diff n ren s.heap ren t.heap with
   |some y=>some (x++y)
   |none=>none
  |none=>none
 else none
theorem St.diff_rel {X X':Ctx} (hX:X.G=G) (hX':X'.G=G) (hl:eI n ρ ρ') {base:Nat} {s t:St} {L:List SV} (h:St.diff n base gl ren s t=some L) (ha:aJ G ρ ρ' L) {α:bA} {a:Act} {w:World} (hr:RelSt mm X ρ gl α s a w):
  RelSt mm X' ρ' gl (iK ren α) t a w∧∀ (m:Nat) (σ0:aR) (α0:bA) (w0:World),(∀ id b,α0 id=some b→id<σ0.length)→σ0.length≤base→m≤base→lC base t.heap=true→Ext m σ0 s.heap α0 α w0 w→Ext m σ0 t.heap α0 (iK ren α) w0 w:=by
 unfold St.diff at h
 split at h
 case isFalse=>cases h
 rename_i hren
 have hR:=aAK hren
 split at h
 ·rename_i x hx
  split at h
  ·rename_i y hy
   cases h
   obtain⟨a1,a2⟩:=aJ.split (SV.diffL_pairs _ _ x hx) ha
   have h1:=hr.tmps
   have h2:=hr.mem
   rw[hX]at h1 h2
   refine⟨⟨by rw[hX'];exact SV.diffL_R hl _ _ x hx a1 _ h1,⟨hr.defers.1,hr.defers.2.1,fun d hd=>by obtain⟨D,z1,z2,z3,z4⟩:=hr.defers.2.2 d hd;exact⟨D,z1,z2,z3,aR.diff_hid hy a2 z4⟩⟩,by rw[hX'];exact aR.diff_rel hl hR hy a2 h2⟩,?_⟩
   intro m σ0 α0 w0 hd hb hm hv hx
   exact aR.diff_ext hR hy a2 hd hb hm hv hx
  ·cases h
 ·cases h
end
mutual
def E.subst (es:List E):E→E
 | .lit n => .lit n
 | .var i=>es.getD i (.lit 0)
 | .op o a b=>E.mkOp o (E.subst es a) (E.subst es b)
 | .wrap k a => .wrap k (E.subst es a)
 | .bit o k a b => .bit o k (E.subst es a) (E.subst es b)
 | .app g l => .app g (EL.subst es l)
def EL.subst (es:List E):EL→EL
 | .nil => .nil
 | .cons e l => .cons (E.subst es e) (EL.subst es l)
end
def B.subst (es:List E):B→B
 | .lit b => .lit b
 | .cmp o a b => .cmp o (a.subst es) (b.subst es)
 | .and x y => .and (B.subst es x) (B.subst es y)
 | .or x y => .or (B.subst es x) (B.subst es y)
def fJ (G:Nat→List Int→Int) (ρ:Nat→Int) (es:List E):Nat→Int:=fun i=>(es.getD i (.lit 0)).den G ρ
section
variable {G:Nat→List Int→Int} {ρ:Nat→Int} {es:List E}
mutual
theorem E.subst_den:∀ e:E,(e.subst es).den G ρ=e.den G (fJ G ρ es)
 | .lit _=>by simp only[E.subst,E.den]
 | .var i=>by simp only[E.subst,E.den,fJ]
 | .op o a b=>by simp only[E.subst,E.mkOp_den,E.den,E.subst_den a,E.subst_den b]
 | .wrap k a=>by simp only[E.subst,E.den,E.subst_den a]
 | .bit o k a b=>by simp only[E.subst,E.den,E.subst_den a,E.subst_den b]
 | .app g l=>by simp only[E.subst,E.den,EL.subst_den l]
theorem EL.subst_den:∀ l:EL,(l.subst es).den G ρ=l.den G (fJ G ρ es)
 | .nil=>by simp only[EL.subst,EL.den]
 | .cons e l=>by simp only[EL.subst,EL.den,E.subst_den e,EL.subst_den l]
end
theorem B.subst_den:∀ b:B,(b.subst es).den G ρ=b.den G (fJ G ρ es)
 | .lit _=>rfl
 | .cmp o a b=>by simp only[B.subst,B.den,E.subst_den]
 | .and x y=>by simp only[B.subst,B.den,B.subst_den x,B.subst_den y]
 | .or x y=>by simp only[B.subst,B.den,B.subst_den x,B.subst_den y]
end
def mX (i:Nat):List SV→Option E
 | .int _ a :: .int _ t::l=>match t,a with
  | .var j,_=>if j=i then some a else mX i l
  | .app g (.cons (.var j) .nil),.app h (.cons e .nil)=>if j=i && g ==h then some e else mX i l
  |_,_=>mX i l
 |_::_::l=>mX i l
 |_=>none
def zV (m:Nat) (L:List SV):List E:=(List.range m).map fun i=>(mX i L).getD (.lit 0)
def mF (X:Ctx) (es:List E):List SV→Bool
 |[]=>true
 | .int _ a :: .int _ t::l=>(E.eqb a (t.subst es) ||(match B.dec X (.cmp .eq a (t.subst es))with|some true=>true|_=>false)) && mF X es l
 | .bool a :: .bool t::l=>(B.eqb a (t.subst es) ||(match B.dec X a,B.dec X (t.subst es)with|some x,some y=>x ==y|_,_=>false)) && mF X es l
 |_=>false
theorem nN {X:Ctx} {ρ:Nat→Int} (hX:X.Ok ρ) {es:List E}:∀ {L:List SV},mF X es L=true→aJ X.G ρ (fJ X.G ρ es) L
 |[],_=>trivial
 | .int k a :: .int q t::l,h=>by
  simp only[mF,Bool.and_eq_true,Bool.or_eq_true]at h
  refine⟨?_,nN hX h.2⟩
  rw[←E.subst_den]
  rcases h.1 with h1|h1
  ·rw[←E.eqb_eq _ _ h1]
  ·split at h1
   ·rename_i hd
    exact of_decide_eq_true (B.dec_eq hX _ hd)
   ·cases h1
 | .bool a :: .bool t::l,h=>by
  simp only[mF,Bool.and_eq_true,Bool.or_eq_true]at h
  refine⟨?_,nN hX h.2⟩
  rw[←B.subst_den]
  rcases h.1 with h1|h1
  ·rw[←B.eqb_eq _ _ h1]
  ·split at h1
   ·rename_i x y hx hy
    rw[B.dec_eq hX _ hx,B.dec_eq hX _ hy]
    exact eq_of_beq h1
   ·cases h1
 |[.int _ _],h=>by simp [mF]at h
 |[.bool _],h=>by simp [mF]at h
end Sx
namespace Sx
open Go Go.RowKit
variable {mm:Nat}
def bM:Code→List Code
 | .seq a b=>bM a++bM b
 | .cond _ a b=>bM a++bM b
 | .block _ b=>bM b
 | .scope b=>bM b
 | .loop b=>b::bM b
 |_=>[]
def gF:Code→Option Nat
 | .region id _ _=>some id
 | .seq a b=>match gF a with
  |some i=>some i
  |none=>gF b
 | .cond _ a b=>match gF a with
  |some i=>some i
  |none=>gF b
 | .block _ b=>gF b
 | .scope b=>gF b
 | .loop b=>gF b
 |_=>none
abbrev eW:=Nat→Option (Ctx→St→Res (Ex × St))
def cK (P:Program) (X:Ctx) (gb:dT) (ct:aZ) (lp:eW):Nat→FuncId→Code→St→Res (Ex × St)
 |0,_,_,_ => .fail 130
 |n+1,f,c,st=>
  match c with
  | .seq a b=>(cK P X gb ct lp n f a st).bind fun r=>
   match r.1 with
   | .normal=>cK P X gb ct lp n f b r.2
   |_ => .ok r
  | .cond o a b=>
   match kW (bX gb) st.tmps o with
   | .bool t=>(Res.test X t).bind fun r=>if r then cK P X gb ct lp n f a st else cK P X gb ct lp n f b st
   |_ => .fail 131
  | .block id b=>(cK P X gb ct lp n f b st).bind fun r=>
   match r.1 with
   | .exit i=>if i=id then .ok (.normal,r.2) else .ok r
   |_ => .ok r
  | .loop b=>
   match (gF b).bind lp with
   |some g=>match g X st with
    | .fail 199=>(cK P X gb ct lp n f b st).bind fun r=>
     match r.1 with
     | .normal=>cK P X gb ct lp n f (.loop b) r.2
     |_ => .ok r
    |r=>r
   |none=>(cK P X gb ct lp n f b st).bind fun r=>
    match r.1 with
    | .normal=>cK P X gb ct lp n f (.loop b) r.2
    |_ => .ok r
  | .scope b=>cK P X gb ct lp n f b st
  |c=>dE P X gb ct (n+1) f false c st
def aM8 (P:Program) (X:Ctx) (gb:dT) (ct:aZ) (lp:eW) (n:Nat) (f:FuncId) (inr:Bool) (c:Code) (st:St):Res (Ex × St):=if inr then .fail 157 else cK P X gb ct lp n f c st
def jT (P:Program) (c:Code) (Q:Exit→Act→World→Prop) (a:Act) (w:World):Prop:=
 ∀ (b:Frame) (k:List Item) (cs:List Frame),∃ e a' w',Q e a' w'∧Arrives P (lone (b.at a (.code c :: .inLoop c::k)) cs w) b k cs e a' w'
theorem oE {P:Program} {c:Code} {Q:Exit→Act→World→Prop} {a:Act} {w:World} (h:c.wp P (Exit.then (jT P c Q) Q) a w):jT P c Q a w:=by
 intro b k cs
 obtain⟨e,a₁,w₁,hq,harr⟩:=h b (.inLoop c::k) cs
 cases e with
 |normal=>
  obtain⟨e₂,a₂,w₂,hq₂,harr₂⟩:=hq b k cs
  exact⟨e₂,a₂,w₂,hq₂,.of_steps (Steps.trans harr (.one step_inLoop)) harr₂⟩
 |exit id=>exact⟨_,a₁,w₁,hq,.pass (x := .inLoop c) rfl (fun _ _ => .inl (by simp)) harr⟩
 |goto l=>exact⟨_,a₁,w₁,hq,.pass (x := .inLoop c) rfl (fun _ _ => .inl (by simp)) harr⟩
 |ret=>exact⟨_,a₁,w₁,hq,.pass (x := .inLoop c) rfl (fun _ _ => .inl (by simp)) harr⟩
 |panic ch=>exact⟨_,a₁,w₁,hq,.pass (x := .inLoop c) rfl (fun _ _ => .inl (by simp)) harr⟩
 |outgrown=>exact⟨_,a₁,w₁,hq,.pass (x := .inLoop c) rfl (fun _ _ => .inl (by simp)) harr⟩
theorem mH {P:Program} {c:Code} {Q:Exit→Act→World→Prop}:∀ (n:Nat) (a:Act) (w:World),Code.rounds P c Q n a w→jT P c Q a w
 |0,_,_,h=>h.elim
 |n+1,a,w,h=>by
  refine oE (wp_mono h ?_)
  intro e a' w' hq
  cases e with
  |normal=>exact mH n a' w' hq
  |_=>exact hq
theorem aEq {P:Program} {c:Code} {Q:Exit→Act→World→Prop} {a:Act} {w:World} (h:jT P c Q a w):(Code.loop c).wp P Q a w:=by
 intro b k cs
 obtain⟨e,a',w',hq,harr⟩:=h b k cs
 exact⟨e,a',w',hq,.of_steps (.one step_loop) harr⟩
def aMM (P:Program) (X:Ctx) (ρ:Nat→Int) (gl:List (Nat × Nat)) (lp:eW) (b:Code):Prop:=
 ∀ k g,gF b=some k→lp k=some g→∀ st e st',g X st = .ok (e,st')→∀ (mm:Nat) α a w Q,RelSt mm X ρ gl α st a w→
  (∀ a' w' α',RelSt mm X ρ gl α' st' a' w'→Ext st.heap.length st.heap st'.heap α α' w w'→Q e.toExit a' w')→∃ k,Code.rounds P b Q k a w
def lB (P:Program) (X:Ctx) (ρ:Nat→Int) (gl:List (Nat × Nat)) (lp:eW) (c:Code):Prop:=∀ b,b ∈ bM c→aMM P X ρ gl lp b
section
variable {P:Program} {X:Ctx} {ρ:Nat→Int} {gb:dT} {ct:aZ}
theorem yC {lp:eW} (hX:X.Ok ρ) (hct:eO P X ρ gb ct) (hfl:gK gb=true) (hm:iY P) {f:FuncId}:∀ n:Nat,
  (∀ (c:Code) (st:St) (e:Ex) (st':St),lB P X ρ (bX gb) lp c→(∀ x,x ∈ bS c→cZ P f=some x)→cK P X gb ct lp n f c st = .ok (e,st')→
   ∀ α a w Q,RelSt mm X ρ (bX gb) α st a w→(∀ a' w' α',RelSt mm X ρ (bX gb) α' st' a' w'→Ext st.heap.length st.heap st'.heap α α' w w'→Q e.toExit a' w')→c.wp P Q a w)∧
  (∀ (b:Code) (st:St) (e:Ex) (st':St),lB P X ρ (bX gb) lp (.loop b)→(∀ x,x ∈ bS b→cZ P f=some x)→cK P X gb ct lp n f (.loop b) st = .ok (e,st')→
   ∀ α a w Q,RelSt mm X ρ (bX gb) α st a w→(∀ a' w' α',RelSt mm X ρ (bX gb) α' st' a' w'→Ext st.heap.length st.heap st'.heap α α' w w'→Q e.toExit a' w')→jT P b Q a w)
 |0=>⟨fun c st e st' _ _ h=>by simp [cK]at h,fun b st e st' _ _ h=>by simp [cK]at h⟩
 |n+1=>by
  obtain⟨ih,ihl⟩:=yC hX hct hfl hm n
  have loop:∀ (b:Code) (st:St) (e:Ex) (st':St),lB P X ρ (bX gb) lp (.loop b)→(∀ x,x ∈ bS b→cZ P f=some x)→cK P X gb ct lp (n+1) f (.loop b) st = .ok (e,st')→
    ∀ α a w Q,RelSt mm X ρ (bX gb) α st a w→(∀ a' w' α',RelSt mm X ρ (bX gb) α' st' a' w'→Ext st.heap.length st.heap st'.heap α α' w w'→Q e.toExit a' w')→jT P b Q a w:=by
   intro b st e st' hl hg h α a w Q hr hQ
   have hb:b ∈ bM (.loop b):=by simp [bM]
   have lb:lB P X ρ (bX gb) lp b:=fun d hd=>hl d (by simp only[bM];exact List.mem_cons_of_mem _ hd)
   have one:((cK P X gb ct lp n f b st).bind fun r=>match r.1 with
     | .normal=>cK P X gb ct lp n f (.loop b) r.2
     |_ => .ok r) = .ok (e,st')→jT P b Q a w:=by
    intro h
    obtain⟨r,h1,h⟩:=Res.bind_ok h
    obtain⟨e1,s1⟩:=r
    refine oE (ih b st e1 s1 lb hg h1 α a w _ hr ?_)
    intro a1 w1 α1 r1 x1
    cases e1 with
    |normal=>
     simp only at h
     simp only[Ex.toExit,Exit.then]
     exact ihl b s1 e st' hl hg h α1 a1 w1 Q r1 (fun a' w' α' r2 x2=>hQ a' w' α' r2 (x1.trans x2 x1.len))
    |exit id=>cases h;exact hQ a1 w1 α1 r1 x1
    |ret=>cases h;exact hQ a1 w1 α1 r1 x1
   simp only[cK]at h
   cases hk:(gF b).bind lp with
   |none=>simp only[hk]at h;exact one h
   |some g=>
    simp only[hk]at h
    obtain⟨k,hk1,hk2⟩:=Option.bind_eq_some_iff.1 hk
    split at h
    ·exact one h
    ·obtain⟨m,hm⟩:=hl b hb k g hk1 hk2 st e st' h mm α a w Q hr hQ
     exact mH m a w hm
  refine⟨?_,loop⟩
  intro c st e st' hlp hrg h
  have plain:dE P X gb ct (n+1) f false c st = .ok (e,st')→∀ α a w Q,RelSt mm X ρ (bX gb) α st a w→(∀ a' w' α',RelSt mm X ρ (bX gb) α' st' a' w'→Ext st.heap.length st.heap st'.heap α α' w w'→Q e.toExit a' w')→c.wp P Q a w:=
   fun hh α a w Q hr hQ=>(wpIn_wide (n:=0)).1 ((sW hX hct hfl hm (n+1)).1 f false c st e st' hh hrg mm none 0 rfl α a w Q hr hQ)
  intro α a w Q hr hQ
  cases c with
  |seq x y=>
   simp only[cK]at h
   obtain⟨r,h1,h⟩:=Res.bind_ok h
   obtain⟨e1,s1⟩:=r
   have lx:lB P X ρ (bX gb) lp x:=fun b hb=>hlp b (by simp only[bM];exact List.mem_append_left _ hb)
   have ly:lB P X ρ (bX gb) lp y:=fun b hb=>hlp b (by simp only[bM];exact List.mem_append_right _ hb)
   have rx:∀ z,z ∈ bS x→cZ P f=some z:=fun z hz=>hrg z (List.mem_append_left _ hz)
   have ry:∀ z,z ∈ bS y→cZ P f=some z:=fun z hz=>hrg z (List.mem_append_right _ hz)
   refine wp_seq (ih x st e1 s1 lx rx h1 α a w _ hr ?_)
   intro a1 w1 α1 r1 x1
   cases e1 with
   |normal=>
    simp only at h
    simp only[Ex.toExit,Exit.then]
    exact ih y s1 e st' ly ry h α1 a1 w1 Q r1 (fun a' w' α' r2 x2=>hQ a' w' α' r2 (x1.trans x2 x1.len))
   |exit id=>cases h;exact hQ a1 w1 α1 r1 x1
   |ret=>cases h;exact hQ a1 w1 α1 r1 x1
  |cond o x y=>
   simp only[cK]at h
   have lx:lB P X ρ (bX gb) lp x:=fun b hb=>hlp b (by simp only[bM];exact List.mem_append_left _ hb)
   have ly:lB P X ρ (bX gb) lp y:=fun b hb=>hlp b (by simp only[bM];exact List.mem_append_right _ hb)
   split at h
   ·rename_i t ht
    replace h:=Res.bind_ok h
    obtain⟨r,h1,h⟩:=h
    have hd:=Res.test_ok hX h1
    have ho:=oC hr.tmps hr.mem.glob o
    rw[ht]at ho
    simp only[SV.R]at ho
    rw[hd]at ho
    have rx:∀ z,z ∈ bS x→cZ P f=some z:=fun z hz=>hrg z (List.mem_append_left _ hz)
    have ry:∀ z,z ∈ bS y→cZ P f=some z:=fun z hz=>hrg z (List.mem_append_right _ hz)
    refine wp_cond ho ?_
    cases r
    ·simp only[Bool.false_eq_true,if_false]at h ⊢
     exact ih y st e st' ly ry h α a w Q hr hQ
    ·simp only[if_true]at h ⊢
     exact ih x st e st' lx rx h α a w Q hr hQ
   ·cases h
  |block id x=>
   simp only[cK]at h
   have lx:lB P X ρ (bX gb) lp x:=fun b hb=>hlp b (by simp only[bM];exact hb)
   obtain⟨r,h1,h⟩:=Res.bind_ok h
   obtain⟨e1,s1⟩:=r
   refine wp_block (ih x st e1 s1 lx hrg h1 α a w _ hr ?_)
   intro a1 w1 α1 r1 x1
   cases e1 with
   |normal=>cases h;exact hQ a1 w1 α1 r1 x1
   |exit i=>
    simp only at h
    simp only[Ex.toExit,Exit.inBlock]
    split at h
    ·rename_i hi
     cases h
     rw[if_pos hi]
     exact hQ a1 w1 α1 r1 x1
    ·rename_i hi
     cases h
     rw[if_neg hi]
     exact hQ a1 w1 α1 r1 x1
   |ret=>cases h;exact hQ a1 w1 α1 r1 x1
  |loop b=>
   exact aEq (loop b st e st' hlp hrg h α a w Q hr hQ)
  |scope x=>
   simp only[cK]at h
   have lx:lB P X ρ (bX gb) lp x:=fun b hb=>hlp b (by simp only[bM];exact hb)
   refine wp_scope_straight (ih x st e st' lx hrg h α a w _ hr ?_)
   intro a1 w1 α1 r1 x1
   have:=hQ a1 w1 α1 r1 x1
   cases e<;>exact this
  |skip=>simp only[cK]at h;exact plain h α a w Q hr hQ
  |label l=>simp only[cK]at h;exact plain h α a w Q hr hQ
  |exit id=>simp only[cK]at h;exact plain h α a w Q hr hQ
  |ret=>simp only[cK]at h;exact plain h α a w Q hr hQ
  |region id ops draw=>simp only[cK]at h;exact plain h α a w Q hr hQ
  |rangeFunc f ps x y=>simp only[cK]at h;exact plain h α a w Q hr hQ
  |goto l=>simp only[cK]at h;exact plain h α a w Q hr hQ
  |refuse y=>simp only[cK]at h;exact plain h α a w Q hr hQ
theorem oL {lp:eW} (hX:X.Ok ρ) (hct:eO P X ρ gb ct) (hfl:gK gb=true) (hm:iY P) (n:Nat) {f:FuncId} (c:Code) (st:St) (e:Ex) (st':St) (hlp:lB P X ρ (bX gb) lp c) (hrg:∀ x,x ∈ bS c→cZ P f=some x) (h:cK P X gb ct lp n f c st = .ok (e,st')):
  ∀ α a w Q,RelSt mm X ρ (bX gb) α st a w→(∀ a' w' α',RelSt mm X ρ (bX gb) α' st' a' w'→Ext st.heap.length st.heap st'.heap α α' w w'→Q e.toExit a' w')→c.wp P Q a w:=(yC hX hct hfl hm n).1 c st e st' hlp hrg h
open Classical in
theorem qW {lp:eW} (hX:X.Ok ρ) (hct:eO P X ρ gb ct) (hfl:gK gb=true) (hm:iY P) {n:Nat} {f:FuncId} {args:List SV} {σ:aR} {s:SV} {σ':aR}
  (hY:f<YB) (hlp:∀ fn c,P.funcs[f]?=some fn→fn.body=some c→lB P X ρ (bX gb) lp c) (h:fG P X gb ct (aM8 P X gb ct lp n) f args σ = .ok (s,σ')):∀ α w vals,RelW X.G ρ (bX gb) α σ w→SV.RL X.G ρ α args vals→
  dM P f∧Calls P f vals.toArray w (fun e w'=>∃ v α',e = .returned v∧SV.R X.G ρ α' s v∧RelW X.G ρ (bX gb) α' σ' w'∧Ext σ.length σ σ' α α' w w'):=by
 let run:FuncId→Bool→Code→St→Res (Ex × St):=fun g inr c st=>if lB P X ρ (bX gb) lp c then aM8 P X gb ct lp n g inr c st else .fail 999
 have key:fG P X gb ct run f args σ = .ok (s,σ'):=by
  rw[←h]
  unfold fG
  have hd:¬decide (YB≤f)=true:=by simpa using hY
  rw[if_neg hd,if_neg hd]
  have inl:pE P X gb run f args σ=pE P X gb (aM8 P X gb ct lp n) f args σ:=by
   unfold pE
   cases hf:P.funcs[f]? with
   |none=>rfl
   |some fn=>
    simp only
    cases hb:fn.body with
    |none=>rfl
    |some c=>
     have:=hlp fn c hf hb
     simp only[run,dJ,if_pos this]
  cases ct f with
  |some g=>cases g with
   |pure g=>rfl
   |mem g=>simp only[inl]
  |none=>exact inl
 intro α w vals hW hv
 refine(mN hm hct hfl (run:=run) ?_ f args σ s σ' key α w vals hW hv).1 hY
 intro g inr c st e st' hh hrg mm ro kk hro α a w Q hr hQ
 simp only[run]at hh
 split at hh
 ·rename_i hl
  unfold aM8 at hh
  split at hh
  ·cases hh
  rename_i hinr
  have hro':ro=none:=by
   cases ro with
   |none=>rfl
   |some l=>exact absurd hro.symm hinr
  subst hro'
  exact(wpIn_wide (n:=kk)).2 (oL hX hct hfl hm n c st e st' hl hrg hh α a w Q hr hQ)
 ·cases hh
def kL (P:Program) (X:Ctx) (gb:dT) (ct:aZ) (lp:eW) (n:Nat) (f:FuncId) (args:List SV):Res SV:=
 if decide (YB≤f) then .fail 141 else (fG P X gb ct (aM8 P X gb ct lp n) f args (bQ gb)).bind fun r=>if aR.begins (bQ gb) r.2 then .ok r.1 else .fail 140
theorem aB4 {lp:eW} (hX:X.Ok ρ) (hct:eO P X ρ gb ct) (hfl:gK gb=true) (ha:nM gb) (hm:iY P) {n:Nat} {f:FuncId} (hlp:∀ fn c,P.funcs[f]?=some fn→fn.body=some c→lB P X ρ (bX gb) lp c) {args:List SV} {s:SV} (h:kL P X gb ct lp n f args = .ok s) {vals:List Value} (hv:SV.RL X.G ρ (fun _=>none) args vals) (w:World) (hw:pR gb w):
  dM P f∧Calls P f vals.toArray w (fun e w'=>∃ v α,e = .returned v∧SV.R X.G ρ α s v∧Below w.heap.size w w'):=by
 unfold kL at h
 split at h
 ·cases h
 rename_i hY
 simp only[decide_eq_true_eq,Nat.not_le]at hY
 replace h:=Res.bind_ok h
 obtain⟨r,h1,h⟩:=h
 obtain⟨s1,σ1⟩:=r
 simp only at h
 split at h
 case isFalse=>cases h
 rename_i hbeg
 cases h
 have hW:=aAw (X:=X) (ρ:=ρ) hw hfl ha
 obtain⟨hk,hc⟩:=qW hX hct hfl hm hY hlp h1 (aOf gb) w vals hW (SV.RL_mono (fun _ _ x=>by cases x) _ _ hv)
 refine⟨hk,hc.mono ?_⟩
 rintro e w' ⟨v,α',rfl,r1,r2,x1⟩
 refine⟨v,α',rfl,r1,⟨x1.os,x1.tape,x1.output,x1.size,?_⟩⟩
 intro k hk'
 by_cases hex:∃ id b,aOf gb id=some b∧b.blk=k
 ·obtain⟨id,b0,hid,rfl⟩:=hex
  have hlt:=(hW.dom id b0 hid).1
  obtain⟨blk,hblk⟩:∃ q,(bQ gb)[id]?=some q:=⟨(bQ gb)[id],by simp [hlt]⟩
  have hnn:∃ c,blk=some c∧fL c.2=true∧SV.sureL c.1=true:=by
   unfold bQ at hblk
   rw[List.getElem?_map]at hblk
   cases hq:gb[id]? with
   |none=>rw[hq]at hblk;cases hblk
   |some q=>
    rw[hq]at hblk
    have hf:=List.all_eq_true.1 hfl q (List.mem_of_getElem? hq)
    simp only[Bool.and_eq_true]at hf
    exact⟨q.2,(Option.some.inj hblk).symm,hf.1,nL hf.2⟩
  obtain⟨⟨cs,T⟩,rfl,hT,hsu⟩:=hnn
  obtain⟨b,vs,g1,g2,g3⟩:=hW.blk id cs T hblk
  rw[hid]at g1;cases g1
  obtain⟨b',vs',g4,g5,g6⟩:=r2.blk id cs T (oV hbeg hblk)
  rw[x1.mono id _ hid]at g4;cases g4
  rw[((dB hT).1 g2).2,((dB hT).1 g5).2,SV.RL_one cs vs' vs hsu g6 (SV.RL_mono x1.mono cs vs g3)]
 ·exact x1.hid k hk' (fun id b e _ hb=>absurd ⟨id,b,e,hb⟩ hex)
end
theorem lP {P:Program} {lp:eW} {G:Nat→List Int→Int} {GI:Nat→List gG→gG} {vars:List (Int × Int)} {ρ:Nat→Int} {gb:dT} {ct:aZ} {n:Nat} {f:FuncId} {args:List SV} {p:Value→Prop} {run:List B→Res SV}
  (hrun:∀ fs,run fs=bK G GI vars fs fun X=>kL P X gb ct lp n f args) (hm:iY P)
  (hv:∀ i q,vars[i]?=some q→q.1≤ρ i∧ρ i≤q.2) (hg:GiOk G GI)
  (hct:∀ X:Ctx,X.Ok ρ→X.G=G→eO P X ρ gb ct) (hlp:∀ X:Ctx,X.Ok ρ→X.G=G→∀ fn c,P.funcs[f]?=some fn→fn.body=some c→lB P X ρ (bX gb) lp c) (hargs:SV.ubdL 0 args=true) (hfl:gK gb=true) (ha:nM gb)
  (hgood:jH run G ρ (fun s=>s.ubd 0=true∧p (s.den G ρ)) []) (w:World) (hw:pR gb w):
  dM P f∧Calls P f (SV.denL G ρ args).toArray w (fun e w'=>∃ v,e = .returned v∧p v∧Below w.heap.size w w'):=by
 obtain⟨fs,s,h1,h2,h3,h4⟩:=hgood (fun b hb=>by cases hb)
 rw[hrun,jV]at h2
 have hX:=jP (show Ctx.Ok ⟨G,GI,vars,fs⟩ ρ from⟨hv,h1,hg⟩)
 obtain⟨hk,hc⟩:=aB4 hX (hct _ hX rfl) hfl ha hm (hlp _ hX rfl) h2 (SV.denL_R args hargs) w hw
 refine⟨hk,hc.mono ?_⟩
 rintro e w' ⟨v,α,rfl,r,hb⟩
 refine⟨v,rfl,?_,hb⟩
 rw[SV.R_den s v h3 r]
 exact h4
mutual
def SV.guess:SV→SV→List (Nat × Option Nat)
 | .ptr i _,.ptr j _=>[(j,some i)]
 | .slice i _ _ _,.slice j _ _ _=>[(j,some i)]
 | .map i,.map j=>[(j,some i)]
 | .yld i,.yld j=>[(j,some i)]
 | .own i _ _,.own j _ _=>[(j,some i)]
 | .own i _ _,.vsl j _ _ _ _=>[(j,some i)]
 | .vsl i _ _ _ _,.vsl j _ _ _ _=>[(j,some i)]
 | .vptr i _ _ _,.vptr j _ _ _=>[(j,some i)]
 | .con _,.own j _ _=>[(j,none)]
 | .con _,.vsl j _ _ _ _=>[(j,none)]
 | .agg l,.agg r=>SV.guessL l r
 | .tuple l,.tuple r=>SV.guessL l r
 | .iface _ l,.iface _ r=>SV.guessL l r
 | .func _ a b,.func _ c d=>SV.guessL a c++SV.guessL b d
 |_,_=>[]
def SV.guessL:List SV→List SV→List (Nat × Option Nat)
 |a::l,b::r=>SV.guess a b++SV.guessL l r
 |_,_=>[]
end
def bDS (base:Nat) (l:List (Nat × Option Nat)) (j:Nat):Option Nat:=
 if j<base then some j else match l.find? (fun p=>p.1 ==j)with
  |some p=>p.2
  |none=>none
def aCE (σ:aR):Nat→List (Option Nat)→aR→List (Nat × Option Nat)
 |k,some i::rs,some (ds,_)::τ=>(match σ[i]? with|some (some (cs,_))=>SV.guessL cs ds|_=>[])++aCE σ (k+1) rs τ
 |k,_::rs,_::τ=>aCE σ (k+1) rs τ
 |_,_,_=>[]
def aOq (base:Nat) (τ:aR) (l:List (Nat × Option Nat)):Ren:=(List.range τ.length).map (bDS base l)
def bDM (base:Nat) (τ:aR) (r:Ren):Ren:=r.zipIdx.map fun p=>if p.2<base then p.1 else match τ[p.2]? with|some (some _)=>p.1|_=>none
def aB9 (base:Nat) (s t:St):Ren:=
 let l0:=SV.guessL s.tmps t.tmps
 let l1:=l0++aCE s.heap 0 (aOq base t.heap l0) t.heap
 let l2:=l1++aCE s.heap 0 (aOq base t.heap l1) t.heap
 bDM base t.heap (aOq base t.heap l2)
def St.diffG (n base:Nat) (gl:List (Nat × Nat)) (s t:St):Option (List SV):=if lC base t.heap then dH (aB9 base s t) fun ren=>St.diff n base gl ren s t else none
theorem St.diffG_rel {X X':Ctx} {G:Nat→List Int→Int} {ρ ρ':Nat→Int} {n:Nat} {gl:List (Nat × Nat)} (hX:X.G=G) (hX':X'.G=G) (hl:eI n ρ ρ') {base:Nat} {s t:St} {L:List SV} (h:St.diffG n base gl s t=some L) (ha:aJ G ρ ρ' L) {α:bA} {a:Act} {w:World} (hr:RelSt mm X ρ gl α s a w):
  ∃ α',RelSt mm X' ρ' gl α' t a w∧∀ (m:Nat) (σ0:aR) (α0:bA) (w0:World),(∀ id b,α0 id=some b→id<σ0.length)→σ0.length≤base→m≤base→Ext m σ0 s.heap α0 α w0 w→Ext m σ0 t.heap α0 α' w0 w:=by
 unfold St.diffG at h
 split at h
 case isFalse=>cases h
 rename_i hv
 rw[dJ]at h
 obtain⟨h1,h2⟩:=St.diff_rel hX hX' hl h ha hr
 exact⟨_,h1,fun m σ0 α0 w0 g1 g2 g3=>h2 m σ0 α0 w0 g1 g2 g3 hv⟩
structure LoopS where
 n0:Nat
 base:Nat
 S:St
 b:B
 e1:Ex
 T1:St
 e2:Ex
 T2:St
def Ex.same:Ex→Ex→Bool
 | .normal,.normal=>true
 | .exit i,.exit j=>i ==j
 | .ret,.ret=>true
 |_,_=>false
theorem Ex.same_eq {a b:Ex} (h:Ex.same a b=true):a=b:=by
 cases a<;>cases b<;>simp [Ex.same]at h<;>first|rfl|rw[h]
def aXT (gl:List (Nat × Nat)) (l:LoopS) (S:St) (r:Ex × St):Res SV:=
 match r.1 with
 | .normal=>match St.diffG l.n0 l.base gl r.2 S with
  |some L => .ok (.agg L)
  |none => .fail 160
 |e=>match (if Ex.same e l.e1 then St.diffG l.n0 l.base gl r.2 l.T1 else none)with
  |some L => .ok (.tuple [.agg L,.bool (.lit true)])
  |none=>match (if Ex.same e l.e2 then St.diffG l.n0 l.base gl r.2 l.T2 else none)with
   |some L => .ok (.tuple [.agg L,.bool (.lit false)])
   |none => .fail 161
def gI (P:Program) (X:Ctx) (gb:dT) (ct:aZ) (lp:eW) (n:Nat) (b:Code) (l:LoopS):Res SV:=
 if (bS b).isEmpty then (cK P X gb ct lp n 0 b l.S).bind (aXT (bX gb) l l.S) else .fail 158
theorem RelSt.ctx {X X':Ctx} {ρ:Nat→Int} {gl:List (Nat × Nat)} {α:bA} {st:St} {a:Act} {w:World} (h:X.G=X'.G) (r:RelSt mm X ρ gl α st a w):RelSt mm X' ρ gl α st a w:=
 ⟨by rw[←h];exact r.tmps,r.defers,by rw[←h];exact r.mem⟩
def dG {ι:Type} (G:Nat→List Int→Int) (ρ:ι→Nat→Int) (ρT:Nat→Int) (n0:Nat) (b:B) (Good:ι→Prop) (m:ι→Nat) (x:ι):SV→Prop
 | .agg l=>∃ y,Good y∧m y<m x∧eI n0 (ρ x) (ρ y)∧aJ G (ρ x) (ρ y) l
 | .tuple [.agg l,.bool (.lit r)]=>b.den G ρT=r∧eI n0 (ρ x) ρT∧aJ G (ρ x) ρT l
 |_=>False
def aJG (P:Program) (G:Nat→List Int→Int) (gl:List (Nat × Nat)) (c:Code) (l:LoopS) (ρ ρT:Nat→Int) (k:Nat):Prop:=
 ∀ X:Ctx,X.G=G→∀ (m0:Nat) (σ0:aR) (α0:bA) (w0:World),(∀ id b,α0 id=some b→id<σ0.length)→σ0.length≤l.base→m0≤l.base→
  ∀ (mm:Nat) α a w Q,RelSt mm X ρ gl α l.S a w→Ext m0 σ0 l.S.heap α0 α w0 w→
   (∀ (r:Bool) a' w' α',l.b.den G ρT=r→RelSt mm X ρT gl α' (if r then l.T1 else l.T2) a' w'→Ext m0 σ0 (if r then l.T1 else l.T2).heap α0 α' w0 w'→Q (if r then l.e1 else l.e2).toExit a' w')→Code.rounds P c Q k a w
theorem dZ {ι:Type} {P:Program} {G:Nat→List Int→Int} {GI:Nat→List gG→gG} {gb:dT} {ct:aZ} {lp:eW} {n:Nat} {b:Code} {l:LoopS} {vars:List (Int × Int)} {ρ:ι→Nat→Int} {ρT:Nat→Int} {m:ι→Nat} {Good:ι→Prop} {run:List B→Res SV}
  (hrun:∀ fs,run fs=bK G GI vars fs fun X=>gI P X gb ct lp n b l) (hm:iY P) (hfl:gK gb=true) (hg:GiOk G GI)
  (hv:∀ x,Good x→∀ i q,vars[i]?=some q→q.1≤ρ x i∧ρ x i≤q.2)
  (hct:∀ x,Good x→∀ X:Ctx,X.Ok (ρ x)→X.G=G→eO P X (ρ x) gb ct)
  (hlp:∀ x,Good x→∀ X:Ctx,X.Ok (ρ x)→X.G=G→lB P X (ρ x) (bX gb) lp b)
  (way:∀ x,Good x→jH run G (ρ x) (dG G ρ ρT l.n0 l.b Good m x) []) (hbase:l.base≤l.S.heap.length):
  ∀ k x,Good x→m x<k→aJG P G (bX gb) b l (ρ x) ρT k
 |0,x,_,hk=>by omega
 |k+1,x,hx,hk=>by
  intro X hXG m0 σ0 α0 w0 hd hs hm0 mm α a w Q hr x0 hQ
  have ih:=dZ hrun hm hfl hg hv hct hlp way hbase k
  obtain⟨fs,s,h1,h2,h3⟩:=way x hx (fun b hb=>by cases hb)
  rw[hrun,jV]at h2
  have hX1:=jP (show Ctx.Ok ⟨G,GI,vars,fs⟩ (ρ x)from⟨hv x hx,h1,hg⟩)
  unfold gI at h2
  split at h2
  case isFalse=>cases h2
  rename_i hrg
  obtain⟨r,q1,q2⟩:=Res.bind_ok h2
  obtain⟨e,st'⟩:=r
  rw[rounds_succ]
  refine oL hX1 (hct x hx _ hX1 rfl) hfl hm n b l.S e st' (hlp x hx _ hX1 rfl) (by rw[List.isEmpty_iff.1 hrg];simp) q1 α a w _ (RelSt.ctx hXG hr) ?_
  intro a1 w1 α1 r1 x1
  have x2:=x0.trans x1 (Nat.le_trans hm0 hbase)
  unfold aXT at q2
  split at q2
  ·rename_i he
   simp only at he
   subst he
   split at q2
   ·rename_i L hL
    cases q2
    simp only[dG]at h3
    obtain⟨y,hy,hmy,hlow,hag⟩:=h3
    obtain⟨α2,r2,sn⟩:=St.diffG_rel (X':=X) (G:=G) rfl hXG hlow hL hag r1
    simp only[Ex.toExit,Exit.then]
    exact ih y hy (by omega) X hXG m0 σ0 α0 w0 hd hs hm0 mm α2 a1 w1 Q r2 (sn _ _ _ _ hd hs hm0 x2) hQ
   ·cases q2
  ·rename_i he
   have fin:∀ (r:Bool) (L:List SV),e=(if r then l.e1 else l.e2)→St.diffG l.n0 l.base (bX gb) st' (if r then l.T1 else l.T2)=some L→l.b.den G ρT=r∧eI l.n0 (ρ x) ρT∧aJ G (ρ x) ρT L→Exit.then (fun a w=>Code.rounds P b Q k a w) Q e.toExit a1 w1:=by
    intro r L he1 hL ⟨g1,g2,g3⟩
    obtain⟨α2,r2,sn⟩:=St.diffG_rel (X':=X) (G:=G) rfl hXG g2 hL g3 r1
    have:=hQ r a1 w1 α2 g1 r2 (sn _ _ _ _ hd hs hm0 x2)
    rw[←he1]at this
    cases e with
    |normal=>exact absurd rfl he
    |exit id=>exact this
    |ret=>exact this
   split at q2
   ·rename_i L hL
    cases q2
    simp only[dG]at h3
    split at hL
    ·rename_i hs1
     exact fin true L (Ex.same_eq hs1) hL h3
    ·cases hL
   ·split at q2
    ·rename_i L hL
     cases q2
     simp only[dG]at h3
     split at hL
     ·rename_i hs1
      exact fin false L (Ex.same_eq hs1) hL h3
     ·cases hL
    ·cases q2
structure LoopU where
 l:LoopS
 es:List E
 vars:List (Int × Int)
 pre:B
def aIy (X:Ctx) (b:B):Bool:=match B.dec X b with|some true=>true|_=>false
theorem aNN {X:Ctx} {ρ:Nat→Int} (hX:X.Ok ρ) {b:B} (h:aIy X b=true):b.den X.G ρ=true:=by
 unfold aIy at h
 split at h
 ·exact B.dec_eq hX _ ‹_›
 ·cases h
def sS (gl:List (Nat × Nat)) (u:LoopU):Ctx→St→Res (Ex × St):=fun X st=>
 if decide (st.heap.length=u.l.base) then match St.diffG 0 u.l.base gl st u.l.S with
  |some L=>if mF X u.es L then (if lR X u.vars (u.es.take u.vars.length) && aIy X (u.pre.subst u.es) then (Res.testW X u.l.b).bind fun r => .ok (if r then (u.l.e1,u.l.T1) else (u.l.e2,u.l.T2)) else .fail 174) else .fail 170
  |none => .fail 171
 else .fail 172
def fN (P:Program) (G:Nat→List Int→Int) (gl:List (Nat × Nat)) (b:Code) (u:LoopU) (ρ0:Nat→Int):Prop:=
 eG u.vars ((u.es.take u.vars.length).map (E.den G ρ0))→u.pre.den G (fJ G ρ0 u.es)=true→∃ k,aJG P G gl b u.l (fJ G ρ0 u.es) ρ0 k
def gY (gl:List (Nat × Nat)):List LoopU→Ctx→St→Res (Ex × St)
 |[],_,_ => .fail 173
 |p::ps,X,st=>match sS gl p X st with
  | .ok r => .ok r
  | .need b => .need b
  | .fail _=>gY gl ps X st
def kR (key:Nat) (g:Ctx→St→Res (Ex × St)) (lp:eW):eW:=fun k=>if k=key then some g else lp k
theorem aCp {P:Program} {G:Nat→List Int→Int} {gl:List (Nat × Nat)} {b:Code} {u:LoopU} {X:Ctx} {ρ0:Nat→Int} (hX:X.Ok ρ0) (hXG:X.G=G)
  (hloopU:fN P G gl b u ρ0) {st st':St} {e:Ex} (h:sS gl u X st = .ok (e,st')) {α:bA} {a:Act} {w:World} {Q:Exit→Act→World→Prop} (hr:RelSt mm X ρ0 gl α st a w)
  (hQ:∀ a' w' α',RelSt mm X ρ0 gl α' st' a' w'→Ext st.heap.length st.heap st'.heap α α' w w'→Q e.toExit a' w'):∃ k,Code.rounds P b Q k a w:=by
 unfold sS at h
 split at h
 case isFalse=>cases h
 rename_i hbase
 simp only[decide_eq_true_eq]at hbase
 split at h
 case h_2=>cases h
 rename_i L hL
 split at h
 case isFalse=>cases h
 rename_i he
 split at h
 case isFalse=>cases h
 rename_i hw
 simp only[Bool.and_eq_true]at hw
 have hag:=nN hX he
 have hwi:=oX hX hw.1
 have hpr:=aNN hX hw.2
 rw[B.subst_den]at hpr
 rw[hXG]at hag hwi hpr
 obtain⟨k,hloop⟩:=hloopU hwi hpr
 obtain⟨r,hr1,h⟩:=Res.bind_ok h
 have hb:=Res.testW_ok hX hr1
 have hq:(e,st')=(if r then (u.l.e1,u.l.T1) else (u.l.e2,u.l.T2)):=(Res.ok.inj h).symm
 obtain⟨α2,r2,sn⟩:=St.diffG_rel (X':=X) (G:=G) hXG hXG (fun i hi=>by omega) hL hag hr
 refine⟨k,hloop X hXG st.heap.length st.heap α w (fun id b e=>(hr.mem.dom id b e).1) (by omega) (by omega) mm α2 a w Q r2 (sn _ _ _ _ (fun id b e=>(hr.mem.dom id b e).1) (by omega) (by omega) (Ext.refl _ _ _ _)) ?_⟩
 intro r' a' w' α' g1 g2 g3
 rw[hXG]at hb
 rw[hb]at g1
 subst g1
 cases r
 ·cases hq;exact hQ a' w' α' g2 g3
 ·cases hq;exact hQ a' w' α' g2 g3
theorem zG {P:Program} {G:Nat→List Int→Int} {gl:List (Nat × Nat)} {b:Code} {X:Ctx} {ρ0:Nat→Int} (hX:X.Ok ρ0) (hXG:X.G=G):∀ (ps:List LoopU),(∀ p,p ∈ ps→fN P G gl b p ρ0)→∀ {st st':St} {e:Ex},gY gl ps X st = .ok (e,st')→∀ {α:bA} {a:Act} {w:World} {Q:Exit→Act→World→Prop},RelSt mm X ρ0 gl α st a w→
  (∀ a' w' α',RelSt mm X ρ0 gl α' st' a' w'→Ext st.heap.length st.heap st'.heap α α' w w'→Q e.toExit a' w')→∃ k,Code.rounds P b Q k a w
 |[],_,st,st',e,h,_,_,_,_,_,_=>by simp [gY]at h
 |p::ps,hp,st,st',e,h,α,a,w,Q,hr,hQ=>by
  unfold gY at h
  split at h
  ·rename_i r hr1
   cases h
   exact aCp hX hXG (hp p (by simp)) hr1 hr hQ
  ·cases h
  ·exact zG hX hXG ps (fun q hq=>hp q (by simp [hq])) h hr hQ
theorem lD {P:Program} {G:Nat→List Int→Int} {gl:List (Nat × Nat)} {b:Code} {key:Nat} {ps:List LoopU} {lp:eW} {X:Ctx} {ρ0:Nat→Int} (hX:X.Ok ρ0) (hXG:X.G=G) (hkey:gF b=some key)
  (hp:∀ p,p ∈ ps→fN P G gl b p ρ0):aMM P X ρ0 gl (kR key (gY gl ps) lp) b:=by
 intro k' g hk hg st e st' h mm α a w Q hr hQ
 rw[hkey]at hk
 cases hk
 unfold kR at hg
 rw[if_pos rfl]at hg
 cases hg
 exact zG hX hXG ps hp h hr hQ
theorem aAP {P:Program} {gl:List (Nat × Nat)} {b:Code} {X:Ctx} {ρ0:Nat→Int}:aMM P X ρ0 gl (fun _=>none) b:=by
 intro k g _ hg
 cases hg
theorem rX {P:Program} {gl:List (Nat × Nat)} {b:Code} {key j:Nat} {g:Ctx→St→Res (Ex × St)} {lp:eW} {X:Ctx} {ρ0:Nat→Int} (hkey:gF b=some j) (hj:j≠key) (h:aMM P X ρ0 gl lp b):aMM P X ρ0 gl (kR key g lp) b:=by
 intro k' g' hk hg
 rw[hkey]at hk
 cases hk
 unfold kR at hg
 rw[if_neg hj]at hg
 exact h j g' hkey hg
theorem jL {P:Program} {X:Ctx} {ρ:Nat→Int} {gl:List (Nat × Nat)} {lp:eW} {bs:List Code} {c:Code} (h:bM c=bs) (hb:∀ b,b ∈ bs→aMM P X ρ gl lp b):lB P X ρ gl lp c:=by
 intro d hd
 rw[h]at hd
 exact hb d hd
theorem cB {run:List B→Res SV} {G:Nat→List Int→Int} {ρ:Nat→Int} {p:SV→Prop} {fs:List B} (h:False):jH run G ρ p fs:=h.elim
def fX:eW:=fun _=>none
theorem dW {P:Program} {X:Ctx} {ρ:Nat→Int} {gl:List (Nat × Nat)} {c:Code}:lB P X ρ gl fX c:=by
 intro b _ k g _ hg
 simp [fX]at hg
def cV (P:Program) (f:FuncId):Code:=
 match P.funcs[f]? with
 |some fn=>match fn.body with
  |some c=>c
  |none => .skip
 |none => .skip
def dX (c:Code) (k:Nat):Code:=(bM c).getD k .skip
def aI0 (c:Code):Code:=match bM c with
 |b::_=>b
 |[] => .skip
theorem jM {P:Program} {f:FuncId} {fn:Func} {c:Code} (h:P.funcs[f]?=some fn) (g:fn.body=some c):cV P f=c:=by
 unfold cV;rw[h];simp only;rw[g]
end Sx
namespace Sx
open Go Go.RowKit
variable {mm:Nat}
def gQ {α β:Type}:Option α→(α→Option β)→Option β
 |some a,f=>f a
 |none,_=>none
theorem cI {α β:Type} {o:Option α} {f:α→Option β} {b:β} (h:gQ o f=some b):∃ a,o=some a∧f a=some b:=by
 cases o with
 |none=>cases h
 |some a=>exact⟨a,rfl,h⟩
mutual
def SV.inst (es:List E) (f:Nat→Option Nat):SV→Option SV
 | .bool b=>some (.bool (b.subst es))
 | .int k e=>some (.int k (e.subst es))
 | .ptr id o=>gQ (f id) fun i=>some (.ptr i o)
 | .slice id o l c=>gQ (f id) fun i=>some (.slice i o l c)
 | .agg l=>gQ (SV.instL es f l) fun l=>some (.agg l)
 | .tuple l=>gQ (SV.instL es f l) fun l=>some (.tuple l)
 | .iface t l=>gQ (SV.instL es f l) fun l=>some (.iface t l)
 | .func fn a c=>gQ (SV.instL es f a) fun a=>gQ (SV.instL es f c) fun c=>some (.func fn a c)
 | .con v=>some (.con v)
 | .map id=>gQ (f id) fun i=>some (.map i)
 | .yld id=>gQ (f id) fun i=>some (.yld i)
 | .any=>some .any
 | .vec sh C n ex=>some (.vec sh (C.subst es) (n.subst es) ex)
 | .own id n c=>gQ (f id) fun i=>some (.own i (n.subst es) (c.map (E.subst es)))
 | .vsl id w o n c=>gQ (f id) fun i=>some (.vsl i w (o.subst es) (n.subst es) (c.map (E.subst es)))
 | .vptr id w e j=>gQ (f id) fun i=>some (.vptr i w (e.subst es) j)
def SV.instL (es:List E) (f:Nat→Option Nat):List SV→Option (List SV)
 |[]=>some []
 |s::l=>gQ (SV.inst es f s) fun s=>gQ (SV.instL es f l) fun l=>some (s::l)
end
section
variable {G:Nat→List Int→Int} {ρ:Nat→Int} {es:List E} {f:Nat→Option Nat} {α β:bA}
theorem aBs {c:Option E} {x:Int} (h:∀ e,c=some e→x=e.den G (fJ G ρ es)):∀ e,c.map (E.subst es)=some e→x=e.den G ρ:=by
 intro e he
 obtain⟨e0,h0,rfl⟩:=Option.map_eq_some_iff.1 he
 rw[E.subst_den];exact h e0 h0
mutual
theorem SV.inst_R (hf:∀ j i b,f j=some i→α j=some b→β i=some b):∀ (s t:SV) (v:Value),SV.inst es f s=some t→SV.R G (fJ G ρ es) α s v→SV.R G ρ β t v
 | .bool b,t,v,h,r=>by simp only[SV.inst]at h;cases h;simp only[SV.R,B.subst_den]at *;exact r
 | .int k e,t,v,h,r=>by simp only[SV.inst]at h;cases h;simp only[SV.R,E.subst_den]at *;exact r
 | .con x,t,v,h,r=>by simp only[SV.inst]at h;cases h;simp only[SV.R]at *;exact r
 | .any,t,v,h,r=>by simp only[SV.inst]at h;cases h;simp only[SV.R]
 | .vec sh C n ex,t,v,h,r=>by simp only[SV.inst]at h;cases h;simp only[SV.R,E.subst_den]at *;exact r
 | .ptr id o,t,v,h,r=>by
  simp only[SV.inst]at h
  obtain⟨i,hi,h⟩:=cI h;cases h
  simp only[SV.R]at *
  obtain⟨b,h1,h2⟩:=r
  exact⟨b,hf _ _ _ hi h1,h2⟩
 | .slice id o l c,t,v,h,r=>by
  simp only[SV.inst]at h
  obtain⟨i,hi,h⟩:=cI h;cases h
  simp only[SV.R]at *
  obtain⟨b,h1,h2⟩:=r
  exact⟨b,hf _ _ _ hi h1,h2⟩
 | .map id,t,v,h,r=>by
  simp only[SV.inst]at h
  obtain⟨i,hi,h⟩:=cI h;cases h
  simp only[SV.R]at *
  obtain⟨b,h1,h2⟩:=r
  exact⟨b,hf _ _ _ hi h1,h2⟩
 | .yld id,t,v,h,r=>by
  simp only[SV.inst]at h
  obtain⟨i,hi,h⟩:=cI h;cases h
  simp only[SV.R]at *
  obtain⟨b,h1,h2⟩:=r
  exact⟨b,hf _ _ _ hi h1,h2⟩
 | .own id n c,t,v,h,r=>by
  simp only[SV.inst]at h
  obtain⟨i,hi,h⟩:=cI h;cases h
  simp only[SV.R,E.subst_den]at *
  obtain⟨b,h1,h2,h3,h4,h5,h6⟩:=r
  exact⟨b,hf _ _ _ hi h1,h2,h3,h4,h5,fun e he hle=>by
   obtain⟨e0,h0,rfl⟩:=Option.map_eq_some_iff.1 he
   rw[E.subst_den]at hle ⊢
   exact h6 e0 h0 hle⟩
 | .vsl id w o n c,t,v,h,r=>by
  simp only[SV.inst]at h
  obtain⟨i,hi,h⟩:=cI h;cases h
  simp only[SV.R,E.subst_den]at *
  obtain⟨b,h1,h2,h3,h4⟩:=r
  refine⟨b,hf _ _ _ hi h1,h2,h3,?_⟩
  rcases h4 with⟨q1,a,c0,q2,q3⟩|⟨q1,c0,q2,q3,q4⟩
  ·refine .inl ⟨q1,a,c0,q2,?_⟩
   rcases q3 with q3|⟨q3,q4⟩
   ·subst q3;exact .inl rfl
   ·subst q3
    exact .inr ⟨rfl,fun e he=>(aBs (x:=0) (fun e he=>(q4 e he).symm) e he).symm⟩
  ·exact .inr ⟨q1,c0,q2,q3,aBs q4⟩
 | .vptr id w e j,t,v,h,r=>by
  simp only[SV.inst]at h
  obtain⟨i,hi,h⟩:=cI h;cases h
  simp only[SV.R,E.subst_den]at *
  obtain⟨b,h1,h2⟩:=r
  exact⟨b,hf _ _ _ hi h1,h2⟩
 | .agg l,t,v,h,r=>by
  simp only[SV.inst]at h
  obtain⟨q,hq,h⟩:=cI h;cases h
  simp only[SV.R]at *
  obtain⟨cs,h1,h2⟩:=r
  exact⟨cs,h1,SV.inst_RL hf l q cs hq h2⟩
 | .tuple l,t,v,h,r=>by
  simp only[SV.inst]at h
  obtain⟨q,hq,h⟩:=cI h;cases h
  simp only[SV.R]at *
  obtain⟨cs,h1,h2⟩:=r
  exact⟨cs,h1,SV.inst_RL hf l q cs hq h2⟩
 | .iface _ l,t,v,h,r=>by
  simp only[SV.inst]at h
  obtain⟨q,hq,h⟩:=cI h;cases h
  simp only[SV.R]at *
  obtain⟨cs,h1,h2⟩:=r
  exact⟨cs,h1,SV.inst_RL hf l q cs hq h2⟩
 | .func fn a c,t,v,h,r=>by
  simp only[SV.inst]at h
  obtain⟨q,hq,h⟩:=cI h
  obtain⟨p,hp,h⟩:=cI h;cases h
  simp only[SV.R]at *
  obtain⟨fs,cs,h1,h2,h3⟩:=r
  exact⟨fs,cs,h1,SV.inst_RL hf a q fs hq h2,SV.inst_RL hf c p cs hp h3⟩
theorem SV.inst_RL (hf:∀ j i b,f j=some i→α j=some b→β i=some b):∀ (l m:List SV) (vs:List Value),SV.instL es f l=some m→SV.RL G (fJ G ρ es) α l vs→SV.RL G ρ β m vs
 |[],m,vs,h,r=>by simp only[SV.instL]at h;cases h;simpa [SV.RL]using r
 |s::l,m,vs,h,r=>by
  simp only[SV.instL]at h
  obtain⟨q,hq,h⟩:=cI h
  obtain⟨p,hp,h⟩:=cI h;cases h
  simp only[SV.RL]at *
  obtain⟨v,vs',h1,h2,h3⟩:=r
  exact⟨v,vs',h1,SV.inst_R hf s q v hq h2,SV.inst_RL hf l p vs' hp h3⟩
end
end
structure FunS where
 args:List SV
 H:aR
 b:B
 s1:SV
 H1:aR
 s2:SV
 H2:aR
def aAB (P:Program) (G:Nat→List Int→Int) (gb:dT) (f:FuncId) (F:FunS) (ρ:Nat→Int):Prop:=
 ∀ α w vals,RelW G ρ (bX gb) α F.H w→SV.RL G ρ α F.args vals→
  dM P f∧Calls P f vals.toArray w (fun e w'=>∃ v α' r,F.b.den G ρ=r∧e = .returned v∧SV.R G ρ α' (if r then F.s1 else F.s2) v∧RelW G ρ (bX gb) α' (if r then F.H1 else F.H2) w'∧Ext F.H.length F.H (if r then F.H1 else F.H2) α α' w w')
def bDG (gl:List (Nat × Nat)) (F:FunS) (r:SV × aR):Res SV:=
 match St.diffG 100000 F.H.length gl ⟨[r.1],r.2⟩ ⟨[F.s1],F.H1⟩with
 |some L => .ok (.tuple [.agg L,.bool (.lit true)])
 |none=>match St.diffG 100000 F.H.length gl ⟨[r.1],r.2⟩ ⟨[F.s2],F.H2⟩with
  |some L => .ok (.tuple [.agg L,.bool (.lit false)])
  |none => .fail 180
def aAj (P:Program) (X:Ctx) (gb:dT) (ct:aZ) (lp:eW) (n:Nat) (f:FuncId) (F:FunS):Res SV:=
 if decide (YB≤f) then .fail 141 else (fG P X gb ct (aM8 P X gb ct lp n) f F.args F.H).bind (bDG (bX gb) F)
def iP (G:Nat→List Int→Int) (ρ:Nat→Int) (b:B):SV→Prop
 | .tuple [.agg l,.bool (.lit r)]=>b.den G ρ=r∧aJ G ρ ρ l
 |_=>False
theorem pO {P:Program} {lp:eW} {G:Nat→List Int→Int} {GI:Nat→List gG→gG} {vars:List (Int × Int)} {ρ:Nat→Int} {gb:dT} {ct:aZ} {n:Nat} {f:FuncId} {F:FunS} {run:List B→Res SV}
  (hrun:∀ fs,run fs=bK G GI vars fs fun X=>aAj P X gb ct lp n f F) (hm:iY P)
  (hv:∀ i q,vars[i]?=some q→q.1≤ρ i∧ρ i≤q.2) (hg:GiOk G GI)
  (hct:∀ X:Ctx,X.Ok ρ→X.G=G→eO P X ρ gb ct) (hlp:∀ X:Ctx,X.Ok ρ→X.G=G→∀ fn c,P.funcs[f]?=some fn→fn.body=some c→lB P X ρ (bX gb) lp c) (hfl:gK gb=true)
  (hgood:jH run G ρ (iP G ρ F.b) []):aAB P G gb f F ρ:=by
 intro α w vals hW hv'
 obtain⟨fs,s,h1,h2,h3⟩:=hgood (fun b hb=>by cases hb)
 rw[hrun,jV]at h2
 have hX:=jP (show Ctx.Ok ⟨G,GI,vars,fs⟩ ρ from⟨hv,h1,hg⟩)
 unfold aAj at h2
 split at h2
 ·cases h2
 rename_i hY
 simp only[decide_eq_true_eq,Nat.not_le]at hY
 obtain⟨r,q1,q2⟩:=Res.bind_ok h2
 obtain⟨s0,σ'⟩:=r
 obtain⟨hk,hc⟩:=qW hX (hct _ hX rfl) hfl hm hY (hlp _ hX rfl) q1 α w vals hW hv'
 refine⟨hk,hc.mono ?_⟩
 rintro e w' ⟨v,α',rfl,r1,r2,x1⟩
 have fin:∀ (r:Bool) (L:List SV),St.diffG 100000 F.H.length (bX gb) ⟨[s0],σ'⟩ ⟨[if r then F.s1 else F.s2],if r then F.H1 else F.H2⟩=some L→F.b.den G ρ=r∧aJ G ρ ρ L→∃ v' α' r,F.b.den G ρ=r∧Ending.returned v = .returned v'∧SV.R G ρ α' (if r then F.s1 else F.s2) v'∧RelW G ρ (bX gb) α' (if r then F.H1 else F.H2) w'∧Ext F.H.length F.H (if r then F.H1 else F.H2) α α' w w':=by
  intro r L hL ⟨g1,g2⟩
  have hst:RelSt 0 ⟨G,GI,vars,fs⟩ ρ (bX gb) α' ⟨[s0],σ'⟩ { tmps:=#[v],defers:=[] } w':=⟨bG r1 bN,gW.nil (Nat.zero_le _),r2⟩
  obtain⟨α2,z1,z2⟩:=St.diffG_rel (X:=⟨G,GI,vars,fs⟩) (X':=⟨G,GI,vars,fs⟩) (G:=G) rfl rfl (fun _ _=>rfl) hL g2 hst
  have z3:=z1.tmps
  simp only[SV.RL]at z3
  obtain⟨u,us,e1,z4,_⟩:=z3
  have e2:v=u:=(List.cons.inj e1).1
  subst e2
  exact⟨v,α2,r,g1,rfl,z4,z1.mem,z2 _ _ _ _ (fun id b e=>(hW.dom id b e).1) (Nat.le_refl _) (Nat.le_refl _) x1⟩
 unfold bDG at q2
 split at q2
 ·rename_i L hL
  cases q2
  simp only[iP]at h3
  exact fin true L hL h3
 ·split at q2
  ·rename_i L hL
   cases q2
   simp only[iP]at h3
   exact fin false L hL h3
  ·cases q2
end Sx
namespace Sx
open Go Go.RowKit
theorem aAD:∀ {l:List (Int × Int)} {xs:List Int},eG l xs→l.length=xs.length
 |[],[],_=>rfl
 |p::l,x::xs,h=>by simp [aAD h.2]
 |[],_::_,h=>by simp [eG]at h
 |_::_,[],h=>by simp [eG]at h
theorem pQ {l:List (Int × Int)} {xs ls:List Int} (h:eG l xs):∀ i q,l[i]?=some q→q.1≤bT (xs++ls) i∧bT (xs++ls) i≤q.2:=by
 intro i q hq
 have hi:i<xs.length:=by rw[←aAD h];exact(List.getElem?_eq_some_iff.1 hq).1
 have:=bL h i q hq
 unfold bT at this ⊢
 simpa [List.getD,List.getElem?_append_left hi]using this
theorem eD {G:Nat→List Int→Int} {ρ:Nat→Int} (es:List E):fJ G ρ es=bT (es.map (E.den G ρ)):=by
 funext i
 unfold fJ bT
 simp only[List.getD,List.getElem?_map]
 cases es[i]?<;>simp [E.den]
def oF (es:List E) (f:Nat→Option Nat):iC→Option iC
 |none=>some none
 |some (cs,T)=>gQ (SV.instL es f cs) fun cs=>some (some (cs,T))
def mO (ren:Ren) (H:aR) (i:Nat):Option Nat:=(List.range H.length).find? fun j=>rn ren j i && (match H[j]? with|some (some (_,T)) => !vw T|_=>false)
def qB (es:List E) (f:Nat→Option Nat) (inv:Nat→Option Nat) (H':aR):Nat→aR→Option aR
 |_,[]=>some []
 |k,x::σ=>gQ (match inv k with|some j=>oF es f (H'.getD j none)|none=>some x) fun y=>gQ (qB es f inv H' (k+1) σ) fun τ=>some (y::τ)
def qV (es:List E) (f:Nat→Option Nat):aR→Option aR
 |[]=>some []
 |x::H=>gQ (oF es f x) fun y=>gQ (qV es f H) fun τ=>some (y::τ)
def aAS (ren:Ren) (h s:Nat) (j:Nat):Option Nat:=if j<h then (match ren[j]? with|some r=>r|none=>none) else some (s+(j-h))
def aJr (H H':aR):Bool:=(List.range H.length).all fun j=>match H'[j]? with
 |some (some (_,T)) => !vw T ||(match H[j]? with|some (some (_,U))=>vw U|_=>false)
 |_=>true
theorem aJx {H H':aR} (h:aJr H H'=true) {j:Nat} {p q:List SV × TypeId} (hj:H'[j]?=some (some p)) (hq:H[j]?=some (some q)) (hv:vw q.2=false):vw p.2=false:=by
 have:=List.all_eq_true.1 h j (by simpa using (List.getElem?_eq_some_iff.1 hq).1)
 rw[hj,hq]at this
 simpa [hv]using this
def nI (gb:dT) (vars:List (Int × Int)) (nl:Nat) (pre:B) (F:FunS):Ctx→List SV→aR→Res (SV × aR):=fun X args σ=>
 dH (aB9 gb.length ⟨args,σ⟩ ⟨F.args,F.H⟩) fun ren=>
  match St.diff 0 gb.length (bX gb) ren ⟨args,σ⟩ ⟨F.args,F.H⟩with
  |some L=>dH (zV (vars.length+nl) L) fun es=>
   if mF X es L && lR X vars (es.take vars.length) then
    (Res.testW X (pre.subst es)).bind fun p=>if p then (Res.testW X (F.b.subst es)).bind fun r=>
      match SV.inst es (aAS ren F.H.length σ.length) (if r then F.s1 else F.s2),qB es (aAS ren F.H.length σ.length) (mO ren F.H) (if r then F.H1 else F.H2) 0 σ,qV es (aAS ren F.H.length σ.length) ((if r then F.H1 else F.H2).drop F.H.length)with
      |some s,some τ,some ν=>if lC 0 ν && aJr F.H (if r then F.H1 else F.H2) then .ok (s,τ++ν) else .fail 189
      |_,_,_ => .fail 190
     else .fail 191
   else .fail 192
  |none => .fail 193
section
variable {es:List E} {f:Nat→Option Nat}
theorem xJ {inv:Nat→Option Nat} {H':aR}:∀ {σ τ:aR} {k:Nat},qB es f inv H' k σ=some τ→τ.length=σ.length∧∀ i x,σ[i]?=some x→∃ y,τ[i]?=some y∧((inv (k+i)=none∧y=x)∨∃ j,inv (k+i)=some j∧oF es f (H'.getD j none)=some y)
 |[],τ,k,h=>by simp only[qB]at h;cases h;exact⟨rfl,fun i x e=>by simp at e⟩
 |z::σ,τ,k,h=>by
  simp only[qB]at h
  obtain⟨y,hy,h⟩:=cI h
  obtain⟨τ',ht,h⟩:=cI h
  cases h
  obtain⟨h1,h2⟩:=xJ ht
  refine⟨by simp [h1],?_⟩
  intro i x e
  cases i with
  |zero=>
   simp only[List.getElem?_cons_zero,Option.some.injEq]at e
   subst e
   refine⟨y,rfl,?_⟩
   split at hy
   ·rename_i j hj;exact .inr ⟨j,hj,hy⟩
   ·rename_i hj;cases hy;exact .inl ⟨hj,rfl⟩
  |succ i=>
   obtain⟨y',h3,h4⟩:=h2 i x (by simpa using e)
   exact⟨y',by simpa using h3,by rw[show k+(i+1)=k+1+i by omega];exact h4⟩
theorem xX:∀ {H ν:aR},qV es f H=some ν→ν.length=H.length∧∀ (i:Nat) (y:iC),ν[i]?=some y→∃ x,H[i]?=some x∧oF es f x=some y
 |[],ν,h=>by simp only[qV]at h;cases h;exact⟨rfl,fun i y e=>by simp at e⟩
 |z::H,ν,h=>by
  simp only[qV]at h
  obtain⟨y,hy,h⟩:=cI h
  obtain⟨τ',ht,h⟩:=cI h
  cases h
  obtain⟨h1,h2⟩:=xX ht
  refine⟨by simp [h1],?_⟩
  intro i x e
  cases i with
  |zero=>
   simp only[List.getElem?_cons_zero,Option.some.injEq]at e
   subst e
   exact⟨z,rfl,hy⟩
  |succ i=>
   obtain⟨x',h3,h4⟩:=h2 i x (by simpa using e)
   exact⟨x',by simpa using h3,h4⟩
theorem sX {x y:iC} (h:oF es f x=some y) {q:List SV × TypeId} (hy:y=some q):∃ p,x=some p∧p.2=q.2:=by
 unfold oF at h
 split at h
 ·cases h;cases hy
 ·obtain⟨c,_,h⟩:=cI h;cases h;cases hy
  exact⟨_,rfl,rfl⟩
end
theorem mY {P:Program} {X:Ctx} {ρ:Nat→Int} {gb:dT} {f:FuncId} {vars:List (Int × Int)} {nl:Nat} {pre:B} {F:FunS} (hX:X.Ok ρ)
  (hfun:∀ xs ls,eG vars xs→ls.length=nl→pre.den X.G (bT (xs++ls))=true→aAB P X.G gb f F (bT (xs++ls))):aBy P X ρ gb f (nI gb vars nl pre F):=by
 intro args σ s σ' h α w vals hW hv
 unfold nI at h
 rw[dJ]at h
 obtain⟨ren,hren⟩:∃ ren,ren=aB9 gb.length ⟨args,σ⟩ ⟨F.args,F.H⟩:=⟨_,rfl⟩
 rw[←hren]at h
 split at h
 case h_2=>cases h
 rename_i L hL
 rw[dJ]at h
 obtain⟨es,hes⟩:∃ es,es=zV (vars.length+nl) L:=⟨_,rfl⟩
 rw[←hes]at h
 split at h
 case isFalse=>cases h
 rename_i hg
 simp only[Bool.and_eq_true]at hg
 replace h:=Res.bind_ok h;obtain⟨p,hp,h⟩:=h
 have hp:=Res.testW_ok hX hp
 cases p
 case false=>simp at h
 simp only[if_true]at h
 replace h:=Res.bind_ok h;obtain⟨r0,hr0,h⟩:=h
 have hr0:=Res.testW_ok hX hr0
 split at h
 case h_2=>cases h
 rename_i s1 τ ν hs hτ hν
 cases hgd:lC 0 ν && aJr F.H (if r0=true then F.H1 else F.H2)
 case false=>rw[hgd]at h;simp at h
 rw[hgd,if_pos rfl]at h
 rw[Bool.and_eq_true]at hgd
 obtain⟨hvl,hkv⟩:=hgd
 cases h
 have hag:=nN hX hg.1
 have hwi:=oX hX hg.2
 rw[B.subst_den,eD]at hp hr0
 have hesl:es.length=vars.length+nl:=by rw[hes];simp [zV]
 have hcat:es.map (E.den X.G ρ)=(es.take vars.length).map (E.den X.G ρ)++(es.drop vars.length).map (E.den X.G ρ):=by rw[←List.map_append,List.take_append_drop]
 have hp':=hp
 rw[hcat]at hp'
 have hF:=hfun _ _ hwi (by simp [hesl]) hp'
 rw[←hcat]at hF
 rw[←eD]at hF hr0
 unfold St.diff at hL
 split at hL
 case isFalse=>cases hL
 rename_i hrk
 have hR:=aAK hrk
 split at hL
 case h_2=>cases hL
 rename_i x1 hx1
 split at hL
 case h_2=>cases hL
 rename_i y1 hy1
 cases hL
 obtain⟨a1,a2⟩:=aJ.split (SV.diffL_pairs _ _ x1 hx1) hag
 have hlow:eI 0 ρ (fJ X.G ρ es):=fun i hi=>by omega
 have hW0:=aR.diff_rel hlow hR hy1 a2 hW
 have hv0:=SV.diffL_R hlow _ _ x1 hx1 a1 _ hv
 have hlen:ren.length=F.H.length:=aR.diff_length _ _ _ hy1
 obtain⟨hk,hc⟩:=hF _ w vals hW0 hv0
 refine⟨hk,hc.mono ?_⟩
 rintro e w' ⟨v,α1,r,hr,rfl,rv,rw1,x⟩
 rw[hr0]at hr
 subst hr
 obtain⟨H',hH'⟩:∃ H',H'=(if r0=true then F.H1 else F.H2):=⟨_,rfl⟩
 obtain⟨S',hS'⟩:∃ S',S'=(if r0=true then F.s1 else F.s2):=⟨_,rfl⟩
 rw[←hH']at hτ hν rw1 x hkv
 rw[←hS']at hs rv
 
 have visF:∀ j,iZ F.H j→∀ i,ren[j]?=some (some i)→iZ σ i:=fun j hv i hi=>aR.diff_vis hy1 a2 hv hi
 have inv_some:∀ i j,mO ren F.H i=some j→ren[j]?=some (some i)∧iZ F.H j∧j<F.H.length:=by
  intro i j hj
  have h1:=List.find?_some hj
  simp only[Bool.and_eq_true]at h1
  obtain⟨h1,h2⟩:=h1
  unfold rn at h1
  split at h1
  ·rename_i k hk
   simp only[beq_iff_eq]at h1
   subst h1
   split at h2
   ·rename_i q T hq;exact⟨hk,⟨_,hq,by simpa using h2⟩,(List.getElem?_eq_some_iff.1 hq).1⟩
   ·cases h2
  ·cases h1
 have inv_none:∀ i j,mO ren F.H i=none→ren[j]?=some (some i)→iZ F.H j→False:=by
  intro i j hj hi ⟨q,hq,hv⟩
  have:=List.find?_eq_none.1 hj j (by simpa using (List.getElem?_eq_some_iff.1 hq).1)
  apply this
  simp only[Bool.and_eq_true]
  exact⟨by unfold rn;rw[hi];simp,by rw[hq];simpa using hv⟩
 have low1:∀ j b,j<F.H.length→α1 j=some b→iK ren α j=some b:=by
  intro j b hj e
  rcases x.fresh j b e with q|⟨q,_⟩
  ·exact q
  ·omega
 have renA_some:∀ j b,iK ren α j=some b→b.nil=false→∃ i,ren[j]?=some (some i)∧α i=some b:=by
  intro j b e hb
  unfold iK at e
  split at e
  ·rename_i i hi;exact⟨i,hi,e⟩
  ·cases e;cases hb
  ·cases e
 let α':bA:=fun id=>if id<σ.length then α id else α1 (id-σ.length+F.H.length)
 have aO:∀ id,id<σ.length→α' id=α id:=fun id hid=>by simp [α',hid]
 have aN:∀ id,σ.length≤id→α' id=α1 (id-σ.length+F.H.length):=fun id hid=>by simp [α',Nat.not_lt.2 hid]
 have mono:∀ id b,α id=some b→α' id=some b:=fun id b e=>by rw[aO id (hW.dom id b e).1];exact e
 have hf:∀ j i b,aAS ren F.H.length σ.length j=some i→α1 j=some b→α' i=some b:=by
  intro j i b hj e
  unfold aAS at hj
  split at hj
  ·rename_i hlt
   split at hj
   ·rename_i r hr
    subst hj
    have:=low1 j b hlt e
    unfold iK at this
    rw[hr]at this
    exact mono i b this
   ·cases hj
  ·rename_i hge
   cases hj
   rw[aN _ (by omega),show σ.length+(j-F.H.length)-σ.length+F.H.length=j by omega]
   exact e
 obtain⟨t1,t2⟩:=xJ hτ
 obtain⟨n1,n2⟩:=xX hν
 have getO:∀ i y,(τ++ν)[i]?=some y→i<σ.length→(mO ren F.H i=none∧σ[i]?=some y)∨∃ j,mO ren F.H i=some j∧oF es (aAS ren F.H.length σ.length) (H'.getD j none)=some y:=by
  intro i y e hi
  rw[List.getElem?_append_left (by omega)]at e
  obtain⟨y',h1,h2⟩:=t2 i σ[i] (by simp [hi])
  rw[e]at h1;cases h1
  rw[Nat.zero_add]at h2
  rcases h2 with⟨h3,h4⟩|h2
  ·exact .inl ⟨h3,by rw[h4];simp [hi]⟩
  ·exact .inr h2
 have getN:∀ i y,(τ++ν)[i]?=some y→σ.length≤i→∃ z,H'[i-σ.length+F.H.length]?=some z∧oF es (aAS ren F.H.length σ.length) z=some y:=by
  intro i y e hi
  rw[List.getElem?_append_right (by omega),t1]at e
  obtain⟨z,h1,h2⟩:=n2 _ y e
  rw[List.getElem?_drop]at h1
  exact⟨z,by rw[Nat.add_comm];exact h1,h2⟩
 have getD_some:∀ j q,H'.getD j none=some q→H'[j]?=some (some q):=by
  intro j q e
  simp only[List.getD]at e
  cases hz:H'[j]? with
  |none=>rw[hz]at e;cases e
  |some z=>rw[hz]at e;simp only[Option.getD_some]at e;rw[e]
 
 have visO:∀ i,i<σ.length→iZ (τ++ν) i→iZ σ i∧∀ j,mO ren F.H i=some j→iZ H' j:=by
  intro i hi ⟨q,hq,hv⟩
  rcases getO i _ hq hi with⟨h1,h2⟩|⟨j,h1,h2⟩
  ·exact⟨⟨q,h2,hv⟩,fun j hj=>by rw[h1]at hj;cases hj⟩
  ·obtain⟨i1,i2,_⟩:=inv_some i j h1
   refine⟨visF j i2 i i1,fun k hk=>?_⟩
   rw[h1]at hk;cases hk
   obtain⟨q',hq',hT⟩:=sX h2 rfl
   exact⟨q',getD_some j q' hq',by rw[hT];exact hv⟩
 have visN:∀ i,σ.length≤i→iZ (τ++ν) i→iZ H' (i-σ.length+F.H.length):=by
  intro i hi ⟨q,hq,hv⟩
  obtain⟨z,h1,h2⟩:=getN i _ hq hi
  obtain⟨q',hq',hT⟩:=sX h2 rfl
  subst hq'
  exact⟨q',h1,by rw[hT];exact hv⟩
 have oldblk:∀ i b,α i=some b→b.nil=false→b.blk<w.heap.size:=by
  intro i b e hb
  rcases(hW.dom i b e).2 with q|q
  ·rw[hb]at q;cases q
  ·exact q
 have oldnew:∀ i k b c,i<σ.length→F.H.length≤k→α i=some b→α1 k=some c→b.nil=false→c.nil=false→b.blk=c.blk→iZ (τ++ν) i→iZ H' k→False:=by
  intro i k b c hi hk ei ek hb hc hbc vi vk
  rcases x.fresh k c ek with q|⟨_,q|q|⟨j0,c0,q1,q2,q3,q4⟩⟩
  ·obtain⟨z,hz,_⟩:=renA_some k c q hc
   have:=(List.getElem?_eq_some_iff.1 hz).1
   omega
  ·rw[hc]at q;cases q
  ·have:=oldblk i b ei hb;omega
  ·obtain⟨i0,hi0,e0⟩:=renA_some j0 c0 q1 q2
   obtain⟨v1,v2⟩:=visO i hi vi
   have:i0=i:=hW.inj i0 i c0 b e0 ei q2 hb (by omega) (visF j0 q4 i0 hi0) v1
   subst this
   have hinv:mO ren F.H i0=some j0:=by
    cases hz:mO ren F.H i0 with
    |none=>exact(inv_none i0 j0 hz hi0 q4).elim
    |some j1=>
     obtain⟨z1,⟨p1,z2,_⟩,_⟩:=inv_some i0 j1 hz
     obtain⟨p2,z3,_⟩:=q4
     rw[hR.inj j1 j0 i0 p1 p2 z1 hi0 z2 z3]
   have vj:=v2 j0 hinv
   have:=rw1.inj j0 k c0 c (x.mono _ _ q1) ek q2 hc q3 vj vk
   have:j0<F.H.length:=(hW0.dom j0 c0 q1).1
   omega
 refine⟨v,α',rfl,SV.inst_R hf _ _ v hs rv,⟨?_,?_,?_,fun p hp=>mono _ _ (hW.glob p hp),?_⟩,⟨x.os,x.tape,x.output,x.size,by simp [t1],mono,?_,?_,?_⟩⟩
 ·intro id b e
  by_cases hid:id<σ.length
  ·rw[aO id hid]at e
   exact⟨by simp;omega,(hW.dom id b e).2.imp (fun z=>z) (fun z=>Nat.lt_of_lt_of_le z x.size)⟩
  ·rw[aN id (by omega)]at e
   obtain⟨h1,h2⟩:=rw1.dom _ b e
   refine⟨?_,h2⟩
   simp only[List.length_append,t1,n1,List.length_drop]
   omega
 ·intro i j b c ei ej hb hc hbc vi vj
  by_cases hi:i<σ.length<;>by_cases hj:j<σ.length
  ·rw[aO i hi]at ei;rw[aO j hj]at ej
   exact hW.inj i j b c ei ej hb hc hbc (visO i hi vi).1 (visO j hj vj).1
  ·rw[aO i hi]at ei;rw[aN j (by omega)]at ej
   exact(oldnew i _ b c hi (by omega) ei ej hb hc hbc vi (visN j (by omega) vj)).elim
  ·rw[aN i (by omega)]at ei;rw[aO j hj]at ej
   exact(oldnew j _ c b hj (by omega) ej ei hc hb hbc.symm vj (visN i (by omega) vi)).elim
  ·rw[aN i (by omega)]at ei;rw[aN j (by omega)]at ej
   have:=rw1.inj _ _ b c ei ej hb hc hbc (visN i (by omega) vi) (visN j (by omega) vj)
   omega
 ·intro id cs T e
  by_cases hid:id<σ.length
  ·rcases getO id _ e hid with⟨h1,h2⟩|⟨j,h1,h2⟩
   ·obtain⟨b,vs,g1,g2,g3⟩:=hW.blk id cs T h2
    refine⟨b,vs,mono _ _ g1,g2.of_eq fun hb=>x.hid b.blk (oldblk id b g1 hb) ?_,SV.RL_mono mono cs vs g3⟩
    intro j c ej hc hck vj
    obtain⟨i0,hi0,e0⟩:=renA_some j c ej hc
    have:i0=id:=hW.only h2 g1 e0 hb hc hck (visF j vj i0 hi0)
    subst this
    exact inv_none i0 j h1 hi0 vj
   ·obtain⟨i1,i2,i3⟩:=inv_some id j h1
    unfold oF at h2
    split at h2
    ·cases h2
    ·rename_i ds U hz
     obtain⟨c,hc,h2⟩:=cI h2
     cases h2
     obtain⟨b,vs,g1,g2,g3⟩:=rw1.blk j ds _ (getD_some j _ hz)
     have e1:=low1 j b i3 g1
     unfold iK at e1
     rw[i1]at e1
     exact⟨b,vs,mono _ _ e1,g2,SV.inst_RL hf ds cs vs hc g3⟩
  ·obtain⟨z,h1,h2⟩:=getN id _ e (by omega)
   unfold oF at h2
   split at h2
   ·cases h2
   ·rename_i ds U
    obtain⟨c,hc,h2⟩:=cI h2
    cases h2
    obtain⟨b,vs,g1,g2,g3⟩:=rw1.blk _ ds _ h1
    exact⟨b,vs,by rw[aN id (by omega)];exact g1,g2,SV.inst_RL hf ds cs vs hc g3⟩
 ·intro id cs T b e hT ei hb j c ej hc hk vj
  have hid:id<σ.length:=by
   rcases Nat.lt_or_ge id σ.length with q|q
   ·exact q
   ·rw[List.getElem?_append_right (by omega)]at e
    have:=pY hvl e (Nat.zero_le _)
    rw[hT]at this;cases this
  have e2:σ[id]?=some (some (cs,T)):=by
   rcases getO id _ e hid with⟨h1,h2⟩|⟨i,h1,h2⟩
   ·exact h2
   ·exfalso
    obtain⟨i1,i2,i3⟩:=inv_some id i h1
    obtain⟨p,hp,hpT⟩:=sX h2 rfl
    simp only at hpT
    have hz:=getD_some i p hp
    obtain⟨q,hq,hv⟩:=i2
    have:=aJx hkv hz hq hv
    rw[hpT,hT]at this;cases this
  rw[aO id hid]at ei
  by_cases hj:j<σ.length
  ·rw[aO j hj]at ej
   exact hW.view id cs T b e2 hT ei hb j c ej hc hk (visO j hj vj).1
  ·rw[aN j (by omega)]at ej
   have vk:=visN j (by omega) vj
   rcases x.fresh _ c ej with q|⟨_,q|q|⟨j0,c0,q1,q2,q3,q4⟩⟩
   ·obtain⟨z,hz,_⟩:=renA_some _ c q hc
    have:=(List.getElem?_eq_some_iff.1 hz).1
    omega
   ·rw[hc]at q;cases q
   ·have:=oldblk id b ei hb;omega
   ·obtain⟨i0,hi0,e0⟩:=renA_some j0 c0 q1 q2
    exact hW.view id cs T b e2 hT ei hb i0 c0 e0 q2 (by omega) (visF j0 q4 i0 hi0)
 ·intro id b e
  by_cases hid:id<σ.length
  ·rw[aO id hid]at e;exact .inl e
  ·rw[aN id (by omega)]at e
   refine .inr ⟨by omega,?_⟩
   rcases x.fresh _ b e with q|⟨_,q|q|⟨j0,c0,q1,q2,q3,q4⟩⟩
   ·cases hb:b.nil
    ·obtain⟨z,hz,_⟩:=renA_some _ b q hb
     have:=(List.getElem?_eq_some_iff.1 hz).1
     omega
    ·exact .inl rfl
   ·exact .inl q
   ·exact .inr (.inl q)
   ·obtain⟨i0,hi0,e0⟩:=renA_some j0 c0 q1 q2
    exact .inr (.inr ⟨i0,c0,e0,q2,q3,visF j0 q4 i0 hi0⟩)
 ·intro k hk hh
  refine x.hid k hk ?_
  intro j c ej hc hck vj
  obtain⟨i0,hi0,e0⟩:=renA_some j c ej hc
  exact hh i0 c e0 hc hck (visF j vj i0 hi0)
 ·intro id b e hv'
  exact(visO id (hW.dom id b e).1 hv').1
def iE (sh:List CK) (C n:E) (T:TypeId):iC:=some ([.vec sh C n false],bF+T)
def fT (C:E):E := .app 90 (.cons C .nil)
theorem iX {G:Nat→List Int→Int} (hG:aMp G) (L:List (List Int)) (r:List Int):G 91 (Lc.enc L::r)=Lc.enc (L++[r]):=by
 rw[hG 91 _ (by decide) (by decide)]
 show Lc.enc (Lc.dec (Lc.enc L)++[r])=_
 rw[Lc.dec_enc]
theorem iB {n:Nat} {xs l m:List Int} (h:n≤xs.length):eI n (bT (xs++l)) (bT (xs++m)):=by
 intro i hi
 unfold bT
 simp only[List.getD,List.getElem?_append_left (show i<xs.length by omega)]
theorem kE {n:Nat} {xs l:List Int} (h:n≤xs.length):eI n (bT (xs++l)) (bT xs):=by
 have:=iB (l:=l) (m:=[]) h
 rwa [List.append_nil]at this
end Sx
end Go.Proofs.Ytkpdiehbaiepaaa
