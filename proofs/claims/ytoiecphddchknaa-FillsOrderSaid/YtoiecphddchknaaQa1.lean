/- What is proved: plain laws of numbers,and what stands on them. No condition. -/
set_option linter.unusedSimpArgs false
set_option linter.unusedVariables false
namespace Ed
structure D where
 x:Int
 y:Int
def ok (d:D):Prop := -671088640≤d.x∧d.x≤671088640 ∧ -671088640≤d.y∧d.y≤671088640
instance (d:D):Decidable (ok d):=by unfold ok;infer_instance
def cross (a b p:D):Int:=(b.x-a.x)*(p.y-a.y)-(b.y-a.y)*(p.x-a.x)
def sg (x:Int):Int:=if x<0 then -1 else if 0<x then 1 else 0
def or3 (a b c:Int):Int:=if a≠0 then a else if b≠0 then b else c
def side (a b p:D):Int:=or3 (sg (cross a b p)) (-(sg (b.y-a.y))) (sg (b.x-a.x))
def area (a b c:D):Int:=if ok a∧ok b∧ok c then cross a b c else 0
def claim (a b c p:D):Int:=
 if sg (area a b c)=0∨¬ok p then 0
 else if side b c p=sg (area a b c)∧side c a p=sg (area a b c)∧side a b p=sg (area a b c) then sg (area a b c) else 0
theorem sg_cases (x:Int):(sg x = -1∧x<0)∨(sg x=0∧x=0)∨(sg x=1∧0<x):=by
 unfold sg;split
 ·left;omega
 ·split<;>omega
theorem cross_sum (a b c p:D):cross b c p+cross c a p+cross a b p=cross a b c:=by unfold cross;grind
theorem rL (a b p:D) (h:side a b p=1):0≤cross a b p:=by
 revert h;unfold side or3
 rcases sg_cases (cross a b p)with⟨h,_⟩|⟨h,_⟩|⟨h,_⟩<;>simp [h]<;>omega
theorem rR (a b p:D) (h:side a b p = -1):cross a b p≤0:=by
 revert h;unfold side or3
 rcases sg_cases (cross a b p)with⟨h,_⟩|⟨h,_⟩|⟨h,_⟩<;>simp [h]<;>omega
def M:Int:=8589934592
def E (a b p:D):Int:=M*M*cross a b p-M*(b.y-a.y)+(b.x-a.x)
def F (s t u:Int):Int:=if s=1∧t=1∧u=1 then 1 else if s = -1∧t = -1∧u = -1 then -1 else 0
theorem pm {s:Int} (h:s = -1∨s=0∨s=1) (z:¬s=0):s = -1∨s=1:=by omega
end Ed
namespace Go.Proofs.Ytoiecphddchknaa
open Go Ed
def sd (fx fy wx wy px py:Int):Int:=or3 (sg (wx*(py-fy)-wy*(px-fx))) (-(sg wy)) (sg wx)
def fB (a b c p:D):Prop:=(ok a∧ok b∧ok c)∧ok p
instance (a b c p:D):Decidable (fB a b c p):=by unfold fB;infer_instance
def wt (a b c p:D) (j:Nat):Int:=if fB a b c p then (if j=0 then cross b c p else if j=1 then cross c a p else cross a b p) else 0
theorem aBY (x:Int) : -1≤sg x∧sg x≤1:=by rcases sg_cases x with⟨h,_⟩|⟨h,_⟩|⟨h,_⟩<;>omega
theorem aPW (fx fy wx wy px py:Int) : -1≤sd fx fy wx wy px py∧sd fx fy wx wy px py≤1:=by
 unfold sd or3
 have:=aBY (wx*(py-fy)-wy*(px-fx));have:=aBY wy;have:=aBY wx
 split<;>(try split)<;>omega
theorem aJu (a b c p:D) : -1≤claim a b c p∧claim a b c p≤1:=by
 have:=aBY (area a b c)
 unfold claim;split<;>(try split)<;>omega
theorem rX (x y b c:Int) (hb:0≤b) (h1 : -b≤x) (h2:x≤b) (h3 : -c≤y) (h4:y≤c) : -(b*c)≤x*y∧x*y≤b*c:=by
 have hc:0≤c:=by omega
 rcases Int.le_total 0 x with hx|hx<;>rcases Int.le_total 0 y with hy|hy
 ·have:=Int.mul_le_mul h2 h4 hy hb;have:=Int.mul_nonneg hx hy;omega
 ·have:=Int.mul_le_mul h2 (show -y≤c by omega) (by omega) hb;have e:x * -y = -(x*y):=by grind
  have:=Int.mul_nonneg hx (show 0 ≤ -y by omega);omega
 ·have:=Int.mul_le_mul (show -x≤b by omega) h4 hy hb;have e : -x*y = -(x*y):=by grind
  have:=Int.mul_nonneg (show 0 ≤ -x by omega) hy;omega
 ·have:=Int.mul_le_mul (show -x≤b by omega) (show -y≤c by omega) (by omega) hb;have e : -x * -y=x*y:=by grind
  have:=Int.mul_nonneg (show 0 ≤ -x by omega) (show 0 ≤ -y by omega);omega
theorem qN (a b p:D) (ha:ok a) (hb:ok b) (hp:ok p) : -3602879701896396800≤cross a b p∧cross a b p≤3602879701896396800:=by
 unfold ok at *
 unfold cross
 have h1:=rX (b.x-a.x) (p.y-a.y) 1342177280 1342177280 (by omega) (by omega) (by omega) (by omega) (by omega)
 have h2:=rX (b.y-a.y) (p.x-a.x) 1342177280 1342177280 (by omega) (by omega) (by omega) (by omega) (by omega)
 omega
theorem aMw (a b c:D) : -3602879701896396800≤area a b c∧area a b c≤3602879701896396800:=by
 unfold area;split
 ·rename_i h;exact qN a b c h.1 h.2.1 h.2.2
 ·omega
theorem aP5 (a b c p:D) (j:Nat) : -3602879701896396800≤wt a b c p j∧wt a b c p j≤3602879701896396800:=by
 unfold wt;split
 ·rename_i h
  obtain⟨⟨h1,h2,h3⟩,h4⟩:=h
  split
  ·exact qN _ _ _ h2 h3 h4
  ·split
   ·exact qN _ _ _ h3 h1 h4
   ·exact qN _ _ _ h1 h2 h4
 ·omega
theorem eC (a b c p:D):claim a b c p=if ¬(ok a∧ok b∧ok c) then 0 else if sg (cross a b c)=0 then 0 else if ¬ok p then 0 else
  if sd b.x b.y (c.x-b.x) (c.y-b.y) p.x p.y≠sg (cross a b c) then 0 else if sd c.x c.y (a.x-c.x) (a.y-c.y) p.x p.y≠sg (cross a b c) then 0 else
  if sd a.x a.y (b.x-a.x) (b.y-a.y) p.x p.y≠sg (cross a b c) then 0 else sg (cross a b c):=by
 have e:∀ a b:D,sd a.x a.y (b.x-a.x) (b.y-a.y) p.x p.y=side a b p:=fun _ _=>rfl
 rw[e,e,e]
 have z:sg 0=0:=rfl
 unfold claim area
 by_cases h:ok a∧ok b∧ok c
 ·simp only[h,and_self,if_true,not_true_eq_false,if_false]
  generalize sg (cross a b c)=s
  by_cases h0:s=0
  ·simp [h0]
  ·by_cases hp:ok p
   ·by_cases g1:side b c p=s
    ·by_cases g2:side c a p=s
     ·by_cases g3:side a b p=s
      ·simp [h0,hp,g1,g2,g3]
      ·simp [h0,hp,g1,g2,g3]
     ·simp [h0,hp,g1,g2]
    ·simp [h0,hp,g1]
   ·simp [h0,hp]
 ·simp [h,z]
theorem aGb {x y:Int} (h:x≤y):sg x≤sg y:=by
 rcases sg_cases x with⟨a,_⟩|⟨a,_⟩|⟨a,_⟩<;>rcases sg_cases y with⟨b,_⟩|⟨b,_⟩|⟨b,_⟩<;>omega
end Go.Proofs.Ytoiecphddchknaa
