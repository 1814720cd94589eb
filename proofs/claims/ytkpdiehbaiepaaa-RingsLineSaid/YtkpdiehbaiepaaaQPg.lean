/- What is proved: the nearest quotient. The conditions are the numbers' own bounds. -/
import Derived.Test.YtkpdiehbaiepaaaQNn
import Derived.Test.YtkpdiehbaiepaaaQa7
import Derived.Test.YtkpdiehbaiepaaaQg3
import Derived.Test.YtkpdiehbaiepaaaQa9
set_option linter.unusedSimpArgs false
set_option linter.unusedVariables false
namespace Go.Proofs.Ytkpdiehbaiepaaa
open Go Go.RowKit Sx Nu Wi
def aI (x0 x1 x2:Int):Int:=if x0=0 then (if x2=0 then x1 else 0-x1) else (if x2=0 then 0-x1 else x1)
theorem lT (a d:Int) (hd:0<d) (h:0≤2*a+d):0≤Fx.near a d∧Fx.near a d=(2*a+d) / (2*d):=by
 refine⟨?_,rfl⟩
 unfold Fx.near
 exact Int.ediv_nonneg h (by omega)
theorem mV (a d V:Int) (hd:0<d) (e:2*a+d=0-V) (h:0≤V):(V % (2*d)=0→0-Fx.near a d=V / (2*d))∧(V % (2*d)≠0→0-Fx.near a d=V / (2*d)+1):=by
 have m:=Int.mul_ediv_add_emod V (2*d)
 have r0:=Int.emod_nonneg V (show 2*d≠0 by omega)
 have r1:=Int.emod_lt_of_pos V (show 0<2*d by omega)
 refine⟨fun z=>?_,fun z=>?_⟩
 ·have:Fx.near a d = -(V / (2*d)):=by
   refine Fx.near_uniq _ _ _ hd ?_ ?_
   ·have q:2*(-(V / (2*d))*d) = -(2*d*(V / (2*d))):=by grind
    omega
   ·have q:2*(-(V / (2*d))*d) = -(2*d*(V / (2*d))):=by grind
    omega
  omega
 ·have:Fx.near a d = -(V / (2*d))-1:=by
   refine Fx.near_uniq _ _ _ hd ?_ ?_
   ·have q:2*((-(V / (2*d))-1)*d) = -(2*d*(V / (2*d)))-2*d:=by grind
    omega
   ·have q:2*((-(V / (2*d))-1)*d) = -(2*d*(V / (2*d)))-2*d:=by grind
    omega
  omega
theorem bJ (a d U D:Int) (hd:0<d) (hD:D=2*d) (hU:0≤U) (e:2*a+d=0-U) (hr:U.tmod D≠0):U.tdiv D+1=max (Fx.near a d) (0-Fx.near a d):=by
 subst hD
 obtain⟨w0,w1⟩:=mV a d U hd e hU
 have hl:=jE a d hd
 have hneg:Fx.near a d≤0:=(hl.2 (by omega)).2
 rw[Int.tmod_eq_emod_of_nonneg hU]at hr
 rw[Int.tdiv_eq_ediv_of_nonneg hU,←w1 hr]
 omega
theorem bH (M:Int):dg 0 M=0:=by unfold dg;rw[Int.zero_ediv];rfl
set_option maxHeartbeats 40000000 in
set_option maxRecDepth 100000 in
theorem aEV (x0 x1 x2 x3:Int) (b0:0≤x0∧x0≤1) (b1:0≤x1∧x1≤1532495540865888858358347027150309183618739122183602176) (b2:0≤x2∧x2≤1) (b3:1≤x3∧x3≤1532495540865888858358347027150309183618739122183602176) (w:World) (hw:pR GB w):dM Try.prog 139∧Calls Try.prog 139 #[.agg (.bool (!decide (x0=0))::eA x1).toArray,.agg (.bool (!decide (x2=0))::eA x3).toArray] w (fun e w'=>e = .returned (.agg (.bool (decide (2*aI x0 x1 x2+x3≤0))::eA (max (Fx.near (aI x0 x1 x2) x3) (0-Fx.near (aI x0 x1 x2) x3))).toArray)∧Below w.heap.size w w'):=by
 refine dK (dC (ρ:=bT [x0,x1,x2,x3]) (run:=aY Try.prog) (fun _=>rfl) fits (bL ⟨b0,b1,b2,b3,trivial⟩) dY (fun X hX hG=>gD hX hG) rfl rfl bV ?_ w hw)
 refine aG (.cmp .ne (.var 2) (.lit 0)) (fun h0=>?_) (fun h0=>?_)
 ·skip
  refine aG (.cmp .eq (.var 0) (.lit 0)) (fun h1=>?_) (fun h1=>?_)
  rotate_left
  ·skip
   refine aE aGh ?_
   refine⟨rfl,?_⟩;simp only[nn,G,wG,nq]at *;have hA:aI x0 x1 x2=x1∨aI x0 x1 x2=0-x1:=(by unfold aI;(repeat' split)<;>omega);have hv:aI x0 x1 x2=x1:=(by unfold aI;(repeat' split)<;>omega);have hu:0<2*(x1)+x3:=(by omega);obtain⟨u0,u1⟩:=lT (x1) x3 (by omega) (by omega);have ed:(x3+x3)=2*x3:=(by omega);have eu:((x1+x1)+x3)=2*(x1)+x3:=(by omega);have eq:(Int.tdiv ((x1+x1)+x3) (x3+x3))=max (Fx.near (x1) x3) (0-Fx.near (x1) x3):=(by rw[ed,eu,Int.tdiv_eq_ediv_of_nonneg (by omega),←u1];omega);have eb:decide (2*aI x0 x1 x2+x3≤0)=false:=decide_eq_false (by rw[hv];omega);have es:(decide (x0=0))=false:=(by simp [*]);rw[eb,hv,←eq,←es];rfl
  refine aG (.cmp .lt (.op .add (.var 1) (.var 1)) (.var 3)) (fun h2=>?_) (fun h2=>?_)
  ·skip
   refine aG (.cmp .le (.lit 0) (.op .sub (.var 3) (.op .add (.var 1) (.var 1)))) (fun h3=>?_) (fun h3=>?_)
   ·skip
    refine aE aJJ ?_
    refine⟨rfl,?_⟩;simp only[nn,G,wG,nq]at *;have hA:aI x0 x1 x2=x1∨aI x0 x1 x2=0-x1:=(by unfold aI;(repeat' split)<;>omega);have hv:aI x0 x1 x2=0-x1:=(by unfold aI;(repeat' split)<;>omega);have hu:0<2*(0-x1)+x3:=(by omega);obtain⟨u0,u1⟩:=lT (0-x1) x3 (by omega) (by omega);have ed:(x3+x3)=2*x3:=(by omega);have eu:(x3-(x1+x1))=2*(0-x1)+x3:=(by omega);have eq:(Int.tdiv (x3-(x1+x1)) (x3+x3))=max (Fx.near (0-x1) x3) (0-Fx.near (0-x1) x3):=(by rw[ed,eu,Int.tdiv_eq_ediv_of_nonneg (by omega),←u1];omega);have eb:decide (2*aI x0 x1 x2+x3≤0)=false:=decide_eq_false (by rw[hv];omega);have es:(decide (x2=0))=false:=(by simp [*]);rw[eb,hv,←eq,←es];rfl
   refine cB ?_
   simp only[nn,G,wG,nq]at *;omega
  refine aG (.cmp .lt (.var 3) (.op .add (.var 1) (.var 1))) (fun h3=>?_) (fun h3=>?_)
  ·skip
   refine aG (.cmp .le (.lit 0) zza) (fun h4=>?_) (fun h4=>?_)
   rotate_left
   ·skip
    refine cB ?_
    simp only[nn,G,wG,nq]at *;omega
   refine aG (.cmp .ne (.app 30 (.cons zzc (.cons (.lit 1) .nil))) (.lit 0)) (fun h5=>?_) (fun h5=>?_)
   ·skip
    refine aE aJz ?_
    refine⟨rfl,?_⟩;simp only[nn,G,wG,nq]at *;have hA:aI x0 x1 x2=x1∨aI x0 x1 x2=0-x1:=(by unfold aI;(repeat' split)<;>omega);have hv:aI x0 x1 x2=0-x1:=(by unfold aI;(repeat' split)<;>omega);have hu:0≤((x1+x1)-x3):=(by omega);have eq:=bJ (0-x1) x3 ((x1+x1)-x3) (x3+x3) (by omega) (by omega) hu (by omega) (by intro z;exact h5 (by rw[z];exact bH _));have eb:decide (2*aI x0 x1 x2+x3≤0)=true:=decide_eq_true (by rw[hv];omega);have es:(decide (x0=0))=true:=(by simp [*]);rw[eb,hv,←eq,←es];rfl
   refine aG (.cmp .ne (.app 30 (.cons zzc (.cons (.lit 65536) .nil))) (.lit 0)) (fun h6=>?_) (fun h6=>?_)
   ·skip
    refine aE aE7 ?_
    refine⟨rfl,?_⟩;simp only[nn,G,wG,nq]at *;have hA:aI x0 x1 x2=x1∨aI x0 x1 x2=0-x1:=(by unfold aI;(repeat' split)<;>omega);have hv:aI x0 x1 x2=0-x1:=(by unfold aI;(repeat' split)<;>omega);have hu:0≤((x1+x1)-x3):=(by omega);have eq:=bJ (0-x1) x3 ((x1+x1)-x3) (x3+x3) (by omega) (by omega) hu (by omega) (by intro z;exact h6 (by rw[z];exact bH _));have eb:decide (2*aI x0 x1 x2+x3≤0)=true:=decide_eq_true (by rw[hv];omega);have es:(decide (x0=0))=true:=(by simp [*]);rw[eb,hv,←eq,←es];rfl
   refine aG (.cmp .ne (.app 30 (.cons zzc (.cons (.lit 4294967296) .nil))) (.lit 0)) (fun h7=>?_) (fun h7=>?_)
   ·skip
    refine aE aEB ?_
    refine⟨rfl,?_⟩;simp only[nn,G,wG,nq]at *;have hA:aI x0 x1 x2=x1∨aI x0 x1 x2=0-x1:=(by unfold aI;(repeat' split)<;>omega);have hv:aI x0 x1 x2=0-x1:=(by unfold aI;(repeat' split)<;>omega);have hu:0≤((x1+x1)-x3):=(by omega);have eq:=bJ (0-x1) x3 ((x1+x1)-x3) (x3+x3) (by omega) (by omega) hu (by omega) (by intro z;exact h7 (by rw[z];exact bH _));have eb:decide (2*aI x0 x1 x2+x3≤0)=true:=decide_eq_true (by rw[hv];omega);have es:(decide (x0=0))=true:=(by simp [*]);rw[eb,hv,←eq,←es];rfl
   refine aG (.cmp .ne (.app 30 (.cons zzc (.cons (.lit 281474976710656) .nil))) (.lit 0)) (fun h8=>?_) (fun h8=>?_)
   ·skip
    refine aE aG6 ?_
    refine⟨rfl,?_⟩;simp only[nn,G,wG,nq]at *;have hA:aI x0 x1 x2=x1∨aI x0 x1 x2=0-x1:=(by unfold aI;(repeat' split)<;>omega);have hv:aI x0 x1 x2=0-x1:=(by unfold aI;(repeat' split)<;>omega);have hu:0≤((x1+x1)-x3):=(by omega);have eq:=bJ (0-x1) x3 ((x1+x1)-x3) (x3+x3) (by omega) (by omega) hu (by omega) (by intro z;exact h8 (by rw[z];exact bH _));have eb:decide (2*aI x0 x1 x2+x3≤0)=true:=decide_eq_true (by rw[hv];omega);have es:(decide (x0=0))=true:=(by simp [*]);rw[eb,hv,←eq,←es];rfl
   refine aG (.cmp .ne (.app 30 (.cons zzc (.cons (.lit 18446744073709551616) .nil))) (.lit 0)) (fun h9=>?_) (fun h9=>?_)
   ·skip
    refine aE aET ?_
    refine⟨rfl,?_⟩;simp only[nn,G,wG,nq]at *;have hA:aI x0 x1 x2=x1∨aI x0 x1 x2=0-x1:=(by unfold aI;(repeat' split)<;>omega);have hv:aI x0 x1 x2=0-x1:=(by unfold aI;(repeat' split)<;>omega);have hu:0≤((x1+x1)-x3):=(by omega);have eq:=bJ (0-x1) x3 ((x1+x1)-x3) (x3+x3) (by omega) (by omega) hu (by omega) (by intro z;exact h9 (by rw[z];exact bH _));have eb:decide (2*aI x0 x1 x2+x3≤0)=true:=decide_eq_true (by rw[hv];omega);have es:(decide (x0=0))=true:=(by simp [*]);rw[eb,hv,←eq,←es];rfl
   refine aG (.cmp .ne (.app 30 (.cons zzc (.cons (.lit 1208925819614629174706176) .nil))) (.lit 0)) (fun h10=>?_) (fun h10=>?_)
   ·skip
    refine aE aGG ?_
    refine⟨rfl,?_⟩;simp only[nn,G,wG,nq]at *;have hA:aI x0 x1 x2=x1∨aI x0 x1 x2=0-x1:=(by unfold aI;(repeat' split)<;>omega);have hv:aI x0 x1 x2=0-x1:=(by unfold aI;(repeat' split)<;>omega);have hu:0≤((x1+x1)-x3):=(by omega);have eq:=bJ (0-x1) x3 ((x1+x1)-x3) (x3+x3) (by omega) (by omega) hu (by omega) (by intro z;exact h10 (by rw[z];exact bH _));have eb:decide (2*aI x0 x1 x2+x3≤0)=true:=decide_eq_true (by rw[hv];omega);have es:(decide (x0=0))=true:=(by simp [*]);rw[eb,hv,←eq,←es];rfl
   refine aG (.cmp .ne (.app 30 (.cons zzc (.cons (.lit 79228162514264337593543950336) .nil))) (.lit 0)) (fun h11=>?_) (fun h11=>?_)
   ·skip
    refine aE aEG ?_
    refine⟨rfl,?_⟩;simp only[nn,G,wG,nq]at *;have hA:aI x0 x1 x2=x1∨aI x0 x1 x2=0-x1:=(by unfold aI;(repeat' split)<;>omega);have hv:aI x0 x1 x2=0-x1:=(by unfold aI;(repeat' split)<;>omega);have hu:0≤((x1+x1)-x3):=(by omega);have eq:=bJ (0-x1) x3 ((x1+x1)-x3) (x3+x3) (by omega) (by omega) hu (by omega) (by intro z;exact h11 (by rw[z];exact bH _));have eb:decide (2*aI x0 x1 x2+x3≤0)=true:=decide_eq_true (by rw[hv];omega);have es:(decide (x0=0))=true:=(by simp [*]);rw[eb,hv,←eq,←es];rfl
   refine aG (.cmp .ne (.app 30 (.cons zzc (.cons (.lit 5192296858534827628530496329220096) .nil))) (.lit 0)) (fun h12=>?_) (fun h12=>?_)
   ·skip
    refine aE aEf ?_
    refine⟨rfl,?_⟩;simp only[nn,G,wG,nq]at *;have hA:aI x0 x1 x2=x1∨aI x0 x1 x2=0-x1:=(by unfold aI;(repeat' split)<;>omega);have hv:aI x0 x1 x2=0-x1:=(by unfold aI;(repeat' split)<;>omega);have hu:0≤((x1+x1)-x3):=(by omega);have eq:=bJ (0-x1) x3 ((x1+x1)-x3) (x3+x3) (by omega) (by omega) hu (by omega) (by intro z;exact h12 (by rw[z];exact bH _));have eb:decide (2*aI x0 x1 x2+x3≤0)=true:=decide_eq_true (by rw[hv];omega);have es:(decide (x0=0))=true:=(by simp [*]);rw[eb,hv,←eq,←es];rfl
   refine aG (.cmp .ne (.app 30 (.cons zzc (.cons (.lit 340282366920938463463374607431768211456) .nil))) (.lit 0)) (fun h13=>?_) (fun h13=>?_)
   ·skip
    refine aE aER ?_
    refine⟨rfl,?_⟩;simp only[nn,G,wG,nq]at *;have hA:aI x0 x1 x2=x1∨aI x0 x1 x2=0-x1:=(by unfold aI;(repeat' split)<;>omega);have hv:aI x0 x1 x2=0-x1:=(by unfold aI;(repeat' split)<;>omega);have hu:0≤((x1+x1)-x3):=(by omega);have eq:=bJ (0-x1) x3 ((x1+x1)-x3) (x3+x3) (by omega) (by omega) hu (by omega) (by intro z;exact h13 (by rw[z];exact bH _));have eb:decide (2*aI x0 x1 x2+x3≤0)=true:=decide_eq_true (by rw[hv];omega);have es:(decide (x0=0))=true:=(by simp [*]);rw[eb,hv,←eq,←es];rfl
   refine aG (.cmp .ne (.app 30 (.cons zzc (.cons (.lit 22300745198530623141535718272648361505980416) .nil))) (.lit 0)) (fun h14=>?_) (fun h14=>?_)
   ·skip
    refine aE aD7 ?_
    refine⟨rfl,?_⟩;simp only[nn,G,wG,nq]at *;have hA:aI x0 x1 x2=x1∨aI x0 x1 x2=0-x1:=(by unfold aI;(repeat' split)<;>omega);have hv:aI x0 x1 x2=0-x1:=(by unfold aI;(repeat' split)<;>omega);have hu:0≤((x1+x1)-x3):=(by omega);have eq:=bJ (0-x1) x3 ((x1+x1)-x3) (x3+x3) (by omega) (by omega) hu (by omega) (by intro z;exact h14 (by rw[z];exact bH _));have eb:decide (2*aI x0 x1 x2+x3≤0)=true:=decide_eq_true (by rw[hv];omega);have es:(decide (x0=0))=true:=(by simp [*]);rw[eb,hv,←eq,←es];rfl
   refine aG (.cmp .ne (.app 30 (.cons zzc (.cons (.lit 1461501637330902918203684832716283019655932542976) .nil))) (.lit 0)) (fun h15=>?_) (fun h15=>?_)
   ·skip
    refine aE aIn ?_
    refine⟨rfl,?_⟩;simp only[nn,G,wG,nq]at *;have hA:aI x0 x1 x2=x1∨aI x0 x1 x2=0-x1:=(by unfold aI;(repeat' split)<;>omega);have hv:aI x0 x1 x2=0-x1:=(by unfold aI;(repeat' split)<;>omega);have hu:0≤((x1+x1)-x3):=(by omega);have eq:=bJ (0-x1) x3 ((x1+x1)-x3) (x3+x3) (by omega) (by omega) hu (by omega) (by intro z;exact h15 (by rw[z];exact bH _));have eb:decide (2*aI x0 x1 x2+x3≤0)=true:=decide_eq_true (by rw[hv];omega);have es:(decide (x0=0))=true:=(by simp [*]);rw[eb,hv,←eq,←es];rfl
   refine aG (.cmp .ne (.app 30 (.cons zzc (.cons (.lit 95780971304118053647396689196894323976171195136475136) .nil))) (.lit 0)) (fun h16=>?_) (fun h16=>?_)
   ·skip
    refine aE aGD ?_
    refine⟨rfl,?_⟩;simp only[nn,G,wG,nq]at *;have hA:aI x0 x1 x2=x1∨aI x0 x1 x2=0-x1:=(by unfold aI;(repeat' split)<;>omega);have hv:aI x0 x1 x2=0-x1:=(by unfold aI;(repeat' split)<;>omega);have hu:0≤((x1+x1)-x3):=(by omega);have eq:=bJ (0-x1) x3 ((x1+x1)-x3) (x3+x3) (by omega) (by omega) hu (by omega) (by intro z;exact h16 (by rw[z];exact bH _));have eb:decide (2*aI x0 x1 x2+x3≤0)=true:=decide_eq_true (by rw[hv];omega);have es:(decide (x0=0))=true:=(by simp [*]);rw[eb,hv,←eq,←es];rfl
   refine aE aFK ?_
   refine⟨rfl,?_⟩;simp only[nn,G,wG,nq]at *;have hA:aI x0 x1 x2=x1∨aI x0 x1 x2=0-x1:=(by unfold aI;(repeat' split)<;>omega);have hv:aI x0 x1 x2=0-x1:=(by unfold aI;(repeat' split)<;>omega);have hu:0≤((x1+x1)-x3):=(by omega);obtain⟨w0,w1⟩:=mV (0-x1) x3 ((x1+x1)-x3) (by omega) (by omega) hu;have ed:(x3+x3)=2*x3:=(by omega);have er:(Int.tmod ((x1+x1)-x3) (x3+x3))=((x1+x1)-x3) % (2*x3):=(by rw[ed,Int.tmod_eq_emod_of_nonneg hu]);have hl:=jE (0-x1) x3 (by omega);have hneg:Fx.near (0-x1) x3≤0:=(hl.2 (by omega)).2;have hr:((x1+x1)-x3) % (2*x3)=0:=(by rw[←er];have ha:=eR (Int.tmod ((x1+x1)-x3) (x3+x3)) (Int.tmod_nonneg _ hu) (by rw[er];have:=Int.emod_lt_of_pos ((x1+x1)-x3) (show 0<2*x3 by omega);omega);omega);have eq:(Int.tdiv ((x1+x1)-x3) (x3+x3))=max (Fx.near (0-x1) x3) (0-Fx.near (0-x1) x3):=(by rw[ed,Int.tdiv_eq_ediv_of_nonneg hu,←w0 hr];omega);have eb:decide (2*aI x0 x1 x2+x3≤0)=true:=decide_eq_true (by rw[hv];omega);have es:(decide (x0=0))=true:=(by simp [*]);rw[eb,hv,←eq,←es];rfl
  refine aG (.cmp .le (.lit 0) zza) (fun h4=>?_) (fun h4=>?_)
  rotate_left
  ·skip
   refine cB ?_
   simp only[nn,G,wG,nq]at *;omega
  refine aG (.cmp .ne (.app 30 (.cons zzc (.cons (.lit 1) .nil))) (.lit 0)) (fun h5=>?_) (fun h5=>?_)
  ·skip
   refine aE aH5 ?_
   refine⟨rfl,?_⟩;simp only[nn,G,wG,nq]at *;have hA:aI x0 x1 x2=x1∨aI x0 x1 x2=0-x1:=(by unfold aI;(repeat' split)<;>omega);have hv:aI x0 x1 x2=0-x1:=(by unfold aI;(repeat' split)<;>omega);have hu:0≤((x1+x1)-x3):=(by omega);have eq:=bJ (0-x1) x3 ((x1+x1)-x3) (x3+x3) (by omega) (by omega) hu (by omega) (by intro z;exact h5 (by rw[z];exact bH _));have eb:decide (2*aI x0 x1 x2+x3≤0)=true:=decide_eq_true (by rw[hv];omega);have es:(decide (x0=0))=true:=(by simp [*]);rw[eb,hv,←eq,←es];rfl
  refine aG (.cmp .ne (.app 30 (.cons zzc (.cons (.lit 65536) .nil))) (.lit 0)) (fun h6=>?_) (fun h6=>?_)
  ·skip
   refine aE aDz ?_
   refine⟨rfl,?_⟩;simp only[nn,G,wG,nq]at *;have hA:aI x0 x1 x2=x1∨aI x0 x1 x2=0-x1:=(by unfold aI;(repeat' split)<;>omega);have hv:aI x0 x1 x2=0-x1:=(by unfold aI;(repeat' split)<;>omega);have hu:0≤((x1+x1)-x3):=(by omega);have eq:=bJ (0-x1) x3 ((x1+x1)-x3) (x3+x3) (by omega) (by omega) hu (by omega) (by intro z;exact h6 (by rw[z];exact bH _));have eb:decide (2*aI x0 x1 x2+x3≤0)=true:=decide_eq_true (by rw[hv];omega);have es:(decide (x0=0))=true:=(by simp [*]);rw[eb,hv,←eq,←es];rfl
  refine aG (.cmp .ne (.app 30 (.cons zzc (.cons (.lit 4294967296) .nil))) (.lit 0)) (fun h7=>?_) (fun h7=>?_)
  ·skip
   refine aE aF0 ?_
   refine⟨rfl,?_⟩;simp only[nn,G,wG,nq]at *;have hA:aI x0 x1 x2=x1∨aI x0 x1 x2=0-x1:=(by unfold aI;(repeat' split)<;>omega);have hv:aI x0 x1 x2=0-x1:=(by unfold aI;(repeat' split)<;>omega);have hu:0≤((x1+x1)-x3):=(by omega);have eq:=bJ (0-x1) x3 ((x1+x1)-x3) (x3+x3) (by omega) (by omega) hu (by omega) (by intro z;exact h7 (by rw[z];exact bH _));have eb:decide (2*aI x0 x1 x2+x3≤0)=true:=decide_eq_true (by rw[hv];omega);have es:(decide (x0=0))=true:=(by simp [*]);rw[eb,hv,←eq,←es];rfl
  refine aG (.cmp .ne (.app 30 (.cons zzc (.cons (.lit 281474976710656) .nil))) (.lit 0)) (fun h8=>?_) (fun h8=>?_)
  ·skip
   refine aE aGy ?_
   refine⟨rfl,?_⟩;simp only[nn,G,wG,nq]at *;have hA:aI x0 x1 x2=x1∨aI x0 x1 x2=0-x1:=(by unfold aI;(repeat' split)<;>omega);have hv:aI x0 x1 x2=0-x1:=(by unfold aI;(repeat' split)<;>omega);have hu:0≤((x1+x1)-x3):=(by omega);have eq:=bJ (0-x1) x3 ((x1+x1)-x3) (x3+x3) (by omega) (by omega) hu (by omega) (by intro z;exact h8 (by rw[z];exact bH _));have eb:decide (2*aI x0 x1 x2+x3≤0)=true:=decide_eq_true (by rw[hv];omega);have es:(decide (x0=0))=true:=(by simp [*]);rw[eb,hv,←eq,←es];rfl
  refine aG (.cmp .ne (.app 30 (.cons zzc (.cons (.lit 18446744073709551616) .nil))) (.lit 0)) (fun h9=>?_) (fun h9=>?_)
  ·skip
   refine aE aEl ?_
   refine⟨rfl,?_⟩;simp only[nn,G,wG,nq]at *;have hA:aI x0 x1 x2=x1∨aI x0 x1 x2=0-x1:=(by unfold aI;(repeat' split)<;>omega);have hv:aI x0 x1 x2=0-x1:=(by unfold aI;(repeat' split)<;>omega);have hu:0≤((x1+x1)-x3):=(by omega);have eq:=bJ (0-x1) x3 ((x1+x1)-x3) (x3+x3) (by omega) (by omega) hu (by omega) (by intro z;exact h9 (by rw[z];exact bH _));have eb:decide (2*aI x0 x1 x2+x3≤0)=true:=decide_eq_true (by rw[hv];omega);have es:(decide (x0=0))=true:=(by simp [*]);rw[eb,hv,←eq,←es];rfl
  refine aG (.cmp .ne (.app 30 (.cons zzc (.cons (.lit 1208925819614629174706176) .nil))) (.lit 0)) (fun h10=>?_) (fun h10=>?_)
  ·skip
   refine aE aHd ?_
   refine⟨rfl,?_⟩;simp only[nn,G,wG,nq]at *;have hA:aI x0 x1 x2=x1∨aI x0 x1 x2=0-x1:=(by unfold aI;(repeat' split)<;>omega);have hv:aI x0 x1 x2=0-x1:=(by unfold aI;(repeat' split)<;>omega);have hu:0≤((x1+x1)-x3):=(by omega);have eq:=bJ (0-x1) x3 ((x1+x1)-x3) (x3+x3) (by omega) (by omega) hu (by omega) (by intro z;exact h10 (by rw[z];exact bH _));have eb:decide (2*aI x0 x1 x2+x3≤0)=true:=decide_eq_true (by rw[hv];omega);have es:(decide (x0=0))=true:=(by simp [*]);rw[eb,hv,←eq,←es];rfl
  refine aG (.cmp .ne (.app 30 (.cons zzc (.cons (.lit 79228162514264337593543950336) .nil))) (.lit 0)) (fun h11=>?_) (fun h11=>?_)
  ·skip
   refine aE aEv ?_
   refine⟨rfl,?_⟩;simp only[nn,G,wG,nq]at *;have hA:aI x0 x1 x2=x1∨aI x0 x1 x2=0-x1:=(by unfold aI;(repeat' split)<;>omega);have hv:aI x0 x1 x2=0-x1:=(by unfold aI;(repeat' split)<;>omega);have hu:0≤((x1+x1)-x3):=(by omega);have eq:=bJ (0-x1) x3 ((x1+x1)-x3) (x3+x3) (by omega) (by omega) hu (by omega) (by intro z;exact h11 (by rw[z];exact bH _));have eb:decide (2*aI x0 x1 x2+x3≤0)=true:=decide_eq_true (by rw[hv];omega);have es:(decide (x0=0))=true:=(by simp [*]);rw[eb,hv,←eq,←es];rfl
  refine aG (.cmp .ne (.app 30 (.cons zzc (.cons (.lit 5192296858534827628530496329220096) .nil))) (.lit 0)) (fun h12=>?_) (fun h12=>?_)
  ·skip
   refine aE aDg ?_
   refine⟨rfl,?_⟩;simp only[nn,G,wG,nq]at *;have hA:aI x0 x1 x2=x1∨aI x0 x1 x2=0-x1:=(by unfold aI;(repeat' split)<;>omega);have hv:aI x0 x1 x2=0-x1:=(by unfold aI;(repeat' split)<;>omega);have hu:0≤((x1+x1)-x3):=(by omega);have eq:=bJ (0-x1) x3 ((x1+x1)-x3) (x3+x3) (by omega) (by omega) hu (by omega) (by intro z;exact h12 (by rw[z];exact bH _));have eb:decide (2*aI x0 x1 x2+x3≤0)=true:=decide_eq_true (by rw[hv];omega);have es:(decide (x0=0))=true:=(by simp [*]);rw[eb,hv,←eq,←es];rfl
  refine aG (.cmp .ne (.app 30 (.cons zzc (.cons (.lit 340282366920938463463374607431768211456) .nil))) (.lit 0)) (fun h13=>?_) (fun h13=>?_)
  ·skip
   refine aE aDD ?_
   refine⟨rfl,?_⟩;simp only[nn,G,wG,nq]at *;have hA:aI x0 x1 x2=x1∨aI x0 x1 x2=0-x1:=(by unfold aI;(repeat' split)<;>omega);have hv:aI x0 x1 x2=0-x1:=(by unfold aI;(repeat' split)<;>omega);have hu:0≤((x1+x1)-x3):=(by omega);have eq:=bJ (0-x1) x3 ((x1+x1)-x3) (x3+x3) (by omega) (by omega) hu (by omega) (by intro z;exact h13 (by rw[z];exact bH _));have eb:decide (2*aI x0 x1 x2+x3≤0)=true:=decide_eq_true (by rw[hv];omega);have es:(decide (x0=0))=true:=(by simp [*]);rw[eb,hv,←eq,←es];rfl
  refine aG (.cmp .ne (.app 30 (.cons zzc (.cons (.lit 22300745198530623141535718272648361505980416) .nil))) (.lit 0)) (fun h14=>?_) (fun h14=>?_)
  ·skip
   refine aE aHC ?_
   refine⟨rfl,?_⟩;simp only[nn,G,wG,nq]at *;have hA:aI x0 x1 x2=x1∨aI x0 x1 x2=0-x1:=(by unfold aI;(repeat' split)<;>omega);have hv:aI x0 x1 x2=0-x1:=(by unfold aI;(repeat' split)<;>omega);have hu:0≤((x1+x1)-x3):=(by omega);have eq:=bJ (0-x1) x3 ((x1+x1)-x3) (x3+x3) (by omega) (by omega) hu (by omega) (by intro z;exact h14 (by rw[z];exact bH _));have eb:decide (2*aI x0 x1 x2+x3≤0)=true:=decide_eq_true (by rw[hv];omega);have es:(decide (x0=0))=true:=(by simp [*]);rw[eb,hv,←eq,←es];rfl
  refine aG (.cmp .ne (.app 30 (.cons zzc (.cons (.lit 1461501637330902918203684832716283019655932542976) .nil))) (.lit 0)) (fun h15=>?_) (fun h15=>?_)
  ·skip
   refine aE aHR ?_
   refine⟨rfl,?_⟩;simp only[nn,G,wG,nq]at *;have hA:aI x0 x1 x2=x1∨aI x0 x1 x2=0-x1:=(by unfold aI;(repeat' split)<;>omega);have hv:aI x0 x1 x2=0-x1:=(by unfold aI;(repeat' split)<;>omega);have hu:0≤((x1+x1)-x3):=(by omega);have eq:=bJ (0-x1) x3 ((x1+x1)-x3) (x3+x3) (by omega) (by omega) hu (by omega) (by intro z;exact h15 (by rw[z];exact bH _));have eb:decide (2*aI x0 x1 x2+x3≤0)=true:=decide_eq_true (by rw[hv];omega);have es:(decide (x0=0))=true:=(by simp [*]);rw[eb,hv,←eq,←es];rfl
  refine aG (.cmp .ne (.app 30 (.cons zzc (.cons (.lit 95780971304118053647396689196894323976171195136475136) .nil))) (.lit 0)) (fun h16=>?_) (fun h16=>?_)
  ·skip
   refine aE aDj ?_
   refine⟨rfl,?_⟩;simp only[nn,G,wG,nq]at *;have hA:aI x0 x1 x2=x1∨aI x0 x1 x2=0-x1:=(by unfold aI;(repeat' split)<;>omega);have hv:aI x0 x1 x2=0-x1:=(by unfold aI;(repeat' split)<;>omega);have hu:0≤((x1+x1)-x3):=(by omega);have eq:=bJ (0-x1) x3 ((x1+x1)-x3) (x3+x3) (by omega) (by omega) hu (by omega) (by intro z;exact h16 (by rw[z];exact bH _));have eb:decide (2*aI x0 x1 x2+x3≤0)=true:=decide_eq_true (by rw[hv];omega);have es:(decide (x0=0))=true:=(by simp [*]);rw[eb,hv,←eq,←es];rfl
  refine aE aF4 ?_
  refine⟨rfl,?_⟩;simp only[nn,G,wG,nq]at *;have hA:aI x0 x1 x2=x1∨aI x0 x1 x2=0-x1:=(by unfold aI;(repeat' split)<;>omega);have hv:aI x0 x1 x2=0-x1:=(by unfold aI;(repeat' split)<;>omega);have hu:0≤((x1+x1)-x3):=(by omega);obtain⟨w0,w1⟩:=mV (0-x1) x3 ((x1+x1)-x3) (by omega) (by omega) hu;have ed:(x3+x3)=2*x3:=(by omega);have er:(Int.tmod ((x1+x1)-x3) (x3+x3))=((x1+x1)-x3) % (2*x3):=(by rw[ed,Int.tmod_eq_emod_of_nonneg hu]);have hl:=jE (0-x1) x3 (by omega);have hneg:Fx.near (0-x1) x3≤0:=(hl.2 (by omega)).2;have hr:((x1+x1)-x3) % (2*x3)=0:=(by rw[←er];have ha:=eR (Int.tmod ((x1+x1)-x3) (x3+x3)) (Int.tmod_nonneg _ hu) (by rw[er];have:=Int.emod_lt_of_pos ((x1+x1)-x3) (show 0<2*x3 by omega);omega);omega);have eq:(Int.tdiv ((x1+x1)-x3) (x3+x3))=max (Fx.near (0-x1) x3) (0-Fx.near (0-x1) x3):=(by rw[ed,Int.tdiv_eq_ediv_of_nonneg hu,←w0 hr];omega);have eb:decide (2*aI x0 x1 x2+x3≤0)=true:=decide_eq_true (by rw[hv];omega);have es:(decide (x0=0))=true:=(by simp [*]);rw[eb,hv,←eq,←es];rfl
 refine aG (.cmp .ne (.var 0) (.lit 0)) (fun h1=>?_) (fun h1=>?_)
 rotate_left
 ·skip
  refine aE aB3 ?_
  refine⟨rfl,?_⟩;simp only[nn,G,wG,nq]at *;have hA:aI x0 x1 x2=x1∨aI x0 x1 x2=0-x1:=(by unfold aI;(repeat' split)<;>omega);have hv:aI x0 x1 x2=x1:=(by unfold aI;(repeat' split)<;>omega);have hu:0<2*(x1)+x3:=(by omega);obtain⟨u0,u1⟩:=lT (x1) x3 (by omega) (by omega);have ed:(x3+x3)=2*x3:=(by omega);have eu:((x1+x1)+x3)=2*(x1)+x3:=(by omega);have eq:(Int.tdiv ((x1+x1)+x3) (x3+x3))=max (Fx.near (x1) x3) (0-Fx.near (x1) x3):=(by rw[ed,eu,Int.tdiv_eq_ediv_of_nonneg (by omega),←u1];omega);have eb:decide (2*aI x0 x1 x2+x3≤0)=false:=decide_eq_false (by rw[hv];omega);have es:(!decide (x0=0))=false:=(by simp [*]);rw[eb,hv,←eq,←es];rfl
 refine aG (.cmp .lt (.op .add (.var 1) (.var 1)) (.var 3)) (fun h2=>?_) (fun h2=>?_)
 ·skip
  refine aG (.cmp .le (.lit 0) (.op .sub (.var 3) (.op .add (.var 1) (.var 1)))) (fun h3=>?_) (fun h3=>?_)
  ·skip
   refine aE aIc ?_
   refine⟨rfl,?_⟩;simp only[nn,G,wG,nq]at *;have hA:aI x0 x1 x2=x1∨aI x0 x1 x2=0-x1:=(by unfold aI;(repeat' split)<;>omega);have hv:aI x0 x1 x2=0-x1:=(by unfold aI;(repeat' split)<;>omega);have hu:0<2*(0-x1)+x3:=(by omega);obtain⟨u0,u1⟩:=lT (0-x1) x3 (by omega) (by omega);have ed:(x3+x3)=2*x3:=(by omega);have eu:(x3-(x1+x1))=2*(0-x1)+x3:=(by omega);have eq:(Int.tdiv (x3-(x1+x1)) (x3+x3))=max (Fx.near (0-x1) x3) (0-Fx.near (0-x1) x3):=(by rw[ed,eu,Int.tdiv_eq_ediv_of_nonneg (by omega),←u1];omega);have eb:decide (2*aI x0 x1 x2+x3≤0)=false:=decide_eq_false (by rw[hv];omega);have es:(!decide (x2=0))=false:=(by simp [*]);rw[eb,hv,←eq,←es];rfl
  refine cB ?_
  simp only[nn,G,wG,nq]at *;omega
 refine aG (.cmp .lt (.var 3) (.op .add (.var 1) (.var 1))) (fun h3=>?_) (fun h3=>?_)
 ·skip
  refine aG (.cmp .le (.lit 0) zza) (fun h4=>?_) (fun h4=>?_)
  rotate_left
  ·skip
   refine cB ?_
   simp only[nn,G,wG,nq]at *;omega
  refine aG (.cmp .ne (.app 30 (.cons zzc (.cons (.lit 1) .nil))) (.lit 0)) (fun h5=>?_) (fun h5=>?_)
  ·skip
   refine aE aEX ?_
   refine⟨rfl,?_⟩;simp only[nn,G,wG,nq]at *;have hA:aI x0 x1 x2=x1∨aI x0 x1 x2=0-x1:=(by unfold aI;(repeat' split)<;>omega);have hv:aI x0 x1 x2=0-x1:=(by unfold aI;(repeat' split)<;>omega);have hu:0≤((x1+x1)-x3):=(by omega);have eq:=bJ (0-x1) x3 ((x1+x1)-x3) (x3+x3) (by omega) (by omega) hu (by omega) (by intro z;exact h5 (by rw[z];exact bH _));have eb:decide (2*aI x0 x1 x2+x3≤0)=true:=decide_eq_true (by rw[hv];omega);have es:(!decide (x0=0))=true:=(by simp [*]);rw[eb,hv,←eq,←es];rfl
  refine aG (.cmp .ne (.app 30 (.cons zzc (.cons (.lit 65536) .nil))) (.lit 0)) (fun h6=>?_) (fun h6=>?_)
  ·skip
   refine aE aFq ?_
   refine⟨rfl,?_⟩;simp only[nn,G,wG,nq]at *;have hA:aI x0 x1 x2=x1∨aI x0 x1 x2=0-x1:=(by unfold aI;(repeat' split)<;>omega);have hv:aI x0 x1 x2=0-x1:=(by unfold aI;(repeat' split)<;>omega);have hu:0≤((x1+x1)-x3):=(by omega);have eq:=bJ (0-x1) x3 ((x1+x1)-x3) (x3+x3) (by omega) (by omega) hu (by omega) (by intro z;exact h6 (by rw[z];exact bH _));have eb:decide (2*aI x0 x1 x2+x3≤0)=true:=decide_eq_true (by rw[hv];omega);have es:(!decide (x0=0))=true:=(by simp [*]);rw[eb,hv,←eq,←es];rfl
  refine aG (.cmp .ne (.app 30 (.cons zzc (.cons (.lit 4294967296) .nil))) (.lit 0)) (fun h7=>?_) (fun h7=>?_)
  ·skip
   refine aE aHb ?_
   refine⟨rfl,?_⟩;simp only[nn,G,wG,nq]at *;have hA:aI x0 x1 x2=x1∨aI x0 x1 x2=0-x1:=(by unfold aI;(repeat' split)<;>omega);have hv:aI x0 x1 x2=0-x1:=(by unfold aI;(repeat' split)<;>omega);have hu:0≤((x1+x1)-x3):=(by omega);have eq:=bJ (0-x1) x3 ((x1+x1)-x3) (x3+x3) (by omega) (by omega) hu (by omega) (by intro z;exact h7 (by rw[z];exact bH _));have eb:decide (2*aI x0 x1 x2+x3≤0)=true:=decide_eq_true (by rw[hv];omega);have es:(!decide (x0=0))=true:=(by simp [*]);rw[eb,hv,←eq,←es];rfl
  refine aG (.cmp .ne (.app 30 (.cons zzc (.cons (.lit 281474976710656) .nil))) (.lit 0)) (fun h8=>?_) (fun h8=>?_)
  ·skip
   refine aE aFu ?_
   refine⟨rfl,?_⟩;simp only[nn,G,wG,nq]at *;have hA:aI x0 x1 x2=x1∨aI x0 x1 x2=0-x1:=(by unfold aI;(repeat' split)<;>omega);have hv:aI x0 x1 x2=0-x1:=(by unfold aI;(repeat' split)<;>omega);have hu:0≤((x1+x1)-x3):=(by omega);have eq:=bJ (0-x1) x3 ((x1+x1)-x3) (x3+x3) (by omega) (by omega) hu (by omega) (by intro z;exact h8 (by rw[z];exact bH _));have eb:decide (2*aI x0 x1 x2+x3≤0)=true:=decide_eq_true (by rw[hv];omega);have es:(!decide (x0=0))=true:=(by simp [*]);rw[eb,hv,←eq,←es];rfl
  refine aG (.cmp .ne (.app 30 (.cons zzc (.cons (.lit 18446744073709551616) .nil))) (.lit 0)) (fun h9=>?_) (fun h9=>?_)
  ·skip
   refine aE aHm ?_
   refine⟨rfl,?_⟩;simp only[nn,G,wG,nq]at *;have hA:aI x0 x1 x2=x1∨aI x0 x1 x2=0-x1:=(by unfold aI;(repeat' split)<;>omega);have hv:aI x0 x1 x2=0-x1:=(by unfold aI;(repeat' split)<;>omega);have hu:0≤((x1+x1)-x3):=(by omega);have eq:=bJ (0-x1) x3 ((x1+x1)-x3) (x3+x3) (by omega) (by omega) hu (by omega) (by intro z;exact h9 (by rw[z];exact bH _));have eb:decide (2*aI x0 x1 x2+x3≤0)=true:=decide_eq_true (by rw[hv];omega);have es:(!decide (x0=0))=true:=(by simp [*]);rw[eb,hv,←eq,←es];rfl
  refine aG (.cmp .ne (.app 30 (.cons zzc (.cons (.lit 1208925819614629174706176) .nil))) (.lit 0)) (fun h10=>?_) (fun h10=>?_)
  ·skip
   refine aE aD3 ?_
   refine⟨rfl,?_⟩;simp only[nn,G,wG,nq]at *;have hA:aI x0 x1 x2=x1∨aI x0 x1 x2=0-x1:=(by unfold aI;(repeat' split)<;>omega);have hv:aI x0 x1 x2=0-x1:=(by unfold aI;(repeat' split)<;>omega);have hu:0≤((x1+x1)-x3):=(by omega);have eq:=bJ (0-x1) x3 ((x1+x1)-x3) (x3+x3) (by omega) (by omega) hu (by omega) (by intro z;exact h10 (by rw[z];exact bH _));have eb:decide (2*aI x0 x1 x2+x3≤0)=true:=decide_eq_true (by rw[hv];omega);have es:(!decide (x0=0))=true:=(by simp [*]);rw[eb,hv,←eq,←es];rfl
  refine aG (.cmp .ne (.app 30 (.cons zzc (.cons (.lit 79228162514264337593543950336) .nil))) (.lit 0)) (fun h11=>?_) (fun h11=>?_)
  ·skip
   refine aE aHs ?_
   refine⟨rfl,?_⟩;simp only[nn,G,wG,nq]at *;have hA:aI x0 x1 x2=x1∨aI x0 x1 x2=0-x1:=(by unfold aI;(repeat' split)<;>omega);have hv:aI x0 x1 x2=0-x1:=(by unfold aI;(repeat' split)<;>omega);have hu:0≤((x1+x1)-x3):=(by omega);have eq:=bJ (0-x1) x3 ((x1+x1)-x3) (x3+x3) (by omega) (by omega) hu (by omega) (by intro z;exact h11 (by rw[z];exact bH _));have eb:decide (2*aI x0 x1 x2+x3≤0)=true:=decide_eq_true (by rw[hv];omega);have es:(!decide (x0=0))=true:=(by simp [*]);rw[eb,hv,←eq,←es];rfl
  refine aG (.cmp .ne (.app 30 (.cons zzc (.cons (.lit 5192296858534827628530496329220096) .nil))) (.lit 0)) (fun h12=>?_) (fun h12=>?_)
  ·skip
   refine aE aDU ?_
   refine⟨rfl,?_⟩;simp only[nn,G,wG,nq]at *;have hA:aI x0 x1 x2=x1∨aI x0 x1 x2=0-x1:=(by unfold aI;(repeat' split)<;>omega);have hv:aI x0 x1 x2=0-x1:=(by unfold aI;(repeat' split)<;>omega);have hu:0≤((x1+x1)-x3):=(by omega);have eq:=bJ (0-x1) x3 ((x1+x1)-x3) (x3+x3) (by omega) (by omega) hu (by omega) (by intro z;exact h12 (by rw[z];exact bH _));have eb:decide (2*aI x0 x1 x2+x3≤0)=true:=decide_eq_true (by rw[hv];omega);have es:(!decide (x0=0))=true:=(by simp [*]);rw[eb,hv,←eq,←es];rfl
  refine aG (.cmp .ne (.app 30 (.cons zzc (.cons (.lit 340282366920938463463374607431768211456) .nil))) (.lit 0)) (fun h13=>?_) (fun h13=>?_)
  ·skip
   refine aE aGl ?_
   refine⟨rfl,?_⟩;simp only[nn,G,wG,nq]at *;have hA:aI x0 x1 x2=x1∨aI x0 x1 x2=0-x1:=(by unfold aI;(repeat' split)<;>omega);have hv:aI x0 x1 x2=0-x1:=(by unfold aI;(repeat' split)<;>omega);have hu:0≤((x1+x1)-x3):=(by omega);have eq:=bJ (0-x1) x3 ((x1+x1)-x3) (x3+x3) (by omega) (by omega) hu (by omega) (by intro z;exact h13 (by rw[z];exact bH _));have eb:decide (2*aI x0 x1 x2+x3≤0)=true:=decide_eq_true (by rw[hv];omega);have es:(!decide (x0=0))=true:=(by simp [*]);rw[eb,hv,←eq,←es];rfl
  refine aG (.cmp .ne (.app 30 (.cons zzc (.cons (.lit 22300745198530623141535718272648361505980416) .nil))) (.lit 0)) (fun h14=>?_) (fun h14=>?_)
  ·skip
   refine aE aF6 ?_
   refine⟨rfl,?_⟩;simp only[nn,G,wG,nq]at *;have hA:aI x0 x1 x2=x1∨aI x0 x1 x2=0-x1:=(by unfold aI;(repeat' split)<;>omega);have hv:aI x0 x1 x2=0-x1:=(by unfold aI;(repeat' split)<;>omega);have hu:0≤((x1+x1)-x3):=(by omega);have eq:=bJ (0-x1) x3 ((x1+x1)-x3) (x3+x3) (by omega) (by omega) hu (by omega) (by intro z;exact h14 (by rw[z];exact bH _));have eb:decide (2*aI x0 x1 x2+x3≤0)=true:=decide_eq_true (by rw[hv];omega);have es:(!decide (x0=0))=true:=(by simp [*]);rw[eb,hv,←eq,←es];rfl
  refine aG (.cmp .ne (.app 30 (.cons zzc (.cons (.lit 1461501637330902918203684832716283019655932542976) .nil))) (.lit 0)) (fun h15=>?_) (fun h15=>?_)
  ·skip
   refine aE aH1 ?_
   refine⟨rfl,?_⟩;simp only[nn,G,wG,nq]at *;have hA:aI x0 x1 x2=x1∨aI x0 x1 x2=0-x1:=(by unfold aI;(repeat' split)<;>omega);have hv:aI x0 x1 x2=0-x1:=(by unfold aI;(repeat' split)<;>omega);have hu:0≤((x1+x1)-x3):=(by omega);have eq:=bJ (0-x1) x3 ((x1+x1)-x3) (x3+x3) (by omega) (by omega) hu (by omega) (by intro z;exact h15 (by rw[z];exact bH _));have eb:decide (2*aI x0 x1 x2+x3≤0)=true:=decide_eq_true (by rw[hv];omega);have es:(!decide (x0=0))=true:=(by simp [*]);rw[eb,hv,←eq,←es];rfl
  refine aG (.cmp .ne (.app 30 (.cons zzc (.cons (.lit 95780971304118053647396689196894323976171195136475136) .nil))) (.lit 0)) (fun h16=>?_) (fun h16=>?_)
  ·skip
   refine aE aHf ?_
   refine⟨rfl,?_⟩;simp only[nn,G,wG,nq]at *;have hA:aI x0 x1 x2=x1∨aI x0 x1 x2=0-x1:=(by unfold aI;(repeat' split)<;>omega);have hv:aI x0 x1 x2=0-x1:=(by unfold aI;(repeat' split)<;>omega);have hu:0≤((x1+x1)-x3):=(by omega);have eq:=bJ (0-x1) x3 ((x1+x1)-x3) (x3+x3) (by omega) (by omega) hu (by omega) (by intro z;exact h16 (by rw[z];exact bH _));have eb:decide (2*aI x0 x1 x2+x3≤0)=true:=decide_eq_true (by rw[hv];omega);have es:(!decide (x0=0))=true:=(by simp [*]);rw[eb,hv,←eq,←es];rfl
  refine aE aD1 ?_
  refine⟨rfl,?_⟩;simp only[nn,G,wG,nq]at *;have hA:aI x0 x1 x2=x1∨aI x0 x1 x2=0-x1:=(by unfold aI;(repeat' split)<;>omega);have hv:aI x0 x1 x2=0-x1:=(by unfold aI;(repeat' split)<;>omega);have hu:0≤((x1+x1)-x3):=(by omega);obtain⟨w0,w1⟩:=mV (0-x1) x3 ((x1+x1)-x3) (by omega) (by omega) hu;have ed:(x3+x3)=2*x3:=(by omega);have er:(Int.tmod ((x1+x1)-x3) (x3+x3))=((x1+x1)-x3) % (2*x3):=(by rw[ed,Int.tmod_eq_emod_of_nonneg hu]);have hl:=jE (0-x1) x3 (by omega);have hneg:Fx.near (0-x1) x3≤0:=(hl.2 (by omega)).2;have hr:((x1+x1)-x3) % (2*x3)=0:=(by rw[←er];have ha:=eR (Int.tmod ((x1+x1)-x3) (x3+x3)) (Int.tmod_nonneg _ hu) (by rw[er];have:=Int.emod_lt_of_pos ((x1+x1)-x3) (show 0<2*x3 by omega);omega);omega);have eq:(Int.tdiv ((x1+x1)-x3) (x3+x3))=max (Fx.near (0-x1) x3) (0-Fx.near (0-x1) x3):=(by rw[ed,Int.tdiv_eq_ediv_of_nonneg hu,←w0 hr];omega);have eb:decide (2*aI x0 x1 x2+x3≤0)=true:=decide_eq_true (by rw[hv];omega);have es:(!decide (x0=0))=true:=(by simp [*]);rw[eb,hv,←eq,←es];rfl
 refine aG (.cmp .le (.lit 0) zza) (fun h4=>?_) (fun h4=>?_)
 rotate_left
 ·skip
  refine cB ?_
  simp only[nn,G,wG,nq]at *;omega
 refine aG (.cmp .ne (.app 30 (.cons zzc (.cons (.lit 1) .nil))) (.lit 0)) (fun h5=>?_) (fun h5=>?_)
 ·skip
  refine aE aFN ?_
  refine⟨rfl,?_⟩;simp only[nn,G,wG,nq]at *;have hA:aI x0 x1 x2=x1∨aI x0 x1 x2=0-x1:=(by unfold aI;(repeat' split)<;>omega);have hv:aI x0 x1 x2=0-x1:=(by unfold aI;(repeat' split)<;>omega);have hu:0≤((x1+x1)-x3):=(by omega);have eq:=bJ (0-x1) x3 ((x1+x1)-x3) (x3+x3) (by omega) (by omega) hu (by omega) (by intro z;exact h5 (by rw[z];exact bH _));have eb:decide (2*aI x0 x1 x2+x3≤0)=true:=decide_eq_true (by rw[hv];omega);have es:(!decide (x0=0))=true:=(by simp [*]);rw[eb,hv,←eq,←es];rfl
 refine aG (.cmp .ne (.app 30 (.cons zzc (.cons (.lit 65536) .nil))) (.lit 0)) (fun h6=>?_) (fun h6=>?_)
 ·skip
  refine aE aEM ?_
  refine⟨rfl,?_⟩;simp only[nn,G,wG,nq]at *;have hA:aI x0 x1 x2=x1∨aI x0 x1 x2=0-x1:=(by unfold aI;(repeat' split)<;>omega);have hv:aI x0 x1 x2=0-x1:=(by unfold aI;(repeat' split)<;>omega);have hu:0≤((x1+x1)-x3):=(by omega);have eq:=bJ (0-x1) x3 ((x1+x1)-x3) (x3+x3) (by omega) (by omega) hu (by omega) (by intro z;exact h6 (by rw[z];exact bH _));have eb:decide (2*aI x0 x1 x2+x3≤0)=true:=decide_eq_true (by rw[hv];omega);have es:(!decide (x0=0))=true:=(by simp [*]);rw[eb,hv,←eq,←es];rfl
 refine aG (.cmp .ne (.app 30 (.cons zzc (.cons (.lit 4294967296) .nil))) (.lit 0)) (fun h7=>?_) (fun h7=>?_)
 ·skip
  refine aE aB8 ?_
  refine⟨rfl,?_⟩;simp only[nn,G,wG,nq]at *;have hA:aI x0 x1 x2=x1∨aI x0 x1 x2=0-x1:=(by unfold aI;(repeat' split)<;>omega);have hv:aI x0 x1 x2=0-x1:=(by unfold aI;(repeat' split)<;>omega);have hu:0≤((x1+x1)-x3):=(by omega);have eq:=bJ (0-x1) x3 ((x1+x1)-x3) (x3+x3) (by omega) (by omega) hu (by omega) (by intro z;exact h7 (by rw[z];exact bH _));have eb:decide (2*aI x0 x1 x2+x3≤0)=true:=decide_eq_true (by rw[hv];omega);have es:(!decide (x0=0))=true:=(by simp [*]);rw[eb,hv,←eq,←es];rfl
 refine aG (.cmp .ne (.app 30 (.cons zzc (.cons (.lit 281474976710656) .nil))) (.lit 0)) (fun h8=>?_) (fun h8=>?_)
 ·skip
  refine aE aCz ?_
  refine⟨rfl,?_⟩;simp only[nn,G,wG,nq]at *;have hA:aI x0 x1 x2=x1∨aI x0 x1 x2=0-x1:=(by unfold aI;(repeat' split)<;>omega);have hv:aI x0 x1 x2=0-x1:=(by unfold aI;(repeat' split)<;>omega);have hu:0≤((x1+x1)-x3):=(by omega);have eq:=bJ (0-x1) x3 ((x1+x1)-x3) (x3+x3) (by omega) (by omega) hu (by omega) (by intro z;exact h8 (by rw[z];exact bH _));have eb:decide (2*aI x0 x1 x2+x3≤0)=true:=decide_eq_true (by rw[hv];omega);have es:(!decide (x0=0))=true:=(by simp [*]);rw[eb,hv,←eq,←es];rfl
 refine aG (.cmp .ne (.app 30 (.cons zzc (.cons (.lit 18446744073709551616) .nil))) (.lit 0)) (fun h9=>?_) (fun h9=>?_)
 ·skip
  refine aE aCo ?_
  refine⟨rfl,?_⟩;simp only[nn,G,wG,nq]at *;have hA:aI x0 x1 x2=x1∨aI x0 x1 x2=0-x1:=(by unfold aI;(repeat' split)<;>omega);have hv:aI x0 x1 x2=0-x1:=(by unfold aI;(repeat' split)<;>omega);have hu:0≤((x1+x1)-x3):=(by omega);have eq:=bJ (0-x1) x3 ((x1+x1)-x3) (x3+x3) (by omega) (by omega) hu (by omega) (by intro z;exact h9 (by rw[z];exact bH _));have eb:decide (2*aI x0 x1 x2+x3≤0)=true:=decide_eq_true (by rw[hv];omega);have es:(!decide (x0=0))=true:=(by simp [*]);rw[eb,hv,←eq,←es];rfl
 refine aG (.cmp .ne (.app 30 (.cons zzc (.cons (.lit 1208925819614629174706176) .nil))) (.lit 0)) (fun h10=>?_) (fun h10=>?_)
 ·skip
  refine aE aCb ?_
  refine⟨rfl,?_⟩;simp only[nn,G,wG,nq]at *;have hA:aI x0 x1 x2=x1∨aI x0 x1 x2=0-x1:=(by unfold aI;(repeat' split)<;>omega);have hv:aI x0 x1 x2=0-x1:=(by unfold aI;(repeat' split)<;>omega);have hu:0≤((x1+x1)-x3):=(by omega);have eq:=bJ (0-x1) x3 ((x1+x1)-x3) (x3+x3) (by omega) (by omega) hu (by omega) (by intro z;exact h10 (by rw[z];exact bH _));have eb:decide (2*aI x0 x1 x2+x3≤0)=true:=decide_eq_true (by rw[hv];omega);have es:(!decide (x0=0))=true:=(by simp [*]);rw[eb,hv,←eq,←es];rfl
 refine aG (.cmp .ne (.app 30 (.cons zzc (.cons (.lit 79228162514264337593543950336) .nil))) (.lit 0)) (fun h11=>?_) (fun h11=>?_)
 ·skip
  refine aE aCK ?_
  refine⟨rfl,?_⟩;simp only[nn,G,wG,nq]at *;have hA:aI x0 x1 x2=x1∨aI x0 x1 x2=0-x1:=(by unfold aI;(repeat' split)<;>omega);have hv:aI x0 x1 x2=0-x1:=(by unfold aI;(repeat' split)<;>omega);have hu:0≤((x1+x1)-x3):=(by omega);have eq:=bJ (0-x1) x3 ((x1+x1)-x3) (x3+x3) (by omega) (by omega) hu (by omega) (by intro z;exact h11 (by rw[z];exact bH _));have eb:decide (2*aI x0 x1 x2+x3≤0)=true:=decide_eq_true (by rw[hv];omega);have es:(!decide (x0=0))=true:=(by simp [*]);rw[eb,hv,←eq,←es];rfl
 refine aG (.cmp .ne (.app 30 (.cons zzc (.cons (.lit 5192296858534827628530496329220096) .nil))) (.lit 0)) (fun h12=>?_) (fun h12=>?_)
 ·skip
  refine aE aCG ?_
  refine⟨rfl,?_⟩;simp only[nn,G,wG,nq]at *;have hA:aI x0 x1 x2=x1∨aI x0 x1 x2=0-x1:=(by unfold aI;(repeat' split)<;>omega);have hv:aI x0 x1 x2=0-x1:=(by unfold aI;(repeat' split)<;>omega);have hu:0≤((x1+x1)-x3):=(by omega);have eq:=bJ (0-x1) x3 ((x1+x1)-x3) (x3+x3) (by omega) (by omega) hu (by omega) (by intro z;exact h12 (by rw[z];exact bH _));have eb:decide (2*aI x0 x1 x2+x3≤0)=true:=decide_eq_true (by rw[hv];omega);have es:(!decide (x0=0))=true:=(by simp [*]);rw[eb,hv,←eq,←es];rfl
 refine aG (.cmp .ne (.app 30 (.cons zzc (.cons (.lit 340282366920938463463374607431768211456) .nil))) (.lit 0)) (fun h13=>?_) (fun h13=>?_)
 ·skip
  refine aE aCx ?_
  refine⟨rfl,?_⟩;simp only[nn,G,wG,nq]at *;have hA:aI x0 x1 x2=x1∨aI x0 x1 x2=0-x1:=(by unfold aI;(repeat' split)<;>omega);have hv:aI x0 x1 x2=0-x1:=(by unfold aI;(repeat' split)<;>omega);have hu:0≤((x1+x1)-x3):=(by omega);have eq:=bJ (0-x1) x3 ((x1+x1)-x3) (x3+x3) (by omega) (by omega) hu (by omega) (by intro z;exact h13 (by rw[z];exact bH _));have eb:decide (2*aI x0 x1 x2+x3≤0)=true:=decide_eq_true (by rw[hv];omega);have es:(!decide (x0=0))=true:=(by simp [*]);rw[eb,hv,←eq,←es];rfl
 refine aG (.cmp .ne (.app 30 (.cons zzc (.cons (.lit 22300745198530623141535718272648361505980416) .nil))) (.lit 0)) (fun h14=>?_) (fun h14=>?_)
 ·skip
  refine aE aCS ?_
  refine⟨rfl,?_⟩;simp only[nn,G,wG,nq]at *;have hA:aI x0 x1 x2=x1∨aI x0 x1 x2=0-x1:=(by unfold aI;(repeat' split)<;>omega);have hv:aI x0 x1 x2=0-x1:=(by unfold aI;(repeat' split)<;>omega);have hu:0≤((x1+x1)-x3):=(by omega);have eq:=bJ (0-x1) x3 ((x1+x1)-x3) (x3+x3) (by omega) (by omega) hu (by omega) (by intro z;exact h14 (by rw[z];exact bH _));have eb:decide (2*aI x0 x1 x2+x3≤0)=true:=decide_eq_true (by rw[hv];omega);have es:(!decide (x0=0))=true:=(by simp [*]);rw[eb,hv,←eq,←es];rfl
 refine aG (.cmp .ne (.app 30 (.cons zzc (.cons (.lit 1461501637330902918203684832716283019655932542976) .nil))) (.lit 0)) (fun h15=>?_) (fun h15=>?_)
 ·skip
  refine aE aCf ?_
  refine⟨rfl,?_⟩;simp only[nn,G,wG,nq]at *;have hA:aI x0 x1 x2=x1∨aI x0 x1 x2=0-x1:=(by unfold aI;(repeat' split)<;>omega);have hv:aI x0 x1 x2=0-x1:=(by unfold aI;(repeat' split)<;>omega);have hu:0≤((x1+x1)-x3):=(by omega);have eq:=bJ (0-x1) x3 ((x1+x1)-x3) (x3+x3) (by omega) (by omega) hu (by omega) (by intro z;exact h15 (by rw[z];exact bH _));have eb:decide (2*aI x0 x1 x2+x3≤0)=true:=decide_eq_true (by rw[hv];omega);have es:(!decide (x0=0))=true:=(by simp [*]);rw[eb,hv,←eq,←es];rfl
 refine aG (.cmp .ne (.app 30 (.cons zzc (.cons (.lit 95780971304118053647396689196894323976171195136475136) .nil))) (.lit 0)) (fun h16=>?_) (fun h16=>?_)
 ·skip
  refine aE aCs ?_
  refine⟨rfl,?_⟩;simp only[nn,G,wG,nq]at *;have hA:aI x0 x1 x2=x1∨aI x0 x1 x2=0-x1:=(by unfold aI;(repeat' split)<;>omega);have hv:aI x0 x1 x2=0-x1:=(by unfold aI;(repeat' split)<;>omega);have hu:0≤((x1+x1)-x3):=(by omega);have eq:=bJ (0-x1) x3 ((x1+x1)-x3) (x3+x3) (by omega) (by omega) hu (by omega) (by intro z;exact h16 (by rw[z];exact bH _));have eb:decide (2*aI x0 x1 x2+x3≤0)=true:=decide_eq_true (by rw[hv];omega);have es:(!decide (x0=0))=true:=(by simp [*]);rw[eb,hv,←eq,←es];rfl
 refine aE aCQ ?_
 refine⟨rfl,?_⟩;simp only[nn,G,wG,nq]at *;have hA:aI x0 x1 x2=x1∨aI x0 x1 x2=0-x1:=(by unfold aI;(repeat' split)<;>omega);have hv:aI x0 x1 x2=0-x1:=(by unfold aI;(repeat' split)<;>omega);have hu:0≤((x1+x1)-x3):=(by omega);obtain⟨w0,w1⟩:=mV (0-x1) x3 ((x1+x1)-x3) (by omega) (by omega) hu;have ed:(x3+x3)=2*x3:=(by omega);have er:(Int.tmod ((x1+x1)-x3) (x3+x3))=((x1+x1)-x3) % (2*x3):=(by rw[ed,Int.tmod_eq_emod_of_nonneg hu]);have hl:=jE (0-x1) x3 (by omega);have hneg:Fx.near (0-x1) x3≤0:=(hl.2 (by omega)).2;have hr:((x1+x1)-x3) % (2*x3)=0:=(by rw[←er];have ha:=eR (Int.tmod ((x1+x1)-x3) (x3+x3)) (Int.tmod_nonneg _ hu) (by rw[er];have:=Int.emod_lt_of_pos ((x1+x1)-x3) (show 0<2*x3 by omega);omega);omega);have eq:(Int.tdiv ((x1+x1)-x3) (x3+x3))=max (Fx.near (0-x1) x3) (0-Fx.near (0-x1) x3):=(by rw[ed,Int.tdiv_eq_ediv_of_nonneg hu,←w0 hr];omega);have eb:decide (2*aI x0 x1 x2+x3≤0)=true:=decide_eq_true (by rw[hv];omega);have es:(!decide (x0=0))=true:=(by simp [*]);rw[eb,hv,←eq,←es];rfl
end Go.Proofs.Ytkpdiehbaiepaaa
