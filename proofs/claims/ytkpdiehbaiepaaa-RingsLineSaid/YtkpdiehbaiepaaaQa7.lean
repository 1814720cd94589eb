/- What is proved: the division of two rows of digits,bit by bit. The conditions are the numbers' own bounds. -/
import Derived.Test.YtkpdiehbaiepaaaQNn
import Derived.Test.YtkpdiehbaiepaaaQa6
import Derived.Test.YtkpdiehbaiepaaaQg3
set_option linter.unusedSimpArgs false
set_option linter.unusedVariables false
namespace Go.Proofs.Ytkpdiehbaiepaaa
open Go Go.RowKit Sx Nu Wi
theorem bCz (x0 x1:Int) (b0:0≤x0∧x0≤1569275433846670190958947355801916604025588861116008628223) (b1:1≤x1∧x1≤1569275433846670190958947355801916604025588861116008628223):∀ x,iR x0 x1 x→∀ i q,([(0,1569275433846670190958947355801916604025588861116008628223),(1,1569275433846670190958947355801916604025588861116008628223),((-1),191),(0,1569275433846670190958947355801916604025588861116008628223),(0,1569275433846670190958947355801916604025588861116008628223)]:List (Int × Int))[i]?=some q→q.1≤aV x0 x1 x i∧aV x0 x1 x i≤q.2:=by
 rintro⟨x2,x3,x4⟩ ⟨⟨g1,g2⟩,⟨g3,g3'⟩,⟨g4,g5⟩,g6⟩
 simp only at g1 g2 g3 g3' g4 g5 g6
 exact bL (xs:=[x0,x1,x2,x3,x4]) ⟨b0,b1,⟨g1,g2⟩,⟨g3,by omega⟩,⟨g4,by omega⟩,trivial⟩
set_option maxHeartbeats 40000000 in
set_option maxRecDepth 100000 in
theorem aYy (x0 x1:Int) (b0:0≤x0∧x0≤1569275433846670190958947355801916604025588861116008628223) (b1:1≤x1∧x1≤1569275433846670190958947355801916604025588861116008628223):∀ x,iR x0 x1 x→Sx.jH (zE Try.prog) G (aV x0 x1 x) (dG G (aV x0 x1) (bT [x0,x1]) 2 (.lit true) (iR x0 x1) dO x) []:=by
 rintro⟨x2,x3,x4⟩ ⟨⟨g1,g2⟩,⟨g3,g3'⟩,⟨g4,g5⟩,g6⟩
 simp only at g1 g2 g3 g3' g4 g5 g6
 show Sx.jH (zE Try.prog) G (bT [x0,x1,x2,x3,x4]) (dG G (aV x0 x1) (bT [x0,x1]) 2 (.lit true) (iR x0 x1) dO (x2,x3,x4)) []
 refine aG (.cmp .le (.lit 0) (.var 2)) (fun h0=>?_) (fun h0=>?_)
 rotate_left
 ·skip
  refine aE aOS ?_
  simp only[nn,G,wG,aJ,aV,nq]at *;have hz:x2 = -1:=(by omega);subst hz;rw[show (-1:Int)+1=0 by rfl,show pw 0=1 from rfl,Int.ediv_one]at g6;obtain⟨e1,e2⟩:=aVK x0 x3 x4 x1 (by omega) g6 g4 g5;have t1:x0.tdiv x1=x3:=(by rw[Int.tdiv_eq_ediv_of_nonneg (by omega),e1]);have t2:x0.tmod x1=x4:=(by rw[Int.tmod_eq_emod_of_nonneg (by omega),e2]);refine⟨rfl,fun i hi=>(by match i,hi with|0,_=>rfl|1,_=>rfl),?_⟩;simp only[nn,G,wG,aJ,aV,nq]at *;rw[t1,t2];(repeat' refine And.intro ?_ ?_)<;>first|trivial|rfl
 refine aG (.cmp .eq (.op .quo (.var 2) (.lit 16)) (.lit 0)) (fun h1=>?_) (fun h1=>?_)
 ·skip
  refine aG (.cmp .le (.op .add (.app 30 (.cons (.op .add (.var 4) (.var 4)) (.cons (.lit 1) .nil))) (.op .rem (.op .fdiv (.app 30 (.cons (.var 0) (.cons (.lit 1) .nil))) (.op .shl (.lit 1) (.op .rem (.var 2) (.lit 16)))) (.lit 2))) (.lit 65535)) (fun h2=>?_) (fun h2=>?_)
  rotate_left
  ·skip
   refine cB ?_
   exfalso;simp only[nn,G,wG,aJ,aV,nq]at *;have tq:x2.tdiv 16=x2 / 16:=Int.tdiv_eq_ediv_of_nonneg (by omega);have tm:x2.tmod 16=x2 % 16:=Int.tmod_eq_emod_of_nonneg (by omega);have hj:x2 / 16=0:=(by simp only[tq]at *;omega);have ps:=hZ 0 (x2 % 16) (by decide) (by omega);rw[show 0+x2 % 16=x2 by omega]at ps;obtain⟨bl,bb0,bb1⟩:=fU x0 x2 (x2 % 16) 1 b0.1 (by decide) (by omega) (by omega) ps (fV x2 (by omega));rw[←tm]at bl bb0 bb1;generalize hbb:Int.tmod (Int.fdiv (dg x0 1) (1*2 ^ (Int.tmod x2 16).toNat)) 2=bb at *;unfold dg at *;omega
  refine aG (.cmp .lt (.op .add (.op .add (.var 4) (.var 4)) (.op .rem (.op .fdiv (.app 30 (.cons (.var 0) (.cons (.lit 1) .nil))) (.op .shl (.lit 1) (.op .rem (.var 2) (.lit 16)))) (.lit 2))) (.var 1)) (fun h3=>?_) (fun h3=>?_)
  ·skip
   refine aE aYo ?_
   simp only[nn,G,wG,aJ,aV,nq]at *;obtain⟨q0,q1,n1,n2⟩:=cG x0 x1 x2 x3 x4 1 0 (by have := @fP x2 (by omega);omega) (by omega) (by decide) rfl (by decide) b0.1 b1.1 ⟨⟨g1,g2⟩,⟨g3,g3'⟩,⟨g4,g5⟩,g6⟩;generalize hbb:Int.tmod (Int.fdiv (dg x0 1) (1*2 ^ (Int.tmod x2 16).toNat)) 2=bb at *;refine⟨(x2-1,x3+x3,x4+x4+bb),n2 (by omega),?_,fun i hi=>(by match i,hi with|0,_=>rfl|1,_=>rfl),?_⟩;(unfold dO;omega);have zz:=cY (x4+x4) bb (by omega) (by omega) (by omega);simp only[nn,G,wG,aJ,aV,nq]at *;simp only[hbb,zz];(repeat' refine And.intro ?_ ?_)<;>first|trivial|rfl
  refine aG (.cmp .lt (.var 1) (.op .add (.op .add (.var 4) (.var 4)) (.op .rem (.op .fdiv (.app 30 (.cons (.var 0) (.cons (.lit 1) .nil))) (.op .shl (.lit 1) (.op .rem (.var 2) (.lit 16)))) (.lit 2)))) (fun h4=>?_) (fun h4=>?_)
  ·skip
   refine aE aY8 ?_
   simp only[nn,G,wG,aJ,aV,nq]at *;obtain⟨q0,q1,n1,n2⟩:=cG x0 x1 x2 x3 x4 1 0 (by have := @fP x2 (by omega);omega) (by omega) (by decide) rfl (by decide) b0.1 b1.1 ⟨⟨g1,g2⟩,⟨g3,g3'⟩,⟨g4,g5⟩,g6⟩;generalize hbb:Int.tmod (Int.fdiv (dg x0 1) (1*2 ^ (Int.tmod x2 16).toNat)) 2=bb at *;refine⟨(x2-1,x3+x3+1,x4+x4+bb-x1),n1 (by omega),?_,fun i hi=>(by match i,hi with|0,_=>rfl|1,_=>rfl),?_⟩;(unfold dO;omega);have zz:=cY (x3+x3) 1 (by omega) (by omega) (by omega);simp only[nn,G,wG,aJ,aV,nq]at *;simp only[hbb,zz];(repeat' refine And.intro ?_ ?_)<;>first|trivial|rfl
  refine aE aZg ?_
  simp only[nn,G,wG,aJ,aV,nq]at *;obtain⟨q0,q1,n1,n2⟩:=cG x0 x1 x2 x3 x4 1 0 (by have := @fP x2 (by omega);omega) (by omega) (by decide) rfl (by decide) b0.1 b1.1 ⟨⟨g1,g2⟩,⟨g3,g3'⟩,⟨g4,g5⟩,g6⟩;generalize hbb:Int.tmod (Int.fdiv (dg x0 1) (1*2 ^ (Int.tmod x2 16).toNat)) 2=bb at *;refine⟨(x2-1,x3+x3+1,x4+x4+bb-x1),n1 (by omega),?_,fun i hi=>(by match i,hi with|0,_=>rfl|1,_=>rfl),?_⟩;(unfold dO;omega);have zz:=cY (x3+x3) 1 (by omega) (by omega) (by omega);simp only[nn,G,wG,aJ,aV,nq]at *;simp only[hbb,zz];(repeat' refine And.intro ?_ ?_)<;>first|trivial|rfl
 refine aG (.cmp .eq (.op .quo (.var 2) (.lit 16)) (.lit 1)) (fun h2=>?_) (fun h2=>?_)
 ·skip
  refine aG (.cmp .le (.op .add (.app 30 (.cons (.op .add (.var 4) (.var 4)) (.cons (.lit 1) .nil))) (.op .rem (.op .fdiv (.app 30 (.cons (.var 0) (.cons (.lit 65536) .nil))) (.op .shl (.lit 1) (.op .rem (.var 2) (.lit 16)))) (.lit 2))) (.lit 65535)) (fun h3=>?_) (fun h3=>?_)
  rotate_left
  ·skip
   refine cB ?_
   exfalso;simp only[nn,G,wG,aJ,aV,nq]at *;have tq:x2.tdiv 16=x2 / 16:=Int.tdiv_eq_ediv_of_nonneg (by omega);have tm:x2.tmod 16=x2 % 16:=Int.tmod_eq_emod_of_nonneg (by omega);have hj:x2 / 16=1:=(by simp only[tq]at *;omega);have ps:=hZ 16 (x2 % 16) (by decide) (by omega);rw[show 16+x2 % 16=x2 by omega]at ps;obtain⟨bl,bb0,bb1⟩:=fU x0 x2 (x2 % 16) 65536 b0.1 (by decide) (by omega) (by omega) ps (fV x2 (by omega));rw[←tm]at bl bb0 bb1;generalize hbb:Int.tmod (Int.fdiv (dg x0 65536) (1*2 ^ (Int.tmod x2 16).toNat)) 2=bb at *;unfold dg at *;omega
  refine aG (.cmp .lt (.op .add (.op .add (.var 4) (.var 4)) (.op .rem (.op .fdiv (.app 30 (.cons (.var 0) (.cons (.lit 65536) .nil))) (.op .shl (.lit 1) (.op .rem (.var 2) (.lit 16)))) (.lit 2))) (.var 1)) (fun h4=>?_) (fun h4=>?_)
  ·skip
   refine aE aUh ?_
   simp only[nn,G,wG,aJ,aV,nq]at *;obtain⟨q0,q1,n1,n2⟩:=cG x0 x1 x2 x3 x4 65536 1 (by have := @fP x2 (by omega);omega) (by omega) (by decide) rfl (by decide) b0.1 b1.1 ⟨⟨g1,g2⟩,⟨g3,g3'⟩,⟨g4,g5⟩,g6⟩;generalize hbb:Int.tmod (Int.fdiv (dg x0 65536) (1*2 ^ (Int.tmod x2 16).toNat)) 2=bb at *;refine⟨(x2-1,x3+x3,x4+x4+bb),n2 (by omega),?_,fun i hi=>(by match i,hi with|0,_=>rfl|1,_=>rfl),?_⟩;(unfold dO;omega);have zz:=cY (x4+x4) bb (by omega) (by omega) (by omega);simp only[nn,G,wG,aJ,aV,nq]at *;simp only[hbb,zz];(repeat' refine And.intro ?_ ?_)<;>first|trivial|rfl
  refine aG (.cmp .lt (.var 1) (.op .add (.op .add (.var 4) (.var 4)) (.op .rem (.op .fdiv (.app 30 (.cons (.var 0) (.cons (.lit 65536) .nil))) (.op .shl (.lit 1) (.op .rem (.var 2) (.lit 16)))) (.lit 2)))) (fun h5=>?_) (fun h5=>?_)
  ·skip
   refine aE aS3 ?_
   simp only[nn,G,wG,aJ,aV,nq]at *;obtain⟨q0,q1,n1,n2⟩:=cG x0 x1 x2 x3 x4 65536 1 (by have := @fP x2 (by omega);omega) (by omega) (by decide) rfl (by decide) b0.1 b1.1 ⟨⟨g1,g2⟩,⟨g3,g3'⟩,⟨g4,g5⟩,g6⟩;generalize hbb:Int.tmod (Int.fdiv (dg x0 65536) (1*2 ^ (Int.tmod x2 16).toNat)) 2=bb at *;refine⟨(x2-1,x3+x3+1,x4+x4+bb-x1),n1 (by omega),?_,fun i hi=>(by match i,hi with|0,_=>rfl|1,_=>rfl),?_⟩;(unfold dO;omega);have zz:=cY (x3+x3) 1 (by omega) (by omega) (by omega);simp only[nn,G,wG,aJ,aV,nq]at *;simp only[hbb,zz];(repeat' refine And.intro ?_ ?_)<;>first|trivial|rfl
  refine aE aQw ?_
  simp only[nn,G,wG,aJ,aV,nq]at *;obtain⟨q0,q1,n1,n2⟩:=cG x0 x1 x2 x3 x4 65536 1 (by have := @fP x2 (by omega);omega) (by omega) (by decide) rfl (by decide) b0.1 b1.1 ⟨⟨g1,g2⟩,⟨g3,g3'⟩,⟨g4,g5⟩,g6⟩;generalize hbb:Int.tmod (Int.fdiv (dg x0 65536) (1*2 ^ (Int.tmod x2 16).toNat)) 2=bb at *;refine⟨(x2-1,x3+x3+1,x4+x4+bb-x1),n1 (by omega),?_,fun i hi=>(by match i,hi with|0,_=>rfl|1,_=>rfl),?_⟩;(unfold dO;omega);have zz:=cY (x3+x3) 1 (by omega) (by omega) (by omega);simp only[nn,G,wG,aJ,aV,nq]at *;simp only[hbb,zz];(repeat' refine And.intro ?_ ?_)<;>first|trivial|rfl
 refine aG (.cmp .eq (.op .quo (.var 2) (.lit 16)) (.lit 2)) (fun h3=>?_) (fun h3=>?_)
 ·skip
  refine aG (.cmp .le (.op .add (.app 30 (.cons (.op .add (.var 4) (.var 4)) (.cons (.lit 1) .nil))) (.op .rem (.op .fdiv (.app 30 (.cons (.var 0) (.cons (.lit 4294967296) .nil))) (.op .shl (.lit 1) (.op .rem (.var 2) (.lit 16)))) (.lit 2))) (.lit 65535)) (fun h4=>?_) (fun h4=>?_)
  rotate_left
  ·skip
   refine cB ?_
   exfalso;simp only[nn,G,wG,aJ,aV,nq]at *;have tq:x2.tdiv 16=x2 / 16:=Int.tdiv_eq_ediv_of_nonneg (by omega);have tm:x2.tmod 16=x2 % 16:=Int.tmod_eq_emod_of_nonneg (by omega);have hj:x2 / 16=2:=(by simp only[tq]at *;omega);have ps:=hZ 32 (x2 % 16) (by decide) (by omega);rw[show 32+x2 % 16=x2 by omega]at ps;obtain⟨bl,bb0,bb1⟩:=fU x0 x2 (x2 % 16) 4294967296 b0.1 (by decide) (by omega) (by omega) ps (fV x2 (by omega));rw[←tm]at bl bb0 bb1;generalize hbb:Int.tmod (Int.fdiv (dg x0 4294967296) (1*2 ^ (Int.tmod x2 16).toNat)) 2=bb at *;unfold dg at *;omega
  refine aG (.cmp .lt (.op .add (.op .add (.var 4) (.var 4)) (.op .rem (.op .fdiv (.app 30 (.cons (.var 0) (.cons (.lit 4294967296) .nil))) (.op .shl (.lit 1) (.op .rem (.var 2) (.lit 16)))) (.lit 2))) (.var 1)) (fun h5=>?_) (fun h5=>?_)
  ·skip
   refine aE aUE ?_
   simp only[nn,G,wG,aJ,aV,nq]at *;obtain⟨q0,q1,n1,n2⟩:=cG x0 x1 x2 x3 x4 4294967296 2 (by have := @fP x2 (by omega);omega) (by omega) (by decide) rfl (by decide) b0.1 b1.1 ⟨⟨g1,g2⟩,⟨g3,g3'⟩,⟨g4,g5⟩,g6⟩;generalize hbb:Int.tmod (Int.fdiv (dg x0 4294967296) (1*2 ^ (Int.tmod x2 16).toNat)) 2=bb at *;refine⟨(x2-1,x3+x3,x4+x4+bb),n2 (by omega),?_,fun i hi=>(by match i,hi with|0,_=>rfl|1,_=>rfl),?_⟩;(unfold dO;omega);have zz:=cY (x4+x4) bb (by omega) (by omega) (by omega);simp only[nn,G,wG,aJ,aV,nq]at *;simp only[hbb,zz];(repeat' refine And.intro ?_ ?_)<;>first|trivial|rfl
  refine aG (.cmp .lt (.var 1) (.op .add (.op .add (.var 4) (.var 4)) (.op .rem (.op .fdiv (.app 30 (.cons (.var 0) (.cons (.lit 4294967296) .nil))) (.op .shl (.lit 1) (.op .rem (.var 2) (.lit 16)))) (.lit 2)))) (fun h6=>?_) (fun h6=>?_)
  ·skip
   refine aE aOK ?_
   simp only[nn,G,wG,aJ,aV,nq]at *;obtain⟨q0,q1,n1,n2⟩:=cG x0 x1 x2 x3 x4 4294967296 2 (by have := @fP x2 (by omega);omega) (by omega) (by decide) rfl (by decide) b0.1 b1.1 ⟨⟨g1,g2⟩,⟨g3,g3'⟩,⟨g4,g5⟩,g6⟩;generalize hbb:Int.tmod (Int.fdiv (dg x0 4294967296) (1*2 ^ (Int.tmod x2 16).toNat)) 2=bb at *;refine⟨(x2-1,x3+x3+1,x4+x4+bb-x1),n1 (by omega),?_,fun i hi=>(by match i,hi with|0,_=>rfl|1,_=>rfl),?_⟩;(unfold dO;omega);have zz:=cY (x3+x3) 1 (by omega) (by omega) (by omega);simp only[nn,G,wG,aJ,aV,nq]at *;simp only[hbb,zz];(repeat' refine And.intro ?_ ?_)<;>first|trivial|rfl
  refine aE aQA ?_
  simp only[nn,G,wG,aJ,aV,nq]at *;obtain⟨q0,q1,n1,n2⟩:=cG x0 x1 x2 x3 x4 4294967296 2 (by have := @fP x2 (by omega);omega) (by omega) (by decide) rfl (by decide) b0.1 b1.1 ⟨⟨g1,g2⟩,⟨g3,g3'⟩,⟨g4,g5⟩,g6⟩;generalize hbb:Int.tmod (Int.fdiv (dg x0 4294967296) (1*2 ^ (Int.tmod x2 16).toNat)) 2=bb at *;refine⟨(x2-1,x3+x3+1,x4+x4+bb-x1),n1 (by omega),?_,fun i hi=>(by match i,hi with|0,_=>rfl|1,_=>rfl),?_⟩;(unfold dO;omega);have zz:=cY (x3+x3) 1 (by omega) (by omega) (by omega);simp only[nn,G,wG,aJ,aV,nq]at *;simp only[hbb,zz];(repeat' refine And.intro ?_ ?_)<;>first|trivial|rfl
 refine aG (.cmp .eq (.op .quo (.var 2) (.lit 16)) (.lit 3)) (fun h4=>?_) (fun h4=>?_)
 ·skip
  refine aG (.cmp .le (.op .add (.app 30 (.cons (.op .add (.var 4) (.var 4)) (.cons (.lit 1) .nil))) (.op .rem (.op .fdiv (.app 30 (.cons (.var 0) (.cons (.lit 281474976710656) .nil))) (.op .shl (.lit 1) (.op .rem (.var 2) (.lit 16)))) (.lit 2))) (.lit 65535)) (fun h5=>?_) (fun h5=>?_)
  rotate_left
  ·skip
   refine cB ?_
   exfalso;simp only[nn,G,wG,aJ,aV,nq]at *;have tq:x2.tdiv 16=x2 / 16:=Int.tdiv_eq_ediv_of_nonneg (by omega);have tm:x2.tmod 16=x2 % 16:=Int.tmod_eq_emod_of_nonneg (by omega);have hj:x2 / 16=3:=(by simp only[tq]at *;omega);have ps:=hZ 48 (x2 % 16) (by decide) (by omega);rw[show 48+x2 % 16=x2 by omega]at ps;obtain⟨bl,bb0,bb1⟩:=fU x0 x2 (x2 % 16) 281474976710656 b0.1 (by decide) (by omega) (by omega) ps (fV x2 (by omega));rw[←tm]at bl bb0 bb1;generalize hbb:Int.tmod (Int.fdiv (dg x0 281474976710656) (1*2 ^ (Int.tmod x2 16).toNat)) 2=bb at *;unfold dg at *;omega
  refine aG (.cmp .lt (.op .add (.op .add (.var 4) (.var 4)) (.op .rem (.op .fdiv (.app 30 (.cons (.var 0) (.cons (.lit 281474976710656) .nil))) (.op .shl (.lit 1) (.op .rem (.var 2) (.lit 16)))) (.lit 2))) (.var 1)) (fun h6=>?_) (fun h6=>?_)
  ·skip
   refine aE aOp ?_
   simp only[nn,G,wG,aJ,aV,nq]at *;obtain⟨q0,q1,n1,n2⟩:=cG x0 x1 x2 x3 x4 281474976710656 3 (by have := @fP x2 (by omega);omega) (by omega) (by decide) rfl (by decide) b0.1 b1.1 ⟨⟨g1,g2⟩,⟨g3,g3'⟩,⟨g4,g5⟩,g6⟩;generalize hbb:Int.tmod (Int.fdiv (dg x0 281474976710656) (1*2 ^ (Int.tmod x2 16).toNat)) 2=bb at *;refine⟨(x2-1,x3+x3,x4+x4+bb),n2 (by omega),?_,fun i hi=>(by match i,hi with|0,_=>rfl|1,_=>rfl),?_⟩;(unfold dO;omega);have zz:=cY (x4+x4) bb (by omega) (by omega) (by omega);simp only[nn,G,wG,aJ,aV,nq]at *;simp only[hbb,zz];(repeat' refine And.intro ?_ ?_)<;>first|trivial|rfl
  refine aG (.cmp .lt (.var 1) (.op .add (.op .add (.var 4) (.var 4)) (.op .rem (.op .fdiv (.app 30 (.cons (.var 0) (.cons (.lit 281474976710656) .nil))) (.op .shl (.lit 1) (.op .rem (.var 2) (.lit 16)))) (.lit 2)))) (fun h7=>?_) (fun h7=>?_)
  ·skip
   refine aE aSd ?_
   simp only[nn,G,wG,aJ,aV,nq]at *;obtain⟨q0,q1,n1,n2⟩:=cG x0 x1 x2 x3 x4 281474976710656 3 (by have := @fP x2 (by omega);omega) (by omega) (by decide) rfl (by decide) b0.1 b1.1 ⟨⟨g1,g2⟩,⟨g3,g3'⟩,⟨g4,g5⟩,g6⟩;generalize hbb:Int.tmod (Int.fdiv (dg x0 281474976710656) (1*2 ^ (Int.tmod x2 16).toNat)) 2=bb at *;refine⟨(x2-1,x3+x3+1,x4+x4+bb-x1),n1 (by omega),?_,fun i hi=>(by match i,hi with|0,_=>rfl|1,_=>rfl),?_⟩;(unfold dO;omega);have zz:=cY (x3+x3) 1 (by omega) (by omega) (by omega);simp only[nn,G,wG,aJ,aV,nq]at *;simp only[hbb,zz];(repeat' refine And.intro ?_ ?_)<;>first|trivial|rfl
  refine aE aUv ?_
  simp only[nn,G,wG,aJ,aV,nq]at *;obtain⟨q0,q1,n1,n2⟩:=cG x0 x1 x2 x3 x4 281474976710656 3 (by have := @fP x2 (by omega);omega) (by omega) (by decide) rfl (by decide) b0.1 b1.1 ⟨⟨g1,g2⟩,⟨g3,g3'⟩,⟨g4,g5⟩,g6⟩;generalize hbb:Int.tmod (Int.fdiv (dg x0 281474976710656) (1*2 ^ (Int.tmod x2 16).toNat)) 2=bb at *;refine⟨(x2-1,x3+x3+1,x4+x4+bb-x1),n1 (by omega),?_,fun i hi=>(by match i,hi with|0,_=>rfl|1,_=>rfl),?_⟩;(unfold dO;omega);have zz:=cY (x3+x3) 1 (by omega) (by omega) (by omega);simp only[nn,G,wG,aJ,aV,nq]at *;simp only[hbb,zz];(repeat' refine And.intro ?_ ?_)<;>first|trivial|rfl
 refine aG (.cmp .eq (.op .quo (.var 2) (.lit 16)) (.lit 4)) (fun h5=>?_) (fun h5=>?_)
 ·skip
  refine aG (.cmp .le (.op .add (.app 30 (.cons (.op .add (.var 4) (.var 4)) (.cons (.lit 1) .nil))) (.op .rem (.op .fdiv (.app 30 (.cons (.var 0) (.cons (.lit 18446744073709551616) .nil))) (.op .shl (.lit 1) (.op .rem (.var 2) (.lit 16)))) (.lit 2))) (.lit 65535)) (fun h6=>?_) (fun h6=>?_)
  rotate_left
  ·skip
   refine cB ?_
   exfalso;simp only[nn,G,wG,aJ,aV,nq]at *;have tq:x2.tdiv 16=x2 / 16:=Int.tdiv_eq_ediv_of_nonneg (by omega);have tm:x2.tmod 16=x2 % 16:=Int.tmod_eq_emod_of_nonneg (by omega);have hj:x2 / 16=4:=(by simp only[tq]at *;omega);have ps:=hZ 64 (x2 % 16) (by decide) (by omega);rw[show 64+x2 % 16=x2 by omega]at ps;obtain⟨bl,bb0,bb1⟩:=fU x0 x2 (x2 % 16) 18446744073709551616 b0.1 (by decide) (by omega) (by omega) ps (fV x2 (by omega));rw[←tm]at bl bb0 bb1;generalize hbb:Int.tmod (Int.fdiv (dg x0 18446744073709551616) (1*2 ^ (Int.tmod x2 16).toNat)) 2=bb at *;unfold dg at *;omega
  refine aG (.cmp .lt (.op .add (.op .add (.var 4) (.var 4)) (.op .rem (.op .fdiv (.app 30 (.cons (.var 0) (.cons (.lit 18446744073709551616) .nil))) (.op .shl (.lit 1) (.op .rem (.var 2) (.lit 16)))) (.lit 2))) (.var 1)) (fun h7=>?_) (fun h7=>?_)
  ·skip
   refine aE aRY ?_
   simp only[nn,G,wG,aJ,aV,nq]at *;obtain⟨q0,q1,n1,n2⟩:=cG x0 x1 x2 x3 x4 18446744073709551616 4 (by have := @fP x2 (by omega);omega) (by omega) (by decide) rfl (by decide) b0.1 b1.1 ⟨⟨g1,g2⟩,⟨g3,g3'⟩,⟨g4,g5⟩,g6⟩;generalize hbb:Int.tmod (Int.fdiv (dg x0 18446744073709551616) (1*2 ^ (Int.tmod x2 16).toNat)) 2=bb at *;refine⟨(x2-1,x3+x3,x4+x4+bb),n2 (by omega),?_,fun i hi=>(by match i,hi with|0,_=>rfl|1,_=>rfl),?_⟩;(unfold dO;omega);have zz:=cY (x4+x4) bb (by omega) (by omega) (by omega);simp only[nn,G,wG,aJ,aV,nq]at *;simp only[hbb,zz];(repeat' refine And.intro ?_ ?_)<;>first|trivial|rfl
  refine aG (.cmp .lt (.var 1) (.op .add (.op .add (.var 4) (.var 4)) (.op .rem (.op .fdiv (.app 30 (.cons (.var 0) (.cons (.lit 18446744073709551616) .nil))) (.op .shl (.lit 1) (.op .rem (.var 2) (.lit 16)))) (.lit 2)))) (fun h8=>?_) (fun h8=>?_)
  ·skip
   refine aE aU8 ?_
   simp only[nn,G,wG,aJ,aV,nq]at *;obtain⟨q0,q1,n1,n2⟩:=cG x0 x1 x2 x3 x4 18446744073709551616 4 (by have := @fP x2 (by omega);omega) (by omega) (by decide) rfl (by decide) b0.1 b1.1 ⟨⟨g1,g2⟩,⟨g3,g3'⟩,⟨g4,g5⟩,g6⟩;generalize hbb:Int.tmod (Int.fdiv (dg x0 18446744073709551616) (1*2 ^ (Int.tmod x2 16).toNat)) 2=bb at *;refine⟨(x2-1,x3+x3+1,x4+x4+bb-x1),n1 (by omega),?_,fun i hi=>(by match i,hi with|0,_=>rfl|1,_=>rfl),?_⟩;(unfold dO;omega);have zz:=cY (x3+x3) 1 (by omega) (by omega) (by omega);simp only[nn,G,wG,aJ,aV,nq]at *;simp only[hbb,zz];(repeat' refine And.intro ?_ ?_)<;>first|trivial|rfl
  refine aE aRL ?_
  simp only[nn,G,wG,aJ,aV,nq]at *;obtain⟨q0,q1,n1,n2⟩:=cG x0 x1 x2 x3 x4 18446744073709551616 4 (by have := @fP x2 (by omega);omega) (by omega) (by decide) rfl (by decide) b0.1 b1.1 ⟨⟨g1,g2⟩,⟨g3,g3'⟩,⟨g4,g5⟩,g6⟩;generalize hbb:Int.tmod (Int.fdiv (dg x0 18446744073709551616) (1*2 ^ (Int.tmod x2 16).toNat)) 2=bb at *;refine⟨(x2-1,x3+x3+1,x4+x4+bb-x1),n1 (by omega),?_,fun i hi=>(by match i,hi with|0,_=>rfl|1,_=>rfl),?_⟩;(unfold dO;omega);have zz:=cY (x3+x3) 1 (by omega) (by omega) (by omega);simp only[nn,G,wG,aJ,aV,nq]at *;simp only[hbb,zz];(repeat' refine And.intro ?_ ?_)<;>first|trivial|rfl
 refine aG (.cmp .eq (.op .quo (.var 2) (.lit 16)) (.lit 5)) (fun h6=>?_) (fun h6=>?_)
 ·skip
  refine aG (.cmp .le (.op .add (.app 30 (.cons (.op .add (.var 4) (.var 4)) (.cons (.lit 1) .nil))) (.op .rem (.op .fdiv (.app 30 (.cons (.var 0) (.cons (.lit 1208925819614629174706176) .nil))) (.op .shl (.lit 1) (.op .rem (.var 2) (.lit 16)))) (.lit 2))) (.lit 65535)) (fun h7=>?_) (fun h7=>?_)
  rotate_left
  ·skip
   refine cB ?_
   exfalso;simp only[nn,G,wG,aJ,aV,nq]at *;have tq:x2.tdiv 16=x2 / 16:=Int.tdiv_eq_ediv_of_nonneg (by omega);have tm:x2.tmod 16=x2 % 16:=Int.tmod_eq_emod_of_nonneg (by omega);have hj:x2 / 16=5:=(by simp only[tq]at *;omega);have ps:=hZ 80 (x2 % 16) (by decide) (by omega);rw[show 80+x2 % 16=x2 by omega]at ps;obtain⟨bl,bb0,bb1⟩:=fU x0 x2 (x2 % 16) 1208925819614629174706176 b0.1 (by decide) (by omega) (by omega) ps (fV x2 (by omega));rw[←tm]at bl bb0 bb1;generalize hbb:Int.tmod (Int.fdiv (dg x0 1208925819614629174706176) (1*2 ^ (Int.tmod x2 16).toNat)) 2=bb at *;unfold dg at *;omega
  refine aG (.cmp .lt (.op .add (.op .add (.var 4) (.var 4)) (.op .rem (.op .fdiv (.app 30 (.cons (.var 0) (.cons (.lit 1208925819614629174706176) .nil))) (.op .shl (.lit 1) (.op .rem (.var 2) (.lit 16)))) (.lit 2))) (.var 1)) (fun h8=>?_) (fun h8=>?_)
  ·skip
   refine aE aUk ?_
   simp only[nn,G,wG,aJ,aV,nq]at *;obtain⟨q0,q1,n1,n2⟩:=cG x0 x1 x2 x3 x4 1208925819614629174706176 5 (by have := @fP x2 (by omega);omega) (by omega) (by decide) rfl (by decide) b0.1 b1.1 ⟨⟨g1,g2⟩,⟨g3,g3'⟩,⟨g4,g5⟩,g6⟩;generalize hbb:Int.tmod (Int.fdiv (dg x0 1208925819614629174706176) (1*2 ^ (Int.tmod x2 16).toNat)) 2=bb at *;refine⟨(x2-1,x3+x3,x4+x4+bb),n2 (by omega),?_,fun i hi=>(by match i,hi with|0,_=>rfl|1,_=>rfl),?_⟩;(unfold dO;omega);have zz:=cY (x4+x4) bb (by omega) (by omega) (by omega);simp only[nn,G,wG,aJ,aV,nq]at *;simp only[hbb,zz];(repeat' refine And.intro ?_ ?_)<;>first|trivial|rfl
  refine aG (.cmp .lt (.var 1) (.op .add (.op .add (.var 4) (.var 4)) (.op .rem (.op .fdiv (.app 30 (.cons (.var 0) (.cons (.lit 1208925819614629174706176) .nil))) (.op .shl (.lit 1) (.op .rem (.var 2) (.lit 16)))) (.lit 2)))) (fun h9=>?_) (fun h9=>?_)
  ·skip
   refine aE aVy ?_
   simp only[nn,G,wG,aJ,aV,nq]at *;obtain⟨q0,q1,n1,n2⟩:=cG x0 x1 x2 x3 x4 1208925819614629174706176 5 (by have := @fP x2 (by omega);omega) (by omega) (by decide) rfl (by decide) b0.1 b1.1 ⟨⟨g1,g2⟩,⟨g3,g3'⟩,⟨g4,g5⟩,g6⟩;generalize hbb:Int.tmod (Int.fdiv (dg x0 1208925819614629174706176) (1*2 ^ (Int.tmod x2 16).toNat)) 2=bb at *;refine⟨(x2-1,x3+x3+1,x4+x4+bb-x1),n1 (by omega),?_,fun i hi=>(by match i,hi with|0,_=>rfl|1,_=>rfl),?_⟩;(unfold dO;omega);have zz:=cY (x3+x3) 1 (by omega) (by omega) (by omega);simp only[nn,G,wG,aJ,aV,nq]at *;simp only[hbb,zz];(repeat' refine And.intro ?_ ?_)<;>first|trivial|rfl
  refine aE aTx ?_
  simp only[nn,G,wG,aJ,aV,nq]at *;obtain⟨q0,q1,n1,n2⟩:=cG x0 x1 x2 x3 x4 1208925819614629174706176 5 (by have := @fP x2 (by omega);omega) (by omega) (by decide) rfl (by decide) b0.1 b1.1 ⟨⟨g1,g2⟩,⟨g3,g3'⟩,⟨g4,g5⟩,g6⟩;generalize hbb:Int.tmod (Int.fdiv (dg x0 1208925819614629174706176) (1*2 ^ (Int.tmod x2 16).toNat)) 2=bb at *;refine⟨(x2-1,x3+x3+1,x4+x4+bb-x1),n1 (by omega),?_,fun i hi=>(by match i,hi with|0,_=>rfl|1,_=>rfl),?_⟩;(unfold dO;omega);have zz:=cY (x3+x3) 1 (by omega) (by omega) (by omega);simp only[nn,G,wG,aJ,aV,nq]at *;simp only[hbb,zz];(repeat' refine And.intro ?_ ?_)<;>first|trivial|rfl
 refine aG (.cmp .eq (.op .quo (.var 2) (.lit 16)) (.lit 6)) (fun h7=>?_) (fun h7=>?_)
 ·skip
  refine aG (.cmp .le (.op .add (.app 30 (.cons (.op .add (.var 4) (.var 4)) (.cons (.lit 1) .nil))) (.op .rem (.op .fdiv (.app 30 (.cons (.var 0) (.cons (.lit 79228162514264337593543950336) .nil))) (.op .shl (.lit 1) (.op .rem (.var 2) (.lit 16)))) (.lit 2))) (.lit 65535)) (fun h8=>?_) (fun h8=>?_)
  rotate_left
  ·skip
   refine cB ?_
   exfalso;simp only[nn,G,wG,aJ,aV,nq]at *;have tq:x2.tdiv 16=x2 / 16:=Int.tdiv_eq_ediv_of_nonneg (by omega);have tm:x2.tmod 16=x2 % 16:=Int.tmod_eq_emod_of_nonneg (by omega);have hj:x2 / 16=6:=(by simp only[tq]at *;omega);have ps:=hZ 96 (x2 % 16) (by decide) (by omega);rw[show 96+x2 % 16=x2 by omega]at ps;obtain⟨bl,bb0,bb1⟩:=fU x0 x2 (x2 % 16) 79228162514264337593543950336 b0.1 (by decide) (by omega) (by omega) ps (fV x2 (by omega));rw[←tm]at bl bb0 bb1;generalize hbb:Int.tmod (Int.fdiv (dg x0 79228162514264337593543950336) (1*2 ^ (Int.tmod x2 16).toNat)) 2=bb at *;unfold dg at *;omega
  refine aG (.cmp .lt (.op .add (.op .add (.var 4) (.var 4)) (.op .rem (.op .fdiv (.app 30 (.cons (.var 0) (.cons (.lit 79228162514264337593543950336) .nil))) (.op .shl (.lit 1) (.op .rem (.var 2) (.lit 16)))) (.lit 2))) (.var 1)) (fun h9=>?_) (fun h9=>?_)
  ·skip
   refine aE aQG ?_
   simp only[nn,G,wG,aJ,aV,nq]at *;obtain⟨q0,q1,n1,n2⟩:=cG x0 x1 x2 x3 x4 79228162514264337593543950336 6 (by have := @fP x2 (by omega);omega) (by omega) (by decide) rfl (by decide) b0.1 b1.1 ⟨⟨g1,g2⟩,⟨g3,g3'⟩,⟨g4,g5⟩,g6⟩;generalize hbb:Int.tmod (Int.fdiv (dg x0 79228162514264337593543950336) (1*2 ^ (Int.tmod x2 16).toNat)) 2=bb at *;refine⟨(x2-1,x3+x3,x4+x4+bb),n2 (by omega),?_,fun i hi=>(by match i,hi with|0,_=>rfl|1,_=>rfl),?_⟩;(unfold dO;omega);have zz:=cY (x4+x4) bb (by omega) (by omega) (by omega);simp only[nn,G,wG,aJ,aV,nq]at *;simp only[hbb,zz];(repeat' refine And.intro ?_ ?_)<;>first|trivial|rfl
  refine aG (.cmp .lt (.var 1) (.op .add (.op .add (.var 4) (.var 4)) (.op .rem (.op .fdiv (.app 30 (.cons (.var 0) (.cons (.lit 79228162514264337593543950336) .nil))) (.op .shl (.lit 1) (.op .rem (.var 2) (.lit 16)))) (.lit 2)))) (fun h10=>?_) (fun h10=>?_)
  ·skip
   refine aE aVS ?_
   simp only[nn,G,wG,aJ,aV,nq]at *;obtain⟨q0,q1,n1,n2⟩:=cG x0 x1 x2 x3 x4 79228162514264337593543950336 6 (by have := @fP x2 (by omega);omega) (by omega) (by decide) rfl (by decide) b0.1 b1.1 ⟨⟨g1,g2⟩,⟨g3,g3'⟩,⟨g4,g5⟩,g6⟩;generalize hbb:Int.tmod (Int.fdiv (dg x0 79228162514264337593543950336) (1*2 ^ (Int.tmod x2 16).toNat)) 2=bb at *;refine⟨(x2-1,x3+x3+1,x4+x4+bb-x1),n1 (by omega),?_,fun i hi=>(by match i,hi with|0,_=>rfl|1,_=>rfl),?_⟩;(unfold dO;omega);have zz:=cY (x3+x3) 1 (by omega) (by omega) (by omega);simp only[nn,G,wG,aJ,aV,nq]at *;simp only[hbb,zz];(repeat' refine And.intro ?_ ?_)<;>first|trivial|rfl
  refine aE aRt ?_
  simp only[nn,G,wG,aJ,aV,nq]at *;obtain⟨q0,q1,n1,n2⟩:=cG x0 x1 x2 x3 x4 79228162514264337593543950336 6 (by have := @fP x2 (by omega);omega) (by omega) (by decide) rfl (by decide) b0.1 b1.1 ⟨⟨g1,g2⟩,⟨g3,g3'⟩,⟨g4,g5⟩,g6⟩;generalize hbb:Int.tmod (Int.fdiv (dg x0 79228162514264337593543950336) (1*2 ^ (Int.tmod x2 16).toNat)) 2=bb at *;refine⟨(x2-1,x3+x3+1,x4+x4+bb-x1),n1 (by omega),?_,fun i hi=>(by match i,hi with|0,_=>rfl|1,_=>rfl),?_⟩;(unfold dO;omega);have zz:=cY (x3+x3) 1 (by omega) (by omega) (by omega);simp only[nn,G,wG,aJ,aV,nq]at *;simp only[hbb,zz];(repeat' refine And.intro ?_ ?_)<;>first|trivial|rfl
 refine aG (.cmp .eq (.op .quo (.var 2) (.lit 16)) (.lit 7)) (fun h8=>?_) (fun h8=>?_)
 ·skip
  refine aG (.cmp .le (.op .add (.app 30 (.cons (.op .add (.var 4) (.var 4)) (.cons (.lit 1) .nil))) (.op .rem (.op .fdiv (.app 30 (.cons (.var 0) (.cons (.lit 5192296858534827628530496329220096) .nil))) (.op .shl (.lit 1) (.op .rem (.var 2) (.lit 16)))) (.lit 2))) (.lit 65535)) (fun h9=>?_) (fun h9=>?_)
  rotate_left
  ·skip
   refine cB ?_
   exfalso;simp only[nn,G,wG,aJ,aV,nq]at *;have tq:x2.tdiv 16=x2 / 16:=Int.tdiv_eq_ediv_of_nonneg (by omega);have tm:x2.tmod 16=x2 % 16:=Int.tmod_eq_emod_of_nonneg (by omega);have hj:x2 / 16=7:=(by simp only[tq]at *;omega);have ps:=hZ 112 (x2 % 16) (by decide) (by omega);rw[show 112+x2 % 16=x2 by omega]at ps;obtain⟨bl,bb0,bb1⟩:=fU x0 x2 (x2 % 16) 5192296858534827628530496329220096 b0.1 (by decide) (by omega) (by omega) ps (fV x2 (by omega));rw[←tm]at bl bb0 bb1;generalize hbb:Int.tmod (Int.fdiv (dg x0 5192296858534827628530496329220096) (1*2 ^ (Int.tmod x2 16).toNat)) 2=bb at *;unfold dg at *;omega
  refine aG (.cmp .lt (.op .add (.op .add (.var 4) (.var 4)) (.op .rem (.op .fdiv (.app 30 (.cons (.var 0) (.cons (.lit 5192296858534827628530496329220096) .nil))) (.op .shl (.lit 1) (.op .rem (.var 2) (.lit 16)))) (.lit 2))) (.var 1)) (fun h10=>?_) (fun h10=>?_)
  ·skip
   refine aE aSr ?_
   simp only[nn,G,wG,aJ,aV,nq]at *;obtain⟨q0,q1,n1,n2⟩:=cG x0 x1 x2 x3 x4 5192296858534827628530496329220096 7 (by have := @fP x2 (by omega);omega) (by omega) (by decide) rfl (by decide) b0.1 b1.1 ⟨⟨g1,g2⟩,⟨g3,g3'⟩,⟨g4,g5⟩,g6⟩;generalize hbb:Int.tmod (Int.fdiv (dg x0 5192296858534827628530496329220096) (1*2 ^ (Int.tmod x2 16).toNat)) 2=bb at *;refine⟨(x2-1,x3+x3,x4+x4+bb),n2 (by omega),?_,fun i hi=>(by match i,hi with|0,_=>rfl|1,_=>rfl),?_⟩;(unfold dO;omega);have zz:=cY (x4+x4) bb (by omega) (by omega) (by omega);simp only[nn,G,wG,aJ,aV,nq]at *;simp only[hbb,zz];(repeat' refine And.intro ?_ ?_)<;>first|trivial|rfl
  refine aG (.cmp .lt (.var 1) (.op .add (.op .add (.var 4) (.var 4)) (.op .rem (.op .fdiv (.app 30 (.cons (.var 0) (.cons (.lit 5192296858534827628530496329220096) .nil))) (.op .shl (.lit 1) (.op .rem (.var 2) (.lit 16)))) (.lit 2)))) (fun h11=>?_) (fun h11=>?_)
  ·skip
   refine aE aTY ?_
   simp only[nn,G,wG,aJ,aV,nq]at *;obtain⟨q0,q1,n1,n2⟩:=cG x0 x1 x2 x3 x4 5192296858534827628530496329220096 7 (by have := @fP x2 (by omega);omega) (by omega) (by decide) rfl (by decide) b0.1 b1.1 ⟨⟨g1,g2⟩,⟨g3,g3'⟩,⟨g4,g5⟩,g6⟩;generalize hbb:Int.tmod (Int.fdiv (dg x0 5192296858534827628530496329220096) (1*2 ^ (Int.tmod x2 16).toNat)) 2=bb at *;refine⟨(x2-1,x3+x3+1,x4+x4+bb-x1),n1 (by omega),?_,fun i hi=>(by match i,hi with|0,_=>rfl|1,_=>rfl),?_⟩;(unfold dO;omega);have zz:=cY (x3+x3) 1 (by omega) (by omega) (by omega);simp only[nn,G,wG,aJ,aV,nq]at *;simp only[hbb,zz];(repeat' refine And.intro ?_ ?_)<;>first|trivial|rfl
  refine aE aOQ ?_
  simp only[nn,G,wG,aJ,aV,nq]at *;obtain⟨q0,q1,n1,n2⟩:=cG x0 x1 x2 x3 x4 5192296858534827628530496329220096 7 (by have := @fP x2 (by omega);omega) (by omega) (by decide) rfl (by decide) b0.1 b1.1 ⟨⟨g1,g2⟩,⟨g3,g3'⟩,⟨g4,g5⟩,g6⟩;generalize hbb:Int.tmod (Int.fdiv (dg x0 5192296858534827628530496329220096) (1*2 ^ (Int.tmod x2 16).toNat)) 2=bb at *;refine⟨(x2-1,x3+x3+1,x4+x4+bb-x1),n1 (by omega),?_,fun i hi=>(by match i,hi with|0,_=>rfl|1,_=>rfl),?_⟩;(unfold dO;omega);have zz:=cY (x3+x3) 1 (by omega) (by omega) (by omega);simp only[nn,G,wG,aJ,aV,nq]at *;simp only[hbb,zz];(repeat' refine And.intro ?_ ?_)<;>first|trivial|rfl
 refine aG (.cmp .eq (.op .quo (.var 2) (.lit 16)) (.lit 8)) (fun h9=>?_) (fun h9=>?_)
 ·skip
  refine aG (.cmp .le (.op .add (.app 30 (.cons (.op .add (.var 4) (.var 4)) (.cons (.lit 1) .nil))) (.op .rem (.op .fdiv (.app 30 (.cons (.var 0) (.cons (.lit 340282366920938463463374607431768211456) .nil))) (.op .shl (.lit 1) (.op .rem (.var 2) (.lit 16)))) (.lit 2))) (.lit 65535)) (fun h10=>?_) (fun h10=>?_)
  rotate_left
  ·skip
   refine cB ?_
   exfalso;simp only[nn,G,wG,aJ,aV,nq]at *;have tq:x2.tdiv 16=x2 / 16:=Int.tdiv_eq_ediv_of_nonneg (by omega);have tm:x2.tmod 16=x2 % 16:=Int.tmod_eq_emod_of_nonneg (by omega);have hj:x2 / 16=8:=(by simp only[tq]at *;omega);have ps:=hZ 128 (x2 % 16) (by decide) (by omega);rw[show 128+x2 % 16=x2 by omega]at ps;obtain⟨bl,bb0,bb1⟩:=fU x0 x2 (x2 % 16) 340282366920938463463374607431768211456 b0.1 (by decide) (by omega) (by omega) ps (fV x2 (by omega));rw[←tm]at bl bb0 bb1;generalize hbb:Int.tmod (Int.fdiv (dg x0 340282366920938463463374607431768211456) (1*2 ^ (Int.tmod x2 16).toNat)) 2=bb at *;unfold dg at *;omega
  refine aG (.cmp .lt (.op .add (.op .add (.var 4) (.var 4)) (.op .rem (.op .fdiv (.app 30 (.cons (.var 0) (.cons (.lit 340282366920938463463374607431768211456) .nil))) (.op .shl (.lit 1) (.op .rem (.var 2) (.lit 16)))) (.lit 2))) (.var 1)) (fun h11=>?_) (fun h11=>?_)
  ·skip
   refine aE aVd ?_
   simp only[nn,G,wG,aJ,aV,nq]at *;obtain⟨q0,q1,n1,n2⟩:=cG x0 x1 x2 x3 x4 340282366920938463463374607431768211456 8 (by have := @fP x2 (by omega);omega) (by omega) (by decide) rfl (by decide) b0.1 b1.1 ⟨⟨g1,g2⟩,⟨g3,g3'⟩,⟨g4,g5⟩,g6⟩;generalize hbb:Int.tmod (Int.fdiv (dg x0 340282366920938463463374607431768211456) (1*2 ^ (Int.tmod x2 16).toNat)) 2=bb at *;refine⟨(x2-1,x3+x3,x4+x4+bb),n2 (by omega),?_,fun i hi=>(by match i,hi with|0,_=>rfl|1,_=>rfl),?_⟩;(unfold dO;omega);have zz:=cY (x4+x4) bb (by omega) (by omega) (by omega);simp only[nn,G,wG,aJ,aV,nq]at *;simp only[hbb,zz];(repeat' refine And.intro ?_ ?_)<;>first|trivial|rfl
  refine aG (.cmp .lt (.var 1) (.op .add (.op .add (.var 4) (.var 4)) (.op .rem (.op .fdiv (.app 30 (.cons (.var 0) (.cons (.lit 340282366920938463463374607431768211456) .nil))) (.op .shl (.lit 1) (.op .rem (.var 2) (.lit 16)))) (.lit 2)))) (fun h12=>?_) (fun h12=>?_)
  ·skip
   refine aE aOL ?_
   simp only[nn,G,wG,aJ,aV,nq]at *;obtain⟨q0,q1,n1,n2⟩:=cG x0 x1 x2 x3 x4 340282366920938463463374607431768211456 8 (by have := @fP x2 (by omega);omega) (by omega) (by decide) rfl (by decide) b0.1 b1.1 ⟨⟨g1,g2⟩,⟨g3,g3'⟩,⟨g4,g5⟩,g6⟩;generalize hbb:Int.tmod (Int.fdiv (dg x0 340282366920938463463374607431768211456) (1*2 ^ (Int.tmod x2 16).toNat)) 2=bb at *;refine⟨(x2-1,x3+x3+1,x4+x4+bb-x1),n1 (by omega),?_,fun i hi=>(by match i,hi with|0,_=>rfl|1,_=>rfl),?_⟩;(unfold dO;omega);have zz:=cY (x3+x3) 1 (by omega) (by omega) (by omega);simp only[nn,G,wG,aJ,aV,nq]at *;simp only[hbb,zz];(repeat' refine And.intro ?_ ?_)<;>first|trivial|rfl
  refine aE aSC ?_
  simp only[nn,G,wG,aJ,aV,nq]at *;obtain⟨q0,q1,n1,n2⟩:=cG x0 x1 x2 x3 x4 340282366920938463463374607431768211456 8 (by have := @fP x2 (by omega);omega) (by omega) (by decide) rfl (by decide) b0.1 b1.1 ⟨⟨g1,g2⟩,⟨g3,g3'⟩,⟨g4,g5⟩,g6⟩;generalize hbb:Int.tmod (Int.fdiv (dg x0 340282366920938463463374607431768211456) (1*2 ^ (Int.tmod x2 16).toNat)) 2=bb at *;refine⟨(x2-1,x3+x3+1,x4+x4+bb-x1),n1 (by omega),?_,fun i hi=>(by match i,hi with|0,_=>rfl|1,_=>rfl),?_⟩;(unfold dO;omega);have zz:=cY (x3+x3) 1 (by omega) (by omega) (by omega);simp only[nn,G,wG,aJ,aV,nq]at *;simp only[hbb,zz];(repeat' refine And.intro ?_ ?_)<;>first|trivial|rfl
 refine aG (.cmp .eq (.op .quo (.var 2) (.lit 16)) (.lit 9)) (fun h10=>?_) (fun h10=>?_)
 ·skip
  refine aG (.cmp .le (.op .add (.app 30 (.cons (.op .add (.var 4) (.var 4)) (.cons (.lit 1) .nil))) (.op .rem (.op .fdiv (.app 30 (.cons (.var 0) (.cons (.lit 22300745198530623141535718272648361505980416) .nil))) (.op .shl (.lit 1) (.op .rem (.var 2) (.lit 16)))) (.lit 2))) (.lit 65535)) (fun h11=>?_) (fun h11=>?_)
  rotate_left
  ·skip
   refine cB ?_
   exfalso;simp only[nn,G,wG,aJ,aV,nq]at *;have tq:x2.tdiv 16=x2 / 16:=Int.tdiv_eq_ediv_of_nonneg (by omega);have tm:x2.tmod 16=x2 % 16:=Int.tmod_eq_emod_of_nonneg (by omega);have hj:x2 / 16=9:=(by simp only[tq]at *;omega);have ps:=hZ 144 (x2 % 16) (by decide) (by omega);rw[show 144+x2 % 16=x2 by omega]at ps;obtain⟨bl,bb0,bb1⟩:=fU x0 x2 (x2 % 16) 22300745198530623141535718272648361505980416 b0.1 (by decide) (by omega) (by omega) ps (fV x2 (by omega));rw[←tm]at bl bb0 bb1;generalize hbb:Int.tmod (Int.fdiv (dg x0 22300745198530623141535718272648361505980416) (1*2 ^ (Int.tmod x2 16).toNat)) 2=bb at *;unfold dg at *;omega
  refine aG (.cmp .lt (.op .add (.op .add (.var 4) (.var 4)) (.op .rem (.op .fdiv (.app 30 (.cons (.var 0) (.cons (.lit 22300745198530623141535718272648361505980416) .nil))) (.op .shl (.lit 1) (.op .rem (.var 2) (.lit 16)))) (.lit 2))) (.var 1)) (fun h12=>?_) (fun h12=>?_)
  ·skip
   refine aE aVk ?_
   simp only[nn,G,wG,aJ,aV,nq]at *;obtain⟨q0,q1,n1,n2⟩:=cG x0 x1 x2 x3 x4 22300745198530623141535718272648361505980416 9 (by have := @fP x2 (by omega);omega) (by omega) (by decide) rfl (by decide) b0.1 b1.1 ⟨⟨g1,g2⟩,⟨g3,g3'⟩,⟨g4,g5⟩,g6⟩;generalize hbb:Int.tmod (Int.fdiv (dg x0 22300745198530623141535718272648361505980416) (1*2 ^ (Int.tmod x2 16).toNat)) 2=bb at *;refine⟨(x2-1,x3+x3,x4+x4+bb),n2 (by omega),?_,fun i hi=>(by match i,hi with|0,_=>rfl|1,_=>rfl),?_⟩;(unfold dO;omega);have zz:=cY (x4+x4) bb (by omega) (by omega) (by omega);simp only[nn,G,wG,aJ,aV,nq]at *;simp only[hbb,zz];(repeat' refine And.intro ?_ ?_)<;>first|trivial|rfl
  refine aG (.cmp .lt (.var 1) (.op .add (.op .add (.var 4) (.var 4)) (.op .rem (.op .fdiv (.app 30 (.cons (.var 0) (.cons (.lit 22300745198530623141535718272648361505980416) .nil))) (.op .shl (.lit 1) (.op .rem (.var 2) (.lit 16)))) (.lit 2)))) (fun h13=>?_) (fun h13=>?_)
  ·skip
   refine aE aTv ?_
   simp only[nn,G,wG,aJ,aV,nq]at *;obtain⟨q0,q1,n1,n2⟩:=cG x0 x1 x2 x3 x4 22300745198530623141535718272648361505980416 9 (by have := @fP x2 (by omega);omega) (by omega) (by decide) rfl (by decide) b0.1 b1.1 ⟨⟨g1,g2⟩,⟨g3,g3'⟩,⟨g4,g5⟩,g6⟩;generalize hbb:Int.tmod (Int.fdiv (dg x0 22300745198530623141535718272648361505980416) (1*2 ^ (Int.tmod x2 16).toNat)) 2=bb at *;refine⟨(x2-1,x3+x3+1,x4+x4+bb-x1),n1 (by omega),?_,fun i hi=>(by match i,hi with|0,_=>rfl|1,_=>rfl),?_⟩;(unfold dO;omega);have zz:=cY (x3+x3) 1 (by omega) (by omega) (by omega);simp only[nn,G,wG,aJ,aV,nq]at *;simp only[hbb,zz];(repeat' refine And.intro ?_ ?_)<;>first|trivial|rfl
  refine aE aUM ?_
  simp only[nn,G,wG,aJ,aV,nq]at *;obtain⟨q0,q1,n1,n2⟩:=cG x0 x1 x2 x3 x4 22300745198530623141535718272648361505980416 9 (by have := @fP x2 (by omega);omega) (by omega) (by decide) rfl (by decide) b0.1 b1.1 ⟨⟨g1,g2⟩,⟨g3,g3'⟩,⟨g4,g5⟩,g6⟩;generalize hbb:Int.tmod (Int.fdiv (dg x0 22300745198530623141535718272648361505980416) (1*2 ^ (Int.tmod x2 16).toNat)) 2=bb at *;refine⟨(x2-1,x3+x3+1,x4+x4+bb-x1),n1 (by omega),?_,fun i hi=>(by match i,hi with|0,_=>rfl|1,_=>rfl),?_⟩;(unfold dO;omega);have zz:=cY (x3+x3) 1 (by omega) (by omega) (by omega);simp only[nn,G,wG,aJ,aV,nq]at *;simp only[hbb,zz];(repeat' refine And.intro ?_ ?_)<;>first|trivial|rfl
 refine aG (.cmp .eq (.op .quo (.var 2) (.lit 16)) (.lit 10)) (fun h11=>?_) (fun h11=>?_)
 ·skip
  refine aG (.cmp .le (.op .add (.app 30 (.cons (.op .add (.var 4) (.var 4)) (.cons (.lit 1) .nil))) (.op .rem (.op .fdiv (.app 30 (.cons (.var 0) (.cons (.lit 1461501637330902918203684832716283019655932542976) .nil))) (.op .shl (.lit 1) (.op .rem (.var 2) (.lit 16)))) (.lit 2))) (.lit 65535)) (fun h12=>?_) (fun h12=>?_)
  rotate_left
  ·skip
   refine cB ?_
   exfalso;simp only[nn,G,wG,aJ,aV,nq]at *;have tq:x2.tdiv 16=x2 / 16:=Int.tdiv_eq_ediv_of_nonneg (by omega);have tm:x2.tmod 16=x2 % 16:=Int.tmod_eq_emod_of_nonneg (by omega);have hj:x2 / 16=10:=(by simp only[tq]at *;omega);have ps:=hZ 160 (x2 % 16) (by decide) (by omega);rw[show 160+x2 % 16=x2 by omega]at ps;obtain⟨bl,bb0,bb1⟩:=fU x0 x2 (x2 % 16) 1461501637330902918203684832716283019655932542976 b0.1 (by decide) (by omega) (by omega) ps (fV x2 (by omega));rw[←tm]at bl bb0 bb1;generalize hbb:Int.tmod (Int.fdiv (dg x0 1461501637330902918203684832716283019655932542976) (1*2 ^ (Int.tmod x2 16).toNat)) 2=bb at *;unfold dg at *;omega
  refine aG (.cmp .lt (.op .add (.op .add (.var 4) (.var 4)) (.op .rem (.op .fdiv (.app 30 (.cons (.var 0) (.cons (.lit 1461501637330902918203684832716283019655932542976) .nil))) (.op .shl (.lit 1) (.op .rem (.var 2) (.lit 16)))) (.lit 2))) (.var 1)) (fun h13=>?_) (fun h13=>?_)
  ·skip
   refine aE aPU ?_
   simp only[nn,G,wG,aJ,aV,nq]at *;obtain⟨q0,q1,n1,n2⟩:=cG x0 x1 x2 x3 x4 1461501637330902918203684832716283019655932542976 10 (by have := @fP x2 (by omega);omega) (by omega) (by decide) rfl (by decide) b0.1 b1.1 ⟨⟨g1,g2⟩,⟨g3,g3'⟩,⟨g4,g5⟩,g6⟩;generalize hbb:Int.tmod (Int.fdiv (dg x0 1461501637330902918203684832716283019655932542976) (1*2 ^ (Int.tmod x2 16).toNat)) 2=bb at *;refine⟨(x2-1,x3+x3,x4+x4+bb),n2 (by omega),?_,fun i hi=>(by match i,hi with|0,_=>rfl|1,_=>rfl),?_⟩;(unfold dO;omega);have zz:=cY (x4+x4) bb (by omega) (by omega) (by omega);simp only[nn,G,wG,aJ,aV,nq]at *;simp only[hbb,zz];(repeat' refine And.intro ?_ ?_)<;>first|trivial|rfl
  refine aG (.cmp .lt (.var 1) (.op .add (.op .add (.var 4) (.var 4)) (.op .rem (.op .fdiv (.app 30 (.cons (.var 0) (.cons (.lit 1461501637330902918203684832716283019655932542976) .nil))) (.op .shl (.lit 1) (.op .rem (.var 2) (.lit 16)))) (.lit 2)))) (fun h14=>?_) (fun h14=>?_)
  ·skip
   refine aE aR1 ?_
   simp only[nn,G,wG,aJ,aV,nq]at *;obtain⟨q0,q1,n1,n2⟩:=cG x0 x1 x2 x3 x4 1461501637330902918203684832716283019655932542976 10 (by have := @fP x2 (by omega);omega) (by omega) (by decide) rfl (by decide) b0.1 b1.1 ⟨⟨g1,g2⟩,⟨g3,g3'⟩,⟨g4,g5⟩,g6⟩;generalize hbb:Int.tmod (Int.fdiv (dg x0 1461501637330902918203684832716283019655932542976) (1*2 ^ (Int.tmod x2 16).toNat)) 2=bb at *;refine⟨(x2-1,x3+x3+1,x4+x4+bb-x1),n1 (by omega),?_,fun i hi=>(by match i,hi with|0,_=>rfl|1,_=>rfl),?_⟩;(unfold dO;omega);have zz:=cY (x3+x3) 1 (by omega) (by omega) (by omega);simp only[nn,G,wG,aJ,aV,nq]at *;simp only[hbb,zz];(repeat' refine And.intro ?_ ?_)<;>first|trivial|rfl
  refine aE aTH ?_
  simp only[nn,G,wG,aJ,aV,nq]at *;obtain⟨q0,q1,n1,n2⟩:=cG x0 x1 x2 x3 x4 1461501637330902918203684832716283019655932542976 10 (by have := @fP x2 (by omega);omega) (by omega) (by decide) rfl (by decide) b0.1 b1.1 ⟨⟨g1,g2⟩,⟨g3,g3'⟩,⟨g4,g5⟩,g6⟩;generalize hbb:Int.tmod (Int.fdiv (dg x0 1461501637330902918203684832716283019655932542976) (1*2 ^ (Int.tmod x2 16).toNat)) 2=bb at *;refine⟨(x2-1,x3+x3+1,x4+x4+bb-x1),n1 (by omega),?_,fun i hi=>(by match i,hi with|0,_=>rfl|1,_=>rfl),?_⟩;(unfold dO;omega);have zz:=cY (x3+x3) 1 (by omega) (by omega) (by omega);simp only[nn,G,wG,aJ,aV,nq]at *;simp only[hbb,zz];(repeat' refine And.intro ?_ ?_)<;>first|trivial|rfl
 refine aG (.cmp .le (.op .add (.app 30 (.cons (.op .add (.var 4) (.var 4)) (.cons (.lit 1) .nil))) (.op .rem (.op .fdiv (.app 30 (.cons (.var 0) (.cons (.lit 95780971304118053647396689196894323976171195136475136) .nil))) (.op .shl (.lit 1) (.op .rem (.var 2) (.lit 16)))) (.lit 2))) (.lit 65535)) (fun h12=>?_) (fun h12=>?_)
 rotate_left
 ·skip
  refine cB ?_
  exfalso;simp only[nn,G,wG,aJ,aV,nq]at *;have tq:x2.tdiv 16=x2 / 16:=Int.tdiv_eq_ediv_of_nonneg (by omega);have tm:x2.tmod 16=x2 % 16:=Int.tmod_eq_emod_of_nonneg (by omega);have hj:x2 / 16=11:=(by simp only[tq]at *;omega);have ps:=hZ 176 (x2 % 16) (by decide) (by omega);rw[show 176+x2 % 16=x2 by omega]at ps;obtain⟨bl,bb0,bb1⟩:=fU x0 x2 (x2 % 16) 95780971304118053647396689196894323976171195136475136 b0.1 (by decide) (by omega) (by omega) ps (fV x2 (by omega));rw[←tm]at bl bb0 bb1;generalize hbb:Int.tmod (Int.fdiv (dg x0 95780971304118053647396689196894323976171195136475136) (1*2 ^ (Int.tmod x2 16).toNat)) 2=bb at *;unfold dg at *;omega
 refine aG (.cmp .lt (.op .add (.op .add (.var 4) (.var 4)) (.op .rem (.op .fdiv (.app 30 (.cons (.var 0) (.cons (.lit 95780971304118053647396689196894323976171195136475136) .nil))) (.op .shl (.lit 1) (.op .rem (.var 2) (.lit 16)))) (.lit 2))) (.var 1)) (fun h13=>?_) (fun h13=>?_)
 ·skip
  refine aE aOC ?_
  simp only[nn,G,wG,aJ,aV,nq]at *;obtain⟨q0,q1,n1,n2⟩:=cG x0 x1 x2 x3 x4 95780971304118053647396689196894323976171195136475136 11 (by have := @fP x2 (by omega);omega) (by omega) (by decide) rfl (by decide) b0.1 b1.1 ⟨⟨g1,g2⟩,⟨g3,g3'⟩,⟨g4,g5⟩,g6⟩;generalize hbb:Int.tmod (Int.fdiv (dg x0 95780971304118053647396689196894323976171195136475136) (1*2 ^ (Int.tmod x2 16).toNat)) 2=bb at *;refine⟨(x2-1,x3+x3,x4+x4+bb),n2 (by omega),?_,fun i hi=>(by match i,hi with|0,_=>rfl|1,_=>rfl),?_⟩;(unfold dO;omega);have zz:=cY (x4+x4) bb (by omega) (by omega) (by omega);simp only[nn,G,wG,aJ,aV,nq]at *;simp only[hbb,zz];(repeat' refine And.intro ?_ ?_)<;>first|trivial|rfl
 refine aG (.cmp .lt (.var 1) (.op .add (.op .add (.var 4) (.var 4)) (.op .rem (.op .fdiv (.app 30 (.cons (.var 0) (.cons (.lit 95780971304118053647396689196894323976171195136475136) .nil))) (.op .shl (.lit 1) (.op .rem (.var 2) (.lit 16)))) (.lit 2)))) (fun h14=>?_) (fun h14=>?_)
 ·skip
  refine aE aSh ?_
  simp only[nn,G,wG,aJ,aV,nq]at *;obtain⟨q0,q1,n1,n2⟩:=cG x0 x1 x2 x3 x4 95780971304118053647396689196894323976171195136475136 11 (by have := @fP x2 (by omega);omega) (by omega) (by decide) rfl (by decide) b0.1 b1.1 ⟨⟨g1,g2⟩,⟨g3,g3'⟩,⟨g4,g5⟩,g6⟩;generalize hbb:Int.tmod (Int.fdiv (dg x0 95780971304118053647396689196894323976171195136475136) (1*2 ^ (Int.tmod x2 16).toNat)) 2=bb at *;refine⟨(x2-1,x3+x3+1,x4+x4+bb-x1),n1 (by omega),?_,fun i hi=>(by match i,hi with|0,_=>rfl|1,_=>rfl),?_⟩;(unfold dO;omega);have zz:=cY (x3+x3) 1 (by omega) (by omega) (by omega);simp only[nn,G,wG,aJ,aV,nq]at *;simp only[hbb,zz];(repeat' refine And.intro ?_ ?_)<;>first|trivial|rfl
 refine aE aUe ?_
 simp only[nn,G,wG,aJ,aV,nq]at *;obtain⟨q0,q1,n1,n2⟩:=cG x0 x1 x2 x3 x4 95780971304118053647396689196894323976171195136475136 11 (by have := @fP x2 (by omega);omega) (by omega) (by decide) rfl (by decide) b0.1 b1.1 ⟨⟨g1,g2⟩,⟨g3,g3'⟩,⟨g4,g5⟩,g6⟩;generalize hbb:Int.tmod (Int.fdiv (dg x0 95780971304118053647396689196894323976171195136475136) (1*2 ^ (Int.tmod x2 16).toNat)) 2=bb at *;refine⟨(x2-1,x3+x3+1,x4+x4+bb-x1),n1 (by omega),?_,fun i hi=>(by match i,hi with|0,_=>rfl|1,_=>rfl),?_⟩;(unfold dO;omega);have zz:=cY (x3+x3) 1 (by omega) (by omega) (by omega);simp only[nn,G,wG,aJ,aV,nq]at *;simp only[hbb,zz];(repeat' refine And.intro ?_ ?_)<;>first|trivial|rfl
theorem aWH (x0 x1:Int) (b0:0≤x0∧x0≤1569275433846670190958947355801916604025588861116008628223) (b1:1≤x1∧x1≤1569275433846670190958947355801916604025588861116008628223):fN Try.prog G (bX GB) (aT7 Try.prog) aOz (bT [x0,x1]):=by
 intro _ _
 have e:fJ G (bT [x0,x1]) aOz.es=aV x0 x1 (191,0,0):=by rw[eD];rfl
 rw[e]
 exact⟨193,dZ (ι:=Int × Int × Int) (ρ:=aV x0 x1) (ρT:=bT [x0,x1]) (m:=dO) (Good:=iR x0 x1) (run:=zE Try.prog) (fun _=>rfl) fits rfl dY (fun x g=>bCz x0 x1 b0 b1 x g) (fun x g X hX hG=>kU hX hG) (fun x g X hX hG=>dW) (aYy x0 x1 b0 b1) (Nat.le_refl _) 193 (191,0,0) ⟨⟨by decide,by decide⟩,⟨by decide,b0.1⟩,⟨by decide,by show 0<x1;omega⟩,by show x0 / pw 192=0*x1+0;rw[Int.ediv_eq_zero_of_lt b0.1 (by have:pw 192=6277101735386680763835789423207666416102355444464034512896:=rfl;omega)];omega⟩ (by show dO (191,0,0)<193;decide)⟩
set_option maxRecDepth 100000 in
theorem aEw (x0 x1:Int) (b0:0≤x0∧x0≤1569275433846670190958947355801916604025588861116008628223) (b1:1≤x1∧x1≤1569275433846670190958947355801916604025588861116008628223) (w:World) (hw:pR GB w):dM Try.prog 146∧Calls Try.prog 146 #[.agg (eA x0).toArray,.agg (eA x1).toArray] w (fun e w'=>e = .returned (.tuple #[.agg (eA (x0 / x1)).toArray,.agg (eA (x0 % x1)).toArray])∧Below w.heap.size w w'):=by
 refine dK (lP (ρ:=bT [x0,x1]) (lp:=aIV) (run:=fun fs=>bK G GI [(0,1569275433846670190958947355801916604025588861116008628223),(1,1569275433846670190958947355801916604025588861116008628223)] fs (fun X=>kL Try.prog X GB jO aIV 3000 146 [.agg (aK (.var 0)),.agg (aK (.var 1))])) (fun _=>rfl) fits (bL ⟨b0,b1,trivial⟩) dY (fun X hX hG=>kU hX hG) (fun X hX hG fn c hf hc=>?_) rfl rfl bV ?_ w hw)
 ·refine jL ((congrArg bM (jM hf hc)).symm.trans aM3) ?_
  intro b hb
  simp only[List.mem_singleton]at hb
  subst hb
  exact lD hX hG (by kernel_rfl) (fun p hp=>by simp only[List.mem_singleton]at hp;subst hp;exact aWH x0 x1 b0 b1)
 ·skip
  refine aG (.cmp .eq (.lit 0) (.app 30 (.cons (.lit 0) (.cons (.lit 1) .nil)))) (fun h0=>?_) (fun h0=>?_)
  rotate_left
  ·skip
   refine cB ?_
   simp only[B.den,jA,E.den,EL.den,G,wG,decide_eq_false_iff_not]at h0;exact h0 (eT _).symm
  refine aG (.cmp .eq (.lit 0) (.app 30 (.cons (.lit 0) (.cons (.lit 65536) .nil)))) (fun h1=>?_) (fun h1=>?_)
  rotate_left
  ·skip
   refine cB ?_
   simp only[B.den,jA,E.den,EL.den,G,wG,decide_eq_false_iff_not]at h1;exact h1 (eT _).symm
  refine aG (.cmp .eq (.lit 0) (.app 30 (.cons (.lit 0) (.cons (.lit 4294967296) .nil)))) (fun h2=>?_) (fun h2=>?_)
  rotate_left
  ·skip
   refine cB ?_
   simp only[B.den,jA,E.den,EL.den,G,wG,decide_eq_false_iff_not]at h2;exact h2 (eT _).symm
  refine aG (.cmp .eq (.lit 0) (.app 30 (.cons (.lit 0) (.cons (.lit 281474976710656) .nil)))) (fun h3=>?_) (fun h3=>?_)
  rotate_left
  ·skip
   refine cB ?_
   simp only[B.den,jA,E.den,EL.den,G,wG,decide_eq_false_iff_not]at h3;exact h3 (eT _).symm
  refine aG (.cmp .eq (.lit 0) (.app 30 (.cons (.lit 0) (.cons (.lit 18446744073709551616) .nil)))) (fun h4=>?_) (fun h4=>?_)
  rotate_left
  ·skip
   refine cB ?_
   simp only[B.den,jA,E.den,EL.den,G,wG,decide_eq_false_iff_not]at h4;exact h4 (eT _).symm
  refine aG (.cmp .eq (.lit 0) (.app 30 (.cons (.lit 0) (.cons (.lit 1208925819614629174706176) .nil)))) (fun h5=>?_) (fun h5=>?_)
  rotate_left
  ·skip
   refine cB ?_
   simp only[B.den,jA,E.den,EL.den,G,wG,decide_eq_false_iff_not]at h5;exact h5 (eT _).symm
  refine aG (.cmp .eq (.lit 0) (.app 30 (.cons (.lit 0) (.cons (.lit 79228162514264337593543950336) .nil)))) (fun h6=>?_) (fun h6=>?_)
  rotate_left
  ·skip
   refine cB ?_
   simp only[B.den,jA,E.den,EL.den,G,wG,decide_eq_false_iff_not]at h6;exact h6 (eT _).symm
  refine aG (.cmp .eq (.lit 0) (.app 30 (.cons (.lit 0) (.cons (.lit 5192296858534827628530496329220096) .nil)))) (fun h7=>?_) (fun h7=>?_)
  rotate_left
  ·skip
   refine cB ?_
   simp only[B.den,jA,E.den,EL.den,G,wG,decide_eq_false_iff_not]at h7;exact h7 (eT _).symm
  refine aG (.cmp .eq (.lit 0) (.app 30 (.cons (.lit 0) (.cons (.lit 340282366920938463463374607431768211456) .nil)))) (fun h8=>?_) (fun h8=>?_)
  rotate_left
  ·skip
   refine cB ?_
   simp only[B.den,jA,E.den,EL.den,G,wG,decide_eq_false_iff_not]at h8;exact h8 (eT _).symm
  refine aG (.cmp .eq (.lit 0) (.app 30 (.cons (.lit 0) (.cons (.lit 22300745198530623141535718272648361505980416) .nil)))) (fun h9=>?_) (fun h9=>?_)
  rotate_left
  ·skip
   refine cB ?_
   simp only[B.den,jA,E.den,EL.den,G,wG,decide_eq_false_iff_not]at h9;exact h9 (eT _).symm
  refine aG (.cmp .eq (.lit 0) (.app 30 (.cons (.lit 0) (.cons (.lit 1461501637330902918203684832716283019655932542976) .nil)))) (fun h10=>?_) (fun h10=>?_)
  rotate_left
  ·skip
   refine cB ?_
   simp only[B.den,jA,E.den,EL.den,G,wG,decide_eq_false_iff_not]at h10;exact h10 (eT _).symm
  refine aG (.cmp .eq (.lit 0) (.app 30 (.cons (.lit 0) (.cons (.lit 95780971304118053647396689196894323976171195136475136) .nil)))) (fun h11=>?_) (fun h11=>?_)
  ·skip
   refine aE aWz ?_
   refine⟨rfl,?_⟩;have t1:x0.tdiv x1=x0 / x1:=Int.tdiv_eq_ediv_of_nonneg b0.1;have t2:x0.tmod x1=x0 % x1:=Int.tmod_eq_emod_of_nonneg b0.1;simp only[nn,G,wG,nq]at *;rw[t1,t2];rfl
  refine cB ?_
  simp only[B.den,jA,E.den,EL.den,G,wG,decide_eq_false_iff_not]at h11;exact h11 (eT _).symm
def kG:eU:=fun X args=>
 match args with
 |[.agg a,.agg b]=>(jD X a).bind fun N=>(jD X b).bind fun M=>(Res.test X (yS N 0 1569275433846670190958947355801916604025588861116008628223)).bind fun p=>(Res.test X (yS M 1 1569275433846670190958947355801916604025588861116008628223)).bind fun q=>if p && q then .ok (.tuple [.agg (aK (E.mkOp .quo N M)),.agg (aK (E.mkOp .rem N M))]) else .fail 224
 |_ => .fail 201
set_option maxRecDepth 100000 in
theorem aJv {X:Ctx} {ρ:Nat→Int} (hX:X.Ok ρ) (hG:X.G=G):dD Try.prog X ρ GB 146 kG:=by
 obtain⟨XG,XI,XV,XF⟩:=X
 simp only at hG
 subst hG
 intro args s h α w vals hv hw
 unfold kG at h
 split at h
 ·rename_i a b
  replace h:=Res.bind_ok h;obtain⟨N,hN,h⟩:=h
  replace h:=Res.bind_ok h;obtain⟨M,hM,h⟩:=h
  replace h:=Res.bind_ok h;obtain⟨p,hp,h⟩:=h
  replace h:=Res.bind_ok h;obtain⟨q,hq,h⟩:=h
  have hp:=Res.test_ok hX hp
  have hq:=Res.test_ok hX hq
  split at h
  ·rename_i hg
   simp only[Bool.and_eq_true]at hg
   obtain⟨rfl,rfl⟩:=hg
   have gN:=eE hp
   have gM:=eE hq
   obtain⟨u1,d1⟩:=eV hX hN
   obtain⟨u2,d2⟩:=eV hX hM
   cases h
   have e:SV.denL G ρ [.agg a,.agg b]=[.agg (eA (N.den G ρ)).toArray,.agg (eA (M.den G ρ)).toArray]:=by simp only[SV.denL,SV.den,d1,d2]
   have ub:SV.ubdL 0 [.agg a,.agg b]=true:=by simp only[SV.ubdL,SV.ubd,u1,u2,Bool.and_self]
   refine bC hv ub rfl ?_
   have q1:(N.den G ρ).tdiv (M.den G ρ)=N.den G ρ / M.den G ρ:=Int.tdiv_eq_ediv_of_nonneg gN.1
   have q2:(N.den G ρ).tmod (M.den G ρ)=N.den G ρ % M.den G ρ:=Int.tmod_eq_emod_of_nonneg gN.1
   have e2:SV.den G ρ (.tuple [.agg (aK (E.mkOp .quo N M)),.agg (aK (E.mkOp .rem N M))]) = .tuple #[.agg (eA (N.den G ρ / M.den G ρ)).toArray,.agg (eA (N.den G ρ % M.den G ρ)).toArray]:=by simp only[SV.den,SV.denL,jU,E.mkOp_den,aYV,aXy,q1,q2]
   rw[e,e2]
   exact aEw _ _ gN gM w hw
  ·cases h
 ·cases h
def iL:aZ:=dR 146 kG jO
theorem gD {X:Ctx} {ρ:Nat→Int} (hX:X.Ok ρ) (hG:X.G=G):eO Try.prog X ρ GB iL:=cD (aJv hX hG) (kU hX hG)
set_option maxRecDepth 100000
open Go Go.RowKit Sx Wi
def aCg (P:Program) (fs:List B):Res SV:=bK G GI [zzI] fs (fun X=>gU P X GB iL 3000 138 [.int .i64 (.var 0)])
def aDR:List B:=[]
def aHG:B:=(.cmp .lt (.var 0) (.lit 0))
def aT3:List B:=aH aHG++aDR
def aUS:List B:=aH (B.neg aHG)++aDR
theorem aVg:aCg Try.prog aT3 = .ok (.agg ([(.bool (.lit true))]++aK (.op .sub (.lit zq8) (.op .add (.op .add (.op .add (.op .add (.op .add (.op .add (.op .add (.op .add (.op .add (.op .add (.op .add (.op .rem (.op .fdiv (.wrap .u64 (.var 0)) (.lit 1)) (.lit 65536)) (.op .mul (.lit 65536) (.op .rem (.op .fdiv (.wrap .u64 (.var 0)) (.lit 65536)) (.lit 65536)))) (.op .mul (.lit 4294967296) (.op .rem (.op .fdiv (.wrap .u64 (.var 0)) (.lit 4294967296)) (.lit 65536)))) (.op .mul (.lit 281474976710656) (.op .fdiv (.wrap .u64 (.var 0)) (.lit 281474976710656)))) (.op .mul (.lit zq4) (.lit 65535))) (.op .mul (.lit zq5) (.lit 65535))) (.op .mul (.lit zq6) (.lit 65535))) (.op .mul (.lit zq7) (.lit 65535))) (.op .mul (.lit zq8) (.lit 0))) (.op .mul (.lit zq9) (.lit 0))) (.op .mul (.lit zq10) (.lit 0))) (.op .mul (.lit zq11) (.lit 0)))))):=by kernel_rfl
theorem aTN:aCg Try.prog aUS = .ok (.agg [(.bool (.lit false)),(.int .i64 (.op .rem (.op .fdiv (.var 0) (.lit 1)) (.lit 65536))),(.int .i64 (.op .rem (.op .fdiv (.var 0) (.lit 65536)) (.lit 65536))),(.int .i64 (.op .rem (.op .fdiv (.var 0) (.lit 4294967296)) (.lit 65536))),(.int .i64 (.op .fdiv (.var 0) (.lit 281474976710656))),(.int .i64 (.lit 0)),(.int .i64 (.lit 0)),(.int .i64 (.lit 0)),(.int .i64 (.lit 0)),(.int .i64 (.lit 0)),(.int .i64 (.lit 0)),(.int .i64 (.lit 0)),(.int .i64 (.lit 0))]):=by kernel_rfl
end Go.Proofs.Ytkpdiehbaiepaaa
