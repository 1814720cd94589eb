/- What is proved: an argument that is a slice of plain numbers,or of structs of such,is a list of rows that is looked at alone;a law over such lists leaves what was there as it was. No condition but those that are stated. -/
import Derived.Test.YtoiecphddchknaaQg5
import Derived.Test.YtoiecphddchknaaQg4
import Derived.Test.YtoiecphddchknaaQa13
set_option linter.unusedSimpArgs false
set_option linter.unusedVariables false
namespace Go.Proofs.Ytoiecphddchknaa
open Go Go.RowKit Sx
def aC1:CK→Int→Prop
 | .int k,n=>k.min≤n∧n≤k.max
 | .bool,n=>n=0∨n=1
def Kin (ks:List CK) (cs:List Value):Prop:=cs.length=ks.length∧∀ (i:Nat) (k:CK),ks[i]?=some k→∃ n,cs[i]?=some (k.mk n)∧aC1 k n
theorem Kin.append {a b:List CK} {xs ys:List Value} (h:Kin a xs) (g:Kin b ys):Kin (a++b) (xs++ys):=by
 refine⟨by rw[List.length_append,List.length_append,h.1,g.1],fun i k e=>?_⟩
 rcases Nat.lt_or_ge i a.length with q|q
 ·rw[List.getElem?_append_left q]at e
  rw[List.getElem?_append_left (by rw[h.1];exact q)]
  exact h.2 i k e
 ·rw[List.getElem?_append_right q]at e
  rw[List.getElem?_append_right (by rw[h.1];exact q),h.1]
  exact g.2 _ k e
theorem Kin.row {ks:List CK} {cs:List Value} (h:Kin ks cs):∃ r:List Int,r.length=ks.length∧cs=iP ks r∧∀ (i:Nat) (k:CK),ks[i]?=some k→aC1 k (r.getD i 0):=by
 classical
 obtain⟨f,hf⟩:∃ f:Nat→Int,∀ (i:Nat) (k:CK),ks[i]?=some k→cs[i]?=some (k.mk (f i))∧aC1 k (f i):=by
  refine⟨fun i=>if q:∃ n,∀ k,ks[i]?=some k→cs[i]?=some (k.mk n)∧aC1 k n then q.choose else 0,fun i k e=>?_⟩
  have q:∃ n,∀ k,ks[i]?=some k→cs[i]?=some (k.mk n)∧aC1 k n:=by
   obtain⟨n,h1,h2⟩:=h.2 i k e
   refine⟨n,fun k' e'=>?_⟩
   rw[e]at e';cases e'
   exact⟨h1,h2⟩
  simp only[dif_pos q]
  exact q.choose_spec k e
 have hg:∀ i,i<ks.length→((List.range ks.length).map f).getD i 0=f i:=fun i hi=>by simp [List.getD,hi]
 refine⟨(List.range ks.length).map f,by simp,?_,fun i k e=>?_⟩
 ·apply List.ext_getElem?
  intro i
  unfold iP
  rw[List.getElem?_map,List.getElem?_zipIdx]
  cases e:ks[i]? with
  |none=>
   have:=List.getElem?_eq_none_iff.1 e
   rw[List.getElem?_eq_none (show cs.length≤i by rw[h.1];exact this)];rfl
  |some k=>
   rw[(hf i k e).1]
   simp only[Option.map_some,Nat.zero_add]
   rw[hg i (List.getElem?_eq_some_iff.1 e).1]
 ·rw[hg i (List.getElem?_eq_some_iff.1 e).1];exact(hf i k e).2
section
variable {H:Type} {enc:TypeId × Value→H} {P:Program} {w:World} {base:Nat} {spare:Nat→Bool} {held:Bool}
end
theorem aIo {G:Nat→List Int→Int} {ρ:Nat→Int} {W:World} (vs:List (Sx.Loc × List SV)) (h:∀ q,q ∈ vs→(q.1.nil=true∨q.1.blk<W.heap.size)∧∃ us,nT q.1 W.heap[q.1.blk]? us∧SV.RL G ρ (fun _=>none) q.2 us):
  RelW G ρ [] (fun id=>(vs[id]?).map (·.1)) (vs.map fun q=>some (q.2,fD)) W:=by
 have hvis:∀ id,¬kB (vs.map fun q=>(some (q.2,fD):jQ)) id:=by
  rintro id ⟨q,hq,hv⟩
  rw[List.getElem?_map]at hq
  cases e:vs[id]? with
  |none=>rw[e]at hq;cases hq
  |some p=>
   rw[e]at hq
   have:q=(p.2,fD):=by cases hq;rfl
   rw[this]at hv
   exact absurd hv (show ¬vw fD=false by decide)
 have get:∀ (id:Nat) (b:Sx.Loc),(vs[id]?).map (fun q:Sx.Loc × List SV=>q.1)=some b→∃ q:Sx.Loc × List SV,vs[id]?=some q∧q.1=b:=by
  intro id b e
  cases e2:vs[id]? with
  |none=>rw[e2]at e;cases e
  |some p=>rw[e2]at e;exact⟨p,rfl,by cases e;rfl⟩
 refine⟨fun id b e=>?_,fun i j b c _ _ _ _ _ vi _=>absurd vi (hvis i),fun id cs T e=>?_,(fun p hp=>nomatch hp),fun id cs T b _ _ _ _ j c _ _ _ vj=>absurd vj (hvis j)⟩
 ·obtain⟨q,hq,rfl⟩:=get id b e
  exact⟨by rw[List.length_map];exact(List.getElem?_eq_some_iff.1 hq).1,(h q (List.mem_of_getElem? hq)).1⟩
 ·rw[List.getElem?_map]at e
  cases e2:vs[id]? with
  |none=>rw[e2]at e;cases e
  |some p=>
   rw[e2]at e
   cases e
   obtain⟨_,us,h1,h2⟩:=h p (List.mem_of_getElem? e2)
   exact⟨p.1,us,rfl,(oE (by decide)).2 h1,SV.RL_mono (fun _ _ z=>by cases z) _ _ h2⟩
theorem aOW {P:Program} {G:Nat→List Int→Int} {f:FuncId} {F:FunS} {ρ:Nat→Int} {W:World} {vals:List Value} {α:aU} (hF:kU P G [] f F ρ) (hW:RelW G ρ [] α F.H W) (hvis:∀ id,¬kB F.H id) (hv:SV.RL G ρ α F.args vals) (hb:F.b = .lit true) (hs:F.s1 = .bool (.lit true)):
  Calls P f vals.toArray W (fun e w'=>e = .returned (.bool true)∧Below W.heap.size W w'):=by
 obtain⟨_,hc⟩:=hF α W vals hW hv
 refine hc.mono ?_
 rintro e w' ⟨v,α',r,hr,rfl,rv,_,x⟩
 rw[hb]at hr
 have hr:r=true:=hr.symm
 subst hr
 rw[hs]at rv
 simp only[if_true,SV.R,B.den]at rv
 subst rv
 exact⟨rfl,x.os,x.tape,x.output,x.size,fun k hk=>x.hid k hk (fun id b _ _ _=>hvis id)⟩
theorem aCp (l:List (List SV)):∀ id,¬kB (l.map fun q=>(some (q,fD):jQ)) id:=by
 rintro id ⟨q,hq,hv⟩
 rw[List.getElem?_map]at hq
 cases e:l[id]? with
 |none=>rw[e]at hq;cases hq
 |some p=>
  rw[e]at hq
  have:q=(p,fD):=by cases hq;rfl
  rw[this]at hv
  exact absurd hv (show ¬vw fD=false by decide)
end Go.Proofs.Ytoiecphddchknaa
namespace Go.Proofs.Ytoiecphddchknaa
open Go Go.RowKit Sx Wi
theorem aL1:bM (dJ Try.prog 8)=[fB (dJ Try.prog 8) 0]:=by kernel_rfl
set_option maxRecDepth 100000 in
theorem aRC (ρ:Nat→Int):mE Try.prog G (bS GB) (fB (dJ Try.prog 8) 0) aQ0 ρ:=by
 intro _ _
 have e:jU G ρ aQ0.es=gS (wG 96 [36,0,0,0,0,0,0,0,0]) 0:=by
  rw[iF]
  rfl
 rw[e]
 exact⟨37,jE (ι:=Nat) (ρ:=gS (wG 96 [36,0,0,0,0,0,0,0,0])) (ρT:=ρ) (m:=fun i=>36-i) (Good:=fun i=>i≤36) (run:=yG Try.prog) (fun _=>rfl) fits rfl gM (fun i hi=>aPO _ i hi) (fun _ _ X hX hG=>xL hX hG) (fun _ _ X hX hG=>gB) (fun i hi=>aQ6 _ aJP _ i hi) (by decide) 37 0 (Nat.zero_le _) (by decide)⟩
set_option maxHeartbeats 4000000 in
set_option maxRecDepth 100000 in
theorem aQt (x0 x1 x2 x3 x4 x5 x6 x7 x8 x9 x10 x11 x12 x13 x14 x15 x16 x17 x18 x19 x20 x21 x22 x23 x24 x25 x26 x27 x28 x29 x30 x31 x32 x33 x34 x35 x36 x37 x38 x39 x40 x41 x42 x43 x44 x45 x46 x47 x48 x49 x50 x51 x52 x53 x54 x55 x56 x57 x58 x59 x60 x61 x62 x63 x64 x65 x66 x67 x68 x69 x70 x71 x72 x73 x74 x75 x76 x77 x78 x79 x80 x81 x82 x83 x84 x85 x86 x87 x88 x89 x90 x91 x92 x93 x94 x95 x96 x97 x98 x99 x100 x101 x102 x103 x104 x105:Int) (b0:(-9223372036854775808)≤x0∧x0≤9223372036854775807) (b1:(-9223372036854775808)≤x1∧x1≤9223372036854775807) (b2:(-9223372036854775808)≤x2∧x2≤9223372036854775807) (b3:(-9223372036854775808)≤x3∧x3≤9223372036854775807) (b4:(-9223372036854775808)≤x4∧x4≤9223372036854775807) (b5:(-9223372036854775808)≤x5∧x5≤9223372036854775807) (b6:(-9223372036854775808)≤x6∧x6≤9223372036854775807) (b7:0≤x7∧x7≤18446744073709551615) (b8:(-9223372036854775808)≤x8∧x8≤9223372036854775807) (b9:(-9223372036854775808)≤x9∧x9≤9223372036854775807) (b10:0≤x10∧x10≤18446744073709551615) (b11:(-9223372036854775808)≤x11∧x11≤9223372036854775807) (b12:(-9223372036854775808)≤x12∧x12≤9223372036854775807) (b13:0≤x13∧x13≤18446744073709551615) (b14:(-9223372036854775808)≤x14∧x14≤9223372036854775807) (b15:(-9223372036854775808)≤x15∧x15≤9223372036854775807) (b16:0≤x16∧x16≤18446744073709551615) (b17:(-9223372036854775808)≤x17∧x17≤9223372036854775807) (b18:(-9223372036854775808)≤x18∧x18≤9223372036854775807) (b19:0≤x19∧x19≤18446744073709551615) (b20:(-9223372036854775808)≤x20∧x20≤9223372036854775807) (b21:(-9223372036854775808)≤x21∧x21≤9223372036854775807) (b22:0≤x22∧x22≤18446744073709551615) (b23:(-9223372036854775808)≤x23∧x23≤9223372036854775807) (b24:(-9223372036854775808)≤x24∧x24≤9223372036854775807) (b25:0≤x25∧x25≤18446744073709551615) (b26:(-9223372036854775808)≤x26∧x26≤9223372036854775807) (b27:(-9223372036854775808)≤x27∧x27≤9223372036854775807) (b28:0≤x28∧x28≤18446744073709551615) (b29:(-9223372036854775808)≤x29∧x29≤9223372036854775807) (b30:(-9223372036854775808)≤x30∧x30≤9223372036854775807) (b31:0≤x31∧x31≤18446744073709551615) (b32:(-9223372036854775808)≤x32∧x32≤9223372036854775807) (b33:(-9223372036854775808)≤x33∧x33≤9223372036854775807) (b34:0≤x34∧x34≤18446744073709551615) (b35:(-9223372036854775808)≤x35∧x35≤9223372036854775807) (b36:(-9223372036854775808)≤x36∧x36≤9223372036854775807) (b37:0≤x37∧x37≤18446744073709551615) (b38:(-9223372036854775808)≤x38∧x38≤9223372036854775807) (b39:(-9223372036854775808)≤x39∧x39≤9223372036854775807) (b40:0≤x40∧x40≤18446744073709551615) (b41:(-9223372036854775808)≤x41∧x41≤9223372036854775807) (b42:(-9223372036854775808)≤x42∧x42≤9223372036854775807) (b43:(-9223372036854775808)≤x43∧x43≤9223372036854775807) (b44:(-9223372036854775808)≤x44∧x44≤9223372036854775807) (b45:(-9223372036854775808)≤x45∧x45≤9223372036854775807) (b46:(-9223372036854775808)≤x46∧x46≤9223372036854775807) (b47:(-9223372036854775808)≤x47∧x47≤9223372036854775807) (b48:(-9223372036854775808)≤x48∧x48≤9223372036854775807) (b49:(-9223372036854775808)≤x49∧x49≤9223372036854775807) (b50:(-2147483648)≤x50∧x50≤2147483647) (b51:(-2147483648)≤x51∧x51≤2147483647) (b52:(-2147483648)≤x52∧x52≤2147483647) (b53:(-2147483648)≤x53∧x53≤2147483647) (b54:(-2147483648)≤x54∧x54≤2147483647) (b55:(-2147483648)≤x55∧x55≤2147483647) (b56:(-9223372036854775808)≤x56∧x56≤9223372036854775807) (b57:0≤x57∧x57≤18446744073709551615) (b58:(-9223372036854775808)≤x58∧x58≤9223372036854775807) (b59:(-9223372036854775808)≤x59∧x59≤9223372036854775807) (b60:0≤x60∧x60≤18446744073709551615) (b61:(-9223372036854775808)≤x61∧x61≤9223372036854775807) (b62:(-9223372036854775808)≤x62∧x62≤9223372036854775807) (b63:0≤x63∧x63≤18446744073709551615) (b64:(-9223372036854775808)≤x64∧x64≤9223372036854775807) (b65:(-9223372036854775808)≤x65∧x65≤9223372036854775807) (b66:0≤x66∧x66≤18446744073709551615) (b67:(-9223372036854775808)≤x67∧x67≤9223372036854775807) (b68:(-9223372036854775808)≤x68∧x68≤9223372036854775807) (b69:0≤x69∧x69≤18446744073709551615) (b70:(-9223372036854775808)≤x70∧x70≤9223372036854775807) (b71:(-9223372036854775808)≤x71∧x71≤9223372036854775807) (b72:0≤x72∧x72≤18446744073709551615) (b73:(-9223372036854775808)≤x73∧x73≤9223372036854775807) (b74:(-9223372036854775808)≤x74∧x74≤9223372036854775807) (b75:0≤x75∧x75≤18446744073709551615) (b76:(-9223372036854775808)≤x76∧x76≤9223372036854775807) (b77:(-9223372036854775808)≤x77∧x77≤9223372036854775807) (b78:0≤x78∧x78≤18446744073709551615) (b79:(-9223372036854775808)≤x79∧x79≤9223372036854775807) (b80:(-9223372036854775808)≤x80∧x80≤9223372036854775807) (b81:0≤x81∧x81≤18446744073709551615) (b82:(-9223372036854775808)≤x82∧x82≤9223372036854775807) (b83:(-9223372036854775808)≤x83∧x83≤9223372036854775807) (b84:0≤x84∧x84≤18446744073709551615) (b85:(-9223372036854775808)≤x85∧x85≤9223372036854775807) (b86:(-9223372036854775808)≤x86∧x86≤9223372036854775807) (b87:0≤x87∧x87≤18446744073709551615) (b88:(-9223372036854775808)≤x88∧x88≤9223372036854775807) (b89:(-9223372036854775808)≤x89∧x89≤9223372036854775807) (b90:0≤x90∧x90≤18446744073709551615) (b91:(-9223372036854775808)≤x91∧x91≤9223372036854775807) (b92:(-9223372036854775808)≤x92∧x92≤9223372036854775807) (b93:0≤x93∧x93≤18446744073709551615) (b94:(-9223372036854775808)≤x94∧x94≤9223372036854775807) (b95:(-9223372036854775808)≤x95∧x95≤9223372036854775807) (b96:0≤x96∧x96≤18446744073709551615) (b97:(-9223372036854775808)≤x97∧x97≤9223372036854775807) (b98:(-9223372036854775808)≤x98∧x98≤9223372036854775807) (b99:0≤x99∧x99≤18446744073709551615) (b100:(-9223372036854775808)≤x100∧x100≤9223372036854775807) (b101:(-9223372036854775808)≤x101∧x101≤9223372036854775807) (b102:0≤x102∧x102≤18446744073709551615) (b103:(-9223372036854775808)≤x103∧x103≤9223372036854775807) (b104:(-9223372036854775808)≤x104∧x104≤9223372036854775807) (b105:(-9223372036854775808)≤x105∧x105≤9223372036854775807):kU Try.prog G GB 8 aR5 (dP ([x0,x1,x2,x3,x4,x5,x6,x7,x8,x9,x10,x11,x12,x13,x14,x15,x16,x17,x18,x19,x20,x21,x22,x23,x24,x25,x26,x27,x28,x29,x30,x31,x32,x33,x34,x35,x36,x37,x38,x39,x40,x41,x42,x43,x44,x45,x46,x47,x48,x49,x50,x51,x52,x53,x54,x55,x56,x57,x58,x59,x60,x61,x62,x63,x64,x65,x66,x67,x68,x69,x70,x71,x72,x73,x74,x75,x76,x77,x78,x79,x80,x81,x82,x83,x84,x85,x86,x87,x88,x89,x90,x91,x92,x93,x94,x95,x96,x97,x98,x99,x100,x101,x102,x103,x104,x105]:List Int)):=by
 refine fT (lp:=aPY) (run:=aK5 Try.prog) (fun _=>rfl) fits (cF ⟨b0,b1,b2,b3,b4,b5,b6,b7,b8,b9,b10,b11,b12,b13,b14,b15,b16,b17,b18,b19,b20,b21,b22,b23,b24,b25,b26,b27,b28,b29,b30,b31,b32,b33,b34,b35,b36,b37,b38,b39,b40,b41,b42,b43,b44,b45,b46,b47,b48,b49,b50,b51,b52,b53,b54,b55,b56,b57,b58,b59,b60,b61,b62,b63,b64,b65,b66,b67,b68,b69,b70,b71,b72,b73,b74,b75,b76,b77,b78,b79,b80,b81,b82,b83,b84,b85,b86,b87,b88,b89,b90,b91,b92,b93,b94,b95,b96,b97,b98,b99,b100,b101,b102,b103,b104,b105,trivial⟩) gM (fun X hX hG=>xL hX hG) (fun X hX hG fn c hf hc=>?_) rfl ?_
 ·refine mT ((congrArg bM (uQ hf hc)).symm.trans aL1) ?_
  intro b hb
  simp only[List.mem_cons,List.mem_nil_iff,or_false]at hb
  subst hb
  refine oP hX hG (by kernel_rfl) ?_
  intro p hp
  simp only[List.mem_cons,List.mem_nil_iff,or_false]at hp
  subst hp
  exact aRC _
 ·clear b0 b1 b2 b3 b4 b5 b6 b7 b8 b9 b10 b11 b12 b13 b14 b15 b16 b17 b18 b19 b20 b21 b22 b23 b24 b25 b26 b27 b28 b29 b30 b31 b32 b33 b34 b35 b36 b37 b38 b39 b40 b41 b42 b43 b44 b45 b46 b47 b48 b49 b50 b51 b52 b53 b54 b55 b56 b57 b58 b59 b60 b61 b62 b63 b64 b65 b66 b67 b68 b69 b70 b71 b72 b73 b74 b75 b76 b77 b78 b79 b80 b81 b82 b83 b84 b85 b86 b87 b88 b89 b90 b91 b92 b93 b94 b95 b96 b97 b98 b99 b100 b101 b102 b103 b104 b105
  refine aI lZ (fun h0=>?_) (fun h0=>?_)
  ·skip
   refine aI iK (fun h1=>?_) (fun h1=>?_)
   ·skip
    refine aG aMb ?_
    unfold lZ at h0;unfold iK at h1;exact⟨rfl,trivial⟩
   refine aG aKQ ?_
   unfold lZ at h0;unfold iK at h1;exact⟨rfl,trivial⟩
  refine aI iK (fun h1=>?_) (fun h1=>?_)
  ·skip
   refine aG aMy ?_
   unfold lZ at h0;unfold iK at h1;exact⟨rfl,trivial⟩
  refine aG aLl ?_
  unfold lZ at h0;unfold iK at h1;exact⟨rfl,trivial⟩
end Go.Proofs.Ytoiecphddchknaa
namespace Go.Proofs.Ytoiecphddchknaa
open Go.ChangeShapes Go.WideShapes Go.ChangeAt Go.RowKit
theorem yM {P:Program} {W:World} {r:Reach} {base:Nat} {t:TypeId} {v:Value} (ks:List IntKind) (hagg:(match P.underlying t with|some (.struct _)|some (.array _ _)=>true|_=>false)=true)
  (hc:P.cellsOf t=ks.length) (hk0:(match P.cellTypes P.depth t with|some ts=>ts.length ==ks.length && (List.range ks.length).all fun i=>(match ts[i]?.bind P.underlying,ks[i]? with|some (.int q),some k=>q ==k|_,_=>false)|none=>false)=true) (h:Value.okWide P W r base t v):
  ∃ f:Nat→Int,v = .agg ((List.range ks.length).map fun i=>Value.int (ks.getD i .i64) (f i)).toArray∧∀ i k,ks[i]?=some k→k.min≤f i∧f i≤k.max:=by
 have h':∃ cs,v = .agg cs∧cs.size=P.cellsOf t∧Row.okWide P W r base t cs:=by
  unfold Value.okWide at h
  split at hagg
  ·rename_i hu;rw[hu]at h;exact h
  ·rename_i hu;rw[hu]at h;exact h
  ·cases hagg
 obtain⟨cs,rfl,hsz,ts,hts,_,hcell⟩:=h'
 rw[hts]at hk0
 simp only[Bool.and_eq_true,beq_iff_eq,List.all_eq_true,List.mem_range]at hk0
 obtain⟨hn,hk⟩:=hk0
 rw[hc]at hsz
 have hone:∀ (i:Nat) (k:IntKind),ks[i]?=some k→∃ q:Int,cs[i]?=some (Value.int k q)∧k.min≤q∧q≤k.max:=by
  intro i k hik
  have hi:i<ks.length:=(List.getElem?_eq_some_iff.1 hik).1
  have hi':i<cs.size:=by omega
  obtain⟨u,hu,ho⟩:=hcell i cs[i] (by simp [hi'])
  rw[Nat.mod_eq_of_lt (by omega)]at hu
  have hku:=hk i hi
  rw[hu,hik]at hku
  simp only[Option.bind_some]at hku
  split at hku
  ·rename_i q k' hq hk'
   have hqk:q=k':=by simpa using hku
   cases hk'
   subst hqk
   unfold Cell.okWide at ho
   rw[hq]at ho
   simp only at ho
   unfold Cell.ok at ho
   rw[hq]at ho
   cases hv:cs[i]with
   |int k' m=>
    rw[hv]at ho
    simp only at ho
    obtain⟨rfl,hlo,hhi⟩:=ho
    exact⟨m,by simp [hi',hv],hlo,hhi⟩
   |_=>rw[hv]at ho;exact ho.elim
  ·cases hku
 refine⟨fun i=>match cs[i]? with|some (.int _ q)=>q|_=>0,?_,?_⟩
 ·congr 1
  apply Array.ext'
  apply List.ext_getElem?
  intro i
  by_cases hi:i<ks.length
  ·obtain⟨q,hq,_⟩:=hone i ks[i] (by simp [hi])
   simp [hi,hq,List.getD,List.getElem?_eq_getElem hi]
  ·have:cs.size≤i:=by omega
   simp [hi,this]
 ·intro i k hik
  obtain⟨q,hq,h1,h2⟩:=hone i k hik
  simp only[hq]
  exact⟨h1,h2⟩
end Go.Proofs.Ytoiecphddchknaa
