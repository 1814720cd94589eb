/- What is proved: a piece of code over closed data is what the model does; so is a call of a function. No condition. -/
import Derived.Test.YtoighnoliehafaaSxH
set_option linter.unusedSimpArgs false
set_option linter.unusedVariables false
namespace Go.Proofs.Ytoighnoliehafaa
namespace Sx
open Go Go.RowKit

def canonL (n m : Nat) : Array Bool := (List.replicate m true ++ List.replicate (n - m) false).toArray
def exDraw (P : Program) (X : Ctx) (gl : List (Nat × Nat)) (h : Handler) (ops : Array Oper) (st : St) : Res St :=
  let masks := ancs ops.toList []
  (exHead P X gl h ops masks st.heap ops.toList st.tmps [] []).bind fun out =>
    if headB ops masks out.vals.length && Region.seqB .any ops out.rest.length out.vals.length (canonL ops.size out.vals.length) then
      exOps P X gl h ops out.rest ⟨out.tm, st.heap ++ out.slots⟩
    else .fail 110
def cnt (listed : Array Bool) (m : Nat) : Nat := (List.range m).countP fun k => !listed.getD k false
theorem cnt_succ (listed : Array Bool) (m : Nat) : cnt listed (m + 1) = cnt listed m + if listed.getD m false then 0 else 1 := by
  unfold cnt
  rw [List.range_succ, List.countP_append]
  cases h : listed.getD m false <;> simp only [List.countP_cons, List.countP_nil, h] <;> rfl
theorem cnt_set {listed : Array Bool} {i : Nat} (hi : i < listed.size) (hl : listed.getD i false = false) : ∀ m, (i < m → cnt (listed.setIfInBounds i true) m + 1 = cnt listed m) ∧ (m ≤ i → cnt (listed.setIfInBounds i true) m = cnt listed m)
  | 0 => ⟨fun h => by omega, fun _ => rfl⟩
  | m + 1 => by
    obtain ⟨h1, h2⟩ := cnt_set hi hl m
    rw [cnt_succ, cnt_succ, getD_set hi]
    refine ⟨fun h => ?_, fun h => ?_⟩
    · by_cases e : m = i
      · subst e
        rw [show (if m = m then true else listed.getD m false) = true from if_pos rfl, hl, h2 (Nat.le_refl _)]; simp
      · rw [show (if m = i then true else listed.getD m false) = listed.getD m false from if_neg e]; have := h1 (by omega); omega
    · rw [show (if m = i then true else listed.getD m false) = listed.getD m false from if_neg (by omega), h2 (by omega)]
theorem cnt_zero {listed : Array Bool} : ∀ {m : Nat}, cnt listed m = 0 → ∀ i, i < m → listed.getD i false = true
  | 0, _, i, hi => by omega
  | m + 1, h, i, hi => by
    rw [cnt_succ] at h
    have h1 : cnt listed m = 0 := by omega
    rcases Nat.lt_or_ge i m with q | q
    · exact cnt_zero h1 i q
    · have : i = m := by omega
      subst this
      cases hl : listed.getD i false
      · rw [hl] at h; simp at h
      · rfl
theorem cnt_pos {listed : Array Bool} : ∀ {m : Nat}, cnt listed m ≠ 0 → ∃ i, i < m ∧ listed.getD i false = false ∧ ∀ j, j < i → listed.getD j false = true
  | 0, h => absurd rfl h
  | m + 1, h => by
    by_cases h1 : cnt listed m = 0
    · refine ⟨m, by omega, ?_, cnt_zero h1⟩
      rw [cnt_succ, h1] at h
      cases hl : listed.getD m false
      · rfl
      · rw [hl] at h; simp at h
    · obtain ⟨i, a, b, c⟩ := cnt_pos h1
      exact ⟨i, by omega, b, c⟩
theorem RL_of_get {G : Nat → List Int → Int} {ρ : Nat → Int} {α : AMap} : ∀ {l : List SV} {vs : List Value}, l.length = vs.length → (∀ (i : Nat) (v : Value), vs[i]? = some v → SV.R G ρ α (l.getD i (.tuple [])) v) → SV.RL G ρ α l vs
  | [], [], _, _ => RL_nil
  | [], _ :: _, h, _ => by simp at h
  | _ :: _, [], h, _ => by simp at h
  | s :: l, v :: vs, h, hg => RL_cons (by have := hg 0 v (by simp); simpa using this) (RL_of_get (by simpa using h) (fun i u hu => by have := hg (i + 1) u (by simpa using hu); simpa using this))
section
variable {P : Program} {X : Ctx} {ρ : Nat → Int} {gl : List (Nat × Nat)} {h : Handler} {ops : Array Oper} {σ : Heap} {tm0 vals : List SV} {slots : List Blk} {α0 : AMap} {w0 : World}
theorem mem_ready_of {listed : Array Bool} {k : Nat} {o : Oper} (ho : ops[k]? = some o) (hs : k < listed.size) (hl : listed.getD k false = false) (hp : ∀ d, d ∈ predsOf o → listed.getD d false = true) : k ∈ Region.ready .any ops listed := by
  refine mem_ready.2 ⟨getD_in hs hl, o, ho, fun e he hb => hp _ ?_⟩
  exact List.mem_map.2 ⟨e, List.mem_filter.2 ⟨by simpa using he, hb⟩, rfl⟩
theorem head_all (hX : X.Ok ρ) (hh : HOk P X ρ gl h) (hO : HeadOK ops vals.length) (hls : slots.length = vals.length)
    (hS : ∀ i o, i < vals.length → ops[i]? = some o → ∃ wt, StepOK P X gl h ops (ancs ops.toList []) σ tm0 vals slots i o wt)
    {Q : Exit → Act → World → Prop} {g : Nat} (hT : ∀ listed a w α, InvA X ρ gl ops σ tm0 vals slots α0 w0 listed a w α → cnt listed vals.length = 0 → wpAny P .any ops Q g listed a w) :
    ∀ (c : Nat) (listed : Array Bool) (a : Act) (w : World), (∃ α, InvA X ρ gl ops σ tm0 vals slots α0 w0 listed a w α) → cnt listed vals.length = c → wpAny P .any ops Q (c + g) listed a w
  | 0, listed, a, w, ⟨α, inv⟩, hc => by rw [Nat.zero_add]; exact hT listed a w α inv hc
  | c + 1, listed, a, w, ⟨α, inv⟩, hc => by
    obtain ⟨i0, l1, l2, l3⟩ := cnt_pos (listed := listed) (m := vals.length) (by omega)
    have hle := hO.le
    have hi0 : i0 < ops.size := by omega
    have hrdy : i0 ∈ Region.ready .any ops listed :=
      mem_ready_of (o := ops[i0]) (by simp [hi0]) (by rw [inv.size]; exact hi0) l2 (fun d hd => l3 d (hO.preds i0 _ (by simp [hi0]) d hd))
    rw [show c + 1 + g = (c + g) + 1 by omega]
    refine ⟨fun h0 => (by rw [h0] at hrdy; cases hrdy), fun i hi => ?_⟩
    obtain ⟨hun, o, ho, hall⟩ := mem_ready.1 hi
    have hlt : i < ops.size := (Array.getElem?_eq_some_iff.1 ho).1
    have him : i < vals.length := by
      rcases Nat.lt_or_ge i vals.length with q | q
      · exact q
      · exfalso
        obtain ⟨mk, hmk, hself⟩ := hO.mask i o ho
        have hb := hO.tail i i0 o q ho l1
        rw [show (ancs ops.toList []).getD i 0 = mk by simp [List.getD, hmk]] at hb
        have := anc_of_ready inv.down ho (fun d hd => by
          unfold predsOf at hd
          obtain ⟨e, he, rfl⟩ := List.mem_map.1 hd
          have he' := List.mem_filter.1 he
          exact hall e (by simpa using he'.1) he'.2) (by rw [getD_both hun]; simp) hmk (fun d hd => Nat.ne_of_lt (hO.preds i o ho d hd)) hself i0 hb
        rw [l2] at this; cases this
    refine wpOp_mono (fun a' w' hI => ?_) (head_step (Q := Q) hX hh hO hls hS inv hi him)
    refine head_all hX hh hO hls hS hT c _ a' w' hI ?_
    have := (cnt_set (listed := listed) (i := i) (by rw [inv.size]; exact hlt) (getD_both hun) vals.length).1 him
    omega
theorem exDraw_wp (hX : X.Ok ρ) (hh : HOk P X ρ gl h) (hm : P.follows .mixedOrders = true) {st st' : St} {α : AMap} {a : Act} {w : World} {id : Nat} {Q : Exit → Act → World → Prop}
    (he : exDraw P X gl h ops st = .ok st') (hr : RelSt X ρ gl α st a w)
    (hQ : ∀ a' w' α', RelSt X ρ gl α' st' a' w' → Ext st.heap.length st.heap st'.heap α α' w w' → Q .normal a' w') : (Code.region id ops true).wp P Q a w := by
  unfold exDraw at he
  obtain ⟨out, h1, he⟩ := Res.bind_ok he
  split at he
  · rename_i hg
    simp only [Bool.and_eq_true] at hg
    obtain ⟨hg1, hg2⟩ := hg
    have hO := headB_spec hg1
    obtain ⟨s1, s2, s3, s4, s5⟩ := exHead_spec (tm0 := st.tmps) ops.toList st.tmps [] [] h1 rfl (by simp) rfl (fun i o hi => by simp at hi)
    have hle := hO.le
    refine wp_region_any hm ?_
    have hrl : out.rest.length = ops.size - out.vals.length := by rw [s2]; simp
    have hsz : ops.size = out.vals.length + out.rest.length := by omega
    have inv0 : InvA X ρ gl ops st.heap st.tmps out.vals out.slots α { w with drawn := w.drawn + 1 } (Array.replicate ops.size false) a { w with drawn := w.drawn + 1 } α := by
      have hnone : slotsD (Array.replicate ops.size false) out.slots out.vals.length = List.replicate out.vals.length none := by
        unfold slotsD
        apply List.ext_getElem?
        intro k
        simp only [List.getElem?_map]
        by_cases hk : k < out.vals.length
        · rw [List.getElem?_range hk, List.getElem?_replicate, if_pos hk]
          simp only [Option.map_some, getD_replicate_false]
          simp
        · rw [List.getElem?_eq_none (by simp; omega), List.getElem?_replicate, if_neg hk]; rfl
      have hext : Ext st.heap.length st.heap (st.heap ++ List.replicate out.vals.length none) α α { w with drawn := w.drawn + 1 } { w with drawn := w.drawn + 1 } :=
        ⟨rfl, rfl, rfl, Nat.le_refl _, by simp, fun _ _ e => e, fun _ _ e => .inl e, fun _ _ _ => rfl, fun id b e hn => by rw [List.getElem?_append_left (hr.mem.dom id b e).1]; exact hn⟩
      refine ⟨by simp, fun j o _ hj => (by have hj' : (Array.replicate ops.size false).getD j false = true := hj; rw [getD_replicate_false] at hj'; cases hj'), fun k _ => getD_replicate_false _ _, hr.defers, ?_, ?_, ?_, by rw [hnone]; exact hext, ?_⟩
      · have := RL_length hr.tmps; simpa using this
      · intro t v hv
        refine ⟨fun _ => ?_, fun k _ hl => (by rw [getD_replicate_false] at hl; cases hl)⟩
        have := evO_R (gl := gl) hr.tmps hr.mem.glob (.tmp t)
        simp only [evO, Act.eval] at this
        rwa [show a.tmps.getD t undef = v by simp [Array.getD_eq_getD_getElem?, hv]] at this
      · rw [hnone]
        refine ⟨fun id b e => ⟨by have := (hr.mem.dom id b e).1; simp; omega, (hr.mem.dom id b e).2⟩, hr.mem.inj, ?_, hr.mem.glob⟩
        intro id cs T e
        rcases Nat.lt_or_ge id st.heap.length with q | q
        · rw [List.getElem?_append_left q] at e
          exact hr.mem.blk id cs T e
        · rw [List.getElem?_append_right q, List.getElem?_replicate] at e
          split at e <;> cases e
      · intro k _ _
        cases hk : α (st.heap.length + k) with
        | none => rfl
        | some b => have := (hr.mem.dom _ b hk).1; omega
    have hcnt : cnt (Array.replicate ops.size false) out.vals.length = out.vals.length := by
      have : ∀ m, cnt (Array.replicate ops.size false) m = m := by
        intro m
        induction m with
        | zero => rfl
        | succ m ih => rw [cnt_succ, ih, getD_replicate_false]; simp
      exact this _
    have key := head_all (Q := Q) (g := out.rest.length) hX hh hO s1 s5 (α0 := α) (w0 := { w with drawn := w.drawn + 1 }) ?_ out.vals.length (Array.replicate ops.size false) a { w with drawn := w.drawn + 1 } ⟨α, inv0⟩ hcnt
    · rw [← hsz] at key
      exact key
    · intro listed a' w' α' inv hc
      have hall := cnt_zero hc
      have hL : listed = canonL ops.size out.vals.length := by
        apply Array.ext_getElem?
        intro k
        have hget : ∀ b, listed.getD k false = b → k < ops.size → listed[k]? = some b := fun b hb hk => by
          have hk' : k < listed.size := by rw [inv.size]; exact hk
          simp [hk'] at hb ⊢; exact hb
        unfold canonL
        simp only [List.getElem?_toArray]
        rcases Nat.lt_or_ge k out.vals.length with q | q
        · rw [hget true (hall k q) (by omega), List.getElem?_append_left (by simpa using q), List.getElem?_replicate, if_pos q]
        · rw [List.getElem?_append_right (by simpa using q), List.getElem?_replicate]
          simp only [List.length_replicate]
          rcases Nat.lt_or_ge k ops.size with p | p
          · rw [hget false (inv.tail k q) p, if_pos (by omega)]
          · rw [Array.getElem?_eq_none (by rw [inv.size]; omega), if_neg (by omega)]
      have hsl : slotsD listed out.slots out.vals.length = out.slots := by
        apply List.ext_getElem?
        intro k
        rcases Nat.lt_or_ge k out.vals.length with q | q
        · rw [slotsD_get _ _ _ _ q, hall k q]
          simp only [if_true, List.getD]
          rw [List.getElem?_eq_getElem (by omega)]; rfl
        · rw [List.getElem?_eq_none (by rw [length_slotsD]; omega), List.getElem?_eq_none (by omega)]
      have hmem := inv.mem
      have hext := inv.ext
      rw [hsl] at hmem hext
      have hdst : ∀ k j t, k < out.vals.length → j < out.vals.length → j ≠ k → dstOf ops j = some t → dstOf ops k ≠ some t := by
        intro k j t hk hj hjk hd
        obtain ⟨ok, hok⟩ : ∃ ok, ops[k]? = some ok := ⟨ops[k]'(by omega), by simp [show k < ops.size by omega]⟩
        have := (hO.dsts k j ok t hk hj hjk hok hd).1
        unfold dstOf
        rw [hok]; exact this
      have htm : SV.RL X.G ρ α' out.tm a'.tmps.toList := by
        refine RL_of_get (by rw [s3, length_canT]; simp [inv.tsize]) ?_
        intro t v hv
        have hv' : a'.tmps[t]? = some v := by simpa using hv
        have hlt : t < st.tmps.length := by
          have := (Array.getElem?_eq_some_iff.1 hv').1
          rw [inv.tsize] at this; exact this
        obtain ⟨c1, c2⟩ := canT_get (ops := ops) (tm0 := st.tmps) (vals := out.vals) hdst hlt out.vals.length (Nat.le_refl _)
        obtain ⟨t1, t2⟩ := inv.tmp t v hv'
        rw [s3]
        by_cases hex : ∃ k, k < out.vals.length ∧ dstOf ops k = some t
        · obtain ⟨k, hk, hkt⟩ := hex
          rw [c2 k hk hkt]
          exact t2 k hk (hall k hk) hkt
        · have hno : ∀ k, k < out.vals.length → dstOf ops k ≠ some t := fun k hk e => hex ⟨k, hk, e⟩
          rw [c1 hno]
          exact t1 (fun k hk _ => hno k hk)
      refine wpAny_of_seq (md := .any) (Q' := Q) out.rest out.vals.length listed a' w' (fun j => by rw [s2]; simp [List.getElem?_drop]) (by rw [hL]; exact hg2) ?_
      refine exOps_wp hX hh out.rest _ α' a' w' he ⟨htm, inv.defers, hmem⟩ ?_
      intro a2 w2 α2 r1 r2
      exact hQ a2 w2 α2 r1 (Ext.drawn (hext.trans r2 (by simp)))
  · cases he
end
/-! ### code -/
inductive Ex where
  | normal
  | exit (id : Nat)
  | ret
def Ex.toExit : Ex → Exit
  | .normal => .normal
  | .exit id => .exit id
  | .ret => .ret
def sResults (P : Program) (gl : List (Nat × Nat)) (st : St) : List ResultVar → Option (List SV)
  | [] => some []
  | .tmp t :: l => match sResults P gl st l with
    | some r => some (evO gl st.tmps (.tmp t) :: r)
    | none => none
  | .cell a t :: l => match evO gl st.tmps (.tmp a) with
    | .ptr id off => match st.heap[id]? with
      | some (some (cs, _)) => match sLoad P t cs off, sResults P gl st l with
        | some s, some r => some (s :: r)
        | _, _ => none
      | _ => none
    | _ => none
def tupled : List SV → SV
  | [s] => s
  | l => .tuple l
abbrev Contracts := FuncId → Option (Ctx → List SV → Res SV)
def callWith (P : Program) (X : Ctx) (gl : List (Nat × Nat)) (ct : Contracts) (run : Code → St → Res (Ex × St)) : Handler := fun f args σ =>
  match ct f with
  | some g => (g X args).bind fun s => .ok (s, σ)
  | none =>
    match P.funcs[f]? with
    | some fn =>
      match fn.body with
      | some c =>
        if fn.name == "runtime.NumGoroutine" then .fail 120
        else
          (run c ⟨args ++ List.replicate (fn.ntmps - args.length) (.tuple []), σ⟩).bind fun r =>
            match r.1 with
            | .exit _ => .fail 121
            | _ =>
              match sResults P gl r.2 fn.results.toList with
              | some l =>
                let s := tupled l
                let τ := r.2.heap.take σ.length
                if s.ubd σ.length && SV.ubdH σ.length τ && gl.all (fun p => decide (p.2 < σ.length)) then .ok (s, τ) else .ok (s, r.2.heap)
              | none => .fail 122
      | none => .fail 123
    | none => .fail 124
def exCode (P : Program) (X : Ctx) (gl : List (Nat × Nat)) (ct : Contracts) : Nat → Code → St → Res (Ex × St)
  | 0, _, _ => .fail 130
  | n + 1, c, st =>
    match c with
    | .skip => .ok (.normal, st)
    | .label _ => .ok (.normal, st)
    | .seq a b => (exCode P X gl ct n a st).bind fun r =>
      match r.1 with
      | .normal => exCode P X gl ct n b r.2
      | _ => .ok r
    | .cond o a b =>
      match evO gl st.tmps o with
      | .bool t => (Res.test X t).bind fun r => if r then exCode P X gl ct n a st else exCode P X gl ct n b st
      | _ => .fail 131
    | .block id b => (exCode P X gl ct n b st).bind fun r =>
      match r.1 with
      | .exit i => if i = id then .ok (.normal, r.2) else .ok r
      | _ => .ok r
    | .loop b => (exCode P X gl ct n b st).bind fun r =>
      match r.1 with
      | .normal => exCode P X gl ct n (.loop b) r.2
      | _ => .ok r
    | .scope b => exCode P X gl ct n b st
    | .exit id => .ok (.exit id, st)
    | .ret => .ok (.ret, st)
    | .region _ ops false => (exOps P X gl (callWith P X gl ct (exCode P X gl ct n)) ops ops.toList st).bind fun s => .ok (.normal, s)
    | .region _ ops true => (exDraw P X gl (callWith P X gl ct (exCode P X gl ct n)) ops st).bind fun s => .ok (.normal, s)
    | _ => .fail 132
/-- what a contract says: the function only computes -/
def CtOk (P : Program) (X : Ctx) (ρ : Nat → Int) (ct : Contracts) : Prop :=
  ∀ f g, ct f = some g → ∀ args s, g X args = .ok s → ∀ α w vals, SV.RL X.G ρ α args vals →
    Known P f ∧ Calls P f vals.toArray w (fun e w' => ∃ v, e = .returned v ∧ SV.R X.G ρ α s v ∧ Below w.heap.size w w')
section
variable {P : Program} {X : Ctx} {ρ : Nat → Int} {gl : List (Nat × Nat)} {ct : Contracts}
theorem results_run {α : AMap} {st : St} {a : Act} {w : World} (hr : RelSt X ρ gl α st a w) : ∀ {rs : List ResultVar} {l : List SV}, sResults P gl st rs = some l →
    ∃ vs : List Value, (rs.mapM fun (r : ResultVar) => (match r with
      | .tmp t => pure (a.tmps.getD t undef)
      | .cell b t => do loadVar t (← asAddr (a.tmps.getD b undef)) : Sem Value)).run P w = .ok vs w ∧ SV.RL X.G ρ α l vs
  | [], l, h => by
    simp only [sResults, Option.some.injEq] at h
    subst h
    exact ⟨[], by simp, RL_nil⟩
  | .tmp t :: rs, l, h => by
    simp only [sResults] at h
    split at h
    · rename_i r hr'
      cases h
      obtain ⟨vs, h1, h2⟩ := results_run hr hr'
      refine ⟨a.tmps.getD t undef :: vs, ?_, RL_cons (evO_R hr.tmps hr.mem.glob (.tmp t)) h2⟩
      simp only [List.mapM_cons, Sem.run_bind, Sem.run_pure, Result.andThen_ok, h1]
    · cases h
  | .cell b t :: rs, l, h => by
    simp only [sResults] at h
    split at h
    · rename_i id off he
      have rx := evO_R hr.tmps hr.mem.glob (.tmp b)
      rw [he] at rx
      simp only [SV.R, Act.eval] at rx
      obtain ⟨k, hk, rx⟩ := rx
      split at h
      · rename_i cs T hs
        obtain ⟨k', us, q1, q2, q3⟩ := hr.mem.blk id cs T hs
        rw [hk] at q1; cases q1
        split at h
        · rename_i s r h3 h4
          cases h
          obtain ⟨v, hv, rv⟩ := sLoad_run (P := P) h3 q2 q3
          obtain ⟨vs, h1, h2⟩ := results_run hr h4
          refine ⟨v :: vs, ?_, RL_cons rv h2⟩
          have ha : (asAddr (a.tmps.getD b undef)).run P w = .ok ⟨k, off, none⟩ w := by rw [rx]; simp [asAddr]
          simp only [List.mapM_cons, Sem.run_bind, ha, Sem.run_pure, Result.andThen_ok, hv, h1]
        · cases h
      · cases h
    · cases h
theorem tupled_R {α : AMap} {l : List SV} {vs : List Value} (h : SV.RL X.G ρ α l vs) : SV.R X.G ρ α (tupled l) (if hs : vs.toArray.size = 1 then vs.toArray[0] else .tuple vs.toArray) := by
  have hl := RL_length h
  match l, vs, h with
  | [s], [v], h =>
    simp only [SV.RL] at h
    obtain ⟨u, us, e, h1, _⟩ := h
    cases e
    exact h1
  | [], vs, h =>
    simp only [SV.RL] at h
    subst h
    simp only [tupled, SV.R]
    exact ⟨[], rfl, RL_nil⟩
  | s :: t :: l, vs, h =>
    have : ¬ vs.toArray.size = 1 := by simp at hl ⊢; omega
    rw [dif_neg this]
    simp only [tupled, SV.R]
    exact ⟨vs, rfl, h⟩
  | [s], [], h => simp at hl
  | [s], _ :: _ :: _, h => simp at hl
theorem callWith_ok (hct : CtOk P X ρ ct) {run : Code → St → Res (Ex × St)}
    (hrun : ∀ c st e st', run c st = .ok (e, st') → ∀ α a w Q, RelSt X ρ gl α st a w → (∀ a' w' α', RelSt X ρ gl α' st' a' w' → Ext st.heap.length st.heap st'.heap α α' w w' → Q e.toExit a' w') → c.wp P Q a w) :
    HOk P X ρ gl (callWith P X gl ct run) := by
  intro f args σ s σ' h α w vals hW hv
  unfold callWith at h
  split at h
  · rename_i g hg
    obtain ⟨s1, h1, h⟩ := Res.bind_ok h
    cases h
    obtain ⟨hk, hc⟩ := hct f g hg args _ h1 α w vals hv
    refine ⟨hk, hc.mono ?_⟩
    rintro e w' ⟨v, rfl, rv, hb⟩
    refine ⟨v, α, rfl, rv, ⟨fun id b e => ⟨(hW.dom id b e).1, Nat.lt_of_lt_of_le (hW.dom id b e).2 hb.size⟩, hW.inj, ?_, hW.glob⟩, ⟨hb.os, hb.tape, hb.output, hb.size, Nat.le_refl _, fun _ _ e => e, fun _ _ e => .inl e, fun b hb' _ => hb.block b hb', fun _ _ _ e => e⟩⟩
    intro id cs T e
    obtain ⟨b, vs, q1, q2, q3⟩ := hW.blk id cs T e
    exact ⟨b, vs, q1, by rw [hb.block b (hW.dom id b q1).2]; exact q2, q3⟩
  · split at h
    · rename_i fn hfn
      split at h
      · rename_i c hc
        split at h
        · cases h
        · rename_i hname
          obtain ⟨r, h1, h⟩ := Res.bind_ok h
          obtain ⟨e, st'⟩ := r
          refine ⟨⟨fn, hfn, by simpa using hname, by simp [hc]⟩, ?_⟩
          have hlen := RL_length hv
          refine calls_of_wp hfn hc ?_
          have hst : RelSt X ρ gl α ⟨args ++ List.replicate (fn.ntmps - args.length) (.tuple []), σ⟩ { tmps := vals.toArray ++ Array.replicate (fn.ntmps - vals.toArray.size) undef, defers := [] } w := by
            refine ⟨?_, rfl, hW⟩
            have := RL_append hv (RL_replicate (G := X.G) (ρ := ρ) (α := α) (s := .tuple []) (v := undef) (by simp only [SV.R]; exact ⟨[], rfl, RL_nil⟩) (fn.ntmps - args.length))
            simpa [hlen] using this
          refine hrun c _ e st' h1 α _ w _ hst ?_
          intro a' w' α' hr' hx'
          simp only at h hx'
          have done : ∀ l : List SV, sResults P gl st' fn.results.toList = some l → ((if ((tupled l).ubd σ.length && SV.ubdH σ.length (st'.heap.take σ.length) && gl.all (fun p => decide (p.2 < σ.length))) = true then (.ok (tupled l, st'.heap.take σ.length) : Res (SV × Heap)) else .ok (tupled l, st'.heap)) = .ok (s, σ')) →
              a'.defers = [] ∧ ∃ v, (results fn a'.tmps).run P w' = .ok v w' ∧ ∃ v_1 α', Ending.returned v = Ending.returned v_1 ∧ SV.R X.G ρ α' s v_1 ∧ RelW X.G ρ gl α' σ' w' ∧ Ext σ.length σ σ' α α' w w' := by
            intro l hl hh
            obtain ⟨vs, g1, g2⟩ := results_run (P := P) hr' hl
            refine ⟨hr'.defers, (if hs : vs.toArray.size = 1 then vs.toArray[0] else .tuple vs.toArray), ?_, ?_⟩
            · unfold results
              rw [Array.mapM_eq_mapM_toList]
              simp only [map_eq_pure_bind, Sem.run_bind, Sem.run_pure]
              erw [g1]
              simp only [Result.andThen_ok]
            · have rt := tupled_R g2
              split at hh
              · rename_i hg
                simp only [Bool.and_eq_true, List.all_eq_true, decide_eq_true_eq] at hg
                obtain ⟨⟨b1, b2⟩, b3⟩ := hg
                cases hh
                have hle : σ.length ≤ st'.heap.length := hx'.len
                have htl : (st'.heap.take σ.length).length = σ.length := by simp; omega
                have hpart : Part (st'.heap.take σ.length) st'.heap := ⟨by omega, fun id hid => .inl (by rw [List.getElem?_take, if_pos (by omega)])⟩
                have hp := hr'.mem.part hpart (by rw [htl]; exact b2) (fun p hp => by rw [htl]; exact b3 p hp)
                rw [htl] at hp
                refine ⟨_, cutA σ.length α', rfl, SV.R_agree σ.length (fun id b hid e => cutA_of e hid) _ _ b1 rt, hp, ?_⟩
                refine ⟨hx'.os, hx'.tape, hx'.output, hx'.size, by omega, fun id b e => cutA_of (hx'.mono id b e) (hW.dom id b e).1, fun id b e => hx'.fresh id b (cutA_lt e).2, hx'.hid, ?_⟩
                intro id b e hn
                rw [List.getElem?_take, if_pos (hW.dom id b e).1]
                exact hx'.mask id b e hn
              · cases hh
                exact ⟨_, α', rfl, rt, hr'.mem, hx'⟩
          cases e with
          | exit id => cases h
          | normal =>
            simp only at h
            split at h
            · exact done _ ‹_› h
            · cases h
          | ret =>
            simp only at h
            split at h
            · exact done _ ‹_› h
            · cases h
      · cases h
    · cases h
end
section
variable {P : Program} {X : Ctx} {ρ : Nat → Int} {gl : List (Nat × Nat)} {ct : Contracts}
/-- what a run of code gives -/
def CodeOK (P : Program) (X : Ctx) (ρ : Nat → Int) (gl : List (Nat × Nat)) (run : Code → St → Res (Ex × St)) : Prop :=
  ∀ c st e st', run c st = .ok (e, st') → ∀ α a w Q, RelSt X ρ gl α st a w → (∀ a' w' α', RelSt X ρ gl α' st' a' w' → Ext st.heap.length st.heap st'.heap α α' w w' → Q e.toExit a' w') → c.wp P Q a w
theorem exCode_wp (hX : X.Ok ρ) (hct : CtOk P X ρ ct) (hm : P.follows .mixedOrders = true) : ∀ n : Nat, CodeOK P X ρ gl (exCode P X gl ct n) ∧
    (∀ b st e st', exCode P X gl ct n (.loop b) st = .ok (e, st') → ∀ α a w Q, RelSt X ρ gl α st a w → (∀ a' w' α', RelSt X ρ gl α' st' a' w' → Ext st.heap.length st.heap st'.heap α α' w w' → Q e.toExit a' w') → Code.rounds P b Q n a w)
  | 0 => ⟨fun c st e st' h => by simp [exCode] at h, fun b st e st' h => by simp [exCode] at h⟩
  | n + 1 => by
    obtain ⟨ih, ihl⟩ := exCode_wp hX hct hm n
    have hh : HOk P X ρ gl (callWith P X gl ct (exCode P X gl ct n)) := callWith_ok hct ih
    have loop : ∀ b st e st', exCode P X gl ct (n + 1) (.loop b) st = .ok (e, st') → ∀ α a w Q, RelSt X ρ gl α st a w → (∀ a' w' α', RelSt X ρ gl α' st' a' w' → Ext st.heap.length st.heap st'.heap α α' w w' → Q e.toExit a' w') → Code.rounds P b Q (n + 1) a w := by
      intro b st e st' h α a w Q hr hQ
      unfold exCode at h
      simp only at h
      obtain ⟨r, h1, h⟩ := Res.bind_ok h
      obtain ⟨e1, s1⟩ := r
      rw [rounds_succ]
      refine ih b st e1 s1 h1 α a w _ hr ?_
      intro a1 w1 α1 r1 x1
      cases e1 with
      | normal =>
        simp only at h
        simp only [Ex.toExit, Exit.then]
        exact ihl b s1 e st' h α1 a1 w1 Q r1 (fun a' w' α' r2 x2 => hQ a' w' α' r2 (x1.trans x2 x1.len))
      | exit id =>
        cases h
        exact hQ a1 w1 α1 r1 x1
      | ret =>
        cases h
        exact hQ a1 w1 α1 r1 x1
    refine ⟨?_, loop⟩
    intro c st e st' h α a w Q hr hQ
    cases c with
    | skip =>
      simp only [exCode] at h
      cases h
      exact wp_skip (hQ a w α hr (Ext.refl _ _ _ _))
    | label l =>
      simp only [exCode] at h
      cases h
      exact wp_label (hQ a w α hr (Ext.refl _ _ _ _))
    | seq x y =>
      simp only [exCode] at h
      obtain ⟨r, h1, h⟩ := Res.bind_ok h
      obtain ⟨e1, s1⟩ := r
      refine wp_seq (ih x st e1 s1 h1 α a w _ hr ?_)
      intro a1 w1 α1 r1 x1
      cases e1 with
      | normal =>
        simp only at h
        simp only [Ex.toExit, Exit.then]
        exact ih y s1 e st' h α1 a1 w1 Q r1 (fun a' w' α' r2 x2 => hQ a' w' α' r2 (x1.trans x2 x1.len))
      | exit id =>
        cases h
        exact hQ a1 w1 α1 r1 x1
      | ret =>
        cases h
        exact hQ a1 w1 α1 r1 x1
    | cond o x y =>
      simp only [exCode] at h
      split at h
      · rename_i t ht
        replace h := Res.bind_ok h
        obtain ⟨r, h1, h⟩ := h
        have hd := Res.test_ok hX h1
        have ho := evO_R hr.tmps hr.mem.glob o
        rw [ht] at ho
        simp only [SV.R] at ho
        rw [hd] at ho
        refine wp_cond ho ?_
        cases r
        · simp only [Bool.false_eq_true, if_false] at h ⊢
          exact ih y st e st' h α a w Q hr hQ
        · simp only [if_true] at h ⊢
          exact ih x st e st' h α a w Q hr hQ
      · cases h
    | block id x =>
      simp only [exCode] at h
      obtain ⟨r, h1, h⟩ := Res.bind_ok h
      obtain ⟨e1, s1⟩ := r
      refine wp_block (ih x st e1 s1 h1 α a w _ hr ?_)
      intro a1 w1 α1 r1 x1
      cases e1 with
      | normal =>
        cases h
        exact hQ a1 w1 α1 r1 x1
      | exit i =>
        simp only at h
        simp only [Ex.toExit, Exit.inBlock]
        split at h
        · rename_i hi
          cases h
          rw [if_pos hi]
          exact hQ a1 w1 α1 r1 x1
        · rename_i hi
          cases h
          rw [if_neg hi]
          exact hQ a1 w1 α1 r1 x1
      | ret =>
        cases h
        exact hQ a1 w1 α1 r1 x1
    | loop b => exact wp_loop_rounds (n + 1) (loop b st e st' h α a w Q hr hQ)
    | scope b =>
      simp only [exCode] at h
      refine wp_scope_straight (ih b st e st' h α a w _ hr ?_)
      intro a1 w1 α1 r1 x1
      have := hQ a1 w1 α1 r1 x1
      cases e <;> exact this
    | exit id =>
      simp only [exCode] at h
      cases h
      exact wp_exit (hQ a w α hr (Ext.refl _ _ _ _))
    | ret =>
      simp only [exCode] at h
      cases h
      exact wp_ret (hQ a w α hr (Ext.refl _ _ _ _))
    | region id ops draw =>
      cases draw
      · simp only [exCode] at h
        obtain ⟨s, h1, h⟩ := Res.bind_ok h
        cases h
        exact wp_region_list (exOps_wp hX hh ops.toList st α a w h1 hr (fun a' w' α' r1 x1 => hQ a' w' α' r1 x1))
      · simp only [exCode] at h
        obtain ⟨s, h1, h⟩ := Res.bind_ok h
        cases h
        exact exDraw_wp hX hh hm h1 hr (fun a' w' α' r1 x1 => hQ a' w' α' r1 x1)
    | rangeFunc f ps x y => simp [exCode] at h
    | goto l => simp [exCode] at h
    | refuse y => simp [exCode] at h
/-- a call with nothing but numbers and such beside it -/
def exFun (P : Program) (X : Ctx) (ct : Contracts) (n : Nat) (f : FuncId) (args : List SV) : Res SV :=
  (callWith P X [] ct (exCode P X [] ct n) f args []).bind fun r => .ok r.1
theorem exFun_calls (hX : X.Ok ρ) (hct : CtOk P X ρ ct) (hm : P.follows .mixedOrders = true) {n : Nat} {f : FuncId} {args : List SV} {s : SV} (h : exFun P X ct n f args = .ok s) {vals : List Value} (hv : SV.RL X.G ρ (fun _ => none) args vals) (w : World) :
    Known P f ∧ Calls P f vals.toArray w (fun e w' => ∃ v α, e = .returned v ∧ SV.R X.G ρ α s v ∧ Below w.heap.size w w') := by
  unfold exFun at h
  obtain ⟨r, h1, h⟩ := Res.bind_ok h
  obtain ⟨s1, σ1⟩ := r
  cases h
  have hW : RelW X.G ρ [] (fun _ => none) [] w := ⟨fun _ _ e => (by cases e), fun _ _ _ e => (by cases e), fun id cs T e => (by simp at e), fun p hp => (by cases hp)⟩
  obtain ⟨hk, hc⟩ := callWith_ok (gl := []) hct (exCode_wp hX hct hm n).1 f args [] s1 σ1 h1 (fun _ => none) w vals hW hv
  refine ⟨hk, hc.mono ?_⟩
  rintro e w' ⟨v, α', rfl, r1, _, x1⟩
  exact ⟨v, α', rfl, r1, ⟨x1.os, x1.tape, x1.output, x1.size, fun k hk' => x1.hid k hk' (fun id e => (by cases e))⟩⟩
end
end Sx
end Go.Proofs.Ytoighnoliehafaa
