/- A region whose order is drawn, where an append may come up ahead of operations that only look up. No condition of its own. -/
import Derived.Test.YtbdokiecpmhjmaaGreatDoorPvDraw
namespace Go.Proofs.YtbdokiecpmhjmaaGreatDoor
set_option linter.unusedSimpArgs false
set_option linter.unusedVariables false
open Go.RowKit

section
variable {ρ : Type} {P : Program} {C : Ctx} {Pre : World → Prop} {w0 : World} {ok0 : Nat → Prop} {fr : Nat → Value}

/-- What an append does to what is known. -/
inductive Upd
  | new (ob : Ob)
  | own (id : Nat) (ob : Ob)
  | inn (id : Nat) (ob : Ob)
def Upd.app : Upd → Env → Env
  | .new ob, σ => σ.newOb ob
  | .own id ob, σ => (σ.kill id).setOb id ob
  | .inn id ob, σ => (σ.killI id).setOb id ob
def Upd.f : Upd → AC → AC
  | .new _ => fun c => c
  | .own id _ => AC.kill id
  | .inn id _ => AC.killI id
def Upd.ok (σ : Env) : Upd → Prop
  | .new _ => True
  | .own id _ => ∀ cs, σ.ob id ≠ .var cs
  | .inn id _ => ∀ cs, σ.ob id ≠ .var cs

theorem mapC_idV (v : AV) : v.mapC (fun c => c) = v := by cases v <;> simp [AV.mapC]
theorem Upd.len (U : Upd) (σ : Env) : (U.app σ).t.length = σ.t.length := by
  cases U <;> simp [Upd.app, Env.newOb, Env.setOb, Env.kill, Env.killI]
theorem Upd.bad (U : Upd) : U.f .bad = .bad := by cases U <;> rfl
theorem Upd.tq (U : Upd) (σ : Env) (i : Nat) (p : Nat × AV) (h : (U.app σ).t[i]? = some p) : ∃ q, σ.t[i]? = some q ∧ p.2 = q.2.mapC U.f := by
  cases U with
  | new ob => exact ⟨p, h, (mapC_idV _).symm⟩
  | own id ob => exact killT σ id i p h
  | inn id ob => exact killIT σ id i p h
theorem Upd.hh (U : Upd) {σ τ : Env} (h : τ.h = σ.h) : (U.app τ).h = (U.app σ).h := by
  cases U <;> simp only [Upd.app, Env.newOb, Env.setOb, Env.kill, Env.killI, h]
theorem ob_at {σ : Env} {id : Nat} {cs : List AC} (h : σ.ob id = .var cs) : ∃ p, σ.h[id]? = some p ∧ p.2 = .var cs := by
  unfold Env.ob at h
  rw [nth_eq] at h
  cases hi : σ.h[id]? with
  | none => rw [hi] at h; cases h
  | some p => rw [hi] at h; exact ⟨p, rfl, h⟩
theorem at_ob {σ : Env} {id : Nat} {p : Nat × Ob} (h : σ.h[id]? = some p) : σ.ob id = p.2 := by
  unfold Env.ob; rw [nth_eq, h]; rfl
theorem Upd.var (U : Upd) {σ : Env} (hk : U.ok σ) {id : Nat} {cs : List AC} (h : σ.ob id = .var cs) : (U.app σ).ob id = .var (cs.map U.f) ∧ ∀ off, U.f (.vptr id off) = .vptr id off := by
  obtain ⟨p, hp, hpo⟩ := ob_at h
  cases U with
  | new ob =>
    refine ⟨?_, fun off => rfl⟩
    rw [at_ob (σ := (Upd.new ob).app σ) (p := p) (by simp only [Upd.app, Env.newOb]; rw [List.getElem?_append_left (List.getElem?_eq_some_iff.1 hp).1]; exact hp), hpo]
    simp [Upd.f]
  | own i ob =>
    have hne : id ≠ i := by rintro rfl; exact hk cs h
    obtain ⟨q, hq, hqe⟩ := killH σ i id p hp
    refine ⟨?_, fun off => by simp only [Upd.f, AC.kill, beq_ne hne, cond_false]⟩
    rw [at_ob (σ := (Upd.own i ob).app σ) (p := q) (by simp only [Upd.app, Env.setOb]; rw [getElem?_setN, if_neg (fun x => hne x.1)]; exact hq), hqe, hpo]
    rfl
  | inn i ob =>
    have hne : id ≠ i := by rintro rfl; exact hk cs h
    obtain ⟨q, hq, hqe⟩ := killIH σ i id p hp
    refine ⟨?_, fun off => rfl⟩
    rw [at_ob (σ := (Upd.inn i ob).app σ) (p := q) (by simp only [Upd.app, Env.setOb]; rw [getElem?_setN, if_neg (fun x => hne x.1)]; exact hq), hqe, hpo]
    rfl

theorem ob_h {σ τ : Env} (h : τ.h = σ.h) (id : Nat) : τ.ob id = σ.ob id := by unfold Env.ob; rw [h]
theorem rowOf_h {σ τ : Env} (h : τ.h = σ.h) (e : Ty) (x : AC) : rowOf τ e x = rowOf σ e x := by unfold rowOf Env.ob; rw [h]
theorem append_param {I : Inl ρ} {σ : Env} {o : Oper} {K : AV → Env → Option ρ} {r : ρ} {args : Array Operand} {ts : Array TypeId} (ho : o.op = .call { callee := .builtin .append, args := args, argTypes := ts }) (hK : opK P C I σ o K = some r) :
    ∃ (U : Upd) (v : AV), K v (U.app σ) = some r ∧ U.ok σ ∧ ∀ τ : Env, τ.h = σ.h → (∀ x ∈ args.toList, τ.ev x = σ.ev x) → opK P C noInl τ o (fun v τ => some (v, τ)) = some (v, U.app τ) := by
  have hm : ∀ τ : Env, (∀ x ∈ args.toList, τ.ev x = σ.ev x) → args.toList.map τ.ev = args.toList.map σ.ev := fun τ h => List.map_congr_left h
  simp only [opK, ho] at hK ⊢
  split at hK
  · rename_i s x st st' hargs hts
    obtain ⟨hst', hK1⟩ := bif_some hK
    clear hK
    unfold appendK at hK1
    split at hK1
    · rename_i id
      split at hK1
      · rename_i e xs hob
        split at hK1
        · rename_i ys hys
          obtain ⟨hb, hK'⟩ := bif_some hK1
          refine ⟨.own id (.row e (xs ++ ys)), _, hK', (by intro cs h; rw [hob] at h; cases h), fun τ hh hx => ?_⟩
          simp only [hm τ hx, hargs, hts, hst', cond_true, appendK, ob_h hh, rowOf_h hh, hob, hys, hb]
          rfl
        · cases hK1
      · cases hK1
    · rename_i id i
      split at hK1
      · rename_i e xss hob
        split at hK1
        · rename_i ys hys
          obtain ⟨xs, hxs, hK2⟩ := obind_some hK1
          obtain ⟨hb, hK'⟩ := bif_some hK2
          refine ⟨.inn id (.tree e (xss.set i (xs ++ ys)) (some i)), _, hK', (by intro cs h; rw [hob] at h; cases h), fun τ hh hx => ?_⟩
          simp only [hm τ hx, hargs, hts, hst', cond_true, appendK, ob_h hh, rowOf_h hh, hob, hys, hxs, obind, hb]
          rfl
        · cases hK1
      · cases hK1
    · split at hK1
      · rename_i e hty
        split at hK1
        · rename_i ys hys
          obtain ⟨hb, hK'⟩ := bif_some hK1
          refine ⟨.new (.row e ys), _, hK', trivial, fun τ hh hx => ?_⟩
          simp only [hm τ hx, hargs, hts, hst', cond_true, appendK, rowOf_h hh, hty, hys, hb, hh]
          rfl
        · cases hK1
      · cases hK1
    · cases hK1
  · cases hK

theorem loadK_map {σ τ : Env} {t : TypeId} {cs : List AC} {off : Nat} {v : AV} {f : AC → AC} (hf : f .bad = .bad) (h : loadK P σ t cs off (fun v τ => some (v, τ)) = some (v, σ)) : loadK P τ t (cs.map f) off (fun v τ => some (v, τ)) = some (v.mapC f, τ) := by
  unfold loadK at h ⊢
  split at h
  · rename_i d hd
    cases hb : aggD d
    · rw [hb, cond_false] at h
      obtain ⟨h1, h2⟩ := bif_some h
      simp only [cond_false, List.length_map, h1, cond_true]
      simp only [Option.some.injEq, Prod.mk.injEq, and_true] at h2 ⊢
      subst h2
      simp only [AV.mapC, nth_eq, List.getElem?_map]
      cases cs[off]? with
      | none => simp [hf]
      | some c => rfl
    · rw [hb, cond_true] at h
      obtain ⟨h1, h2⟩ := bif_some h
      simp only [List.length_map, h1, cond_true]
      simp only [Option.some.injEq, Prod.mk.injEq, and_true] at h2 ⊢
      subst h2
      simp only [AV.mapC, sub, List.map_take, List.map_drop]
  · cases h

/-- What is known ahead of the append. -/
def preEnv (l : List Oper) (es : List En) (σ : Env) (L : Nat → Bool) (H : List (Nat × Ob)) : Env := ⟨(List.range σ.t.length).map fun t => (0, expAV l es σ L t), H⟩
/-- What is known behind it. -/
def lateEnv (l : List Oper) (es : List En) (σ : Env) (L : Nat → Bool) (H : List (Nat × Ob)) (g : AC → AC) (du : Option Nat) (v : AV) : Env := ⟨(List.range σ.t.length).map fun t => (0, if du = some t then v else (expAV l es σ L t).mapC g), H⟩
theorem preEnv_t {l : List Oper} {es : List En} {σ : Env} {L : Nat → Bool} {H : List (Nat × Ob)} {t : Nat} {p : Nat × AV} (h : (preEnv l es σ L H).t[t]? = some p) : t < σ.t.length ∧ p.2 = expAV l es σ L t := by
  simp only [preEnv, List.getElem?_map] at h
  obtain ⟨q, hq, rfl⟩ := Option.map_eq_some_iff.1 h
  have hlt : t < σ.t.length := by simpa using (List.getElem?_eq_some_iff.1 hq).1
  rw [List.getElem?_range hlt] at hq
  cases hq
  exact ⟨hlt, rfl⟩
theorem lateEnv_t {l : List Oper} {es : List En} {σ : Env} {L : Nat → Bool} {H : List (Nat × Ob)} {g : AC → AC} {du : Option Nat} {v : AV} {t : Nat} {p : Nat × AV} (h : (lateEnv l es σ L H g du v).t[t]? = some p) : t < σ.t.length ∧ p.2 = if du = some t then v else (expAV l es σ L t).mapC g := by
  simp only [lateEnv, List.getElem?_map] at h
  obtain ⟨q, hq, rfl⟩ := Option.map_eq_some_iff.1 h
  have hlt : t < σ.t.length := by simpa using (List.getElem?_eq_some_iff.1 hq).1
  rw [List.getElem?_range hlt] at hq
  cases hq
  exact ⟨hlt, rfl⟩
theorem put_t {σ : Env} {d : Option Nat} {v : AV} {t : Nat} (h : t < σ.t.length) : ∃ q, (σ.put d v).t[t]? = some q ∧ (d = some t → q.2 = v) ∧ (d ≠ some t → σ.t[t]? = some q) := by
  cases d with
  | none => exact ⟨_, List.getElem?_eq_getElem h, (by intro h; cases h), fun _ => List.getElem?_eq_getElem h⟩
  | some n =>
    simp only [Env.put, getElem?_setN]
    by_cases hn : t = n
    · subst hn
      exact ⟨_, by rw [if_pos ⟨rfl, h⟩], fun _ => rfl, fun h => absurd rfl h⟩
    · exact ⟨_, by rw [if_neg (fun x => hn x.1)]; exact List.getElem?_eq_getElem h, fun h => absurd (Option.some.inj h).symm hn, fun _ => List.getElem?_eq_getElem h⟩
theorem put_h (σ : Env) (d : Option Nat) (v : AV) : (σ.put d v).h = σ.h := by cases d <;> rfl
theorem put_len (σ : Env) (d : Option Nat) (v : AV) : (σ.put d v).t.length = σ.t.length := by cases d <;> simp [Env.put, length_setN]
theorem Rel.congr' {σ τ : Env} {a : Act} {w : World} {G : GM} (hR : Rel w0 ok0 fr σ a w G) (ht : τ.t.length = σ.t.length) (hh : τ.h = σ.h) (h : ∀ (t : Nat) (p q : Nat × AV), τ.t[t]? = some p → σ.t[t]? = some q → p.2 = q.2) : Rel w0 ok0 fr τ a w G := by
  refine hR.congr ht (fun i p hp => .inr ?_) (fun i q _ hq => ⟨q, by rw [hh]; exact hq, rfl⟩) (fun i p hp => ⟨p, by rw [← hh]; exact hp, rfl⟩)
  have hlt : i < σ.t.length := by rw [← ht]; exact (List.getElem?_eq_some_iff.1 hp).1
  exact ⟨_, List.getElem?_eq_getElem hlt, h i p _ hp (List.getElem?_eq_getElem hlt)⟩

theorem tail_listed {ops : Array Oper} {s : Nat} (htl : ∀ j o, ops.toList[j]? = some o → s ≤ j → tailOk ops.toList j = true) (listed : Array Bool) (j : Nat) (hc : Closed ops.toList (fun k => listed.getD k false)) (hj : s ≤ j) (hr : j ∈ Region.ready .any ops listed) : ∀ k, k < j → listed.getD k false = true := by
  intro k hk
  obtain ⟨_, o, ho, hdeps⟩ := ready_eq_iff.1 hr
  have hoL : ops.toList[j]? = some o := by simpa using ho
  have := htl j o hoL hj
  simp only [tailOk, List.all_eq_true, List.mem_range] at this
  have h1 := this k hk
  rw [List.contains_iff_mem] at h1
  exact ancs_closed hc j j k h1 (fun o' ho' => by rw [hoL] at ho'; cases ho'; exact hdeps)
theorem edge_lt {ops : Array Oper} (hedge : ∀ j o, ops.toList[j]? = some o → edgesOk o j = true) {j : Nat} {o : Oper} (ho : ops.toList[j]? = some o) {e : Edge} (he : e ∈ o.after) (hb : bindsB e = true) : e.on < j := by
  have h1 := List.all_eq_true.1 (hedge j o ho) e (by simpa using he)
  rw [hb] at h1
  simpa [Nat.blt_eq] using h1
theorem tail_uniq {ops : Array Oper} {s : Nat} (hedge : ∀ j o, ops.toList[j]? = some o → edgesOk o j = true) (htl : ∀ j o, ops.toList[j]? = some o → s ≤ j → tailOk ops.toList j = true) :
    ∀ i (listed : Array Bool), s ≤ i → listed.size = ops.size → (∀ j, listed.getD j true = false ↔ i ≤ j ∧ j < ops.size) → ∀ j, j ∈ Region.ready .any ops listed ↔ j = i ∧ i < ops.size := by
  intro i listed hsi hsz hl j
  have hsm : ∀ k, k < i → k < ops.size → listed.getD k false = true := by
    intro k h1 h2
    have h3 : listed.getD k true = true := by
      cases hb : listed.getD k true
      · have := ((hl k).1 hb).1; omega
      · rfl
    have h4 : k < listed.size := by rw [hsz]; exact h2
    simpa [Array.getD_eq_getD_getElem?, h4] using h3
  constructor
  · intro hj
    have h1 := (ready_eq_iff.1 hj).1
    obtain ⟨h2, h3⟩ := (hl j).1 h1
    refine ⟨?_, by omega⟩
    rcases Nat.lt_or_ge i j with h4 | h4
    · exfalso
      have hc : Closed ops.toList (fun k => listed.getD k false) := by
        intro j' o' hj' hL e he hb
        have hj's : j' < i := by
          rcases Nat.lt_or_ge j' i with h | h
          · exact h
          · exfalso
            have h5 : j' < ops.size := by simpa using (List.getElem?_eq_some_iff.1 hj').1
            have := (getD_both ((hl j').2 ⟨h, h5⟩)).2
            dsimp only at hL
            rw [this] at hL; cases hL
        have h7 := edge_lt hedge hj' he hb
        exact hsm _ (by omega) (by omega)
      have h5 := tail_listed htl listed j hc (by omega) hj i h4
      have := (getD_both ((hl i).2 ⟨Nat.le_refl _, by omega⟩)).2
      rw [this] at h5; cases h5
    · omega
  · rintro ⟨rfl, h⟩
    have hko : ops[j]? = some ops[j] := Array.getElem?_eq_getElem h
    refine ready_eq_iff.2 ⟨(hl j).2 ⟨Nat.le_refl _, h⟩, _, hko, fun e he hb => ?_⟩
    have h2 := edge_lt hedge (j := j) (o := ops[j]) (by simp [hko]) he hb
    exact hsm _ h2 (by omega)
theorem ready_some {ops : Array Oper} (hedge : ∀ j o, ops.toList[j]? = some o → edgesOk o j = true) (listed : Array Bool) (hsz : listed.size = ops.size) : ∀ k, k < ops.size → listed.getD k true = false → Region.ready .any ops listed ≠ [] := by
  intro k
  induction k using Nat.strongRecOn with
  | ind k ihk =>
    intro hks hkl
    by_cases hex : ∃ k', k' < k ∧ listed.getD k' true = false
    · obtain ⟨k', h1, h2⟩ := hex
      exact ihk k' h1 (by omega) h2
    · have hko : ops[k]? = some ops[k] := Array.getElem?_eq_getElem (by omega)
      have : k ∈ Region.ready .any ops listed := ready_eq_iff.2 ⟨hkl, _, hko, fun e he hb => by
        have h2 := edge_lt hedge (j := k) (o := ops[k]) (by simp [hko]) he hb
        have h3 : listed.getD e.on true = true := by
          cases h : listed.getD e.on true
          · exact absurd ⟨e.on, h2, h⟩ hex
          · rfl
        have h4 : e.on < listed.size := by rw [hsz]; omega
        simpa [Array.getD_eq_getD_getElem?, h4] using h3⟩
      intro he
      rw [he] at this
      cases this

/-- One that only looks up comes up behind the append. -/
theorem late_step (hp : Place P C Pre w0 ok0) {ops : Array Oper} {s : Nat} {es : List En} {σ σp : Env} (hds : dstsOk ops.toList = true) (hall : ∀ j o, ops.toList[j]? = some o → edgesOk o j = true ∧ looksOk ops.toList j o = true) (hs : s ≤ ops.size) (hst : (ops.toList.take s).all stableB = true) (htr : Trace P C w0 ok0 ops.toList (ops.toList.take s) σ es σp)
    {U : Upd} (hU : U.ok σp) {os : Oper} (hos : ops.toList[s]? = some os) {v : AV} (hE : lateE σp ops.toList s = true) {listed : Array Bool} {a : Act} {w : World} {G : GM}
    (hR : Rel w0 ok0 fr (lateEnv (ops.toList.take s) es σ (fun k => listed.getD k false) (U.app σp).h U.f os.dst v) a w G) {i : Nat} (hi : i ∈ Region.ready .any ops listed) (his : i < s) (hna : i ∉ ancs ops.toList s s) (hlo : lateOp ops.toList i = true)
    {next : Act → World → Prop} {Q : Exit → Act → World → Prop} (hn : ∀ a' w' G', Rel w0 ok0 fr (lateEnv (ops.toList.take s) es σ (fun k => (listed.setIfInBounds i true).getD k false) (U.app σp).h U.f os.dst v) a' w' G' → next a' w') : wpOp P ops Q i next a w := by
  obtain ⟨hun, o, ho, hdeps⟩ := ready_eq_iff.1 hi
  have hoL : ops.toList[i]? = some o := by simpa using ho
  obtain ⟨hedge, hlook⟩ := hall i o hoL
  have hsplit : ops.toList = ops.toList.take s ++ ops.toList.drop s := (List.take_append_drop s _).symm
  have hds' : dstsOk (ops.toList.take s) = true := dstsOk_left (by rw [← hsplit]; exact hds)
  have hol : (ops.toList.take s)[i]? = some o := by rw [List.getElem?_take, if_pos his]; exact hoL
  obtain ⟨σk, e, hes, hgood, hlen, hh, hpfx, htmp⟩ := htr.at hds' i o hol
  obtain ⟨hilt, hunf⟩ := getD_both hun
  have hset := getD_set_self hilt
  have hsb : stableB o = true := List.all_eq_true.1 hst o (List.mem_of_getElem? hol)
  have dep : ∀ k, dependsOn o k = true → listed.getD k false = true ∧ k < i := by
    intro k hk
    obtain ⟨ed, he, hb, rfl⟩ := dep_spec hk
    refine ⟨hdeps ed he hb, ?_⟩
    have := List.all_eq_true.1 hedge ed (by simpa using he)
    rw [hb] at this
    simpa [Nat.blt_eq] using this
  have hdu : ∀ t, os.dst = some t → dstOf ops.toList 0 t = some s := fun t h => dstOf_all _ hds s t os hos h
  unfold lateOp at hlo
  rw [hoL] at hlo
  simp only [Bool.and_eq_true, Option.isNone_iff_eq_none] at hlo
  obtain ⟨hgn, hlo⟩ := hlo
  obtain ⟨hstab, hpure⟩ : Stable P w0 ok0 σk e.2 o e.1 ∧ PureL P C σk o e := by
    rcases hgood with ⟨_, h⟩ | ⟨j, want, d, hg, _⟩
    · exact h
    · rw [hgn] at hg; cases hg
  have hlE : match o.op with
    | .move _ => True
    | .fieldAddr _ x _ => varAt σp x = true
    | .load _ x => varAt σp x = true
    | _ => False := by
    simp only [lateE, List.all_eq_true, List.mem_range] at hE
    have h1 := hE i his
    rw [hoL] at h1
    simp only [Bool.or_eq_true] at h1
    rcases h1 with h1 | h1
    · rw [List.contains_iff_mem] at h1; exact absurd h1 hna
    · cases hop : o.op <;> rw [hop] at h1 <;> first | trivial | exact h1 | cases h1
  -- what is looked at
  have early : ∀ t, (Operand.tmp t) ∈ o.op.operands.toList → (match dstOf ops.toList 0 t with | some k' => Nat.blt k' i | none => true) = true → ∀ k, dstOf ops.toList 0 t = some k → k < i ∧ listed.getD k false = true := by
    intro t ht hb k hk
    rw [hk] at hb
    have hki : k < i := by simpa [Nat.blt_eq] using hb
    refine ⟨hki, ?_⟩
    simp only [looksOk, Bool.and_eq_true, List.all_eq_true] at hlook
    have h1 := hlook.1 _ ht
    simp only [hk, Bool.or_eq_true] at h1
    rcases h1 with h1 | h1
    · exact (dep k h1).1
    · simp only [lateOk, Bool.and_eq_true, Nat.blt_eq] at h1
      omega
  have lookE : ∀ t, (∀ k, dstOf ops.toList 0 t = some k → k < i ∧ listed.getD k false = true) → (lateEnv (ops.toList.take s) es σ (fun k => listed.getD k false) (U.app σp).h U.f os.dst v).ev (.tmp t) = (σk.ev (.tmp t)).mapC U.f ∧ σk.ev (.tmp t) = σp.ev (.tmp t) := by
    intro t ht
    have hdut : os.dst ≠ some t := fun h => by have := (ht s (hdu t h)).1; omega
    have hexp : ∀ L' : Nat → Bool, (∀ k, k < i → listed.getD k false = true → L' k = true) → expAV (ops.toList.take s) es σ L' t = expAV (ops.toList.take s) es σ (fun _ => true) t := by
      intro L' hL'
      unfold expAV
      cases hd : dstOf (ops.toList.take s) 0 t with
      | none => rfl
      | some k =>
        obtain ⟨h1, h2⟩ := ht k (by rw [hsplit]; exact dstOf_left hd)
        simp only [hL' k h1 h2]
    by_cases hlt : t < σ.t.length
    · have h1 := htmp t hlt
      have h2 := htr.last hds' t hlt
      rw [hexp (fun j => decide (j < i)) (fun k h _ => by simpa using h), ← h2] at h1
      refine ⟨?_, h1⟩
      have hlt' : t < (lateEnv (ops.toList.take s) es σ (fun k => listed.getD k false) (U.app σp).h U.f os.dst v).t.length := by simpa [lateEnv] using hlt
      have h3 := (lateEnv_t (List.getElem?_eq_getElem hlt')).2
      rw [if_neg hdut, hexp (fun k => listed.getD k false) (fun k _ h => h), ← h2, ← h1] at h3
      simp only [Env.ev]
      rw [nth_eq, List.getElem?_eq_getElem hlt', Option.getD_some]
      exact h3
    · have e1 : (nth σk.t t (0, AV.one .bad)).2 = .one .bad := by rw [nth_eq, List.getElem?_eq_none (by rw [hlen]; omega)]; rfl
      have e2 : (nth σp.t t (0, AV.one .bad)).2 = .one .bad := by rw [nth_eq, List.getElem?_eq_none (by rw [htr.frE.tl]; omega)]; rfl
      have e3 : (nth (lateEnv (ops.toList.take s) es σ (fun k => listed.getD k false) (U.app σp).h U.f os.dst v).t t (0, AV.one .bad)).2 = .one .bad := by rw [nth_eq, List.getElem?_eq_none (by simp [lateEnv]; omega)]; rfl
      simp only [Env.ev, e1, e2, e3, AV.mapC, U.bad, and_self]
  have isvar : ∀ t, varAt σp (.tmp t) = true → σk.ev (.tmp t) = σp.ev (.tmp t) → ∃ id off cs, σk.ev (.tmp t) = .one (.vptr id off) ∧ σp.ob id = .var cs := by
    intro t hv he
    unfold varAt at hv
    split at hv
    · rename_i id off h1
      split at hv
      · rename_i cs h2
        exact ⟨id, off, cs, by rw [he, h1], h2⟩
      · cases hv
    · cases hv
  have hopE : opK P C noInl (lateEnv (ops.toList.take s) es σ (fun k => listed.getD k false) (U.app σp).h U.f os.dst v) o (fun v τ => some (v, τ)) = some (e.1.mapC U.f, lateEnv (ops.toList.take s) es σ (fun k => listed.getD k false) (U.app σp).h U.f os.dst v) := by
    split at hlo
    · rename_i t hop
      obtain ⟨k1, k2⟩ := lookE t (early t (by simp [hop, Op.operands]) hlo)
      have h0 := (hpure (by rw [hop]; trivial)).2
      simp only [opK, hop, Option.some.injEq, Prod.mk.injEq, and_true] at h0 ⊢
      rw [k1, h0]
    · rename_i b t f hop
      obtain ⟨k1, k2⟩ := lookE t (early t (by simp [hop, Op.operands]) hlo)
      rw [hop] at hlE
      obtain ⟨id, off, cs, h1, h2⟩ := isvar t hlE k2
      have h0 := (hpure (by rw [hop]; exact ⟨id, off, h1⟩)).2
      obtain ⟨g1, g2⟩ := U.var hU h2
      rw [h1] at k1
      simp only [AV.mapC, g2] at k1
      cases hf : fieldOf P b f with
      | none => simp only [opK, hop, h1, hf] at h0; cases h0
      | some q =>
        obtain ⟨fo, ft⟩ := q
        simp only [opK, hop, h1, k1, hf] at h0 ⊢
        obtain ⟨h3, h4⟩ := bif_some h0
        simp only [h3, cond_true]
        simp only [Option.some.injEq, Prod.mk.injEq, and_true] at h4 ⊢
        rw [← h4]
        simp only [AV.mapC, g2]
    · rename_i b t hop
      obtain ⟨k1, k2⟩ := lookE t (early t (by simp [hop, Op.operands]) hlo)
      rw [hop] at hlE
      obtain ⟨id, off, cs, h1, h2⟩ := isvar t hlE k2
      have h0 := (hpure (by rw [hop]; exact ⟨id, off, h1⟩)).2
      obtain ⟨g1, g2⟩ := U.var hU h2
      rw [h1] at k1
      simp only [AV.mapC, g2] at k1
      have g1' : (lateEnv (ops.toList.take s) es σ (fun k => listed.getD k false) (U.app σp).h U.f os.dst v).ob id = .var (cs.map U.f) := by rw [← g1]; rfl
      simp only [opK, hop, h1, k1, g1'] at h0 ⊢
      split at h0
      · rename_i cs' hcs
        obtain ⟨q, hq, hqo⟩ := ob_at hcs
        obtain ⟨q', hq', he'⟩ := hpfx id q (by rw [List.getElem?_append_left (List.getElem?_eq_some_iff.1 hq).1]; exact hq)
        have : σp.ob id = .var cs' := by rw [at_ob hq', he', hqo]
        rw [h2] at this
        cases this
        exact loadK_map U.bad h0
      · cases h0
    · cases hlo
  obtain ⟨v', D, g1, g2⟩ := goes_stable hp hsb hopE
  simp only [Option.some.injEq, Prod.mk.injEq] at g1
  obtain ⟨rfl, g1⟩ := g1
  have hD : D = [] := by
    have := congrArg (fun e : Env => e.h.length) g1
    simp only [List.length_append] at this
    exact List.eq_nil_of_length_eq_zero (by omega)
  subst hD
  have hseq := g2.seq fr a w G hR next Q fun V w' ⟨G', hR', hV⟩ => by
    refine hn _ w' G' ((hR'.put hV).congr' ?_ ?_ ?_)
    · rw [put_len]; simp [lateEnv]
    · rw [put_h]; simp [lateEnv]
    · intro t p q hp' hq
      obtain ⟨hlt, he⟩ := lateEnv_t hp'
      have hlt' : t < (lateEnv (ops.toList.take s) es σ (fun k => listed.getD k false) (U.app σp).h U.f os.dst v).t.length := by simpa [lateEnv] using hlt
      obtain ⟨q', hq', h1, h2⟩ := put_t (σ := { lateEnv (ops.toList.take s) es σ (fun k => listed.getD k false) (U.app σp).h U.f os.dst v with h := (lateEnv (ops.toList.take s) es σ (fun k => listed.getD k false) (U.app σp).h U.f os.dst v).h ++ [] }) (d := o.dst) (v := e.1.mapC U.f) (t := t) hlt'
      rw [hq'] at hq
      cases hq
      rw [he]
      by_cases hdt : o.dst = some t
      · rw [h1 hdt]
        have hi' : dstOf (ops.toList.take s) 0 t = some i := dstOf_all _ hds' i t o hol hdt
        rw [if_neg (fun h => by
          have := hdu t h
          rw [dstOf_all _ hds i t o hoL hdt] at this
          cases this; omega)]
        unfold expAV
        rw [hi']
        simp only [hset, if_true]
        rw [List.getD_eq_getElem?_getD, List.getElem?_map, hes]
        rfl
      · obtain ⟨_, h3⟩ := lateEnv_t (h2 hdt)
        rw [h3]
        have : expAV (ops.toList.take s) es σ (fun k => (listed.setIfInBounds i true).getD k false) t = expAV (ops.toList.take s) es σ (fun k => listed.getD k false) t := by
          unfold expAV
          cases hd : dstOf (ops.toList.take s) 0 t with
          | none => rfl
          | some k =>
            have hki : k ≠ i := by
              rintro rfl
              obtain ⟨o', ho', hd'⟩ := dstOf_spec _ t k hd
              rw [hol] at ho'
              cases ho'
              exact hdt hd'
            simp only [getD_set_ne false (Ne.symm hki)]
        rw [this]
  unfold wpOp
  simp only [ho]
  rw [if_pos (by simp [Region.wanted, hgn])]
  exact .inl hseq

theorem late_all (hp : Place P C Pre w0 ok0) {ops : Array Oper} {s : Nat} {es : List En} {σ σp : Env} (hds : dstsOk ops.toList = true) (hall : ∀ j o, ops.toList[j]? = some o → edgesOk o j = true ∧ looksOk ops.toList j o = true) (hs : s < ops.size) (hst : (ops.toList.take s).all stableB = true) (htr : Trace P C w0 ok0 ops.toList (ops.toList.take s) σ es σp)
    (htl : ∀ j o, ops.toList[j]? = some o → s + 1 ≤ j → tailOk ops.toList j = true) (hla : ∀ k, k < s → k ∈ ancs ops.toList s s ∨ lateOp ops.toList k = true)
    {U : Upd} (hU : U.ok σp) {os : Oper} (hos : ops.toList[s]? = some os) {v : AV} (hE : lateE σp ops.toList s = true)
    {Q : Exit → Act → World → Prop} (hQ : ∀ a w G, Rel w0 ok0 fr ((U.app σp).put os.dst v) a w G → wpOps P ops Q (List.range' (s + 1) (ops.size - (s + 1))) a w) :
    ∀ (m : Nat) (listed : Array Bool) (a : Act) (w : World) (G : GM), (List.range s).countP (fun k => listed.getD k true == false) = m → listed.size = ops.size → listed.getD s false = true → (∀ k, listed.getD k false = true → k ≤ s) → Closed ops.toList (fun k => listed.getD k false) →
      Rel w0 ok0 fr (lateEnv (ops.toList.take s) es σ (fun k => listed.getD k false) (U.app σp).h U.f os.dst v) a w G → wpAny P .any ops Q (m + (ops.size - (s + 1))) listed a w := by
  have hsplit : ops.toList = ops.toList.take s ++ ops.toList.drop s := (List.take_append_drop s _).symm
  have hds' : dstsOk (ops.toList.take s) = true := dstsOk_left (by rw [← hsplit]; exact hds)
  have hll : (ops.toList.take s).length = s := by simp; omega
  have hedge : ∀ j o, ops.toList[j]? = some o → edgesOk o j = true := fun j o h => (hall j o h).1
  have tf : ∀ {listed : Array Bool} {k : Nat}, listed.size = ops.size → k < ops.size → listed.getD k true = listed.getD k false := by
    intro listed k h1 h2
    have h4 : k < listed.size := by rw [h1]; exact h2
    simp [Array.getD_eq_getD_getElem?, h4]
  intro m
  induction m with
  | zero =>
    intro listed a w G hm hsz hls hlo hc hR
    have hfn : ∀ k, k < s → listed.getD k false = true := by
      intro k hk
      have := List.countP_eq_zero.1 hm k (List.mem_range.2 hk)
      rw [← tf hsz (by omega)]
      simpa using this
    have hlst : ∀ j, listed.getD j true = false ↔ s + 1 ≤ j ∧ j < ops.size := by
      intro j
      constructor
      · intro h
        obtain ⟨h1, h2⟩ := getD_both h
        refine ⟨?_, by rw [← hsz]; exact h1⟩
        rcases Nat.lt_or_ge j (s + 1) with h3 | h3
        · rcases Nat.lt_or_eq_of_le (Nat.le_of_lt_succ h3) with h3 | rfl
          · rw [hfn j h3] at h2; cases h2
          · rw [hls] at h2; cases h2
        · exact h3
      · rintro ⟨h1, h2⟩
        rw [tf hsz h2]
        cases hb : listed.getD j false
        · rfl
        · have := hlo j hb; omega
    rw [Nat.zero_add]
    refine wpAny_of_seq (s := s + 1) (tail_uniq hedge htl) (ops.size - (s + 1)) (s + 1) listed a w (Nat.le_refl _) (by omega) hsz hlst (hQ a w G (hR.congr' ?_ ?_ ?_))
    · rw [put_len, U.len, htr.frE.tl]; simp [lateEnv]
    · rw [put_h]; rfl
    · intro t p q hp' hq
      obtain ⟨hlt, he⟩ := lateEnv_t hq
      have hlt' : t < (U.app σp).t.length := by rw [U.len, htr.frE.tl]; exact hlt
      obtain ⟨q', hq', h1, h2⟩ := put_t (σ := U.app σp) (d := os.dst) (v := v) (t := t) hlt'
      rw [hq'] at hp'
      cases hp'
      rw [he]
      by_cases hdt : os.dst = some t
      · rw [if_pos hdt, h1 hdt]
      · rw [if_neg hdt]
        obtain ⟨q0, h3, h4⟩ := U.tq σp t p (h2 hdt)
        have h5 := htr.last hds' t hlt
        rw [nth_eq, h3, Option.getD_some] at h5
        rw [h4, h5]
        have : expAV (ops.toList.take s) es σ (fun _ => true) t = expAV (ops.toList.take s) es σ (fun k => listed.getD k false) t := by
          unfold expAV
          cases hd : dstOf (ops.toList.take s) 0 t with
          | none => rfl
          | some k =>
            obtain ⟨o, ho, _⟩ := dstOf_spec _ t k hd
            have hk : k < s := by rw [← hll]; exact (List.getElem?_eq_some_iff.1 ho).1
            simp only [hfn k hk]
        rw [this]
  | succ m ih =>
    intro listed a w G hm hsz hls hlo hc hR
    obtain ⟨k0, hk0, hk0'⟩ : ∃ k, k < s ∧ listed.getD k true = false := by
      have : 0 < (List.range s).countP (fun k => listed.getD k true == false) := by omega
      obtain ⟨k, h1, h2⟩ := List.countP_pos_iff.1 this
      exact ⟨k, List.mem_range.1 h1, by simpa using h2⟩
    rw [show m + 1 + (ops.size - (s + 1)) = (m + (ops.size - (s + 1))) + 1 by omega]
    refine ⟨fun he => absurd he (ready_some hedge listed hsz k0 (by omega) hk0'), fun i hi => ?_⟩
    have hiun := (ready_eq_iff.1 hi).1
    have hisz := (getD_both hiun).1
    have his : i < s := by
      rcases Nat.lt_or_ge i (s + 1) with h | h
      · rcases Nat.lt_or_eq_of_le (Nat.le_of_lt_succ h) with h | rfl
        · exact h
        · have := (getD_both hiun).2
          rw [hls] at this; cases this
      · have := tail_listed htl listed i hc h hi k0 (by omega)
        obtain ⟨_, h2⟩ := getD_both hk0'
        rw [this] at h2; cases h2
    have hna : i ∉ ancs ops.toList s s := by
      intro h
      have h1 := ancs_closed hc s s i h (fun o' ho' e he hb => hc s o' ho' hls e he hb)
      rw [(getD_both hiun).2] at h1; cases h1
    have hlo' : lateOp ops.toList i = true := by
      rcases hla i his with h | h
      · exact absurd h hna
      · exact h
    obtain ⟨_, o, ho, hdeps⟩ := ready_eq_iff.1 hi
    refine late_step hp hds hall (by omega) hst htr hU hos hE hR hi his hna hlo' fun a' w' G' hR' => ih _ a' w' G' ?_ (by simp [hsz]) ?_ (fun k hk => ?_) (fun j o' hj hLj ed he hb => ?_) hR'
    · have := count_lt (f := fun k => listed.getD k true == false) (g := fun k => (listed.setIfInBounds i true).getD k true == false) s his (by simp [hiun]) (by simp [Array.getD_eq_getD_getElem?, hisz]) (fun j hj => by simp only [getD_set_ne true (Ne.symm hj)])
      omega
    · rw [getD_set_ne false (by omega)]; exact hls
    · rcases getD_set_false hk with rfl | h
      · omega
      · exact hlo k h
    · have st : ∀ k, listed.getD k false = true → (listed.setIfInBounds i true).getD k false = true := by
        intro k h
        by_cases hki : k = i
        · subst hki; exact getD_set_self hisz
        · rw [getD_set_ne false (Ne.symm hki)]; exact h
      rcases getD_set_false hLj with rfl | h
      · rw [show ops.toList[j]? = some o by simpa using ho] at hj
        cases hj
        exact st _ (hdeps ed he hb)
      · exact st _ (hc j o' hj h ed he hb)

theorem draw2_all (hp : Place P C Pre w0 ok0) {ops : Array Oper} {s : Nat} {es : List En} {σ σp : Env} (hds : dstsOk ops.toList = true) (hall : ∀ j o, ops.toList[j]? = some o → edgesOk o j = true ∧ looksOk ops.toList j o = true) (hs : s < ops.size) (hst : (ops.toList.take s).all stableB = true) (htr : Trace P C w0 ok0 ops.toList (ops.toList.take s) σ es σp)
    (htl : ∀ j o, ops.toList[j]? = some o → s + 1 ≤ j → tailOk ops.toList j = true) (hla : ∀ k, k < s → k ∈ ancs ops.toList s s ∨ lateOp ops.toList k = true)
    {U : Upd} (hU : U.ok σp) {os : Oper} (hos : ops.toList[s]? = some os) {v : AV} (hE : lateE σp ops.toList s = true) (hgs : os.guard = none)
    (hap : ∀ τ : Env, τ.h = σp.h → (∀ x ∈ os.op.operands, τ.ev x = σp.ev x) → SeqS P w0 ok0 τ (U.app τ) os v)
    {Q : Exit → Act → World → Prop} (hQ : ∀ a w G, Rel w0 ok0 fr ((U.app σp).put os.dst v) a w G → wpOps P ops Q (List.range' (s + 1) (ops.size - (s + 1))) a w) :
    ∀ (m : Nat) (listed : Array Bool) (a : Act) (w : World) (G : GM), (List.range s).countP (fun k => listed.getD k true == false) = m → DrawInv w0 ok0 fr ops s es σ σp listed a w G → wpAny P .any ops Q (m + (ops.size - s)) listed a w := by
  have hsplit : ops.toList = ops.toList.take s ++ ops.toList.drop s := (List.take_append_drop s _).symm
  have hds' : dstsOk (ops.toList.take s) = true := dstsOk_left (by rw [← hsplit]; exact hds)
  have hll : (ops.toList.take s).length = s := by simp; omega
  have hedge : ∀ j o, ops.toList[j]? = some o → edgesOk o j = true := fun j o h => (hall j o h).1
  intro m
  induction m using Nat.strongRecOn with
  | ind m ih =>
    intro listed a w G hm I
    have hsu : listed.getD s true = false := by
      have h4 : s < listed.size := by rw [I.size]; exact hs
      cases hb : listed.getD s true
      · rfl
      · have : listed.getD s false = true := by simpa [Array.getD_eq_getD_getElem?, h4] using hb
        have := I.lo s this; omega
    rw [show m + (ops.size - s) = (m + (ops.size - (s + 1))) + 1 by omega]
    refine ⟨fun he => absurd he (ready_some hedge listed I.size s hs hsu), fun i hi => ?_⟩
    have hiun := (ready_eq_iff.1 hi).1
    have hisz := (getD_both hiun).1
    rcases Nat.lt_trichotomy i s with his | rfl | his
    · have hc := count_lt (f := fun k => listed.getD k true == false) (g := fun k => (listed.setIfInBounds i true).getD k true == false) s his (by simp [hiun]) (by simp [Array.getD_eq_getD_getElem?, hisz]) (fun j hj => by simp only [getD_set_ne true (Ne.symm hj)])
      refine draw_step hds hall (by omega) htr I hi his fun a' w' G' I' => ?_
      rw [show m + (ops.size - (s + 1)) = (m - 1) + (ops.size - s) by omega]
      exact ih (m - 1) (by omega) _ a' w' G' (by omega) I'
    · obtain ⟨_, o, ho, hdeps⟩ := ready_eq_iff.1 hi
      have hoL : ops.toList[i]? = some o := by simpa using ho
      rw [hos] at hoL
      cases hoL
      obtain ⟨hed, hlook⟩ := hall i os hos
      have hR : Rel w0 ok0 fr (preEnv (ops.toList.take i) es σ (fun k => listed.getD k false) σp.h) a w G := by
        refine ⟨by simp [preEnv, I.len], fun t p V hp' hV => ?_, I.dfs, I.st, fun id p k l hp' hk => ?_⟩
        · rw [(preEnv_t hp').2]; exact I.tmp t V hV
        · obtain ⟨q, hq, hq2⟩ := htr.frames id p k l hp' hk
          exact I.frm id q k l hq hq2
      have hev : ∀ x ∈ os.op.operands, (preEnv (ops.toList.take i) es σ (fun k => listed.getD k false) σp.h).ev x = σp.ev x := by
        intro x hx
        cases x with
        | const _ => rfl
        | global _ => rfl
        | func _ => rfl
        | tmp t =>
          simp only [looksOk, Bool.and_eq_true, List.all_eq_true] at hlook
          have h1 := hlook.1 _ (by simpa using hx)
          simp only [Env.ev]
          by_cases hlt : t < σ.t.length
          · have hlt' : t < (preEnv (ops.toList.take i) es σ (fun k => listed.getD k false) σp.h).t.length := by simpa [preEnv] using hlt
            rw [htr.last hds' t hlt, nth_eq, List.getElem?_eq_getElem hlt', Option.getD_some, (preEnv_t (List.getElem?_eq_getElem hlt')).2]
            unfold expAV
            cases hd : dstOf (ops.toList.take i) 0 t with
            | none => rfl
            | some k =>
              obtain ⟨o', ho', _⟩ := dstOf_spec _ t k hd
              have hk : k < i := by rw [← hll]; exact (List.getElem?_eq_some_iff.1 ho').1
              have hd2 : dstOf ops.toList 0 t = some k := by rw [hsplit]; exact dstOf_left hd
              simp only [hd2, Bool.or_eq_true] at h1
              have : listed.getD k false = true := by
                rcases h1 with h1 | h1
                · obtain ⟨ed, he, hb, rfl⟩ := dep_spec h1
                  exact hdeps ed he hb
                · simp only [lateOk, Bool.and_eq_true, Nat.blt_eq] at h1
                  omega
              simp only [this]
          · have hge : σ.t.length ≤ t := Nat.le_of_not_lt hlt
            have e2 : (nth σp.t t (0, AV.one .bad)).2 = .one .bad := by rw [nth_eq, List.getElem?_eq_none (by rw [htr.frE.tl]; exact hge)]; rfl
            have e3 : (nth (preEnv (ops.toList.take i) es σ (fun k => listed.getD k false) σp.h).t t (0, AV.one .bad)).2 = .one .bad := by rw [nth_eq, List.getElem?_eq_none (by simpa [preEnv] using hge)]; rfl
            rw [e2, e3]
      have hseq := hap (preEnv (ops.toList.take i) es σ (fun k => listed.getD k false) σp.h) rfl hev fr a w G hR
        (wpAny P .any ops Q (m + (ops.size - (i + 1))) (listed.setIfInBounds i true)) Q fun V w' ⟨G', hR', hV⟩ => by
        have same : ∀ k, k < i → (listed.setIfInBounds i true).getD k false = listed.getD k false := fun k hk => getD_set_ne false (by omega)
        refine late_all hp hds hall hs hst htr htl hla hU hos hE hQ m _ _ w' G' ?_ (by simp [I.size]) (getD_set_self hisz) (fun k hk => ?_) (fun j o' hj hLj ed he hb => ?_) ((hR'.put hV).congr' ?_ ?_ ?_)
        · rw [← hm]
          exact List.countP_congr fun k hk => by rw [getD_set_ne true (by have := List.mem_range.1 hk; omega)]
        · rcases getD_set_false hk with rfl | h
          · exact Nat.le_refl _
          · exact Nat.le_of_lt (I.lo k h)
        · rcases getD_set_false hLj with rfl | h
          · rw [hos] at hj
            cases hj
            exact getD_set_true (hdeps ed he hb)
          · exact getD_set_true (I.closed j o' hj h ed he hb)
        · rw [put_len, U.len]; simp [lateEnv, preEnv]
        · rw [put_h]; exact U.hh (τ := σp) (σ := preEnv (ops.toList.take i) es σ (fun k => listed.getD k false) σp.h) rfl
        · intro t p q hp' hq
          obtain ⟨hlt, he⟩ := lateEnv_t hp'
          have hlt' : t < (U.app (preEnv (ops.toList.take i) es σ (fun k => listed.getD k false) σp.h)).t.length := by rw [U.len]; simpa [preEnv] using hlt
          obtain ⟨q', hq', h1, h2⟩ := put_t (σ := U.app (preEnv (ops.toList.take i) es σ (fun k => listed.getD k false) σp.h)) (d := os.dst) (v := v) (t := t) hlt'
          rw [hq'] at hq
          cases hq
          rw [he]
          by_cases hdt : os.dst = some t
          · rw [if_pos hdt, h1 hdt]
          · rw [if_neg hdt]
            obtain ⟨q0, h3, h4⟩ := U.tq _ t q (h2 hdt)
            rw [h4, (preEnv_t h3).2]
            have : expAV (ops.toList.take i) es σ (fun k => (listed.setIfInBounds i true).getD k false) t = expAV (ops.toList.take i) es σ (fun k => listed.getD k false) t := by
              unfold expAV
              cases hd : dstOf (ops.toList.take i) 0 t with
              | none => rfl
              | some k =>
                obtain ⟨o', ho', _⟩ := dstOf_spec _ t k hd
                have hk : k < i := by rw [← hll]; exact (List.getElem?_eq_some_iff.1 ho').1
                simp only [same k hk]
            rw [this]
      unfold wpOp
      simp only [ho]
      rw [if_pos (by simp [Region.wanted, hgs])]
      exact .inl hseq
    · exfalso
      have := tail_listed htl listed i I.closed his hi s his
      rw [(getD_both hsu).2] at this; cases this

theorem drawOk2_spec {ops : List Oper} (h : drawOk2 ops = true) : splitAt ops ops 0 < ops.length ∧ dstsOk ops = true ∧ ∀ j o, ops[j]? = some o → edgesOk o j = true ∧ looksOk ops j o = true ∧ (splitAt ops ops 0 + 1 ≤ j → tailOk ops j = true) ∧ (j = splitAt ops ops 0 → isApp o = true ∧ ∀ k, k < j → k ∈ ancs ops j j ∨ lateOp ops k = true) := by
  simp only [drawOk2, Bool.and_eq_true, List.all_eq_true, List.mem_range, Nat.blt_eq] at h
  obtain ⟨h0, h⟩ := h
  refine ⟨h0, h.1, fun j o ho => ?_⟩
  have := h.2 j (List.getElem?_eq_some_iff.1 ho).1
  rw [ho] at this
  simp only [Bool.and_eq_true] at this
  refine ⟨this.1.1, this.1.2, fun hj => ?_, fun hj => ?_⟩
  · have h3 := this.2
    have h4 : Nat.blt j (splitAt ops ops 0) = false := by
      cases hb : Nat.blt j (splitAt ops ops 0)
      · rfl
      · have : j < splitAt ops ops 0 := by simpa [Nat.blt_eq] using hb
        omega
    rw [h4, beq_ne (by omega)] at h3
    exact h3
  · have h3 := this.2
    have h4 : Nat.blt j (splitAt ops ops 0) = false := by
      cases hb : Nat.blt j (splitAt ops ops 0)
      · rfl
      · have : j < splitAt ops ops 0 := by simpa [Nat.blt_eq] using hb
        omega
    rw [h4, hj, Nat.beq_refl] at h3
    simp only [cond_false, cond_true, Bool.and_eq_true, List.all_eq_true, List.mem_range, Bool.or_eq_true, List.contains_iff_mem] at h3
    subst hj
    exact h3

/-- Operations in any order that the edges allow; what only looks up may come up behind the append. -/
theorem reg_any2 (hp : Place P C Pre w0 ok0) (hm : P.follows .mixedOrders = true) {ops : Array Oper} (hok : drawOk2 ops.toList = true) {σ : Env} {K : Env → Option ρ} {r : ρ}
    (h : (regK P C noInl ops.toList (ops.toList.take (splitAt ops.toList ops.toList 0)) σ fun σp => bif lateE σp ops.toList (splitAt ops.toList ops.toList 0) then
          regK P C noInl ops.toList (ops.toList.drop (splitAt ops.toList ops.toList 0)) σp K else none) = some r) :
    ∃ σ', K σ' = some r ∧ Fr σ σ' ∧ ∀ (fr : Nat → Value) (id : Nat) (a : Act) (w : World) (G : GM) (Q : Exit → Act → World → Prop), Rel w0 ok0 fr σ a w G → (∀ a' w' G', Rel w0 ok0 fr σ' a' w' G' → Q .normal a' w') → (Code.region id ops true).wp P Q a w := by
  obtain ⟨hsl, hds, hspec⟩ := drawOk2_spec hok
  obtain ⟨s, h1, h2, h3⟩ := stable_split ops.toList ops.toList 0
  rw [Nat.zero_add] at h1
  rw [h1] at h hspec hsl
  rw [show ops.toList.take s = ops.toList.take s ++ [] by simp] at h
  obtain ⟨es, σp, ht, hk⟩ := trace_of hp ops.toList _ _ σ _ r h3 h
  simp only [regK] at hk
  obtain ⟨hE, hk1⟩ := bif_some hk
  have hall : ∀ j o, ops.toList[j]? = some o → edgesOk o j = true ∧ looksOk ops.toList j o = true := fun j o h => ⟨(hspec j o h).1, (hspec j o h).2.1⟩
  have hs' : s ≤ ops.size := by simpa using h2
  have init : ∀ (fr : Nat → Value) (a : Act) (w : World) (G : GM), Rel w0 ok0 fr σ a w G → DrawInv w0 ok0 fr ops s es σ σp (Array.replicate ops.size false) a w.drew G ∧ (List.range s).countP (fun k => (Array.replicate ops.size false).getD k true == false) = s := by
    intro fr a w G hR
    have hR' : Rel w0 ok0 fr σ a w.drew G := hR.later ((Ext.refl w).drew)
    have hf : ∀ k, (Array.replicate ops.size false).getD k false = false := by
      intro k
      rw [Array.getD_eq_getD_getElem?, Array.getElem?_replicate]
      split <;> rfl
    refine ⟨⟨by simp, fun k hk => ?_, fun j o _ hL => ?_, hR'.dfs, hR'.len.symm, ⟨fun id gh hg => ?_, hR'.st.inj, hR'.st.low, hR'.st.ext⟩, hR'.frm, fun id gh hg => ?_, fun t V hV => ?_⟩, ?_⟩
    · rw [hf] at hk; cases hk
    · dsimp only at hL; rw [hf] at hL; cases hL
    · obtain ⟨p, hp, ho⟩ := hR'.st.ob id gh hg
      obtain ⟨p', hp', he⟩ := ht.pfx id p hp
      exact ⟨p', hp', by rw [he]; exact ho⟩
    · obtain ⟨p, hp, ho⟩ := hR'.st.ob id gh hg
      exact .inl (List.getElem?_eq_some_iff.1 hp).1
    · have hlt : t < σ.t.length := by rw [hR'.len]; exact (Array.getElem?_eq_some_iff.1 hV).1
      rw [exp_none _ (fun j => hf j) t, nth_eq, List.getElem?_eq_getElem hlt]
      exact hR'.tmp t _ V (List.getElem?_eq_getElem hlt) hV
    · have : (List.range s).countP (fun k => (Array.replicate ops.size false).getD k true == false) = (List.range s).length := by
        rw [List.countP_eq_length]
        intro k hk
        have hk' : k < ops.size := by have := List.mem_range.1 hk; omega
        simp [Array.getD_eq_getD_getElem?, Array.getElem?_replicate, hk']
      simpa using this
  cases hdr : ops.toList.drop s with
  | nil =>
    have hse : ops.toList.length ≤ s := List.drop_eq_nil_iff.1 hdr
    omega
  | cons os rest =>
    have hos : ops.toList[s]? = some os := by
      have := congrArg (fun l => l[0]?) hdr
      simpa using this
    have hs : s < ops.size := by simpa using (List.getElem?_eq_some_iff.1 hos).1
    obtain ⟨happ, hla⟩ := (hspec s os hos).2.2.2 rfl
    rw [hdr] at hk1
    simp only [isApp, Bool.and_eq_true, Option.isNone_iff_eq_none] at happ
    obtain ⟨hgs, happ⟩ := happ
    split at happ
    case h_2 => cases happ
    rename_i args ts hop
    simp only [regK, hgs] at hk1
    obtain ⟨U, v, h5, hU, hpar⟩ := append_param hop hk1
    have hap : ∀ τ : Env, τ.h = σp.h → (∀ x ∈ os.op.operands, τ.ev x = σp.ev x) → Fr τ (U.app τ) ∧ SeqS P w0 ok0 τ (U.app τ) os v := by
      intro τ hh hx
      have h6 := hpar τ hh fun x hxa => hx x (by simp [hop, Op.operands, Call.operands]; simpa using hxa)
      obtain ⟨v', σ', g1, g2, g3⟩ := append_seq (w0 := w0) (ok0 := ok0) hop h6
      simp only [Option.some.injEq, Prod.mk.injEq] at g1
      obtain ⟨rfl, rfl⟩ := g1
      exact ⟨g2, g3⟩
    have hrest : ∀ k, rest[k]? = ops[s + 1 + k]? := by
      intro k
      have := congrArg (fun l => l[k + 1]?) hdr
      simp only [List.getElem?_drop, List.getElem?_cons_succ] at this
      rw [← this, Array.getElem?_toList]
      congr 1; omega
    obtain ⟨σq, k1, k2, k3⟩ := frzAfter_spec (w0 := w0) (ok0 := ok0) h5
    obtain ⟨σ', g1, g2, g3⟩ := reg_seq hp inlOk_none ops rest (s + 1) _ K r hrest k1
    refine ⟨σ', g1, ht.frE.trans ((hap σp rfl fun _ _ => rfl).1.trans ((Fr.put _ _ _).trans (k2.trans g2))), fun fr id a w G Q hR hQ => wp_region_any hm ?_⟩
    obtain ⟨I, hcount⟩ := init fr a w G hR
    have hlen : rest.length = ops.size - (s + 1) := by
      have := congrArg List.length hdr
      simp at this; omega
    have := draw2_all (fr := fr) hp hds hall hs h3 ht (fun j o hj hsj => (hspec j o hj).2.2.1 hsj) hla hU hos hE hgs (fun τ h6 h7 => (hap τ h6 h7).2) (Q := Q) (fun a w G hR => by rw [← hlen]; obtain ⟨G2, hR2⟩ := k3 fr a w G hR; exact g3 fr a w G2 Q hR2 hQ) s (Array.replicate ops.size false) a w.drew G hcount I
    rw [show s + (ops.size - s) = ops.size by omega] at this
    exact this
end
end Go.Proofs.YtbdokiecpmhjmaaGreatDoor
