/- The operations that write: stores and append. No condition of its own. -/
import Derived.Test.YtbdokiecpmhjmaaGreatDoorPvOps4
namespace Go.Proofs.YtbdokiecpmhjmaaGreatDoor
set_option linter.unusedSimpArgs false
set_option linter.unusedVariables false
open Go.RowKit

section
variable {ρ : Type} {P : Program} {C : Ctx} {I : Inl ρ} {w0 : World} {ok0 : Nat → Prop} {fr : Nat → Value} {σ : Env} {o : Oper} {K : AV → Env → Option ρ} {r : ρ}

/-- What has the same number is the same. -/
structure Fr (σ σ' : Env) : Prop where
  tl : σ'.t.length = σ.t.length
  hl : σ.h.length ≤ σ'.h.length
  t : ∀ (i : Nat) (p p' : Nat × AV), σ.t[i]? = some p → σ'.t[i]? = some p' → p.1 ≤ p'.1 ∧ (p'.1 = p.1 → p' = p)
  h : ∀ (i : Nat) (p p' : Nat × Ob), σ.h[i]? = some p → σ'.h[i]? = some p' → p.1 ≤ p'.1 ∧ (p'.1 = p.1 → p' = p)
theorem Fr.refl (σ : Env) : Fr σ σ := ⟨rfl, Nat.le_refl _, fun i p p' h h' => by rw [h] at h'; cases h'; exact ⟨Nat.le_refl _, fun _ => rfl⟩, fun i p p' h h' => by rw [h] at h'; cases h'; exact ⟨Nat.le_refl _, fun _ => rfl⟩⟩
theorem Fr.trans {a b c : Env} (h : Fr a b) (k : Fr b c) : Fr a c := by
  refine ⟨k.tl.trans h.tl, Nat.le_trans h.hl k.hl, fun i p p' hp hp' => ?_, fun i p p' hp hp' => ?_⟩
  · have hlt : i < b.t.length := by rw [h.tl]; exact (List.getElem?_eq_some_iff.1 hp).1
    obtain ⟨h1, h2⟩ := h.t i p _ hp (List.getElem?_eq_getElem hlt)
    obtain ⟨k1, k2⟩ := k.t i _ p' (List.getElem?_eq_getElem hlt) hp'
    exact ⟨Nat.le_trans h1 k1, fun e => by rw [k2 (by omega)]; exact h2 (by omega)⟩
  · have hlt : i < b.h.length := Nat.lt_of_lt_of_le (List.getElem?_eq_some_iff.1 hp).1 h.hl
    obtain ⟨h1, h2⟩ := h.h i p _ hp (List.getElem?_eq_getElem hlt)
    obtain ⟨k1, k2⟩ := k.h i _ p' (List.getElem?_eq_getElem hlt) hp'
    exact ⟨Nat.le_trans h1 k1, fun e => by rw [k2 (by omega)]; exact h2 (by omega)⟩
theorem fr_setN {α : Type} {l : List (Nat × α)} {n : Nat} {v : α} {d : Nat × α} {i : Nat} {p p' : Nat × α} (hp : l[i]? = some p) (hp' : (setN l n ((nth l n d).1 + 1, v))[i]? = some p') : p.1 ≤ p'.1 ∧ (p'.1 = p.1 → p' = p) := by
  rw [getElem?_setN] at hp'
  split at hp'
  · rename_i h
    obtain ⟨rfl, _⟩ := h
    cases hp'
    rw [nth_eq, hp]
    exact ⟨Nat.le_succ _, fun e => by simp at e⟩
  · rw [hp] at hp'; cases hp'; exact ⟨Nat.le_refl _, fun _ => rfl⟩
theorem fr_same {α : Type} {l : List (Nat × α)} {i : Nat} {p p' : Nat × α} (hp : l[i]? = some p) (hp' : l[i]? = some p') : p.1 ≤ p'.1 ∧ (p'.1 = p.1 → p' = p) := by
  rw [hp] at hp'; cases hp'; exact ⟨Nat.le_refl _, fun _ => rfl⟩
theorem Fr.put (σ : Env) (d : Option Nat) (v : AV) : Fr σ (σ.put d v) := by
  cases d with
  | none => exact Fr.refl σ
  | some n => exact ⟨length_setN _ _ _, Nat.le_refl _, fun i p p' hp hp' => fr_setN hp hp', fun i p p' hp hp' => fr_same hp hp'⟩
theorem Fr.setOb (σ : Env) (id : Nat) (ob : Ob) : Fr σ (σ.setOb id ob) :=
  ⟨rfl, by simp [Env.setOb, length_setN], fun i p p' hp hp' => fr_same hp hp', fun i p p' hp hp' => fr_setN hp hp'⟩
theorem Fr.newObs (σ : Env) (D : List (Nat × Ob)) : Fr σ { σ with h := σ.h ++ D } :=
  ⟨rfl, by simp, fun i p p' hp hp' => fr_same hp hp', fun i p p' hp hp' => by
    simp only at hp'
    rw [List.getElem?_append_left (List.getElem?_eq_some_iff.1 hp).1] at hp'
    exact fr_same hp hp'⟩
theorem Fr.kill (σ : Env) (id : Nat) : Fr σ (σ.kill id) := by
  refine ⟨by simp [Env.kill], by simp [Env.kill], fun i p p' hp hp' => ?_, fun i p p' hp hp' => ?_⟩
  · simp only [Env.kill, List.getElem?_map, hp, Option.map_some, Option.some.injEq] at hp'
    subst hp'
    cases p.2.anyC (AC.has id)
    · exact ⟨Nat.le_refl _, fun _ => rfl⟩
    · exact ⟨Nat.le_succ _, fun e => by simp at e⟩
  · simp only [Env.kill, List.getElem?_map, hp, Option.map_some, Option.some.injEq] at hp'
    subst hp'
    cases p.2.anyC (AC.has id)
    · exact ⟨Nat.le_refl _, fun _ => rfl⟩
    · exact ⟨Nat.le_succ _, fun e => by simp at e⟩
theorem Fr.refine {σ : Env} {n : Nat} {b c : Bool} (h : (nth σ.t n (0, .one .bad)).2 = .one (.bool b)) (e : b = c) : Fr σ (σ.refine (.tmp n) c) := by
  subst e
  refine ⟨length_setN _ _ _, Nat.le_refl _, fun i p p' hp hp' => ?_, fun i p p' hp hp' => fr_same hp hp'⟩
  simp only [Env.refine, getElem?_setN] at hp'
  split at hp'
  · rename_i hi
    obtain ⟨rfl, _⟩ := hi
    rw [nth_eq, hp] at hp' h
    cases hp'
    exact ⟨Nat.le_refl _, fun _ => by obtain ⟨p1, p2⟩ := p; simp at h; rw [h]; rfl⟩
  · exact fr_same hp hp'

/-- One operation, in the text's order. -/
def SeqS (P : Program) (w0 : World) (ok0 : Nat → Prop) (σ σ' : Env) (o : Oper) (v : AV) : Prop :=
  ∀ (fr : Nat → Value) (a : Act) (w : World) (G : GM), Rel w0 ok0 fr σ a w G → Yields P o a w (fun V w' => ∃ G', Rel w0 ok0 fr σ' a w' G' ∧ RV w' (imm w0 ok0 w' G') G' v V)

theorem Stable.seq {D : List (Nat × Ob)} {v : AV} (h : Stable P w0 ok0 σ D o v) : SeqS P w0 ok0 σ { σ with h := σ.h ++ D } o v := by
  intro fr a w G hR
  have hst : St w0 ok0 (σ.h ++ D) w G := by
    refine ⟨fun id gh hg => ?_, hR.st.inj, hR.st.low, hR.st.ext⟩
    obtain ⟨p, hp, ho⟩ := hR.st.ob id gh hg
    exact ⟨p, by rw [List.getElem?_append_left (List.getElem?_eq_some_iff.1 hp).1]; exact hp, ho⟩
  refine (h.2 (σ.h ++ D) w G a (fun i p hp => ⟨p, hp, rfl⟩) hst (fun x _ => hR.ev x) (fun id h1 _ => ?_)).mono fun V w' ⟨G', h1, h2, h3, h4⟩ => ⟨G', ⟨hR.len, fun i p v hp hv => (hR.tmp i p v hp hv).later h2, hR.dfs, h1, (hR.frm.append h.1).later h2⟩, h4⟩
  cases hg : G id with
  | none => rfl
  | some gh =>
    obtain ⟨p, hp, _⟩ := hR.st.ob id gh hg
    have := (List.getElem?_eq_some_iff.1 hp).1
    omega

theorem putN_eq {α : Type} : ∀ (bs l : List α) (o : Nat), o + bs.length ≤ l.length → putN l o bs = l.take o ++ bs ++ l.drop (o + bs.length)
  | [], l, o, _ => by rw [putN_nil]; simp
  | b :: bs, l, o, h => by
    simp only [List.length_cons] at h
    rw [putN_cons, putN_eq bs _ _ (by rw [length_setN]; omega)]
    have h1 : setN l o b = l.take o ++ b :: l.drop (o + 1) := by
      apply List.ext_getElem?
      intro i
      rw [getElem?_setN, List.getElem?_append]
      simp only [List.length_take, List.getElem?_take]
      have hmin : min o l.length = o := by omega
      rw [hmin]
      by_cases h2 : i = o
      · subst h2; rw [if_pos ⟨rfl, by omega⟩, if_neg (by omega)]; simp
      · rw [if_neg (by intro h; exact h2 h.1)]
        by_cases h3 : i < o
        · rw [if_pos h3, if_pos h3]
        · rw [if_neg h3]
          obtain ⟨k, hk⟩ : ∃ k, i - o = k + 1 := ⟨i - o - 1, by omega⟩
          rw [hk, List.getElem?_cons_succ, List.getElem?_drop]
          congr 1; omega
    rw [h1]
    have hlt : (l.take o).length = o := by rw [List.length_take]; omega
    rw [List.take_append, List.drop_append, hlt]
    have e1 : o + 1 - o = 1 := by omega
    have e2 : o + 1 + bs.length - o = bs.length + 1 := by omega
    rw [e1, e2, List.take_of_length_le (l := l.take o) (by omega), List.drop_eq_nil_of_le (as := l.take o) (by omega)]
    simp only [List.take_succ_cons, List.take_zero, List.drop_succ_cons, List.drop_drop, List.append_assoc, List.cons_append, List.nil_append, List.length_cons]
    congr 4
    omega

theorem getElem?_putN {α : Type} : ∀ (bs l : List α) (o k : Nat), (putN l o bs)[k]? = if o ≤ k ∧ k - o < bs.length ∧ k < l.length then bs[k - o]? else l[k]?
  | [], l, o, k => by rw [putN_nil, if_neg (by simp)]
  | b :: bs, l, o, k => by
    rw [putN_cons, getElem?_putN bs, length_setN, getElem?_setN]
    by_cases h1 : k = o
    · subst h1
      rw [if_neg (by omega)]
      by_cases h2 : k < l.length
      · rw [if_pos ⟨rfl, h2⟩, if_pos ⟨Nat.le_refl _, by simp, h2⟩]; simp
      · rw [if_neg (by intro h; exact h2 h.2), if_neg (by intro h; exact h2 h.2.2)]
    · by_cases h2 : o + 1 ≤ k
      · by_cases h3 : k - (o + 1) < bs.length ∧ k < l.length
        · rw [if_pos ⟨h2, h3.1, h3.2⟩, if_pos ⟨by omega, by simp; omega, h3.2⟩, show k - o = (k - (o + 1)) + 1 by omega, List.getElem?_cons_succ]
        · rw [if_neg (by intro h; exact h3 h.2), if_neg (by intro h; exact h1 h.1), if_neg (by intro h; apply h3; have := h.2.1; simp only [List.length_cons] at this; exact ⟨by omega, h.2.2⟩)]
      · rw [if_neg (by intro h; exact h2 h.1), if_neg (by intro h; exact h1 h.1), if_neg (by intro h; have := h.1; omega)]

/-- A block of the call's own is written. -/
theorem Rel.write {a : Act} {w w' : World} {G : GM} (hR : Rel w0 ok0 fr σ a w G) {id : Nat} {gh : Gh} {b : Nat} (hg : G id = some gh) (hb : gh.blk = some b) {ob : Ob}
    (hsz : w'.heap.size = w.heap.size) (hbl : ∀ k, k ≠ b → w'.heap[k]? = w.heap[k]?) (hos : w'.os = w.os) (htp : w'.tape = w.tape) (hou : w'.output = w.output)
    (ho : (∀ {c v}, RC w (imm w0 ok0 w G) G c v → RC w' (imm w0 ok0 w' G) G c v) → (∀ b', imm w0 ok0 w G b' → w'.heap[b']? = w.heap[b']?) → (∀ b', imm w0 ok0 w G b' → imm w0 ok0 w' G b') → ObR w' (imm w0 ok0 w' G) G gh ob) (hnf : ∀ k l, ob ≠ .frame k l := by intro k l h; cases h) : Rel w0 ok0 fr (σ.setOb id ob) a w' G := by
  have hk : ∀ b', imm w0 ok0 w G b' → w'.heap[b']? = w.heap[b']? := fun b' hi => hbl b' (fun e => hi.2.2 id gh hg (.inl (by rw [hb, e])))
  have hm : ∀ b', imm w0 ok0 w G b' → imm w0 ok0 w' G b' := fun b' hi => ⟨hi.1, by rw [hsz]; exact hi.2.1, hi.2.2⟩
  have hlow := hR.st.low id gh b hg (.inl hb)
  refine ⟨hR.len, fun i p v hp hv => (hR.tmp i p v hp hv).mono hk hm (fun _ _ h => h), hR.dfs, ⟨fun i g hgi => ?_, hR.st.inj, fun i g b' h1 h2 => by rw [hsz]; exact hR.st.low i g b' h1 h2, ?_⟩, hR.frm.setN hnf⟩
  · obtain ⟨p, hp, hob⟩ := hR.st.ob i g hgi
    simp only [Env.setOb, getElem?_setN]
    by_cases hi : i = id
    · subst hi
      rw [hgi] at hg
      cases hg
      rw [if_pos ⟨rfl, (List.getElem?_eq_some_iff.1 hp).1⟩]
      exact ⟨_, rfl, ho (fun h => h.mono hk hm (fun _ _ _ h => h)) hk hm⟩
    · rw [if_neg (fun h => hi h.1)]
      refine ⟨p, hp, hob.mono hk hm (fun b' hb' => hbl b' (fun e => hi (hR.st.inj i id g gh b' hgi hg hb' (.inl (by rw [hb, e]))))) (fun _ _ h => h)⟩
  · have hext := hR.st.ext
    refine Below.trans hext ⟨hos, htp, hou, by omega, fun k hk' => hbl k (by omega)⟩

theorem run_storeT {t : TypeId} {w : World} {b off : Nat} {cur : Array Value} {ty : TypeId} {v : Value} (hi : (P.info? t).isSome = true) (hh : w.heap[b]? = some (.cells cur ty (0, 0))) (hsz : v.cells.size = sizeT P t)
    (hfit : off + v.cells.size ≤ cur.size) (h1 : ∀ u ∈ v.cells.toList, u.oneCell' = true) :
    (storeVar t ⟨b, off, none⟩ v).run P w = .ok () (w.setRow b (putN cur.toList off v.cells.toList).toArray) := by
  have := run_storeCells_at P b off ty v.cells.toList 0 cur w hh (by simpa using hfit) h1
  obtain ⟨inf, hinf⟩ := Option.isSome_iff_exists.1 hi
  simp only [Nat.add_zero] at this
  have hs : inf.size = sizeT P t := by simp [sizeT, hinf]
  rw [putN_eq _ _ _ (by simpa using hfit)]
  simp [storeVar, sizeOf, typeInfo, hinf, hs, hsz, this]

/-- Rows are handed over: whatever leads to them is forgotten. -/
def killsC (ids : List Nat) (c : AC) : AC := ids.foldl (fun c id => AC.kill id c) c
theorem AC.has_of_leads {id : Nat} {c : AC} (h : c.leads id) : c.has id = true := by
  cases c with
  | own i => obtain rfl : i = id := h; exact Nat.beq_refl _
  | vptr i o => obtain rfl : i = id := h; exact Nat.beq_refl _
  | eptr i e k o => obtain rfl : i = id := h; exact Nat.beq_refl _
  | inn i k => obtain rfl : i = id := h; exact Nat.beq_refl _
  | osub i e k => obtain rfl : i = id := h; exact Nat.beq_refl _
  | opre i e k => obtain rfl : i = id := h; exact Nat.beq_refl _
  | cloA g cs =>
    obtain ⟨c, hc, hl⟩ := h
    refine List.any_eq_true.2 ⟨c, hc, ?_⟩
    cases c with
    | vptr i o => obtain rfl : i = id := hl; exact Nat.beq_refl _
    | own i => obtain rfl : i = id := hl; exact Nat.beq_refl _
    | dat τ x => exact hl.elim
  | _ => exact h.elim
theorem kill_or (id : Nat) (c : AC) : c.kill id = .bad ∨ (c.kill id = c ∧ c.has id = false) := by
  cases hb : c.has id with
  | false =>
    right
    refine ⟨?_, rfl⟩
    cases c <;> first | rfl | (simp only [AC.has] at hb; simp only [AC.kill, hb, cond_false])
  | true =>
    left
    cases c <;> first | (cases hb; done) | (simp only [AC.has] at hb; simp only [AC.kill, hb, cond_true])
theorem kills_or : ∀ (ids : List Nat) (c : AC), killsC ids c = .bad ∨ (killsC ids c = c ∧ ∀ id ∈ ids, c.has id = false)
  | [], c => .inr ⟨rfl, by simp⟩
  | id :: ids, c => by
    have e : killsC (id :: ids) c = killsC ids (c.kill id) := rfl
    rcases kill_or id c with h | ⟨h, h2⟩
    · rw [e, h]
      rcases kills_or ids .bad with h3 | ⟨h3, _⟩ <;> exact .inl h3
    · rw [e, h]
      rcases kills_or ids c with h3 | ⟨h3, h4⟩
      · exact .inl h3
      · refine .inr ⟨h3, fun i hi => ?_⟩
        rcases List.mem_cons.1 hi with rfl | hi
        · exact h2
        · exact h4 i hi
theorem RC.look {w w' : World} {ok ok' : Nat → Prop} {G G' : GM} {c : AC} {v : Value} (h : RC w ok G c v) (hk : ∀ b, ok b → w'.heap[b]? = w.heap[b]?) (hm : ∀ b, ok b → ok' b)
    (hG : ∀ i g, c.leads i → G i = some g → ∃ g', G' i = some g' ∧ g'.blk = g.blk ∧ g'.hdr = g.hdr ∧ g'.ihdr = g.ihdr) : RC w' ok' G' c v := by
  cases c with
  | own i => obtain ⟨g, h1, h2⟩ := h; obtain ⟨g', k1, _, k3, _⟩ := hG i g rfl h1; exact ⟨g', k1, by rw [k3]; exact h2⟩
  | vptr i o => obtain ⟨g, b, h1, h2, h3⟩ := h; obtain ⟨g', k1, k2, _⟩ := hG i g rfl h1; exact ⟨g', b, k1, by rw [k2]; exact h2, h3⟩
  | eptr i e k o => obtain ⟨g, b, h1, h2, h3⟩ := h; obtain ⟨g', k1, k2, _⟩ := hG i g rfl h1; exact ⟨g', b, k1, by rw [k2]; exact h2, h3⟩
  | inn i k => obtain ⟨g, h1, h2⟩ := h; obtain ⟨g', k1, _, _, k4⟩ := hG i g rfl h1; exact ⟨g', k1, by rw [k4]; exact h2⟩
  | opre i e lo => obtain ⟨g, A, n, c, h1, h2, h3⟩ := h; obtain ⟨g', k1, _, k3, _⟩ := hG i g rfl h1; exact ⟨g', A, n, c, k1, by rw [k3]; exact h2, h3⟩
  | osub i e lo => obtain ⟨g, A, n, c, h1, h2, h3⟩ := h; obtain ⟨g', k1, _, k3, _⟩ := hG i g rfl h1; exact ⟨g', A, n, c, k1, by rw [k3]; exact h2, h3⟩
  | cloA g cs =>
    obtain ⟨us, h1, h2, h3⟩ := h
    refine ⟨us, h1, h2, fun i c u hc hu => ?_⟩
    have h4 := h3 i c u hc hu
    have hl := fun j (hj : c.leads j) => hG j
    cases c with
    | vptr j o => obtain ⟨g, b, h1, h2, h3⟩ := h4; obtain ⟨g', k1, k2, _⟩ := hG j g ⟨_, List.mem_of_getElem? hc, rfl⟩ h1; exact ⟨g', b, k1, by rw [k2]; exact h2, h3⟩
    | own j => obtain ⟨g, h1, h2⟩ := h4; obtain ⟨g', k1, _, k3, _⟩ := hG j g ⟨_, List.mem_of_getElem? hc, rfl⟩ h1; exact ⟨g', k1, by rw [k3]; exact h2⟩
    | dat τ x => exact Ty.rp_keep _ h4 hk hm
  | _ => exact RC.mono h hk hm fun i gh hl => hl.elim
theorem RC.kills {w w' : World} {ok ok' : Nat → Prop} {G G' : GM} {c : AC} {v : Value} (ids : List Nat) (h : RC w ok G c v) (hk : ∀ b, ok b → w'.heap[b]? = w.heap[b]?) (hm : ∀ b, ok b → ok' b)
    (hG : ∀ i g, i ∉ ids → G i = some g → ∃ g', G' i = some g' ∧ g'.blk = g.blk ∧ g'.hdr = g.hdr ∧ g'.ihdr = g.ihdr) : RC w' ok' G' (killsC ids c) v := by
  rcases kills_or ids c with h1 | ⟨h1, h2⟩
  · rw [h1]; exact trivial
  · rw [h1]
    refine h.look hk hm fun i g hl => hG i g fun hi => ?_
    have h3 := h2 i hi
    rw [AC.has_of_leads hl] at h3
    cases h3
theorem AV.mapC_mapC (f g : AC → AC) (v : AV) : (v.mapC f).mapC g = v.mapC fun c => g (f c) := by
  cases v with
  | one c => rfl
  | agg cs => simp only [AV.mapC, List.map_map]; rfl
  | tup vs => simp only [AV.mapC, List.map_map, Function.comp_def]
theorem Ob.mapC_mapC (f g : AC → AC) (v : Ob) : (v.mapC f).mapC g = v.mapC fun c => g (f c) := by
  cases v with
  | var cs => simp only [Ob.mapC, List.map_map]; rfl
  | frame k l => simp only [Ob.mapC, List.map_map, Function.comp_def, AV.mapC_mapC]
  | _ => rfl
theorem AV.mapC_id (v : AV) : v.mapC (fun c => c) = v := by
  cases v with
  | one c => rfl
  | agg cs => simp [AV.mapC]
  | tup vs => simp [AV.mapC]
theorem Ob.mapC_id (v : Ob) : v.mapC (fun c => c) = v := by
  cases v with
  | var cs => simp [Ob.mapC]
  | frame k l => simp [Ob.mapC, AV.mapC_id]
  | _ => rfl
theorem kill_sameA {id : Nat} {c : AC} (h : c.has id = false) : c.kill id = c := (kill_or id c).elim (fun e => by
  cases c <;> first | rfl | (simp only [AC.has] at h; simp only [AC.kill, h, cond_false] at e ⊢)) fun e => e.1
theorem kill_sameAL {id : Nat} : ∀ (cs : List AC), cs.any (AC.has id) = false → cs.map (AC.kill id) = cs
  | [], _ => rfl
  | c :: cs, h => by
    simp only [List.any_cons, Bool.or_eq_false_iff] at h
    rw [List.map_cons, kill_sameA h.1, kill_sameAL cs h.2]
theorem kill_sameAV {id : Nat} {v : AV} (h : v.anyC (AC.has id) = false) : v.mapC (AC.kill id) = v := by
  cases v with
  | one c => simp only [AV.mapC]; rw [kill_sameA h]
  | agg cs => simp only [AV.mapC]; rw [kill_sameAL cs h]
  | tup vs =>
    simp only [AV.mapC, AV.anyC] at h ⊢
    congr 1
    induction vs with
    | nil => rfl
    | cons p vs ih =>
      simp only [List.any_cons, Bool.or_eq_false_iff] at h
      rw [List.map_cons, kill_sameAL _ h.1, ih h.2]
theorem kill_sameAO {id : Nat} {v : Ob} (h : v.anyC (AC.has id) = false) : v.mapC (AC.kill id) = v := by
  cases v with
  | var cs => simp only [Ob.mapC]; rw [kill_sameAL cs h]
  | frame k l =>
    simp only [Ob.mapC, Ob.anyC] at h ⊢
    congr 1
    induction l with
    | nil => rfl
    | cons p l ih =>
      simp only [List.any_cons, Bool.or_eq_false_iff] at h
      rw [List.map_cons, kill_sameAV h.1, ih h.2]
  | _ => rfl
theorem takes_len : ∀ (ids : List Nat) (σ : Env), (σ.takes ids).t.length = σ.t.length ∧ (σ.takes ids).h.length = σ.h.length
  | [], σ => ⟨rfl, rfl⟩
  | id :: ids, σ => by
    obtain ⟨h1, h2⟩ := takes_len ids ((σ.kill id).setOb id .gone)
    exact ⟨h1.trans (by simp [Env.setOb, Env.kill]), h2.trans (by simp [Env.setOb, Env.kill, length_setN])⟩
theorem Fr.takes : ∀ (ids : List Nat) (σ : Env), Fr σ (σ.takes ids)
  | [], σ => Fr.refl σ
  | id :: ids, σ => ((Fr.kill σ id).trans (Fr.setOb _ _ _)).trans (Fr.takes ids _)
theorem takesT : ∀ (ids : List Nat) (σ : Env) (i : Nat) (p : Nat × AV), (σ.takes ids).t[i]? = some p → ∃ q, σ.t[i]? = some q ∧ p.2 = q.2.mapC (killsC ids)
  | [], σ, i, p, h => ⟨p, h, (AV.mapC_id _).symm⟩
  | id :: ids, σ, i, p, h => by
    obtain ⟨q, hq, he⟩ := takesT ids _ i p h
    simp only [Env.setOb, Env.kill, List.getElem?_map] at hq
    obtain ⟨q', hq', rfl⟩ := Option.map_eq_some_iff.1 hq
    refine ⟨q', hq', ?_⟩
    rw [he]
    have : (bif q'.2.anyC (AC.has id) then (q'.1 + 1, q'.2.mapC (AC.kill id)) else q').2 = q'.2.mapC (AC.kill id) := by
      cases hb : q'.2.anyC (AC.has id)
      · exact (kill_sameAV hb).symm
      · rfl
    rw [this, AV.mapC_mapC]
    rfl
theorem takesH : ∀ (ids : List Nat) (σ : Env) (i : Nat) (q : Nat × Ob), i ∉ ids → σ.h[i]? = some q → ∃ p, (σ.takes ids).h[i]? = some p ∧ p.2 = q.2.mapC (killsC ids)
  | [], σ, i, q, _, h => ⟨q, h, (Ob.mapC_id _).symm⟩
  | id :: ids, σ, i, q, hi, h => by
    have hne : i ≠ id := fun e => hi (by simp [e])
    have hi' : i ∉ ids := fun e => hi (by simp [e])
    obtain ⟨p, hp, he⟩ := takesH ids ((σ.kill id).setOb id .gone) i (bif q.2.anyC (AC.has id) then (q.1 + 1, q.2.mapC (AC.kill id)) else q) hi' (by
      simp only [Env.setOb, getElem?_setN]
      rw [if_neg (fun e => hne e.1)]
      simp only [Env.kill, List.getElem?_map, h]
      rfl)
    refine ⟨p, hp, ?_⟩
    rw [he]
    have : (bif q.2.anyC (AC.has id) then (q.1 + 1, q.2.mapC (AC.kill id)) else q).2 = q.2.mapC (AC.kill id) := by
      cases hb : q.2.anyC (AC.has id)
      · exact (kill_sameAO hb).symm
      · rfl
    rw [this, Ob.mapC_mapC]
    rfl
theorem gone_mapC {f : AC → AC} : Ob.mapC f .gone = .gone := rfl
theorem takesH' : ∀ (ids : List Nat) (σ : Env) (i : Nat) (p : Nat × Ob), (σ.takes ids).h[i]? = some p → p.2 = .gone ∨ ∃ q, σ.h[i]? = some q ∧ p.2 = q.2.mapC (killsC ids) ∧ i ∉ ids
  | [], σ, i, p, h => .inr ⟨p, h, (Ob.mapC_id _).symm, by simp⟩
  | id :: ids, σ, i, p, h => by
    rcases takesH' ids _ i p h with h1 | ⟨q, hq, he, hi⟩
    · exact .inl h1
    · simp only [Env.setOb, getElem?_setN] at hq
      split at hq
      · cases hq
        exact .inl (by rw [he]; rfl)
      · rename_i hne
        simp only [Env.kill, List.getElem?_map] at hq
        obtain ⟨q', hq', rfl⟩ := Option.map_eq_some_iff.1 hq
        refine .inr ⟨q', hq', ?_, ?_⟩
        · rw [he]
          have : (bif q'.2.anyC (AC.has id) then (q'.1 + 1, q'.2.mapC (AC.kill id)) else q').2 = q'.2.mapC (AC.kill id) := by
            cases hb : q'.2.anyC (AC.has id)
            · exact (kill_sameAO hb).symm
            · rfl
          rw [this, Ob.mapC_mapC]
          rfl
        · intro hm
          rcases List.mem_cons.1 hm with e | hm
          · exact hne ⟨e, by simp only [Env.kill, List.length_map]; have := (List.getElem?_eq_some_iff.1 hq').1; omega⟩
          · exact hi hm
theorem frame_mapA {f : AC → AC} {q : Ob} {k : Nat} {l : List (Nat × AV)} (h : q.mapC f = .frame k l) : ∃ l', q = .frame k l' := by
  cases q with
  | frame k' l' =>
    have : k' = k := by injection h
    exact ⟨l', by rw [this]⟩
  | _ => cases h
/-- The blocks of these rows. -/
def HasAny (G : GM) (ids : List Nat) (b : Nat) : Prop := ∃ id ∈ ids, ∃ gh, G id = some gh ∧ gh.has b
/-- Those of their blocks that count. -/
def HasCore (h : List (Nat × Ob)) (G : GM) (ids : List Nat) (b : Nat) : Prop := ∃ id ∈ ids, ∃ gh, G id = some gh ∧ (nth h id (0, .gone)).2.uses gh b
theorem HasCore.any {h : List (Nat × Ob)} {G : GM} {ids : List Nat} {b : Nat} (H : HasCore h G ids b) : HasAny G ids b := by
  obtain ⟨id, h1, gh, h2, h3⟩ := H
  exact ⟨id, h1, gh, h2, Ob.uses_has h3⟩
/-- Rows are handed over; what lies in them may turn. -/
theorem Rel.takes {a : Act} {w w' : World} {G : GM} (ids : List Nat) (hR : Rel w0 ok0 fr σ a w G) (hB : Below 0 w w') (hs : ∀ b, b < w.heap.size → ¬ HasAny G ids b → w'.heap[b]? = w.heap[b]?) :
    Rel w0 ok0 fr (σ.takes ids) a w' (fun k => if k ∈ ids then none else G k) := by
  have old : ∀ k gh, (if k ∈ ids then none else G k) = some gh → k ∉ ids ∧ G k = some gh := fun k gh h => by
    split at h
    · cases h
    · rename_i hh; exact ⟨hh, h⟩
  have hk : ∀ b, imm w0 ok0 w G b → w'.heap[b]? = w.heap[b]? := fun b hb => hs b hb.2.1 fun ⟨id, _, gh, hg, hh⟩ => hb.2.2 id gh hg hh
  have hm : ∀ b, imm w0 ok0 w G b → imm w0 ok0 w' (fun k => if k ∈ ids then none else G k) b := fun b hb => ⟨hb.1, Nat.lt_of_lt_of_le hb.2.1 hB.size, fun k gh hg => hb.2.2 k gh (old k gh hg).2⟩
  have hrc : ∀ c v, RC w (imm w0 ok0 w G) G c v → RC w' (imm w0 ok0 w' (fun k => if k ∈ ids then none else G k)) (fun k => if k ∈ ids then none else G k) (killsC ids c) v := fun c v h =>
    h.kills ids hk hm fun i g hi hg => ⟨g, by rw [if_neg hi]; exact hg, rfl, rfl, rfl⟩
  refine ⟨(takes_len ids σ).1.trans hR.len, fun i p v hp hv => ?_, hR.dfs, ⟨fun k gh hg => ?_, fun i j g g' b h1 h2 => hR.st.inj i j g g' b (old _ _ h1).2 (old _ _ h2).2, fun i g b h1 hb => ?_, ?_⟩, fun i p k l hp hk' => ?_⟩
  · obtain ⟨q, hq, he⟩ := takesT ids σ i p hp
    rw [he]
    exact (hR.tmp i q v hq hv).mapC hrc
  · obtain ⟨hi, hg'⟩ := old k gh hg
    obtain ⟨q, hq, ho⟩ := hR.st.ob k gh hg'
    obtain ⟨p, hp, he⟩ := takesH ids σ k q hi hq
    refine ⟨p, hp, ?_⟩
    rw [he]
    refine ho.mapC hk hm (fun b hb => hs b (hR.st.low k gh b hg' hb).2 fun ⟨id, hid, g, hg1, hb1⟩ => ?_) hrc
    have := hR.st.inj k id gh g b hg' hg1 hb hb1
    subst this
    exact hi hid
  · have := hR.st.low i g b (old _ _ h1).2 hb
    exact ⟨this.1, Nat.lt_of_lt_of_le this.2 hB.size⟩
  · have hext := hR.st.ext
    refine Below.trans hext ⟨hB.os, hB.tape, hB.output, hB.size, fun k hk' => hs k (Nat.lt_of_lt_of_le hk' hext.size) fun ⟨id, _, g, hg, hb⟩ => ?_⟩
    have := (hR.st.low id g k hg hb).1
    omega
  · rcases takesH' ids σ i p hp with h1 | ⟨q, hq, he, hi⟩
    · rw [h1] at hk'; cases hk'
    · obtain ⟨l', hl'⟩ := frame_mapA (he.symm.trans hk')
      obtain ⟨gh, g1, g2⟩ := hR.frm i q k l' hq hl'
      exact ⟨gh, by rw [if_neg hi]; exact g1, g2⟩
/-- Rows are handed over to one of the call's own. -/
theorem Rel.absorb {a : Act} {w w' : World} {G : GM} (ids : List Nat) (hR : Rel w0 ok0 fr σ a w G) {id : Nat} {gh gh' : Gh} (hg : G id = some gh) (hid : id ∉ ids) {ob : Ob} (hB : Below 0 w w') (hs : ∀ b, b < w.heap.size → ¬ gh.has b → w'.heap[b]? = w.heap[b]?) (hsz : w'.heap.size = w.heap.size)
    (hbl : gh'.blk = gh.blk) (hhd : gh'.hdr = gh.hdr) (hih : gh'.ihdr = gh.ihdr) (hbk : ∀ b, gh'.has b → gh.has b ∨ HasAny G ids b)
    (ho : ∀ G' : GM, (∀ b', imm w0 ok0 w G b' → w'.heap[b']? = w.heap[b']?) → (∀ b', imm w0 ok0 w G b' → imm w0 ok0 w' G' b') → ObR w' (imm w0 ok0 w' G') G' gh' ob) (hnf : ∀ k l, ob ≠ .frame k l) :
    ∃ G', Rel w0 ok0 fr ((σ.takes ids).setOb id ob) a w' G' := by
  let G' : GM := fun k => if k ∈ ids then none else if k = id then some gh' else G k
  have gid : G' id = some gh' := by simp [G', hid]
  have old : ∀ k g, G' k = some g → k ∉ ids ∧ ((k = id ∧ g = gh') ∨ (k ≠ id ∧ G k = some g)) := fun k g h => by
    by_cases h1 : k ∈ ids
    · simp [G', h1] at h
    · by_cases h2 : k = id
      · subst h2; rw [gid] at h; cases h; exact ⟨h1, .inl ⟨rfl, rfl⟩⟩
      · simp only [G', if_neg h1, if_neg h2] at h; exact ⟨h1, .inr ⟨h2, h⟩⟩
  have gne : ∀ k, k ∉ ids → k ≠ id → G' k = G k := fun k h1 h2 => by simp only [G', if_neg h1, if_neg h2]
  have hk : ∀ b, imm w0 ok0 w G b → w'.heap[b]? = w.heap[b]? := fun b hb => hs b hb.2.1 fun hh => hb.2.2 id gh hg hh
  have hm : ∀ b, imm w0 ok0 w G b → imm w0 ok0 w' G' b := fun b hb => ⟨hb.1, by rw [hsz]; exact hb.2.1, fun k g hgk hh => by
    rcases (old k g hgk).2 with ⟨_, rfl⟩ | ⟨_, h2⟩
    · rcases hbk b hh with h3 | ⟨i, _, gi, h4, h5⟩
      · exact hb.2.2 id gh hg h3
      · exact hb.2.2 i gi h4 h5
    · exact hb.2.2 k g h2 hh⟩
  have hrc : ∀ c v, RC w (imm w0 ok0 w G) G c v → RC w' (imm w0 ok0 w' G') G' (killsC ids c) v := fun c v h =>
    h.kills ids hk hm fun i g hi hgi => by
      by_cases h2 : i = id
      · subst h2; rw [hg] at hgi; cases hgi; exact ⟨gh', gid, hbl, hhd, hih⟩
      · exact ⟨g, by rw [gne i hi h2]; exact hgi, rfl, rfl, rfl⟩
  have owner : ∀ k g b, G' k = some g → g.has b → ∃ j gj, G j = some gj ∧ gj.has b ∧ (j = k ∨ (k = id ∧ j ∈ ids)) := fun k g b hgk hb => by
    rcases (old k g hgk).2 with ⟨rfl, rfl⟩ | ⟨_, h2⟩
    · rcases hbk b hb with h3 | ⟨i, hi, gi, h4, h5⟩
      · exact ⟨k, gh, hg, h3, .inl rfl⟩
      · exact ⟨i, gi, h4, h5, .inr ⟨rfl, hi⟩⟩
    · exact ⟨k, g, h2, hb, .inl rfl⟩
  refine ⟨G', ⟨by simpa [Env.setOb] using (takes_len ids σ).1.trans hR.len, fun i p v hp hv => ?_, hR.dfs, ⟨fun k g hgk => ?_, fun i j g g' b h1 h2 h3 h4 => ?_, fun i g b h1 hb => ?_, ?_⟩, fun i p k l hp hk' => ?_⟩⟩
  · obtain ⟨q, hq, he⟩ := takesT ids σ i p hp
    rw [he]
    exact (hR.tmp i q v hq hv).mapC hrc
  · obtain ⟨hki, h⟩ := old k g hgk
    simp only [Env.setOb, getElem?_setN, (takes_len ids σ).2]
    rcases h with ⟨rfl, rfl⟩ | ⟨hne, hg'⟩
    · obtain ⟨q, hq, _⟩ := hR.st.ob k gh hg
      rw [if_pos ⟨rfl, (List.getElem?_eq_some_iff.1 hq).1⟩]
      exact ⟨_, rfl, ho G' hk hm⟩
    · rw [if_neg (fun e => hne e.1)]
      obtain ⟨q, hq, hob⟩ := hR.st.ob k g hg'
      obtain ⟨p, hp, he⟩ := takesH ids σ k q hki hq
      refine ⟨p, hp, ?_⟩
      rw [he]
      exact hob.mapC hk hm (fun b hb => hs b (hR.st.low k g b hg' hb).2 fun hh => hne (hR.st.inj k id g gh b hg' hg hb hh)) hrc
  · obtain ⟨j1, g1, e1, e2, e3⟩ := owner i g b h1 h3
    obtain ⟨j2, g2, f1, f2, f3⟩ := owner j g' b h2 h4
    have he := hR.st.inj j1 j2 g1 g2 b e1 f1 e2 f2
    subst he
    rcases e3 with rfl | ⟨rfl, hi1⟩ <;> rcases f3 with f3 | ⟨rfl, hi2⟩
    · exact f3
    · exact absurd hi2 (old _ _ h1).1
    · subst f3; exact absurd hi1 (old _ _ h2).1
    · rfl
  · obtain ⟨j, gj, e1, e2, _⟩ := owner i g b h1 hb
    rw [hsz]
    exact hR.st.low j gj b e1 e2
  · have hext := hR.st.ext
    refine Below.trans hext ⟨hB.os, hB.tape, hB.output, hB.size, fun k hk' => hs k (Nat.lt_of_lt_of_le hk' hext.size) fun hb => ?_⟩
    have := (hR.st.low id gh k hg hb).1
    omega
  · simp only [Env.setOb, getElem?_setN] at hp
    split at hp
    · cases hp; exact absurd hk' (hnf k l)
    · rename_i hne
      rcases takesH' ids σ i p hp with h1 | ⟨q, hq, he, hi⟩
      · rw [h1] at hk'; cases hk'
      · obtain ⟨l', hl'⟩ := frame_mapA (he.symm.trans hk')
        obtain ⟨g, g1, g2⟩ := hR.frm i q k l' hq hl'
        have hne' : i ≠ id := fun e => hne ⟨e, by rw [(takes_len ids σ).2]; have := (List.getElem?_eq_some_iff.1 hq).1; omega⟩
        exact ⟨g, by rw [gne i hi hne']; exact g1, g2⟩
/-- The rows named, and no others. -/
theorem nth_only (ids : List Nat) : ∀ (h : List (Nat × Ob)) (k i : Nat), (nth (onlyH ids h k) i (0, .gone)).2 ≠ .gone → (k + i) ∈ ids ∧ (nth (onlyH ids h k) i (0, .gone)).2 = (nth h i (0, .gone)).2
  | [], k, i, hn => absurd rfl hn
  | p :: l, k, 0, hn => by
    simp only [onlyH, nth] at hn ⊢
    cases hb : ids.any (Nat.beq k) with
    | true =>
      obtain ⟨x, hx, he⟩ := List.any_eq_true.1 hb
      rw [Nat.add_zero, Nat.eq_of_beq_eq_true he]
      exact ⟨hx, rfl⟩
    | false => rw [hb] at hn; exact absurd rfl hn
  | p :: l, k, i + 1, hn => by
    simp only [onlyH, nth] at hn ⊢
    have := nth_only ids l (k + 1) i hn
    rw [show k + (i + 1) = k + 1 + i by omega]
    exact this
theorem takesOk_spec : ∀ {h : List (Nat × Ob)} {ids : List Nat}, takesOk h ids = true → ids.Nodup ∧ ∀ id ∈ ids, (nth h id (0, .gone)).2.sole = true
  | h, [], _ => ⟨List.nodup_nil, by simp⟩
  | h, id :: ids, hc => by
    simp only [takesOk, Bool.and_eq_true, Bool.not_eq_true'] at hc
    obtain ⟨h1, h2⟩ := takesOk_spec hc.2.2
    refine ⟨List.nodup_cons.2 ⟨fun hm => ?_, h1⟩, fun i hi => ?_⟩
    · have : ids.any (Nat.beq id) = true := List.any_eq_true.2 ⟨id, hm, Nat.beq_refl id⟩
      rw [hc.1] at this; cases this
    · rcases List.mem_cons.1 hi with rfl | hi
      · exact hc.2.1
      · exact h2 i hi
theorem sole_rc {w : World} {ok ok' : Nat → Prop} {G : GM} {c : AC} {v : Value} (hc : c.soleC = true) (h : RC w ok G c v) : RC w ok' G c v := by
  cases c <;> first | (cases hc; done) | exact h
/-- Cells that lead to rows alone: the data lies in the rows. -/
theorem sole_rp {h : List (Nat × Ob)} {w : World} {ok : Nat → Prop} {G : GM} (hst : St w0 ok0 h w G) (hσ : σ.h = h) {ids : List Nat} (hso : ∀ id ∈ ids, (nth h id (0, .gone)).2.sole = true) {τ : Ty} {cs : List AC} {vs : List Value} {x : τ.den}
    (hc : cs.all AC.soleC = true) (hx : τ.ofAcs (onlyH ids σ.h 0) cs = some x) (hr : RCs w ok G cs vs) : τ.rp w (HasCore h G ids) vs x := by
  subst hσ
  have hr' : RCs w (fun _ => False) G cs vs := ⟨hr.1, fun i c v h1 h2 => sole_rc (List.all_eq_true.1 hc c (List.mem_of_getElem? h1)) (hr.2 i c v h1 h2)⟩
  refine Ty.ofAcs_rp (onlyH ids σ.h 0) (ok := fun _ => False) (fun _ h => h.elim) (fun id gh hg hn => ?_) τ cs vs x hx hr'
  obtain ⟨h1, h2⟩ := nth_only ids σ.h 0 id hn
  rw [Nat.zero_add] at h1
  rw [h2]
  rw [h2] at hn
  refine ⟨?_, fun b hb => ⟨id, h1, gh, hg, hb⟩⟩
  have ho := hst.obOf (h := σ.h) (fun i p hp => ⟨p, hp, rfl⟩) hg hn
  have hs := hso id h1
  revert ho hs
  generalize (nth σ.h id (0, .gone)).2 = ob
  intro ho hs
  cases ob with
  | row e xs =>
    rcases ho with ho | ⟨b, cap, cur, t, g1, g2, g3, g4, g5, g6, g7⟩
    · exact .inl ho
    · exact .inr ⟨b, cap, cur, t, g1, g2, g3, g4, g5, g6, fun i hi => by
        obtain ⟨us, hu, hc⟩ := g7 i hi
        exact ⟨us, Ty.rp_flat _ hs hu, hc⟩⟩
  | drow e xs => exact ho
  | _ => cases hs
theorem sole_solid {h : List (Nat × Ob)} {w : World} {G : GM} (hst : St w0 ok0 h w G) (hσ : σ.h = h) {ids : List Nat} (hso : ∀ id ∈ ids, (nth h id (0, .gone)).2.sole = true) : ∀ b, HasCore h G ids b → Solid w b := by
  subst hσ
  rintro b ⟨id, hid, gh, hg, hb⟩
  have hs := hso id hid
  have ho := hst.obOf (h := σ.h) (fun i p hp => ⟨p, hp, rfl⟩) hg (fun e => by rw [e] at hs; cases hs)
  revert ho hs hb
  generalize (nth σ.h id (0, .gone)).2 = ob
  intro hb hs ho
  have rowS : ∀ {ok : Nat → Prop} {e : Ty} {xs : List e.den}, RowR w ok gh.blk gh.hdr e xs → gh.blk = some b → Solid w b := by
    intro ok e xs hr hbb
    rcases hr with ⟨h1, _⟩ | ⟨b', cap, cur, t, g1, g2, g3, _⟩
    · rw [h1] at hbb; cases hbb
    · rw [g1] at hbb; cases hbb; exact ⟨cur, t, g3⟩
  cases ob with
  | row e xs => exact rowS ho hb
  | drow e xs =>
    rcases hb with hb | hb
    · exact rowS ho.1 hb
    · exact ho.2.2 b hb
  | _ => cases hs
theorem store_seq {t : TypeId} {x y : Operand} (ho : o.op = .store t x y) (hK : opK P C I σ o K = some r) : ∃ v σ', K v σ' = some r ∧ Fr σ σ' ∧ SeqS P w0 ok0 σ σ' o v := by
  simp only [opK, ho] at hK
  obtain ⟨hc, hK⟩ := bif_some hK
  simp only [Bool.and_eq_true] at hc
  obtain ⟨hgood, hlen, hinf⟩ := hc
  have hlen := Nat.eq_of_beq_eq_true hlen
  split at hK
  · rename_i id off hx
    split at hK
    · rename_i cs hob
      obtain ⟨hfit, hK'⟩ := bif_some hK
      have hfit : off + (σ.ev y).cells.length ≤ cs.length := by simpa using hfit
      refine ⟨_, _, hK', Fr.setOb _ _ _, fun fr a w G hR => ?_⟩
      have hxa := hR.ev x
      rw [hx] at hxa
      obtain ⟨gh, b, hg, hb, he⟩ := hxa
      have hr := hR.st.obOf (h := σ.h) (fun i p hp => ⟨p, hp, rfl⟩) hg (by rw [show (nth σ.h id (0, .gone)).2 = _ from hob]; simp)
      rw [show (nth σ.h id (0, .gone)).2 = _ from hob] at hr
      obtain ⟨b', us, ty, hb', hhd, hh, hr⟩ := hr
      obtain rfl : b = b' := by rw [hb] at hb'; exact Option.some.inj hb'
      have hy := cells_rv (hR.ev y) hgood hR.st.hdr
      have hyl : (a.eval y).cells.size = (σ.ev y).cells.length := by have := hy.1; simpa using this.symm
      have hone := hy.one' hgood hR.st.hdr
      have hrun := run_storeT (P := P) (t := t) (off := off) hinf hh (by rw [hyl, hlen]) (by rw [hyl, List.size_toArray, ← hr.1]; exact hfit) hone
      refine .skip (w' := w.setRow b (putN us off (a.eval y).cells.toList).toArray) (by simp [execOp, ho, he, Instr.storeAt, Instr.sureAddr, hrun]) ⟨G, ?_, rfl⟩
      refine hR.write hg hb (by simp) (fun k hk => setRow_other w b k _ hk) rfl rfl rfl (fun hrc _ _ => ?_)
      refine ⟨b, _, ty, hb, hhd, setRow_heap w b _ _ ty _ hh, ?_⟩
      exact RCs.putN ⟨hr.1, fun i c v h1 h2 => hrc (hr.2 i c v h1 h2)⟩ ⟨hy.1, fun i c v h1 h2 => hrc (hy.2 i c v h1 h2)⟩ off
    · cases hK
  · rename_i id e i off hx
    split at hK
    · rename_i e' xs hob
      split at hK
      · rename_i ys hys
        obtain ⟨rfl, rfl⟩ := Ty.castL_eq hys
        obtain ⟨x0, hx0, hK'⟩ := obind_some hK
        split at hK'
        · rename_i y0 hy0
          obtain ⟨hfit, hK''⟩ := bif_some hK'
          have hfit : off + (σ.ev y).cells.length ≤ e'.sz := by simpa using hfit
          refine ⟨_, _, hK'', Fr.setOb _ _ _, fun fr a w G hR => ?_⟩
          have hxa := hR.ev x
          rw [hx] at hxa
          obtain ⟨gh, b, hg, hb, he⟩ := hxa
          have hr := hR.st.obOf (h := σ.h) (fun i p hp => ⟨p, hp, rfl⟩) hg (by rw [show (nth σ.h id (0, .gone)).2 = _ from hob]; simp)
          rw [show (nth σ.h id (0, .gone)).2 = _ from hob] at hr
          rcases hr with ⟨h1, _⟩ | ⟨b', cap, cur, ty, hb', hhd, hh, hle, hcm, hcs, hel⟩
          · rw [hb] at h1; cases h1
          obtain rfl : b = b' := by rw [hb] at hb'; exact Option.some.inj hb'
          have hy := cells_rv (hR.ev y) hgood hR.st.hdr
          have hyl : (a.eval y).cells.size = (σ.ev y).cells.length := by have := hy.1; simpa using this.symm
          have hone := hy.one' hgood hR.st.hdr
          obtain ⟨hi, hxe⟩ := List.getElem?_eq_some_iff.1 hx0
          have hrows : ∀ k, k < cap → k * e'.sz + e'.sz ≤ cur.size := fun k hk => by
            rw [hcs, ← Nat.succ_mul]; exact Nat.mul_le_mul_right _ hk
          have hrun := run_storeT (P := P) (t := t) (off := i * e'.sz + off) hinf hh (by rw [hyl, hlen]) (by have := hrows i (by omega); rw [hyl]; omega) hone
          refine .skip (w' := w.setRow b (putN cur.toList (i * e'.sz + off) (a.eval y).cells.toList).toArray) (by simp [execOp, ho, he, Instr.storeAt, Instr.sureAddr, hrun]) ⟨G, ?_, rfl⟩
          refine hR.write hg hb (by simp) (fun k hk => setRow_other w b k _ hk) rfl rfl rfl (fun hrc hk hm => ?_)
          refine .inr ⟨b, cap, _, ty, hb, by rw [List.length_set]; exact hhd, setRow_heap w b _ _ ty _ hh, by rw [List.length_set]; exact hle, hcm, by simp [length_putN, hcs], fun k hkl => ?_⟩
          rw [List.length_set] at hkl
          obtain ⟨us, hu, hc⟩ := hel k hkl
          by_cases hki : k = i
          · subst hki
            rw [hxe] at hu
            have hpu := ((Ty.acs_rc (G := G) _ hu).putN hy off)
            have hry := Ty.ofAcs_nil hy0 hpu
            refine ⟨_, by simpa using Ty.rp_keep _ hry hk hm, fun j u hj => ?_⟩
            have hul := Ty.rp_len _ hu
            simp only [List.getElem?_toArray]
            rw [getElem?_putN] at hj ⊢
            have hjl : j < e'.sz := by
              split at hj
              · omega
              · have := (List.getElem?_eq_some_iff.1 hj).1; omega
            have hrk := hrows k (by omega)
            by_cases hin : off ≤ j ∧ j - off < (a.eval y).cells.toList.length ∧ j < us.length
            · rw [if_pos hin] at hj
              rw [if_pos ⟨by omega, by omega, by simp; omega⟩]
              rw [show k * e'.sz + j - (k * e'.sz + off) = j - off by omega]
              exact hj
            · rw [if_neg hin] at hj
              rw [if_neg (by intro hn; apply hin; omega)]
              simpa using hc j u hj
          · rw [List.getElem_set_ne (Ne.symm hki)]
            refine ⟨us, Ty.rp_keep _ hu hk hm, fun j u hj => ?_⟩
            have hul := Ty.rp_len _ hu
            have hjl : j < e'.sz := by have := (List.getElem?_eq_some_iff.1 hj).1; omega
            simp only [List.getElem?_toArray]
            rw [getElem?_putN, if_neg]
            · simpa using hc j u hj
            · rintro ⟨g1, g2, _⟩
              simp only [Array.length_toList, hyl] at g2
              rcases Nat.lt_or_gt_of_ne hki with h | h
              · have : (k + 1) * e'.sz ≤ i * e'.sz := Nat.mul_le_mul_right _ h
                rw [Nat.succ_mul] at this
                omega
              · have : (i + 1) * e'.sz ≤ k * e'.sz := Nat.mul_le_mul_right _ h
                rw [Nat.succ_mul] at this
                omega
        · cases hK'
      · cases hK
    · rename_i e' xss k hob
      split at hK
      · rename_i id' j hy
        obtain ⟨hc, hK'⟩ := bif_some hK
        simp only [Bool.and_eq_true, decide_eq_true_eq] at hc
        obtain ⟨⟨hoff, hsz, hid⟩, rfl, rfl⟩ := hc
        obtain ⟨y0, hy0, hK'⟩ := obind_some hK'
        obtain rfl := Nat.eq_of_beq_eq_true hoff
        have hsz := Nat.eq_of_beq_eq_true hsz
        obtain rfl := Nat.eq_of_beq_eq_true hid
        refine ⟨_, _, hK', Fr.setOb _ _ _, fun fr a w G hR => ?_⟩
        have hxa := hR.ev x
        rw [hx] at hxa
        obtain ⟨gh, b, hg, hb, he⟩ := hxa
        rw [hsz, Nat.mul_one, Nat.add_zero] at he
        have hr := hR.st.obOf (h := σ.h) (fun i p hp => ⟨p, hp, rfl⟩) hg (by rw [show (nth σ.h id' (0, .gone)).2 = _ from hob]; simp)
        rw [show (nth σ.h id' (0, .gone)).2 = _ from hob] at hr
        obtain ⟨b', cap, cur, ty, hb', hhd, hh, hle, hcm, hcs, hd1, hd2, hel⟩ := hr
        obtain rfl : b = b' := by rw [hb] at hb'; exact Option.some.inj hb'
        have hyv := hR.ev y
        have hyc := cells_rv hyv hgood hR.st.hdr
        have hone := hyc.one' hgood hR.st.hdr
        rw [hy] at hyv hyc hlen
        obtain ⟨gh', hg', hv, hv1⟩ := hyv
        obtain rfl : gh = gh' := by rw [hg] at hg'; exact Option.some.inj hg'
        have hcl : (a.eval y).cells = #[a.eval y] := by
          generalize a.eval y = V at hv1
          cases V <;> first | rfl | cases hv1
        have hi : i < xss.length := (List.getElem?_eq_some_iff.1 hy0).1
        · have hrun := run_storeT (P := P) (t := t) (off := i) (v := a.eval y) hinf hh (by rw [hcl, ← hlen]; rfl) (by rw [hcl]; simp; omega) hone
          refine .skip (w' := w.setRow b (putN cur.toList i (a.eval y).cells.toList).toArray) (by simp [execOp, ho, he, Instr.storeAt, Instr.sureAddr, hrun]) ⟨G, ?_, rfl⟩
          refine hR.write hg hb (by simp) (fun k hk => setRow_other w b k _ hk) rfl rfl rfl (fun hrc hk hm => ?_)
          refine ⟨b, cap, _, ty, hb, hhd, setRow_heap w b _ _ ty _ hh, hle, hcm, by simp [length_putN, hcs], hd1, hd2, fun k hkl => ⟨(hel k hkl).1.mono hk hm fun b' hb' => setRow_other w b b' _ (hd1 k b' hb'), fun _ => ?_⟩⟩
          simp only [List.getElem?_toArray]
          rw [getElem?_putN, hcl]
          by_cases hki : k = i
          · subst hki
            rw [if_pos ⟨Nat.le_refl _, by simp, by simp; omega⟩]
            simp [hv]
          · rw [if_neg (by simp; omega)]
            simpa using (hel k hkl).2 (by simpa using fun h => hki h.symm)
      · cases hK
    · rename_i e' xs hob
      obtain ⟨hc, hK'⟩ := bif_some hK
      simp only [Bool.and_eq_true] at hc
      obtain ⟨hoff, hcl, hsole, htk⟩ := hc
      obtain rfl := Nat.eq_of_beq_eq_true hoff
      have hcl := Nat.eq_of_beq_eq_true hcl
      obtain ⟨hnd, hso⟩ := takesOk_spec htk
      have hidn : id ∉ ownIdsC (σ.ev y).cells := (List.nodup_cons.1 hnd).1
      split at hK'
      · rename_i ys y0 hys hy0
        obtain ⟨rfl, rfl⟩ := Ty.castL_eq hys
        obtain ⟨x0, hx0, hK''⟩ := obind_some hK'
        refine ⟨_, _, hK'', (Fr.takes _ _).trans (Fr.setOb _ _ _), fun fr a w G hR => ?_⟩
        have hxa := hR.ev x
        rw [hx] at hxa
        obtain ⟨gh, b, hg, hb, he⟩ := hxa
        rw [Nat.add_zero] at he
        have hr := hR.st.obOf (h := σ.h) (fun i p hp => ⟨p, hp, rfl⟩) hg (by rw [show (nth σ.h id (0, .gone)).2 = _ from hob]; simp)
        rw [show (nth σ.h id (0, .gone)).2 = _ from hob] at hr
        obtain ⟨hr, hsep, hsld⟩ := hr
        rcases hr with ⟨h1, _⟩ | ⟨b', cap, cur, ty, hb', hhd, hh, hle, hcm, hcs, hel⟩
        · rw [hb] at h1; cases h1
        obtain rfl : b = b' := by rw [hb] at hb'; exact Option.some.inj hb'
        have hy := cells_rv (hR.ev y) hgood hR.st.hdr
        have hyl : (a.eval y).cells.size = (σ.ev y).cells.length := by have := hy.1; simpa using this.symm
        have hone := hy.one' hgood hR.st.hdr
        obtain ⟨hi, hxe⟩ := List.getElem?_eq_some_iff.1 hx0
        have hrows : ∀ k, k < cap → k * e'.sz + e'.sz ≤ cur.size := fun k hk => by
          rw [hcs, ← Nat.succ_mul]; exact Nat.mul_le_mul_right _ hk
        have hrun := run_storeT (P := P) (t := t) (off := i * e'.sz) hinf hh (by rw [hyl, hlen]) (by have := hrows i (by omega); rw [hyl]; omega) hone
        refine .skip (w' := w.setRow b (putN cur.toList (i * e'.sz) (a.eval y).cells.toList).toArray) (by simp [execOp, ho, he, Instr.storeAt, Instr.sureAddr, hrun]) ?_
        have hrp := sole_rp hR.st rfl (fun k hk => hso k (List.mem_cons_of_mem _ hk)) hsole hy0 hy
        have hin : ∀ b', HasCore σ.h G (ownIdsC (σ.ev y).cells) b' → b' ≠ b ∧ b' < w.heap.size ∧ ¬ gh.has b' := fun b' hcore => by
          obtain ⟨k, hk, gk, hgk, hbk⟩ := hcore.any
          have hno : ¬ gh.has b' := fun hh => hidn (by have := hR.st.inj id k gh gk b' hg hgk hh hbk; rw [this]; exact hk)
          exact ⟨fun e => hno (by rw [e]; exact .inl hb), (hR.st.low k gk b' hgk hbk).2, hno⟩
        let F : Nat → Prop := fun n => (∃ j, gh.inn j = some n) ∨ HasCore σ.h G (ownIdsC (σ.ev y).cells) n
        let gh' : Gh := { gh with inn := fun n => @ite _ (F n) (Classical.propDecidable _) (some n) none }
        have hF : ∀ n b', gh'.inn n = some b' ↔ n = b' ∧ F b' := fun n b' => by
          show (@ite _ (F n) (Classical.propDecidable _) (some n) none) = some b' ↔ _
          split
          · rename_i h; exact ⟨(fun e => by cases e; exact ⟨rfl, h⟩), (fun e => by rw [e.1])⟩
          · rename_i h; exact ⟨(fun e => by cases e), (fun e => absurd (by rw [e.1]; exact e.2) h)⟩
        have hhas : ∀ b', gh'.has b' → gh.has b' ∨ HasAny G (ownIdsC (σ.ev y).cells) b' := fun b' => by
          rintro (h | ⟨n, h⟩)
          · exact .inl (.inl h)
          · rcases ((hF n b').1 h).2 with ⟨j, h⟩ | h
            · exact .inl (.inr ⟨j, h⟩)
            · exact .inr h.any
        have hoth : ∀ k, k ≠ b → (w.setRow b (putN cur.toList (i * e'.sz) (a.eval y).cells.toList).toArray).heap[k]? = w.heap[k]? := fun k hk => setRow_other w b k _ hk
        refine Exists.elim (hR.absorb (ownIdsC (σ.ev y).cells) (gh' := gh') (w' := w.setRow b (putN cur.toList (i * e'.sz) (a.eval y).cells.toList).toArray) (ob := .drow e' (ys.set i y0)) hg hidn ⟨rfl, rfl, rfl, by simp, fun k hk => absurd hk (by simp)⟩
          (fun k _ hk => hoth k (fun e => hk (by rw [e]; exact .inl hb))) (by simp) rfl rfl rfl hhas (fun G' hk hm => ⟨?_, fun b' ⟨n, h1⟩ h2 => ?_, fun b' ⟨n, h1⟩ => ?_⟩) (by intro k l h; cases h)) fun G' hR' => ⟨G', hR', rfl⟩
        · refine .inr ⟨b, cap, _, ty, hb, by rw [List.length_set]; exact hhd, setRow_heap w b _ _ ty _ hh, by rw [List.length_set]; exact hle, hcm, by simp [length_putN, hcs], fun k hkl => ?_⟩
          rw [List.length_set] at hkl
          obtain ⟨us, hu, hc⟩ := hel k hkl
          have hul := Ty.rp_len _ hu
          have hyl' := Ty.rp_len _ hrp
          by_cases hki : k = i
          · subst hki
            refine ⟨(a.eval y).cells.toList, ?_, fun j u hj => ?_⟩
            · rw [List.getElem_set_self]
              exact Ty.rp_keep _ hrp (fun b' hb' => hoth b' (hin b' hb').1) fun b' hb' => ⟨b', (hF b' b').2 ⟨rfl, .inr hb'⟩⟩
            · have hjl : j < e'.sz := by have := (List.getElem?_eq_some_iff.1 hj).1; omega
              have hrk := hrows k (by omega)
              simp only [List.getElem?_toArray]
              rw [getElem?_putN, if_pos ⟨by omega, by omega, by simp; omega⟩, show k * e'.sz + j - (k * e'.sz) = j by omega]
              exact hj
          · rw [List.getElem_set_ne (Ne.symm hki)]
            refine ⟨us, ?_, fun j u hj => ?_⟩
            · exact Ty.rp_keep _ hu (fun b' hb' => hoth b' fun e => hsep b' hb' (by rw [hb, e])) fun b' ⟨j, hj⟩ => ⟨b', (hF b' b').2 ⟨rfl, .inl ⟨j, hj⟩⟩⟩
            · have hjl : j < e'.sz := by have := (List.getElem?_eq_some_iff.1 hj).1; omega
              simp only [List.getElem?_toArray]
              rw [getElem?_putN, if_neg]
              · simpa using hc j u hj
              · rintro ⟨g1, g2, _⟩
                simp only [Array.length_toList, hyl] at g2
                rcases Nat.lt_or_gt_of_ne hki with h | h
                · have : (k + 1) * e'.sz ≤ i * e'.sz := Nat.mul_le_mul_right _ h
                  rw [Nat.succ_mul] at this
                  omega
                · have : (i + 1) * e'.sz ≤ k * e'.sz := Nat.mul_le_mul_right _ h
                  rw [Nat.succ_mul] at this
                  omega
        · rcases ((hF n b').1 h1).2 with ⟨j, h⟩ | h
          · exact hsep b' ⟨j, h⟩ h2
          · have h3 : gh.blk = some b' := h2
            rw [hb] at h3
            exact (hin b' h).1 (Option.some.inj h3).symm
        · rcases ((hF n b').1 h1).2 with ⟨j, h⟩ | h
          · exact (hsld b' ⟨j, h⟩).keep (hoth b' fun e => hsep b' ⟨j, h⟩ (by rw [hb, e]))
          · exact (sole_solid hR.st rfl (fun k hk => hso k (List.mem_cons_of_mem _ hk)) b' h).keep (hoth b' (hin b' h).1)
      · cases hK'
    · cases hK
  · cases hK
end
end Go.Proofs.YtbdokiecpmhjmaaGreatDoor
