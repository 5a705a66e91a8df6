/- The operations that write: stores and append. No condition of its own. -/
import Derived.Test.YtkkbkhlpbmhchabGreatDoorPvOps4
namespace Go.Proofs.YtkkbkhlpbmhchabGreatDoor
set_option linter.unusedSimpArgs false
set_option linter.unusedVariables false
open Go.RowKit

section
variable {ρ : Type} {P : Program} {C : Ctx} {I : Inl ρ} {w0 : World} {ok0 : Nat → Prop} {fr : Nat → Value} {σ : Env} {o : Oper} {K : AV → Env → Option ρ} {r : ρ}

/-- What has the same number is the same. -/
structure Fr (σ σ' : Env) : Prop where
  tl : σ'.t.length = σ.t.length
  hl : σ.h.length ≤ σ'.h.length
  t : ∀ (i : Nat) (p p' : Nat × AV), σ.t[i]? = some p → σ'.t[i]? = some p' → p.1 ≤ p'.1 ∧ (p'.1 = p.1 → p' = p)
  h : ∀ (i : Nat) (p p' : Nat × Ob), σ.h[i]? = some p → σ'.h[i]? = some p' → p.1 ≤ p'.1 ∧ (p'.1 = p.1 → p' = p)
theorem Fr.refl (σ : Env) : Fr σ σ := ⟨rfl, Nat.le_refl _, fun i p p' h h' => by rw [h] at h'; cases h'; exact ⟨Nat.le_refl _, fun _ => rfl⟩, fun i p p' h h' => by rw [h] at h'; cases h'; exact ⟨Nat.le_refl _, fun _ => rfl⟩⟩
theorem Fr.trans {a b c : Env} (h : Fr a b) (k : Fr b c) : Fr a c := by
  refine ⟨k.tl.trans h.tl, Nat.le_trans h.hl k.hl, fun i p p' hp hp' => ?_, fun i p p' hp hp' => ?_⟩
  · have hlt : i < b.t.length := by rw [h.tl]; exact (List.getElem?_eq_some_iff.1 hp).1
    obtain ⟨h1, h2⟩ := h.t i p _ hp (List.getElem?_eq_getElem hlt)
    obtain ⟨k1, k2⟩ := k.t i _ p' (List.getElem?_eq_getElem hlt) hp'
    exact ⟨Nat.le_trans h1 k1, fun e => by rw [k2 (by omega)]; exact h2 (by omega)⟩
  · have hlt : i < b.h.length := Nat.lt_of_lt_of_le (List.getElem?_eq_some_iff.1 hp).1 h.hl
    obtain ⟨h1, h2⟩ := h.h i p _ hp (List.getElem?_eq_getElem hlt)
    obtain ⟨k1, k2⟩ := k.h i _ p' (List.getElem?_eq_getElem hlt) hp'
    exact ⟨Nat.le_trans h1 k1, fun e => by rw [k2 (by omega)]; exact h2 (by omega)⟩
theorem fr_setN {α : Type} {l : List (Nat × α)} {n : Nat} {v : α} {d : Nat × α} {i : Nat} {p p' : Nat × α} (hp : l[i]? = some p) (hp' : (setN l n ((nth l n d).1 + 1, v))[i]? = some p') : p.1 ≤ p'.1 ∧ (p'.1 = p.1 → p' = p) := by
  rw [getElem?_setN] at hp'
  split at hp'
  · rename_i h
    obtain ⟨rfl, _⟩ := h
    cases hp'
    rw [nth_eq, hp]
    exact ⟨Nat.le_succ _, fun e => by simp at e⟩
  · rw [hp] at hp'; cases hp'; exact ⟨Nat.le_refl _, fun _ => rfl⟩
theorem fr_same {α : Type} {l : List (Nat × α)} {i : Nat} {p p' : Nat × α} (hp : l[i]? = some p) (hp' : l[i]? = some p') : p.1 ≤ p'.1 ∧ (p'.1 = p.1 → p' = p) := by
  rw [hp] at hp'; cases hp'; exact ⟨Nat.le_refl _, fun _ => rfl⟩
theorem Fr.put (σ : Env) (d : Option Nat) (v : AV) : Fr σ (σ.put d v) := by
  cases d with
  | none => exact Fr.refl σ
  | some n => exact ⟨length_setN _ _ _, Nat.le_refl _, fun i p p' hp hp' => fr_setN hp hp', fun i p p' hp hp' => fr_same hp hp'⟩
theorem Fr.setOb (σ : Env) (id : Nat) (ob : Ob) : Fr σ (σ.setOb id ob) :=
  ⟨rfl, by simp [Env.setOb, length_setN], fun i p p' hp hp' => fr_same hp hp', fun i p p' hp hp' => fr_setN hp hp'⟩
theorem Fr.newObs (σ : Env) (D : List (Nat × Ob)) : Fr σ { σ with h := σ.h ++ D } :=
  ⟨rfl, by simp, fun i p p' hp hp' => fr_same hp hp', fun i p p' hp hp' => by
    simp only at hp'
    rw [List.getElem?_append_left (List.getElem?_eq_some_iff.1 hp).1] at hp'
    exact fr_same hp hp'⟩
theorem Fr.kill (σ : Env) (id : Nat) : Fr σ (σ.kill id) := by
  refine ⟨by simp [Env.kill], by simp [Env.kill], fun i p p' hp hp' => ?_, fun i p p' hp hp' => ?_⟩
  · simp only [Env.kill, List.getElem?_map, hp, Option.map_some, Option.some.injEq] at hp'
    subst hp'
    cases p.2.anyC (AC.has id)
    · exact ⟨Nat.le_refl _, fun _ => rfl⟩
    · exact ⟨Nat.le_succ _, fun e => by simp at e⟩
  · simp only [Env.kill, List.getElem?_map, hp, Option.map_some, Option.some.injEq] at hp'
    subst hp'
    cases p.2.anyC (AC.has id)
    · exact ⟨Nat.le_refl _, fun _ => rfl⟩
    · exact ⟨Nat.le_succ _, fun e => by simp at e⟩
theorem Fr.refine {σ : Env} {n : Nat} {b c : Bool} (h : (nth σ.t n (0, .one .bad)).2 = .one (.bool b)) (e : b = c) : Fr σ (σ.refine (.tmp n) c) := by
  subst e
  refine ⟨length_setN _ _ _, Nat.le_refl _, fun i p p' hp hp' => ?_, fun i p p' hp hp' => fr_same hp hp'⟩
  simp only [Env.refine, getElem?_setN] at hp'
  split at hp'
  · rename_i hi
    obtain ⟨rfl, _⟩ := hi
    rw [nth_eq, hp] at hp' h
    cases hp'
    exact ⟨Nat.le_refl _, fun _ => by obtain ⟨p1, p2⟩ := p; simp at h; rw [h]; rfl⟩
  · exact fr_same hp hp'

/-- One operation, in the text's order. -/
def SeqS (P : Program) (w0 : World) (ok0 : Nat → Prop) (σ σ' : Env) (o : Oper) (v : AV) : Prop :=
  ∀ (fr : Nat → Value) (a : Act) (w : World) (G : GM), Rel w0 ok0 fr σ a w G → Yields P o a w (fun V w' => ∃ G', Rel w0 ok0 fr σ' a w' G' ∧ RV w' (imm w0 ok0 w' G') G' v V)

theorem Stable.seq {D : List (Nat × Ob)} {v : AV} (h : Stable P w0 ok0 σ D o v) : SeqS P w0 ok0 σ { σ with h := σ.h ++ D } o v := by
  intro fr a w G hR
  have hst : St w0 ok0 (σ.h ++ D) w G := by
    refine ⟨fun id gh hg => ?_, hR.st.inj, hR.st.low, hR.st.ext⟩
    obtain ⟨p, hp, ho⟩ := hR.st.ob id gh hg
    exact ⟨p, by rw [List.getElem?_append_left (List.getElem?_eq_some_iff.1 hp).1]; exact hp, ho⟩
  refine (h.2 (σ.h ++ D) w G a (fun i p hp => ⟨p, hp, rfl⟩) hst (fun x _ => hR.ev x) (fun id h1 _ => ?_)).mono fun V w' ⟨G', h1, h2, h3, h4⟩ => ⟨G', ⟨hR.len, fun i p v hp hv => (hR.tmp i p v hp hv).later h2, hR.dfs, h1, (hR.frm.append h.1).later h2⟩, h4⟩
  cases hg : G id with
  | none => rfl
  | some gh =>
    obtain ⟨p, hp, _⟩ := hR.st.ob id gh hg
    have := (List.getElem?_eq_some_iff.1 hp).1
    omega

theorem putN_eq {α : Type} : ∀ (bs l : List α) (o : Nat), o + bs.length ≤ l.length → putN l o bs = l.take o ++ bs ++ l.drop (o + bs.length)
  | [], l, o, _ => by rw [putN_nil]; simp
  | b :: bs, l, o, h => by
    simp only [List.length_cons] at h
    rw [putN_cons, putN_eq bs _ _ (by rw [length_setN]; omega)]
    have h1 : setN l o b = l.take o ++ b :: l.drop (o + 1) := by
      apply List.ext_getElem?
      intro i
      rw [getElem?_setN, List.getElem?_append]
      simp only [List.length_take, List.getElem?_take]
      have hmin : min o l.length = o := by omega
      rw [hmin]
      by_cases h2 : i = o
      · subst h2; rw [if_pos ⟨rfl, by omega⟩, if_neg (by omega)]; simp
      · rw [if_neg (by intro h; exact h2 h.1)]
        by_cases h3 : i < o
        · rw [if_pos h3, if_pos h3]
        · rw [if_neg h3]
          obtain ⟨k, hk⟩ : ∃ k, i - o = k + 1 := ⟨i - o - 1, by omega⟩
          rw [hk, List.getElem?_cons_succ, List.getElem?_drop]
          congr 1; omega
    rw [h1]
    have hlt : (l.take o).length = o := by rw [List.length_take]; omega
    rw [List.take_append, List.drop_append, hlt]
    have e1 : o + 1 - o = 1 := by omega
    have e2 : o + 1 + bs.length - o = bs.length + 1 := by omega
    rw [e1, e2, List.take_of_length_le (l := l.take o) (by omega), List.drop_eq_nil_of_le (as := l.take o) (by omega)]
    simp only [List.take_succ_cons, List.take_zero, List.drop_succ_cons, List.drop_drop, List.append_assoc, List.cons_append, List.nil_append, List.length_cons]
    congr 4
    omega

theorem getElem?_putN {α : Type} : ∀ (bs l : List α) (o k : Nat), (putN l o bs)[k]? = if o ≤ k ∧ k - o < bs.length ∧ k < l.length then bs[k - o]? else l[k]?
  | [], l, o, k => by rw [putN_nil, if_neg (by simp)]
  | b :: bs, l, o, k => by
    rw [putN_cons, getElem?_putN bs, length_setN, getElem?_setN]
    by_cases h1 : k = o
    · subst h1
      rw [if_neg (by omega)]
      by_cases h2 : k < l.length
      · rw [if_pos ⟨rfl, h2⟩, if_pos ⟨Nat.le_refl _, by simp, h2⟩]; simp
      · rw [if_neg (by intro h; exact h2 h.2), if_neg (by intro h; exact h2 h.2.2)]
    · by_cases h2 : o + 1 ≤ k
      · by_cases h3 : k - (o + 1) < bs.length ∧ k < l.length
        · rw [if_pos ⟨h2, h3.1, h3.2⟩, if_pos ⟨by omega, by simp; omega, h3.2⟩, show k - o = (k - (o + 1)) + 1 by omega, List.getElem?_cons_succ]
        · rw [if_neg (by intro h; exact h3 h.2), if_neg (by intro h; exact h1 h.1), if_neg (by intro h; apply h3; have := h.2.1; simp only [List.length_cons] at this; exact ⟨by omega, h.2.2⟩)]
      · rw [if_neg (by intro h; exact h2 h.1), if_neg (by intro h; exact h1 h.1), if_neg (by intro h; have := h.1; omega)]

/-- A block of the call's own is written. -/
theorem Rel.write {a : Act} {w w' : World} {G : GM} (hR : Rel w0 ok0 fr σ a w G) {id : Nat} {gh : Gh} {b : Nat} (hg : G id = some gh) (hb : gh.blk = some b) {ob : Ob}
    (hsz : w'.heap.size = w.heap.size) (hbl : ∀ k, k ≠ b → w'.heap[k]? = w.heap[k]?) (hos : w'.os = w.os) (htp : w'.tape = w.tape) (hou : w'.output = w.output)
    (ho : (∀ {c v}, RC w (imm w0 ok0 w G) G c v → RC w' (imm w0 ok0 w' G) G c v) → (∀ b', imm w0 ok0 w G b' → w'.heap[b']? = w.heap[b']?) → (∀ b', imm w0 ok0 w G b' → imm w0 ok0 w' G b') → ObR w' (imm w0 ok0 w' G) G gh ob) (hnf : ∀ k l, ob ≠ .frame k l := by intro k l h; cases h) : Rel w0 ok0 fr (σ.setOb id ob) a w' G := by
  have hk : ∀ b', imm w0 ok0 w G b' → w'.heap[b']? = w.heap[b']? := fun b' hi => hbl b' (fun e => hi.2.2 id gh hg (.inl (by rw [hb, e])))
  have hm : ∀ b', imm w0 ok0 w G b' → imm w0 ok0 w' G b' := fun b' hi => ⟨hi.1, by rw [hsz]; exact hi.2.1, hi.2.2⟩
  have hlow := hR.st.low id gh b hg (.inl hb)
  refine ⟨hR.len, fun i p v hp hv => (hR.tmp i p v hp hv).mono hk hm (fun _ _ h => h), hR.dfs, ⟨fun i g hgi => ?_, hR.st.inj, fun i g b' h1 h2 => by rw [hsz]; exact hR.st.low i g b' h1 h2, ?_⟩, hR.frm.setN hnf⟩
  · obtain ⟨p, hp, hob⟩ := hR.st.ob i g hgi
    simp only [Env.setOb, getElem?_setN]
    by_cases hi : i = id
    · subst hi
      rw [hgi] at hg
      cases hg
      rw [if_pos ⟨rfl, (List.getElem?_eq_some_iff.1 hp).1⟩]
      exact ⟨_, rfl, ho (fun h => h.mono hk hm (fun _ _ _ h => h)) hk hm⟩
    · rw [if_neg (fun h => hi h.1)]
      refine ⟨p, hp, hob.mono hk hm (fun b' hb' => hbl b' (fun e => hi (hR.st.inj i id g gh b' hgi hg hb' (.inl (by rw [hb, e]))))) (fun _ _ h => h)⟩
  · have hext := hR.st.ext
    refine Below.trans hext ⟨hos, htp, hou, by omega, fun k hk' => hbl k (by omega)⟩

theorem run_storeT {t : TypeId} {w : World} {b off : Nat} {cur : Array Value} {ty : TypeId} {v : Value} (hi : (P.info? t).isSome = true) (hh : w.heap[b]? = some (.cells cur ty (0, 0))) (hsz : v.cells.size = sizeT P t)
    (hfit : off + v.cells.size ≤ cur.size) (h1 : ∀ u ∈ v.cells.toList, u.oneCell' = true) :
    (storeVar t ⟨b, off, none⟩ v).run P w = .ok () (w.setRow b (putN cur.toList off v.cells.toList).toArray) := by
  have := run_storeCells_at P b off ty v.cells.toList 0 cur w hh (by simpa using hfit) h1
  obtain ⟨inf, hinf⟩ := Option.isSome_iff_exists.1 hi
  simp only [Nat.add_zero] at this
  have hs : inf.size = sizeT P t := by simp [sizeT, hinf]
  rw [putN_eq _ _ _ (by simpa using hfit)]
  simp [storeVar, sizeOf, typeInfo, hinf, hs, hsz, this]

theorem store_seq {t : TypeId} {x y : Operand} (ho : o.op = .store t x y) (hK : opK P C I σ o K = some r) : ∃ v σ', K v σ' = some r ∧ Fr σ σ' ∧ SeqS P w0 ok0 σ σ' o v := by
  simp only [opK, ho] at hK
  obtain ⟨hc, hK⟩ := bif_some hK
  simp only [Bool.and_eq_true] at hc
  obtain ⟨hgood, hlen, hinf⟩ := hc
  have hlen := Nat.eq_of_beq_eq_true hlen
  split at hK
  · rename_i id off hx
    split at hK
    · rename_i cs hob
      obtain ⟨hfit, hK'⟩ := bif_some hK
      have hfit : off + (σ.ev y).cells.length ≤ cs.length := by simpa using hfit
      refine ⟨_, _, hK', Fr.setOb _ _ _, fun fr a w G hR => ?_⟩
      have hxa := hR.ev x
      rw [hx] at hxa
      obtain ⟨gh, b, hg, hb, he⟩ := hxa
      have hr := hR.st.obOf (h := σ.h) (fun i p hp => ⟨p, hp, rfl⟩) hg (by rw [show (nth σ.h id (0, .gone)).2 = _ from hob]; simp)
      rw [show (nth σ.h id (0, .gone)).2 = _ from hob] at hr
      obtain ⟨b', us, ty, hb', hhd, hh, hr⟩ := hr
      obtain rfl : b = b' := by rw [hb] at hb'; exact Option.some.inj hb'
      have hy := cells_rv (hR.ev y) hgood hR.st.hdr
      have hyl : (a.eval y).cells.size = (σ.ev y).cells.length := by have := hy.1; simpa using this.symm
      have hone := hy.one' hgood hR.st.hdr
      have hrun := run_storeT (P := P) (t := t) (off := off) hinf hh (by rw [hyl, hlen]) (by rw [hyl, List.size_toArray, ← hr.1]; exact hfit) hone
      refine .skip (w' := w.setRow b (putN us off (a.eval y).cells.toList).toArray) (by simp [execOp, ho, he, Instr.storeAt, Instr.sureAddr, hrun]) ⟨G, ?_, rfl⟩
      refine hR.write hg hb (by simp) (fun k hk => setRow_other w b k _ hk) rfl rfl rfl (fun hrc _ _ => ?_)
      refine ⟨b, _, ty, hb, hhd, setRow_heap w b _ _ ty _ hh, ?_⟩
      exact RCs.putN ⟨hr.1, fun i c v h1 h2 => hrc (hr.2 i c v h1 h2)⟩ ⟨hy.1, fun i c v h1 h2 => hrc (hy.2 i c v h1 h2)⟩ off
    · cases hK
  · rename_i id e i off hx
    split at hK
    · rename_i e' xs hob
      split at hK
      · rename_i ys hys
        obtain ⟨rfl, rfl⟩ := Ty.castL_eq hys
        obtain ⟨x0, hx0, hK'⟩ := obind_some hK
        split at hK'
        · rename_i y0 hy0
          obtain ⟨hfit, hK''⟩ := bif_some hK'
          have hfit : off + (σ.ev y).cells.length ≤ e'.sz := by simpa using hfit
          refine ⟨_, _, hK'', Fr.setOb _ _ _, fun fr a w G hR => ?_⟩
          have hxa := hR.ev x
          rw [hx] at hxa
          obtain ⟨gh, b, hg, hb, he⟩ := hxa
          have hr := hR.st.obOf (h := σ.h) (fun i p hp => ⟨p, hp, rfl⟩) hg (by rw [show (nth σ.h id (0, .gone)).2 = _ from hob]; simp)
          rw [show (nth σ.h id (0, .gone)).2 = _ from hob] at hr
          rcases hr with ⟨h1, _⟩ | ⟨b', cap, cur, ty, hb', hhd, hh, hle, hcm, hcs, hel⟩
          · rw [hb] at h1; cases h1
          obtain rfl : b = b' := by rw [hb] at hb'; exact Option.some.inj hb'
          have hy := cells_rv (hR.ev y) hgood hR.st.hdr
          have hyl : (a.eval y).cells.size = (σ.ev y).cells.length := by have := hy.1; simpa using this.symm
          have hone := hy.one' hgood hR.st.hdr
          obtain ⟨hi, hxe⟩ := List.getElem?_eq_some_iff.1 hx0
          have hrows : ∀ k, k < cap → k * e'.sz + e'.sz ≤ cur.size := fun k hk => by
            rw [hcs, ← Nat.succ_mul]; exact Nat.mul_le_mul_right _ hk
          have hrun := run_storeT (P := P) (t := t) (off := i * e'.sz + off) hinf hh (by rw [hyl, hlen]) (by have := hrows i (by omega); rw [hyl]; omega) hone
          refine .skip (w' := w.setRow b (putN cur.toList (i * e'.sz + off) (a.eval y).cells.toList).toArray) (by simp [execOp, ho, he, Instr.storeAt, Instr.sureAddr, hrun]) ⟨G, ?_, rfl⟩
          refine hR.write hg hb (by simp) (fun k hk => setRow_other w b k _ hk) rfl rfl rfl (fun hrc hk hm => ?_)
          refine .inr ⟨b, cap, _, ty, hb, by rw [List.length_set]; exact hhd, setRow_heap w b _ _ ty _ hh, by rw [List.length_set]; exact hle, hcm, by simp [length_putN, hcs], fun k hkl => ?_⟩
          rw [List.length_set] at hkl
          obtain ⟨us, hu, hc⟩ := hel k hkl
          by_cases hki : k = i
          · subst hki
            rw [hxe] at hu
            have hpu := ((Ty.acs_rc (G := G) _ hu).putN hy off)
            have hry := Ty.ofAcs_nil hy0 hpu
            refine ⟨_, by simpa using Ty.rp_keep _ hry hk hm, fun j u hj => ?_⟩
            have hul := Ty.rp_len _ hu
            simp only [List.getElem?_toArray]
            rw [getElem?_putN] at hj ⊢
            have hjl : j < e'.sz := by
              split at hj
              · omega
              · have := (List.getElem?_eq_some_iff.1 hj).1; omega
            have hrk := hrows k (by omega)
            by_cases hin : off ≤ j ∧ j - off < (a.eval y).cells.toList.length ∧ j < us.length
            · rw [if_pos hin] at hj
              rw [if_pos ⟨by omega, by omega, by simp; omega⟩]
              rw [show k * e'.sz + j - (k * e'.sz + off) = j - off by omega]
              exact hj
            · rw [if_neg hin] at hj
              rw [if_neg (by intro hn; apply hin; omega)]
              simpa using hc j u hj
          · rw [List.getElem_set_ne (Ne.symm hki)]
            refine ⟨us, Ty.rp_keep _ hu hk hm, fun j u hj => ?_⟩
            have hul := Ty.rp_len _ hu
            have hjl : j < e'.sz := by have := (List.getElem?_eq_some_iff.1 hj).1; omega
            simp only [List.getElem?_toArray]
            rw [getElem?_putN, if_neg]
            · simpa using hc j u hj
            · rintro ⟨g1, g2, _⟩
              simp only [Array.length_toList, hyl] at g2
              rcases Nat.lt_or_gt_of_ne hki with h | h
              · have : (k + 1) * e'.sz ≤ i * e'.sz := Nat.mul_le_mul_right _ h
                rw [Nat.succ_mul] at this
                omega
              · have : (i + 1) * e'.sz ≤ k * e'.sz := Nat.mul_le_mul_right _ h
                rw [Nat.succ_mul] at this
                omega
        · cases hK'
      · cases hK
    · rename_i e' xss k hob
      split at hK
      · rename_i id' j hy
        obtain ⟨hc, hK'⟩ := bif_some hK
        simp only [Bool.and_eq_true, decide_eq_true_eq] at hc
        obtain ⟨⟨hoff, hsz, hid⟩, rfl, rfl⟩ := hc
        obtain ⟨y0, hy0, hK'⟩ := obind_some hK'
        obtain rfl := Nat.eq_of_beq_eq_true hoff
        have hsz := Nat.eq_of_beq_eq_true hsz
        obtain rfl := Nat.eq_of_beq_eq_true hid
        refine ⟨_, _, hK', Fr.setOb _ _ _, fun fr a w G hR => ?_⟩
        have hxa := hR.ev x
        rw [hx] at hxa
        obtain ⟨gh, b, hg, hb, he⟩ := hxa
        rw [hsz, Nat.mul_one, Nat.add_zero] at he
        have hr := hR.st.obOf (h := σ.h) (fun i p hp => ⟨p, hp, rfl⟩) hg (by rw [show (nth σ.h id' (0, .gone)).2 = _ from hob]; simp)
        rw [show (nth σ.h id' (0, .gone)).2 = _ from hob] at hr
        obtain ⟨b', cap, cur, ty, hb', hhd, hh, hle, hcm, hcs, hd1, hd2, hel⟩ := hr
        obtain rfl : b = b' := by rw [hb] at hb'; exact Option.some.inj hb'
        have hyv := hR.ev y
        have hyc := cells_rv hyv hgood hR.st.hdr
        have hone := hyc.one' hgood hR.st.hdr
        rw [hy] at hyv hyc hlen
        obtain ⟨gh', hg', hv, hv1⟩ := hyv
        obtain rfl : gh = gh' := by rw [hg] at hg'; exact Option.some.inj hg'
        have hcl : (a.eval y).cells = #[a.eval y] := by
          generalize a.eval y = V at hv1
          cases V <;> first | rfl | cases hv1
        have hi : i < xss.length := (List.getElem?_eq_some_iff.1 hy0).1
        · have hrun := run_storeT (P := P) (t := t) (off := i) (v := a.eval y) hinf hh (by rw [hcl, ← hlen]; rfl) (by rw [hcl]; simp; omega) hone
          refine .skip (w' := w.setRow b (putN cur.toList i (a.eval y).cells.toList).toArray) (by simp [execOp, ho, he, Instr.storeAt, Instr.sureAddr, hrun]) ⟨G, ?_, rfl⟩
          refine hR.write hg hb (by simp) (fun k hk => setRow_other w b k _ hk) rfl rfl rfl (fun hrc hk hm => ?_)
          refine ⟨b, cap, _, ty, hb, hhd, setRow_heap w b _ _ ty _ hh, hle, hcm, by simp [length_putN, hcs], hd1, hd2, fun k hkl => ⟨(hel k hkl).1.mono hk hm fun b' hb' => setRow_other w b b' _ (hd1 k b' hb'), fun _ => ?_⟩⟩
          simp only [List.getElem?_toArray]
          rw [getElem?_putN, hcl]
          by_cases hki : k = i
          · subst hki
            rw [if_pos ⟨Nat.le_refl _, by simp, by simp; omega⟩]
            simp [hv]
          · rw [if_neg (by simp; omega)]
            simpa using (hel k hkl).2 (by simpa using fun h => hki h.symm)
      · cases hK
    · cases hK
  · cases hK
end
end Go.Proofs.YtkkbkhlpbmhchabGreatDoor
