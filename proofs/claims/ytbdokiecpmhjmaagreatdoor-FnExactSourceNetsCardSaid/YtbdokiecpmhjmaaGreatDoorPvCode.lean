/- A text's run is what was reckoned on plain data. No condition of its own. -/
import Derived.Test.YtbdokiecpmhjmaaGreatDoorPvOps6
namespace Go.Proofs.YtbdokiecpmhjmaaGreatDoor
set_option linter.unusedSimpArgs false
set_option linter.unusedVariables false
open Go.RowKit

theorem Rel.put {w0 : World} {ok0 : Nat → Prop} {fr : Nat → Value} {σ : Env} {a : Act} {w : World} {G : GM} (hR : Rel w0 ok0 fr σ a w G) {d : Option Nat} {v : AV} {V : Value} (hv : RV w (imm w0 ok0 w G) G v V) : Rel w0 ok0 fr (σ.put d v) (a.put d V) w G := by
  cases d with
  | none => exact hR
  | some n =>
    refine ⟨by simp [Env.put, Act.put, length_setN, hR.len], fun i p u hp hu => ?_, hR.dfs, hR.st, hR.frm⟩
    simp only [Env.put, getElem?_setN] at hp
    simp only [Act.put, Array.getElem?_setIfInBounds] at hu
    by_cases hi : i = n
    · subst hi
      by_cases hlt : i < σ.t.length
      · rw [if_pos ⟨rfl, hlt⟩] at hp
        rw [if_pos rfl, if_pos (by rw [← hR.len]; exact hlt)] at hu
        cases hp; cases hu
        exact hv
      · rw [if_neg (fun h => hlt h.2)] at hp
        rw [List.getElem?_eq_none (by omega)] at hp
        cases hp
    · rw [if_neg (fun h => hi h.1)] at hp
      rw [if_neg (Ne.symm hi)] at hu
      exact hR.tmp i p u hp hu
theorem Rel.refine {w0 : World} {ok0 : Nat → Prop} {fr : Nat → Value} {σ : Env} {a : Act} {w : World} {G : GM} (hR : Rel w0 ok0 fr σ a w G) {n : Nat} {b c : Bool} (h : (nth σ.t n (0, .one .bad)).2 = .one (.bool b)) (e : b = c) : Rel w0 ok0 fr (σ.refine (.tmp n) c) a w G := by
  subst e
  refine ⟨by simp [Env.refine, length_setN, hR.len], fun i p u hp hu => ?_, hR.dfs, hR.st, hR.frm⟩
  simp only [Env.refine, getElem?_setN] at hp
  split at hp
  · rename_i hi
    obtain ⟨rfl, hlt⟩ := hi
    cases hp
    have h1 : σ.t[i]? = some σ.t[i] := List.getElem?_eq_getElem hlt
    have := hR.tmp i _ u h1 hu
    rw [nth_eq, h1] at h
    simp only [Option.getD_some] at h
    rw [h] at this
    exact this
  · exact hR.tmp i p u hp hu
theorem Env.refine_other {σ : Env} {x : Operand} {b : Bool} (h : ∀ n, x ≠ .tmp n) : σ.refine x b = σ := by
  cases x <;> first | rfl | exact absurd rfl (h _)

section
variable {ρ : Type} {P : Program} {C : Ctx} {Pre : World → Prop} {w0 : World} {ok0 : Nat → Prop} {fr : Nat → Value}

/-- What is asked of the place. -/
structure Place (P : Program) (C : Ctx) (Pre : World → Prop) (w0 : World) (ok0 : Nat → Prop) : Prop where
  calls : ∀ f k S, C.fns.find f k = some S → Sound P Pre f S ∧ Callable P f
  pre : ∀ w, Ext w0 w → Pre w
  low : ∀ b, ok0 b → b < w0.heap.size
  tabs : ∀ w, Ext w0 w → TabsAt C.tabs w

/-- What is gone through in place is what the functions do. -/
def InlOk (P : Program) (w0 : World) (ok0 : Nat → Prop) (I : Inl ρ) : Prop :=
  ∀ (f : FuncId) (vs : List AV) (σ : Env) (K : AV → Env → Option ρ) (r : ρ), I f vs σ K = some r → ∃ v σ', K v σ' = some r ∧ Fr σ σ' ∧ Callable P f ∧
    ∀ (fr : Nat → Value) (a : Act) (w : World) (G : GM) (Vs : List Value), Rel w0 ok0 fr σ a w G → Vs.length = vs.length → (∀ (i : Nat) (p : AV) (V : Value), vs[i]? = some p → Vs[i]? = some V → RV w (imm w0 ok0 w G) G p V) →
      Calls P f Vs.toArray w (fun e w' => ∃ V, e = .returned V ∧ ∃ G', Rel w0 ok0 fr σ' a w' G' ∧ RV w' (imm w0 ok0 w' G') G' v V)
theorem inlOk_none : InlOk (ρ := ρ) P w0 ok0 noInl := fun f vs σ K r h => by cases h
theorem goes_stable (hp : Place P C Pre w0 ok0) {σ : Env} {o : Oper} {K : AV → Env → Option ρ} {r : ρ} (hs : stableB o = true) (hK : opK P C noInl σ o K = some r) : Goes P w0 ok0 σ o K r := by
  cases ho : o.op with
  | move x => exact go_move ho hK
  | assign x => exact go_assign ho hK
  | pick c x y => exact go_pick ho hK
  | alloc t => exact go_alloc ho hK
  | box t x => exact go_box ho hK
  | build t parts => exact go_build ho hK
  | buildSlice t n parts => exact go_buildSlice ho hK
  | load t x => exact go_load hp.tabs ho hK
  | store t x y => simp [stableB, ho] at hs
  | nilCheck x => exact go_nilCheck ho hK
  | binOp op t x y u => exact go_binOp ho hK
  | unOp op t x => exact go_unOp ho hK
  | convert s d x => exact go_convert ho hK
  | makeSlice t l c => exact go_makeSlice ho hK
  | fieldAddr s x f => exact go_fieldAddr ho hK
  | field s x f => exact go_field ho hK
  | indexAddr t x i => exact go_indexAddr ho hK
  | index t x i => exact go_index ho hK
  | extract x i => exact go_extract ho hK
  | slice t x lo hi mx => exact go_slice ho hK
  | makeFunc fn first caps => exact go_makeFunc ho hK
  | call c =>
    obtain ⟨callee, args, ts⟩ := c
    cases callee with
    | value f => exact (go_call hp.calls hp.pre hp.low ho hK).resolve_right (fun ⟨g, cs, h, _⟩ => by cases h)
    | invoke x m => simp [opK, ho] at hK
    | builtin b =>
      cases b <;> first
        | exact go_len ho hK
        | exact go_min ho hK
        | exact go_max ho hK
        | (simp [stableB, ho] at hs; done)
        | (simp [opK, ho] at hK; done)
  | _ => simp [opK, ho] at hK
theorem goes_seq {σ : Env} {o : Oper} {K : AV → Env → Option ρ} {r : ρ} (h : Goes P w0 ok0 σ o K r) : ∃ v σ', K v σ' = some r ∧ Fr σ σ' ∧ SeqS P w0 ok0 σ σ' o v := by
  obtain ⟨v, D, h1, h2⟩ := h
  exact ⟨v, _, h1, Fr.newObs σ D, h2.seq⟩
theorem op_seq (hp : Place P C Pre w0 ok0) {I : Inl ρ} (hI : InlOk P w0 ok0 I) {σ : Env} {o : Oper} {K : AV → Env → Option ρ} {r : ρ} (hK : opK P C I σ o K = some r) : ∃ v σ', K v σ' = some r ∧ Fr σ σ' ∧ SeqS P w0 ok0 σ σ' o v := by
  cases ho : o.op with
  | move x => exact goes_seq (go_move ho hK)
  | assign x => exact goes_seq (go_assign ho hK)
  | pick c x y => exact goes_seq (go_pick ho hK)
  | alloc t => exact goes_seq (go_alloc ho hK)
  | box t x => exact goes_seq (go_box ho hK)
  | build t parts => exact goes_seq (go_build ho hK)
  | buildSlice t n parts => exact goes_seq (go_buildSlice ho hK)
  | load t x => exact goes_seq (go_load hp.tabs ho hK)
  | store t x y => exact store_seq ho hK
  | nilCheck x => exact goes_seq (go_nilCheck ho hK)
  | binOp op t x y u => exact goes_seq (go_binOp ho hK)
  | unOp op t x => exact goes_seq (go_unOp ho hK)
  | convert s d x => exact goes_seq (go_convert ho hK)
  | makeSlice t l c => exact goes_seq (go_makeSlice ho hK)
  | fieldAddr s x f => exact goes_seq (go_fieldAddr ho hK)
  | field s x f => exact goes_seq (go_field ho hK)
  | indexAddr t x i => exact goes_seq (go_indexAddr ho hK)
  | index t x i => exact goes_seq (go_index ho hK)
  | extract x i => exact goes_seq (go_extract ho hK)
  | slice t x lo hi mx => exact goes_seq (go_slice ho hK)
  | makeFunc fn first caps => exact goes_seq (go_makeFunc ho hK)
  | call c =>
    obtain ⟨callee, args, ts⟩ := c
    cases callee with
    | value f =>
      rcases go_call hp.calls hp.pre hp.low ho hK with h | ⟨g, cs, hg, hclo⟩
      · exact goes_seq h
      · obtain ⟨v, σ', h1, h2, ⟨fn, hfn, hbody, hname⟩, h3⟩ := hI g _ σ K r hg
        refine ⟨v, σ', h1, h2, fun fr a w G hR => ?_⟩
        obtain ⟨us, he, hus⟩ := hclo w (imm w0 ok0 w G) G a (hR.ev f)
        have hrun : (execOp a.eval o).run P w = .ok (.enter g (args.map a.eval ++ us.toArray)) w := by
          simp only [execOp, ho, resolve, he, Deferred.ofValue]
          have hname' : fn.name ≠ "runtime.NumGoroutine" := by simpa using hname
          have hbody' : fn.body ≠ none := by intro h; simp [h] at hbody
          simp [invoke, callFunc, hfn, hbody', hname']
        have hl : (args.toList.map a.eval ++ us).toArray = args.map a.eval ++ us.toArray := by
          apply Array.ext'; simp
        refine .enter hrun ?_
        rw [← hl]
        refine (h3 fr a w G (args.toList.map a.eval ++ us) hR (by simp [hus.1]) fun i p V hp hV => ?_).mono fun e w' ⟨V, hV, G', h4, h5⟩ => ⟨V, hV, G', h4, h5⟩
        rw [List.getElem?_append] at hp hV
        simp only [List.length_map] at hp hV
        split at hp
        · rename_i hi
          rw [if_pos hi] at hV
          rw [List.getElem?_map] at hp hV
          obtain ⟨x, hx, rfl⟩ := Option.map_eq_some_iff.1 hp
          rw [hx] at hV
          cases hV
          exact hR.ev x
        · rename_i hi
          rw [if_neg hi] at hV
          rw [List.getElem?_map] at hp
          obtain ⟨c, hc, rfl⟩ := Option.map_eq_some_iff.1 hp
          exact hus.2 _ c V hc hV
    | invoke x m => simp [opK, ho] at hK
    | builtin b =>
      cases b <;> first
        | exact goes_seq (go_len ho hK)
        | exact goes_seq (go_min ho hK)
        | exact goes_seq (go_max ho hK)
        | exact append_seq ho hK
        | exact clear_seq ho hK
        | (simp [opK, ho] at hK; done)
  | _ => simp [opK, ho] at hK

theorem yielded_of {ops : Array Oper} {j d : Nat} (h : guardTmp ops.toList j = some d) (tmps : Array Value) : yielded ops tmps j = match tmps[d]? with | some (.bool b) => some b | _ => none := by
  unfold guardTmp at h
  split at h
  · rename_i o ho
    have : ops[j]? = some o := by simpa using ho
    simp only [yielded, this, Option.bind_some, h]
    cases tmps[d]? with
    | none => rfl
    | some v => cases v <;> rfl
  · cases h

end
end Go.Proofs.YtbdokiecpmhjmaaGreatDoor
