/- A text's run is what was reckoned on plain data. No condition of its own. -/
import Derived.Test.YtkkbkhlpbmhchabGreatDoorPvOps6
namespace Go.Proofs.YtkkbkhlpbmhchabGreatDoor
set_option linter.unusedSimpArgs false
set_option linter.unusedVariables false
open Go.RowKit

theorem Rel.put {w0 : World} {ok0 : Nat → Prop} {fr : Nat → Value} {σ : Env} {a : Act} {w : World} {G : GM} (hR : Rel w0 ok0 fr σ a w G) {d : Option Nat} {v : AV} {V : Value} (hv : RV w (imm w0 ok0 w G) G v V) : Rel w0 ok0 fr (σ.put d v) (a.put d V) w G := by
  cases d with
  | none => exact hR
  | some n =>
    refine ⟨by simp [Env.put, Act.put, length_setN, hR.len], fun i p u hp hu => ?_, hR.dfs, hR.st, hR.frm⟩
    simp only [Env.put, getElem?_setN] at hp
    simp only [Act.put, Array.getElem?_setIfInBounds] at hu
    by_cases hi : i = n
    · subst hi
      by_cases hlt : i < σ.t.length
      · rw [if_pos ⟨rfl, hlt⟩] at hp
        rw [if_pos rfl, if_pos (by rw [← hR.len]; exact hlt)] at hu
        cases hp; cases hu
        exact hv
      · rw [if_neg (fun h => hlt h.2)] at hp
        rw [List.getElem?_eq_none (by omega)] at hp
        cases hp
    · rw [if_neg (fun h => hi h.1)] at hp
      rw [if_neg (Ne.symm hi)] at hu
      exact hR.tmp i p u hp hu
theorem Rel.refine {w0 : World} {ok0 : Nat → Prop} {fr : Nat → Value} {σ : Env} {a : Act} {w : World} {G : GM} (hR : Rel w0 ok0 fr σ a w G) {n : Nat} {b c : Bool} (h : (nth σ.t n (0, .one .bad)).2 = .one (.bool b)) (e : b = c) : Rel w0 ok0 fr (σ.refine (.tmp n) c) a w G := by
  subst e
  refine ⟨by simp [Env.refine, length_setN, hR.len], fun i p u hp hu => ?_, hR.dfs, hR.st, hR.frm⟩
  simp only [Env.refine, getElem?_setN] at hp
  split at hp
  · rename_i hi
    obtain ⟨rfl, hlt⟩ := hi
    cases hp
    have h1 : σ.t[i]? = some σ.t[i] := List.getElem?_eq_getElem hlt
    have := hR.tmp i _ u h1 hu
    rw [nth_eq, h1] at h
    simp only [Option.getD_some] at h
    rw [h] at this
    exact this
  · exact hR.tmp i p u hp hu
theorem Env.refine_other {σ : Env} {x : Operand} {b : Bool} (h : ∀ n, x ≠ .tmp n) : σ.refine x b = σ := by
  cases x <;> first | rfl | exact absurd rfl (h _)

section
variable {ρ : Type} {P : Program} {C : Ctx} {Pre : World → Prop} {w0 : World} {ok0 : Nat → Prop} {fr : Nat → Value}

/-- What is asked of the place. -/
structure Place (P : Program) (C : Ctx) (Pre : World → Prop) (w0 : World) (ok0 : Nat → Prop) : Prop where
  calls : ∀ f k S, C.fns.find f k = some S → Sound P Pre f S ∧ Callable P f
  pre : ∀ w, Ext w0 w → Pre w
  low : ∀ b, ok0 b → b < w0.heap.size
  tabs : ∀ w, Ext w0 w → TabsAt C.tabs w

/-- What is gone through in place is what the functions do. -/
def InlOk (P : Program) (w0 : World) (ok0 : Nat → Prop) (I : Inl ρ) : Prop :=
  ∀ (f : FuncId) (vs : List AV) (σ : Env) (K : AV → Env → Option ρ) (r : ρ), I f vs σ K = some r → ∃ v σ', K v σ' = some r ∧ Fr σ σ' ∧ Callable P f ∧
    ∀ (fr : Nat → Value) (a : Act) (w : World) (G : GM) (Vs : List Value), Rel w0 ok0 fr σ a w G → Vs.length = vs.length → (∀ (i : Nat) (p : AV) (V : Value), vs[i]? = some p → Vs[i]? = some V → RV w (imm w0 ok0 w G) G p V) →
      Calls P f Vs.toArray w (fun e w' => ∃ V, e = .returned V ∧ ∃ G', Rel w0 ok0 fr σ' a w' G' ∧ RV w' (imm w0 ok0 w' G') G' v V)
theorem inlOk_none : InlOk (ρ := ρ) P w0 ok0 noInl := fun f vs σ K r h => by cases h
theorem goes_stable (hp : Place P C Pre w0 ok0) {σ : Env} {o : Oper} {K : AV → Env → Option ρ} {r : ρ} (hs : stableB o = true) (hK : opK P C noInl σ o K = some r) : Goes P w0 ok0 σ o K r := by
  cases ho : o.op with
  | move x => exact go_move ho hK
  | assign x => exact go_assign ho hK
  | pick c x y => exact go_pick ho hK
  | alloc t => exact go_alloc ho hK
  | box t x => exact go_box ho hK
  | build t parts => exact go_build ho hK
  | buildSlice t n parts => exact go_buildSlice ho hK
  | load t x => exact go_load hp.tabs ho hK
  | store t x y => simp [stableB, ho] at hs
  | nilCheck x => exact go_nilCheck ho hK
  | binOp op t x y u => exact go_binOp ho hK
  | unOp op t x => exact go_unOp ho hK
  | convert s d x => exact go_convert ho hK
  | makeSlice t l c => exact go_makeSlice ho hK
  | fieldAddr s x f => exact go_fieldAddr ho hK
  | field s x f => exact go_field ho hK
  | indexAddr t x i => exact go_indexAddr ho hK
  | index t x i => exact go_index ho hK
  | extract x i => exact go_extract ho hK
  | slice t x lo hi mx => exact go_slice ho hK
  | makeFunc fn first caps => exact go_makeFunc ho hK
  | call c =>
    obtain ⟨callee, args, ts⟩ := c
    cases callee with
    | value f => exact (go_call hp.calls hp.pre hp.low ho hK).resolve_right (fun ⟨g, cs, h, _⟩ => by cases h)
    | invoke x m => simp [opK, ho] at hK
    | builtin b =>
      cases b <;> first
        | exact go_len ho hK
        | exact go_min ho hK
        | exact go_max ho hK
        | (simp [stableB, ho] at hs; done)
        | (simp [opK, ho] at hK; done)
  | _ => simp [opK, ho] at hK
theorem goes_seq {σ : Env} {o : Oper} {K : AV → Env → Option ρ} {r : ρ} (h : Goes P w0 ok0 σ o K r) : ∃ v σ', K v σ' = some r ∧ Fr σ σ' ∧ SeqS P w0 ok0 σ σ' o v := by
  obtain ⟨v, D, h1, h2⟩ := h
  exact ⟨v, _, h1, Fr.newObs σ D, h2.seq⟩
theorem op_seq (hp : Place P C Pre w0 ok0) {I : Inl ρ} (hI : InlOk P w0 ok0 I) {σ : Env} {o : Oper} {K : AV → Env → Option ρ} {r : ρ} (hK : opK P C I σ o K = some r) : ∃ v σ', K v σ' = some r ∧ Fr σ σ' ∧ SeqS P w0 ok0 σ σ' o v := by
  cases ho : o.op with
  | move x => exact goes_seq (go_move ho hK)
  | assign x => exact goes_seq (go_assign ho hK)
  | pick c x y => exact goes_seq (go_pick ho hK)
  | alloc t => exact goes_seq (go_alloc ho hK)
  | box t x => exact goes_seq (go_box ho hK)
  | build t parts => exact goes_seq (go_build ho hK)
  | buildSlice t n parts => exact goes_seq (go_buildSlice ho hK)
  | load t x => exact goes_seq (go_load hp.tabs ho hK)
  | store t x y => exact store_seq ho hK
  | nilCheck x => exact goes_seq (go_nilCheck ho hK)
  | binOp op t x y u => exact goes_seq (go_binOp ho hK)
  | unOp op t x => exact goes_seq (go_unOp ho hK)
  | convert s d x => exact goes_seq (go_convert ho hK)
  | makeSlice t l c => exact goes_seq (go_makeSlice ho hK)
  | fieldAddr s x f => exact goes_seq (go_fieldAddr ho hK)
  | field s x f => exact goes_seq (go_field ho hK)
  | indexAddr t x i => exact goes_seq (go_indexAddr ho hK)
  | index t x i => exact goes_seq (go_index ho hK)
  | extract x i => exact goes_seq (go_extract ho hK)
  | slice t x lo hi mx => exact goes_seq (go_slice ho hK)
  | makeFunc fn first caps => exact goes_seq (go_makeFunc ho hK)
  | call c =>
    obtain ⟨callee, args, ts⟩ := c
    cases callee with
    | value f =>
      rcases go_call hp.calls hp.pre hp.low ho hK with h | ⟨g, cs, hg, hclo⟩
      · exact goes_seq h
      · obtain ⟨v, σ', h1, h2, ⟨fn, hfn, hbody, hname⟩, h3⟩ := hI g _ σ K r hg
        refine ⟨v, σ', h1, h2, fun fr a w G hR => ?_⟩
        obtain ⟨us, he, hus⟩ := hclo w (imm w0 ok0 w G) G a (hR.ev f)
        have hrun : (execOp a.eval o).run P w = .ok (.enter g (args.map a.eval ++ us.toArray)) w := by
          simp only [execOp, ho, resolve, he, Deferred.ofValue]
          have hname' : fn.name ≠ "runtime.NumGoroutine" := by simpa using hname
          have hbody' : fn.body ≠ none := by intro h; simp [h] at hbody
          simp [invoke, callFunc, hfn, hbody', hname']
        have hl : (args.toList.map a.eval ++ us).toArray = args.map a.eval ++ us.toArray := by
          apply Array.ext'; simp
        refine .enter hrun ?_
        rw [← hl]
        refine (h3 fr a w G (args.toList.map a.eval ++ us) hR (by simp [hus.1]) fun i p V hp hV => ?_).mono fun e w' ⟨V, hV, G', h4, h5⟩ => ⟨V, hV, G', h4, h5⟩
        rw [List.getElem?_append] at hp hV
        simp only [List.length_map] at hp hV
        split at hp
        · rename_i hi
          rw [if_pos hi] at hV
          rw [List.getElem?_map] at hp hV
          obtain ⟨x, hx, rfl⟩ := Option.map_eq_some_iff.1 hp
          rw [hx] at hV
          cases hV
          exact hR.ev x
        · rename_i hi
          rw [if_neg hi] at hV
          rw [List.getElem?_map] at hp
          obtain ⟨c, hc, rfl⟩ := Option.map_eq_some_iff.1 hp
          exact hus.2 _ c V hc hV
    | invoke x m => simp [opK, ho] at hK
    | builtin b =>
      cases b <;> first
        | exact goes_seq (go_len ho hK)
        | exact goes_seq (go_min ho hK)
        | exact goes_seq (go_max ho hK)
        | exact append_seq ho hK
        | exact clear_seq ho hK
        | (simp [opK, ho] at hK; done)
  | _ => simp [opK, ho] at hK

theorem yielded_of {ops : Array Oper} {j d : Nat} (h : guardTmp ops.toList j = some d) (tmps : Array Value) : yielded ops tmps j = match tmps[d]? with | some (.bool b) => some b | _ => none := by
  unfold guardTmp at h
  split at h
  · rename_i o ho
    have : ops[j]? = some o := by simpa using ho
    simp only [yielded, this, Option.bind_some, h]
    cases tmps[d]? with
    | none => rfl
    | some v => cases v <;> rfl
  · cases h

/-- Operations in the text's order. -/
theorem reg_seq (hp : Place P C Pre w0 ok0) {I : Inl ρ} (hI : InlOk P w0 ok0 I) (ops : Array Oper) : ∀ (l : List Oper) (i : Nat) (σ : Env) (K : Env → Option ρ) (r : ρ), (∀ k, l[k]? = ops[i + k]?) → regK P C I ops.toList l σ K = some r →
    ∃ σ', K σ' = some r ∧ Fr σ σ' ∧ ∀ (fr : Nat → Value) (a : Act) (w : World) (G : GM) (Q : Exit → Act → World → Prop), Rel w0 ok0 fr σ a w G → (∀ a' w' G', Rel w0 ok0 fr σ' a' w' G' → Q .normal a' w') → wpOps P ops Q (List.range' i l.length) a w
  | [], i, σ, K, r, _, h => ⟨σ, h, Fr.refl σ, fun fr a w G Q hR hQ => hQ a w G hR⟩
  | o :: l, i, σ, K, r, hl, h => by
    have ho : ops[i]? = some o := by have := hl 0; simpa using this.symm
    have hl' : ∀ k, l[k]? = ops[i + 1 + k]? := fun k => by have := hl (k + 1); simpa [Nat.add_assoc, Nat.add_comm 1 k] using this
    have step : ∀ (σ1 : Env) (K' : Env → Option ρ), opK P C I σ1 o (fun v σ' => regK P C I ops.toList l (σ'.put o.dst v) K') = some r → ∃ σ', K' σ' = some r ∧ Fr σ1 σ' ∧
        ∀ (fr : Nat → Value) (a : Act) (w : World) (G : GM) (Q : Exit → Act → World → Prop), Rel w0 ok0 fr σ1 a w G → (∀ a' w' G', Rel w0 ok0 fr σ' a' w' G' → Q .normal a' w') → o.wp P a w (wpOps P ops Q (List.range' (i + 1) l.length)) Q := by
      intro σ1 K' hK
      obtain ⟨v, σ2, h1, h2, h3⟩ := op_seq hp hI hK
      obtain ⟨σ', g1, g2, g3⟩ := reg_seq hp hI ops l (i + 1) _ K' r hl' h1
      refine ⟨σ', g1, h2.trans ((Fr.put _ _ _).trans g2), fun fr a w G Q hR hQ => h3 fr a w G hR _ Q fun V w' ⟨G', hR', hV⟩ => g3 fr _ w' G' Q (hR'.put hV) hQ⟩
    have skip : ∀ (σ1 : Env) (K' : Env → Option ρ), regK P C I ops.toList l (σ1.put o.dst (.one .und)) K' = some r → ∃ σ', K' σ' = some r ∧ Fr σ1 σ' ∧
        ∀ (fr : Nat → Value) (a : Act) (w : World) (G : GM) (Q : Exit → Act → World → Prop), Rel w0 ok0 fr σ1 a w G → (∀ a' w' G', Rel w0 ok0 fr σ' a' w' G' → Q .normal a' w') → wpOps P ops Q (List.range' (i + 1) l.length) (a.put o.dst undef) w := by
      intro σ1 K' hK
      obtain ⟨σ', g1, g2, g3⟩ := reg_seq hp hI ops l (i + 1) _ K' r hl' hK
      exact ⟨σ', g1, (Fr.put _ _ _).trans g2, fun fr a w G Q hR hQ => g3 fr _ w G Q (hR.put (v := .one .und) rfl) hQ⟩
    unfold regK at h
    split at h
    · rename_i hg
      obtain ⟨σ', g1, g2, g3⟩ := step σ K h
      refine ⟨σ', g1, g2, fun fr a w G Q hR hQ => ?_⟩
      simp only [List.length_cons, List.range'_succ, wpOps, ho]
      rw [if_pos (by simp [Region.wanted, hg])]
      exact .inl (g3 fr a w G Q hR hQ)
    · rename_i j want hg
      split at h
      · cases h
      · rename_i d hd
        have val : ∀ (fr : Nat → Value) (a : Act) (w : World) (G : GM), Rel w0 ok0 fr σ a w G → ∀ c : AC, (nth σ.t d (0, .one .bad)).2 = .one c → c ≠ .bad → ∃ V, a.tmps[d]? = some V ∧ RC w (imm w0 ok0 w G) G c V := by
          intro fr a w G hR c hc hne
          rw [nth_eq] at hc
          cases hi : σ.t[d]? with
          | none => rw [hi] at hc; simp at hc; exact absurd hc.symm hne
          | some p =>
            have hlt : d < a.tmps.size := by rw [← hR.len]; exact (List.getElem?_eq_some_iff.1 hi).1
            rw [hi] at hc
            refine ⟨a.tmps[d], Array.getElem?_eq_getElem hlt, ?_⟩
            have := hR.tmp d p _ hi (Array.getElem?_eq_getElem hlt)
            simp only [Option.getD_some] at hc
            rw [hc] at this
            exact this
        split at h
        · rename_i hu
          obtain ⟨σ', g1, g2, g3⟩ := skip σ K h
          refine ⟨σ', g1, g2, fun fr a w G Q hR hQ => ?_⟩
          obtain ⟨V, hV, hr⟩ := val fr a w G hR .und hu (by simp)
          obtain rfl : V = undef := hr
          simp only [List.length_cons, List.range'_succ, wpOps, ho]
          rw [if_neg (by simp [Region.wanted, hg, yielded_of hd, hV, undef])]
          exact g3 fr a w G Q hR hQ
        · rename_i b hb
          have go : ∀ (c : Bool), b = c → ∀ (on : Bool), on = (c == want) → (on = true → opK P C I (σ.refine (.tmp d) c) o (fun v σ' => regK P C I ops.toList l (σ'.put o.dst v) K) = some r) → (on = false → regK P C I ops.toList l ((σ.refine (.tmp d) c).put o.dst (.one .und)) K = some r) →
              ∃ σ', K σ' = some r ∧ Fr σ σ' ∧ ∀ (fr : Nat → Value) (a : Act) (w : World) (G : GM) (Q : Exit → Act → World → Prop), Rel w0 ok0 fr σ a w G → (∀ a' w' G', Rel w0 ok0 fr σ' a' w' G' → Q .normal a' w') → wpOps P ops Q (List.range' i (o :: l).length) a w := by
            intro c hbc on hon h1 h2
            have wd : ∀ (fr : Nat → Value) (a : Act) (w : World) (G : GM), Rel w0 ok0 fr σ a w G → Region.wanted o (yielded ops a.tmps) = on := by
              intro fr a w G hR
              obtain ⟨V, hV, hr⟩ := val fr a w G hR _ hb (by simp)
              obtain rfl : V = .bool b := hr
              simp only [Region.wanted, hg, yielded_of hd, hV, hon, hbc]
              cases c <;> cases want <;> rfl
            cases on with
            | true =>
              obtain ⟨σ', g1, g2, g3⟩ := step _ K (h1 rfl)
              refine ⟨σ', g1, (Fr.refine hb hbc).trans g2, fun fr a w G Q hR hQ => ?_⟩
              simp only [List.length_cons, List.range'_succ, wpOps, ho]
              rw [if_pos (wd fr a w G hR)]
              exact .inl (g3 fr a w G Q (hR.refine hb hbc) hQ)
            | false =>
              obtain ⟨σ', g1, g2, g3⟩ := skip _ K (h2 rfl)
              refine ⟨σ', g1, (Fr.refine hb hbc).trans g2, fun fr a w G Q hR hQ => ?_⟩
              simp only [List.length_cons, List.range'_succ, wpOps, ho]
              rw [if_neg (by rw [wd fr a w G hR]; simp)]
              exact g3 fr a w G Q (hR.refine hb hbc) hQ
          cases want <;> cases b <;> simp only [cond_true, cond_false] at h
          · exact go false rfl true rfl (fun _ => h) (fun h => by cases h)
          · exact go true rfl false rfl (fun h => by cases h) (fun _ => h)
          · exact go false rfl false rfl (fun h => by cases h) (fun _ => h)
          · exact go true rfl true rfl (fun _ => h) (fun h => by cases h)
        · cases h
end
end Go.Proofs.YtkkbkhlpbmhchabGreatDoor
