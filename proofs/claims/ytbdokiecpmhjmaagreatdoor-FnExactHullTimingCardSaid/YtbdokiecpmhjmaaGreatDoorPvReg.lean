/- A region in the text's order. No condition of its own. -/
import Derived.Test.YtbdokiecpmhjmaaGreatDoorPvFrz
namespace Go.Proofs.YtbdokiecpmhjmaaGreatDoor
set_option linter.unusedSimpArgs false
set_option linter.unusedVariables false
open Go.RowKit

section
variable {ρ : Type} {P : Program} {C : Ctx} {Pre : World → Prop} {w0 : World} {ok0 : Nat → Prop} {fr : Nat → Value}

theorem frzAfter_spec {o : Oper} {σ : Env} {K : Env → Option ρ} {r : ρ} (h : frzAfter C o σ K = some r) : ∃ σ', K σ' = some r ∧ Fr σ σ' ∧ ∀ (fr : Nat → Value) (a : Act) (w : World) (G : GM), Rel w0 ok0 fr σ a w G → ∃ G', Rel w0 ok0 fr σ' a w G' := by
  unfold frzAfter at h
  cases hb : isApp o && C.isRaw o.dst with
  | false => rw [hb, cond_false] at h; exact ⟨σ, h, Fr.refl σ, fun fr a w G hR => ⟨G, hR⟩⟩
  | true =>
    rw [hb, cond_true] at h
    split at h
    · split at h
      · rename_i σ' hz; exact ⟨σ', h, freeze_fr hz, fun fr a w G hR => freeze_rel hz hR⟩
      · cases h
    · cases h
theorem isApp_stable {o : Oper} (h : stableB o = true) : isApp o = false := by
  cases hb : isApp o with
  | false => rfl
  | true =>
    simp only [isApp, Bool.and_eq_true] at hb
    obtain ⟨_, hb⟩ := hb
    split at hb
    · rename_i hop; simp [stableB, hop] at h
    · cases hb
theorem frzAfter_stable {o : Oper} (h : stableB o = true) (σ : Env) (K : Env → Option ρ) : frzAfter C o σ K = K σ := by
  unfold frzAfter
  rw [isApp_stable h]; rfl
/-- Operations in the text's order. -/
theorem reg_seq (hp : Place P C Pre w0 ok0) {I : Inl ρ} (hI : InlOk P w0 ok0 I) (ops : Array Oper) : ∀ (l : List Oper) (i : Nat) (σ : Env) (K : Env → Option ρ) (r : ρ), (∀ k, l[k]? = ops[i + k]?) → regK P C I ops.toList l σ K = some r →
    ∃ σ', K σ' = some r ∧ Fr σ σ' ∧ ∀ (fr : Nat → Value) (a : Act) (w : World) (G : GM) (Q : Exit → Act → World → Prop), Rel w0 ok0 fr σ a w G → (∀ a' w' G', Rel w0 ok0 fr σ' a' w' G' → Q .normal a' w') → wpOps P ops Q (List.range' i l.length) a w
  | [], i, σ, K, r, _, h => ⟨σ, h, Fr.refl σ, fun fr a w G Q hR hQ => hQ a w G hR⟩
  | o :: l, i, σ, K, r, hl, h => by
    have ho : ops[i]? = some o := by have := hl 0; simpa using this.symm
    have hl' : ∀ k, l[k]? = ops[i + 1 + k]? := fun k => by have := hl (k + 1); simpa [Nat.add_assoc, Nat.add_comm 1 k] using this
    have step : ∀ (σ1 : Env) (K' : Env → Option ρ), opK P C I σ1 o (fun v σ' => regK P C I ops.toList l (σ'.put o.dst v) K') = some r → ∃ σ', K' σ' = some r ∧ Fr σ1 σ' ∧
        ∀ (fr : Nat → Value) (a : Act) (w : World) (G : GM) (Q : Exit → Act → World → Prop), Rel w0 ok0 fr σ1 a w G → (∀ a' w' G', Rel w0 ok0 fr σ' a' w' G' → Q .normal a' w') → o.wp P a w (wpOps P ops Q (List.range' (i + 1) l.length)) Q := by
      intro σ1 K' hK
      obtain ⟨v, σ2, h1, h2, h3⟩ := op_seq hp hI hK
      obtain ⟨σ', g1, g2, g3⟩ := reg_seq hp hI ops l (i + 1) _ K' r hl' h1
      refine ⟨σ', g1, h2.trans ((Fr.put _ _ _).trans g2), fun fr a w G Q hR hQ => h3 fr a w G hR _ Q fun V w' ⟨G', hR', hV⟩ => g3 fr _ w' G' Q (hR'.put hV) hQ⟩
    have skip : ∀ (σ1 : Env) (K' : Env → Option ρ), regK P C I ops.toList l (σ1.put o.dst (.one .und)) K' = some r → ∃ σ', K' σ' = some r ∧ Fr σ1 σ' ∧
        ∀ (fr : Nat → Value) (a : Act) (w : World) (G : GM) (Q : Exit → Act → World → Prop), Rel w0 ok0 fr σ1 a w G → (∀ a' w' G', Rel w0 ok0 fr σ' a' w' G' → Q .normal a' w') → wpOps P ops Q (List.range' (i + 1) l.length) (a.put o.dst undef) w := by
      intro σ1 K' hK
      obtain ⟨σ', g1, g2, g3⟩ := reg_seq hp hI ops l (i + 1) _ K' r hl' hK
      exact ⟨σ', g1, (Fr.put _ _ _).trans g2, fun fr a w G Q hR hQ => g3 fr _ w G Q (hR.put (v := .one .und) rfl) hQ⟩
    have stepF : ∀ (σ1 : Env) (K' : Env → Option ρ), opK P C I σ1 o (fun v σ' => frzAfter C o (σ'.put o.dst v) fun σ'' => regK P C I ops.toList l σ'' K') = some r → ∃ σ', K' σ' = some r ∧ Fr σ1 σ' ∧
        ∀ (fr : Nat → Value) (a : Act) (w : World) (G : GM) (Q : Exit → Act → World → Prop), Rel w0 ok0 fr σ1 a w G → (∀ a' w' G', Rel w0 ok0 fr σ' a' w' G' → Q .normal a' w') → o.wp P a w (wpOps P ops Q (List.range' (i + 1) l.length)) Q := by
      intro σ1 K' hK
      obtain ⟨v, σ2, h1, h2, h3⟩ := op_seq hp hI hK
      obtain ⟨σ3, k1, k2, k3⟩ := frzAfter_spec (w0 := w0) (ok0 := ok0) h1
      obtain ⟨σ', g1, g2, g3⟩ := reg_seq hp hI ops l (i + 1) _ K' r hl' k1
      refine ⟨σ', g1, h2.trans ((Fr.put _ _ _).trans (k2.trans g2)), fun fr a w G Q hR hQ => h3 fr a w G hR _ Q fun V w' ⟨G', hR', hV⟩ => ?_⟩
      obtain ⟨G2, hR2⟩ := k3 fr _ w' G' (hR'.put hV)
      exact g3 fr _ w' G2 Q hR2 hQ
    unfold regK at h
    split at h
    · rename_i hg
      obtain ⟨σ', g1, g2, g3⟩ := stepF σ K h
      refine ⟨σ', g1, g2, fun fr a w G Q hR hQ => ?_⟩
      simp only [List.length_cons, List.range'_succ, wpOps, ho]
      rw [if_pos (by simp [Region.wanted, hg])]
      exact .inl (g3 fr a w G Q hR hQ)
    · rename_i j want hg
      split at h
      · cases h
      · rename_i d hd
        have val : ∀ (fr : Nat → Value) (a : Act) (w : World) (G : GM), Rel w0 ok0 fr σ a w G → ∀ c : AC, (nth σ.t d (0, .one .bad)).2 = .one c → c ≠ .bad → ∃ V, a.tmps[d]? = some V ∧ RC w (imm w0 ok0 w G) G c V := by
          intro fr a w G hR c hc hne
          rw [nth_eq] at hc
          cases hi : σ.t[d]? with
          | none => rw [hi] at hc; simp at hc; exact absurd hc.symm hne
          | some p =>
            have hlt : d < a.tmps.size := by rw [← hR.len]; exact (List.getElem?_eq_some_iff.1 hi).1
            rw [hi] at hc
            refine ⟨a.tmps[d], Array.getElem?_eq_getElem hlt, ?_⟩
            have := hR.tmp d p _ hi (Array.getElem?_eq_getElem hlt)
            simp only [Option.getD_some] at hc
            rw [hc] at this
            exact this
        split at h
        · rename_i hu
          obtain ⟨σ', g1, g2, g3⟩ := skip σ K h
          refine ⟨σ', g1, g2, fun fr a w G Q hR hQ => ?_⟩
          obtain ⟨V, hV, hr⟩ := val fr a w G hR .und hu (by simp)
          obtain rfl : V = undef := hr
          simp only [List.length_cons, List.range'_succ, wpOps, ho]
          rw [if_neg (by simp [Region.wanted, hg, yielded_of hd, hV, undef])]
          exact g3 fr a w G Q hR hQ
        · rename_i b hb
          have go : ∀ (c : Bool), b = c → ∀ (on : Bool), on = (c == want) → (on = true → opK P C I (σ.refine (.tmp d) c) o (fun v σ' => regK P C I ops.toList l (σ'.put o.dst v) K) = some r) → (on = false → regK P C I ops.toList l ((σ.refine (.tmp d) c).put o.dst (.one .und)) K = some r) →
              ∃ σ', K σ' = some r ∧ Fr σ σ' ∧ ∀ (fr : Nat → Value) (a : Act) (w : World) (G : GM) (Q : Exit → Act → World → Prop), Rel w0 ok0 fr σ a w G → (∀ a' w' G', Rel w0 ok0 fr σ' a' w' G' → Q .normal a' w') → wpOps P ops Q (List.range' i (o :: l).length) a w := by
            intro c hbc on hon h1 h2
            have wd : ∀ (fr : Nat → Value) (a : Act) (w : World) (G : GM), Rel w0 ok0 fr σ a w G → Region.wanted o (yielded ops a.tmps) = on := by
              intro fr a w G hR
              obtain ⟨V, hV, hr⟩ := val fr a w G hR _ hb (by simp)
              obtain rfl : V = .bool b := hr
              simp only [Region.wanted, hg, yielded_of hd, hV, hon, hbc]
              cases c <;> cases want <;> rfl
            cases on with
            | true =>
              obtain ⟨σ', g1, g2, g3⟩ := step _ K (h1 rfl)
              refine ⟨σ', g1, (Fr.refine hb hbc).trans g2, fun fr a w G Q hR hQ => ?_⟩
              simp only [List.length_cons, List.range'_succ, wpOps, ho]
              rw [if_pos (wd fr a w G hR)]
              exact .inl (g3 fr a w G Q (hR.refine hb hbc) hQ)
            | false =>
              obtain ⟨σ', g1, g2, g3⟩ := skip _ K (h2 rfl)
              refine ⟨σ', g1, (Fr.refine hb hbc).trans g2, fun fr a w G Q hR hQ => ?_⟩
              simp only [List.length_cons, List.range'_succ, wpOps, ho]
              rw [if_neg (by rw [wd fr a w G hR]; simp)]
              exact g3 fr a w G Q (hR.refine hb hbc) hQ
          cases want <;> cases b <;> simp only [cond_true, cond_false] at h
          · exact go false rfl true rfl (fun _ => h) (fun h => by cases h)
          · exact go true rfl false rfl (fun h => by cases h) (fun _ => h)
          · exact go false rfl false rfl (fun h => by cases h) (fun _ => h)
          · exact go true rfl true rfl (fun _ => h) (fun h => by cases h)
        · cases h
end
end Go.Proofs.YtbdokiecpmhjmaaGreatDoor
