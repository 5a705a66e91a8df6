/- What is reckoned on plain data is what the program does. No condition of its own. -/
import Derived.Test.YtbdokiecpmhjmaaGreatDoorPvDraw2
import Derived.Test.YtbdokiecpmhjmaaGreatDoorPvFrz
import Derived.LoopN
import Derived.Laws.Sem
namespace Go.Proofs.YtbdokiecpmhjmaaGreatDoor
set_option linter.unusedSimpArgs false
set_option linter.unusedVariables false
open Go.RowKit

section
variable {ρ : Type} {P : Program} {C : Ctx} {I : Inl ρ} {N : Nat} {H : Hints} {Pre : World → Prop} {w0 : World} {ok0 : Nat → Prop} {fr : Nat → Value}

theorem bif_else {α : Type} {b : Bool} {x y : Option α} {r : α} (h : (bif b then x else y) = some r) : (b = true ∧ x = some r) ∨ (b = false ∧ y = some r) := by
  cases b
  · exact .inr ⟨rfl, h⟩
  · exact .inl ⟨rfl, h⟩
theorem Env.refine_ev {σ : Env} {x : Operand} {b : Bool} (h : σ.ev x = .one (.bool b)) : σ.refine x b = σ := by
  cases x <;> first | rfl | exact Env.refine_same h

/-- From here the text goes on to there. -/
def GoesTo (P : Program) (w0 : World) (ok0 : Nat → Prop) (c : Code) (σ : Env) (e : Exit) (σ' : Env) : Prop :=
  ∀ (fr : Nat → Value) (a : Act) (w : World) (G : GM) (Q : Exit → Act → World → Prop), Rel w0 ok0 fr σ a w G → (∀ a' w' G', Rel w0 ok0 fr σ' a' w' G' → Q e a' w') → c.wp P Q a w

theorem loop_sound {c : Code} {hi : LHint} {σ0 : Env} {K : Exit → Env → Option ρ}
    (ih : ∀ (σ : Env) (K : Exit → Env → Option ρ) (r : ρ), pev P C I N H c 0 σ K = some r → ∃ e σ', K e σ' = some r ∧ Fr σ σ' ∧ GoesTo P w0 ok0 c σ e σ') :
    ∀ (n : Nat) (s : shDen hi.sh) (r : ρ), fixN n (fun next s => pev P C I N H c 0 (shEnc σ0 hi.sh s) fun e σ' => backK hi σ0 next K e σ') s = some r →
      ∃ e σ', K e σ' = some r ∧ Fr σ0 σ' ∧ ∀ (fr : Nat → Value) (a : Act) (w : World) (G : GM) (Q : Exit → Act → World → Prop), Rel w0 ok0 fr (shEnc σ0 hi.sh s) a w G → (∀ a' w' G', Rel w0 ok0 fr σ' a' w' G' → Q e a' w') → Code.rounds P c Q n a w
  | 0, s, r, h => by cases h
  | n + 1, s, r, h => by
    unfold fixN at h
    obtain ⟨e, σ', h1, h2, h3⟩ := ih _ _ r h
    by_cases he : e = .normal
    · subst he
      simp only [backK] at h1
      obtain ⟨hb, h4⟩ := bif_some h1
      simp only [Bool.and_eq_true] at hb
      split at h4
      · cases h4
      · rename_i s' hs'
        obtain ⟨e2, σ2, g1, g2, g3⟩ := loop_sound ih n s' r h4
        refine ⟨e2, σ2, g1, g2, fun fr a w G Q hR hQ => ?_⟩
        rw [rounds_succ]
        refine h3 fr a w G _ hR fun a' w' G' hR' => ?_
        obtain ⟨G'', hR''⟩ := back_rel hR' h2 hb.1 hb.2.1 hb.2.2 hs'
        exact g3 fr a' w' G'' Q hR'' hQ
    · have h4 : K e σ' = some r := by
        cases e <;> first | exact absurd rfl he | exact h1
      refine ⟨e, σ', h4, (Fr.shEnc _ _ _).trans h2, fun fr a w G Q hR hQ => ?_⟩
      rw [rounds_succ]
      refine h3 fr a w G _ hR fun a' w' G' hR' => ?_
      have := hQ a' w' G' hR'
      cases e <;> first | exact absurd rfl he | exact this

theorem pev_sound (hp : Place P C Pre w0 ok0) (hI : InlOk P w0 ok0 I) (hm : P.follows .mixedOrders = true) : ∀ (c : Code) (bid : Nat) (σ : Env) (K : Exit → Env → Option ρ) (r : ρ), pev P C I N H c bid σ K = some r →
    ∃ e σ', K e σ' = some r ∧ Fr σ σ' ∧ GoesTo P w0 ok0 c σ e σ' := by
  intro c
  induction c with
  | skip => exact fun bid σ K r h => ⟨.normal, σ, h, Fr.refl σ, fun fr a w G Q hR hQ => wp_skip (hQ a w G hR)⟩
  | label l => exact fun bid σ K r h => ⟨.normal, σ, h, Fr.refl σ, fun fr a w G Q hR hQ => wp_label (hQ a w G hR)⟩
  | exit id => exact fun bid σ K r h => ⟨.exit id, σ, h, Fr.refl σ, fun fr a w G Q hR hQ => wp_exit (hQ a w G hR)⟩
  | ret => exact fun bid σ K r h => ⟨.ret, σ, h, Fr.refl σ, fun fr a w G Q hR hQ => wp_ret (hQ a w G hR)⟩
  | region id ops draw =>
    intro bid σ K r h
    rcases bif_else h with ⟨hb, h0⟩ | ⟨hb, h0⟩
    case inr =>
      simp only [Bool.or_eq_false_iff, Bool.not_eq_false'] at hb
      obtain ⟨rfl, _⟩ := hb
      obtain ⟨hok, h1⟩ := bif_some h0
      split at h1
      case h_2 => cases h1
      rename_i σ1 hz
      obtain ⟨σ', g1, g2, g3⟩ := reg_any2 hp hm (ops := ops) hok h1
      refine ⟨.normal, σ', g1, (freezes_ok (w0 := w0) (ok0 := ok0) (fr := fun _ => undef) (a := ⟨#[], []⟩) (w := w0) (G := fun _ => none) _ hz).1.trans g2, fun fr a w G Q hR hQ => ?_⟩
      obtain ⟨G1, hR1⟩ := (freezes_ok _ hz).2 hR
      exact g3 fr id a w G1 Q hR1 hQ
    split at h0
    case h_2 => cases h0
    rename_i σ1 hz
    have h' := h0
    cases draw with
    | false =>
      obtain ⟨σ', g1, g2, g3⟩ := reg_seq hp hI ops ops.toList 0 σ1 (K .normal) r (fun k => by simp) h'
      refine ⟨.normal, σ', g1, (freezes_ok (w0 := w0) (ok0 := ok0) (fr := fun _ => undef) (a := ⟨#[], []⟩) (w := w0) (G := fun _ => none) _ hz).1.trans g2, fun fr a w G Q hR hQ => wp_region ?_⟩
      obtain ⟨G1, hR1⟩ := (freezes_ok _ hz).2 hR
      have := g3 fr a w G1 Q hR1 hQ
      rw [List.range_eq_range']
      simpa using this
    | true =>
      obtain ⟨σ', g1, g2, g3⟩ := reg_any hp hm (ops := ops) (by simpa using hb) h'
      refine ⟨.normal, σ', g1, (freezes_ok (w0 := w0) (ok0 := ok0) (fr := fun _ => undef) (a := ⟨#[], []⟩) (w := w0) (G := fun _ => none) _ hz).1.trans g2, fun fr a w G Q hR hQ => ?_⟩
      obtain ⟨G1, hR1⟩ := (freezes_ok _ hz).2 hR
      exact g3 fr id a w G1 Q hR1 hQ
  | seq x y ihx ihy =>
    intro bid σ K r h
    obtain ⟨e, σ1, h1, h2, h3⟩ := ihx 0 σ _ r h
    by_cases he : e = .normal
    · subst he
      obtain ⟨e2, σ2, g1, g2, g3⟩ := ihy 0 σ1 K r h1
      exact ⟨e2, σ2, g1, h2.trans g2, fun fr a w G Q hR hQ => wp_seq (h3 fr a w G _ hR fun a' w' G' hR' => g3 fr a' w' G' Q hR' hQ)⟩
    · have h4 : K e σ1 = some r := by cases e <;> first | exact absurd rfl he | exact h1
      refine ⟨e, σ1, h4, h2, fun fr a w G Q hR hQ => wp_seq (h3 fr a w G _ hR fun a' w' G' hR' => ?_)⟩
      have := hQ a' w' G' hR'
      cases e <;> first | exact absurd rfl he | exact this
  | cond x t f iht ihf =>
    intro bid σ K r h
    simp only [pev] at h
    split at h
    · rename_i b hb
      have hev : ∀ (fr : Nat → Value) (a : Act) (w : World) (G : GM), Rel w0 ok0 fr σ a w G → a.eval x = .bool b := fun fr a w G hR => by
        have := hR.ev x
        rw [hb] at this
        exact this
      cases b with
      | true =>
        rw [Env.refine_ev hb] at h
        obtain ⟨e, σ', h1, h2, h3⟩ := iht 0 σ K r h
        exact ⟨e, σ', h1, h2, fun fr a w G Q hR hQ => wp_cond (hev fr a w G hR) (h3 fr a w G Q hR hQ)⟩
      | false =>
        rw [Env.refine_ev hb] at h
        obtain ⟨e, σ', h1, h2, h3⟩ := ihf 0 σ K r h
        exact ⟨e, σ', h1, h2, fun fr a w G Q hR hQ => wp_cond (hev fr a w G hR) (h3 fr a w G Q hR hQ)⟩
    · cases h
  | block id c ih =>
    intro bid σ K r h
    obtain ⟨e, σ', h1, h2, h3⟩ := ih id σ _ r h
    by_cases he : e = .exit id
    · subst he
      simp only [Nat.beq_refl, cond_true] at h1
      exact ⟨.normal, σ', h1, h2, fun fr a w G Q hR hQ => wp_block (h3 fr a w G _ hR fun a' w' G' hR' => by simp only [Exit.inBlock, if_true]; exact hQ a' w' G' hR')⟩
    · have h4 : K e σ' = some r := by
        cases e with
        | exit id' =>
          have : Nat.beq id' id = false := by
            cases hb : Nat.beq id' id
            · rfl
            · exact absurd (by rw [Nat.eq_of_beq_eq_true hb]) he
          simpa only [this, cond_false] using h1
        | _ => exact h1
      refine ⟨e, σ', h4, h2, fun fr a w G Q hR hQ => wp_block (h3 fr a w G _ hR fun a' w' G' hR' => ?_)⟩
      have := hQ a' w' G' hR'
      cases e with
      | exit id' => simp only [Exit.inBlock]; rw [if_neg (fun h => he (by rw [h]))]; exact this
      | _ => exact this
  | loop c ih =>
    intro bid σ K r h
    simp only [pev] at h
    split at h
    · rename_i hi σ1 hhi hz
      split at h
      · cases h
      · rename_i s0 hs0
        obtain ⟨e, σ', g1, g2, g3⟩ := loop_sound (hi := hi) (fun σ K r h => ih 0 σ K r h) N s0 r h
        refine ⟨e, σ', g1, (freezes_ok (w0 := w0) (ok0 := ok0) (fr := fun _ => undef) (a := ⟨#[], []⟩) (w := w0) (G := fun _ => none) _ hz).1.trans ((Fr.dropT _ _).trans ((Fr.mkOwn _ _).trans ((Fr.mkOwnC _ _).trans g2))), fun fr a w G Q hR hQ => wp_loop_rounds N ?_⟩
        obtain ⟨G1, hR1⟩ := (freezes_ok _ hz).2 hR
        obtain ⟨G2, hR2⟩ := (hR1.dropT hi.drop).mkOwn hi.fresh
        obtain ⟨G', hR'⟩ := hR2.mkOwnC hi.cells
        exact g3 fr a w G' Q (shEnc_rel hi.sh s0 hR' (shDec_ok hR' hi.sh s0 hs0)) hQ
    · cases h
  | _ => intro bid σ K r h; cases h
end
end Go.Proofs.YtbdokiecpmhjmaaGreatDoor
