/- What lies in memory fits; a law's call from its contract, for data that fit. No condition of its own. -/
import Derived.Test.YtbdokiecpmhjmaaGreatDoorPvOpen
import Derived.Test.YtbdokiecpmhjmaaGreatDoorPvFits
namespace Go.Proofs.YtbdokiecpmhjmaaGreatDoor
set_option linter.unusedSimpArgs false
set_option linter.unusedVariables false
open Go.RowKit

theorem Ty.fits_of_rp : ∀ (τ : Ty) {w : World} {ok : Nat → Prop} {cs : List Value} {x : τ.den}, τ.rp w ok cs x → τ.fits x
  | .int _, _, _, _, _, h => h.2
  | .bool, _, _, _, _, _ => trivial
  | .str, _, _, _, _, h => h.2
  | .slice e, _, _, _, xs, h => by
    obtain ⟨A, cap, _, h1, h2, h3⟩ := h
    refine ⟨by omega, fun x hx => ?_⟩
    obtain ⟨i, hi, rfl⟩ := List.getElem_of_mem hx
    obtain ⟨b, o, _, _, h4⟩ := h3 (by omega)
    obtain ⟨us, h5, _⟩ := h4 i hi
    exact e.fits_of_rp h5
  | .ptr _, _, _, _, _, _ => trivial
  | .agg t, _, _, _, _, h => t.fits_of_rp (show t.rp _ _ _ _ from h)
  | .nil, _, _, _, _, _ => trivial
  | .pair a b, _, _, _, _, h => by
    obtain ⟨c1, c2, _, h1, h2⟩ := h
    exact ⟨a.fits_of_rp h1, b.fits_of_rp h2⟩
  | .clo _ _, _, _, _, _, _ => trivial
theorem fits_of_args {w : World} {ok : Nat → Prop} : ∀ (τ : Ty) (vs : List Value) (x : τ.den), ArgsOk w ok τ vs x → τ.fits x
  | .pair a b, v :: vs, x, h => by
    obtain ⟨⟨cs, _, h1⟩, h2⟩ := h
    exact ⟨a.fits_of_rp h1, fits_of_args b vs x.2 h2⟩
  | .nil, _, _, _ => trivial
  | .int _, _ :: _, _, h => h.elim
  | .int _, [], _, h => h.elim
  | .bool, _, _, _ => trivial
  | .str, _ :: _, _, h => h.elim
  | .str, [], _, h => h.elim
  | .slice _, _ :: _, _, h => h.elim
  | .slice _, [], _, h => h.elim
  | .ptr _, _, _, _ => trivial
  | .agg _, _ :: _, _, h => h.elim
  | .agg _, [], _, h => h.elim
  | .pair _ _, [], _, h => h.elim
  | .clo _ _, _, _, _ => trivial
/-- The law's call, from its contract, where its law holds of all data that fit. -/
theorem law_of_sound_fits {P : Program} {Pre : World → Prop} {f : FuncId} {S : Nat → FnSpec} {ps : Ty} (F : Nat → ps.den → Option (Bool × Unit)) (own : List Bool) (hS : ∀ N, S N = ⟨ps, .pair .bool .nil, own, F N, false⟩)
    (hZ : ∀ N, Sound P Pre f (S N)) (hT : ∀ x, ps.fits x → ∃ N, F N x = some (true, ())) {w : World} {args : Array Value} {x : ps.den} (hpre : Pre w) (hA : ArgsOk w (fun b => b < w.heap.size) ps args.toList x) :
    Calls P f args w fun e w' => e = .returned (.bool true) ∧ Ext w w' := by
  obtain ⟨N, hN⟩ := hT x (fits_of_args _ _ _ hA)
  have hz := hZ N
  rw [hS N] at hz
  refine (hz w args x (true, ()) (fun b => b < w.heap.size) hpre (fun b hb => hb) hA hN).mono fun e w' ⟨V, he, hres⟩ => ?_
  obtain ⟨G, vs, rfl, hr, hst⟩ := hres
  refine ⟨?_, hst.ext⟩
  have hcs : (ownAcs false own 0 [AC.bool true]).1 = [AC.bool true] := by
    cases own with
    | nil => rfl
    | cons b fs => rw [ownAcs_other _ _ _ _ _ (.inr (by intro e xs h; cases h)), ownAcs_nil']
  have hr' : RCs w' (imm w (fun b => b < w.heap.size) w' G) G (ownAcs false own 0 [AC.bool true]).1 vs := hr
  rw [hcs] at hr'
  obtain ⟨v, rfl, hv⟩ := hr'.one
  obtain rfl : v = .bool true := hv
  rw [he]
  rfl
end Go.Proofs.YtbdokiecpmhjmaaGreatDoor
