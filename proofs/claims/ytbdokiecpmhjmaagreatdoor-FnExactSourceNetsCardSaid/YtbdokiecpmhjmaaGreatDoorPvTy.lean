/- Codes of plain data, what they stand for in Lean, and how data lies in memory. No condition of its own. -/
import Derived.Calls
import Derived.Below
namespace Go.Proofs.YtbdokiecpmhjmaaGreatDoor
set_option linter.unusedSimpArgs false
set_option linter.unusedVariables false
open Go.RowKit

/-- Codes of plain data. -/
inductive Ty where
  | int (k : IntKind)
  | bool
  | str
  | slice (e : Ty)
  | ptr (e : Ty)
  | agg (t : Ty)
  | nil
  | pair (a b : Ty)
  | clo (g : FuncId) (t : Ty)
  deriving DecidableEq, Inhabited

/-- What a code stands for. -/
@[reducible] def Ty.den : Ty → Type
  | .int _ => Int
  | .bool => Bool
  | .str => ByteArray
  | .slice e => List e.den
  | .ptr e => Option e.den
  | .agg t => t.den
  | .nil => Unit
  | .pair a b => a.den × b.den
  | .clo _ t => t.den

/-- How many cells it takes. -/
def Ty.sz : Ty → Nat
  | .agg t => t.sz
  | .nil => 0
  | .pair a b => a.sz + b.sz
  | _ => 1

/-- So many cells lie in a row. -/
def CellsAt (w : World) (b o : Nat) (us : List Value) : Prop := ∀ j u, us[j]? = some u → w.cell? ⟨b, o + j, none⟩ = some u

/-- The cells 'cs' hold the data 'x', whose memory lies in the blocks 'ok'. -/
def Ty.rp : (τ : Ty) → World → (Nat → Prop) → List Value → τ.den → Prop
  | .int k, _, _, cs, x => cs = [.int k x] ∧ (Lit.int k x).wf = true
  | .bool, _, _, cs, x => cs = [.bool x]
  | .str, _, _, cs, x => cs = [.string x] ∧ x.size ≤ maxLen
  | .slice e, w, ok, cs, xs => ∃ A cap, cs = [.slice A xs.length cap] ∧ xs.length ≤ cap ∧ cap ≤ maxLen ∧
      (0 < xs.length → ∃ b o, A = some ⟨b, o, none⟩ ∧ ok b ∧ ∀ (i : Nat) (h : i < xs.length), ∃ us, e.rp w ok us xs[i] ∧ CellsAt w b (o + i * e.sz) us)
  | .ptr _, _, _, cs, none => cs = [.pointer none]
  | .ptr e, w, ok, cs, some x => ∃ b o us, cs = [.pointer (some ⟨b, o, none⟩)] ∧ ok b ∧ e.rp w ok us x ∧ CellsAt w b o us
  | .agg t, w, ok, cs, x => t.rp w ok cs x
  | .nil, _, _, cs, _ => cs = []
  | .pair a b, w, ok, cs, x => ∃ c1 c2, cs = c1 ++ c2 ∧ a.rp w ok c1 x.1 ∧ b.rp w ok c2 x.2
  | .clo g t, w, ok, cs, x => ∃ us : List Value, cs = [.func (.func g) #[] us.toArray] ∧ t.rp w ok us x

theorem CellsAt.keep {w w' : World} {b o : Nat} {us : List Value} (h : CellsAt w b o us) (hk : w'.heap[b]? = w.heap[b]?) : CellsAt w' b o us :=
  fun j u hu => (World.cell?_of_block (w := w) hk).trans (h j u hu)

theorem Ty.rp_len : ∀ (τ : Ty) {w : World} {ok : Nat → Prop} {cs : List Value} {x : τ.den}, τ.rp w ok cs x → cs.length = τ.sz
  | .int _, _, _, _, _, h => by rw [h.1]; rfl
  | .bool, _, _, _, _, h => by rw [show _ = _ from h]; rfl
  | .str, _, _, _, _, h => by rw [h.1]; rfl
  | .slice _, _, _, _, _, h => by obtain ⟨_, _, rfl, _⟩ := h; rfl
  | .ptr _, _, _, _, none, h => by rw [show _ = _ from h]; rfl
  | .ptr _, _, _, _, some _, h => by obtain ⟨_, _, _, rfl, _⟩ := h; rfl
  | .agg t, _, _, _, _, h => t.rp_len h
  | .nil, _, _, _, _, h => by rw [show _ = _ from h]; rfl
  | .pair a b, _, _, _, _, h => by
    obtain ⟨c1, c2, rfl, h1, h2⟩ := h
    rw [List.length_append, a.rp_len h1, b.rp_len h2]; rfl
  | .clo _ _, _, _, _, _, h => by obtain ⟨_, rfl, _⟩ := h; rfl

theorem Ty.rp_keep : ∀ (τ : Ty) {w w' : World} {ok ok' : Nat → Prop} {cs : List Value} {x : τ.den}, τ.rp w ok cs x → (∀ b, ok b → w'.heap[b]? = w.heap[b]?) → (∀ b, ok b → ok' b) → τ.rp w' ok' cs x
  | .int _, _, _, _, _, _, _, h, _, _ => h
  | .bool, _, _, _, _, _, _, h, _, _ => h
  | .str, _, _, _, _, _, _, h, _, _ => h
  | .slice e, _, _, _, _, _, _, h, hk, hm => by
    obtain ⟨A, cap, rfl, h1, h2, h3⟩ := h
    refine ⟨A, cap, rfl, h1, h2, fun h0 => ?_⟩
    obtain ⟨b, o, rfl, hb, hc⟩ := h3 h0
    refine ⟨b, o, rfl, hm b hb, fun i hi => ?_⟩
    obtain ⟨us, hr, hcs⟩ := hc i hi
    exact ⟨us, e.rp_keep hr hk hm, hcs.keep (hk b hb)⟩
  | .ptr _, _, _, _, _, _, none, h, _, _ => h
  | .ptr e, _, _, _, _, _, some _, h, hk, hm => by
    obtain ⟨b, o, us, rfl, hb, hr, hcs⟩ := h
    exact ⟨b, o, us, rfl, hm b hb, e.rp_keep hr hk hm, hcs.keep (hk b hb)⟩
  | .agg t, _, _, _, _, _, _, h, hk, hm => t.rp_keep h hk hm
  | .nil, _, _, _, _, _, _, h, _, _ => h
  | .pair a b, _, _, _, _, _, _, h, hk, hm => by
    obtain ⟨c1, c2, rfl, h1, h2⟩ := h
    exact ⟨c1, c2, rfl, a.rp_keep h1 hk hm, b.rp_keep h2 hk hm⟩
  | .clo _ t, _, _, _, _, _, _, h, hk, hm => by
    obtain ⟨us, rfl, h1⟩ := h
    exact ⟨us, rfl, t.rp_keep h1 hk hm⟩

/-- Every cell of data is one cell. -/
theorem Ty.rp_one : ∀ (τ : Ty) {w : World} {ok : Nat → Prop} {cs : List Value} {x : τ.den}, τ.rp w ok cs x → ∀ v ∈ cs, v.oneCell' = true
  | .int _, _, _, _, _, h => by rw [h.1]; simp; rfl
  | .bool, _, _, _, _, h => by rw [show _ = _ from h]; simp; rfl
  | .str, _, _, _, _, h => by rw [h.1]; simp; rfl
  | .slice _, _, _, _, _, h => by obtain ⟨_, _, rfl, _⟩ := h; simp; rfl
  | .ptr _, _, _, _, none, h => by rw [show _ = _ from h]; simp; rfl
  | .ptr _, _, _, _, some _, h => by obtain ⟨_, _, _, rfl, _⟩ := h; simp; rfl
  | .agg t, _, _, _, _, h => t.rp_one h
  | .nil, _, _, _, _, h => by rw [show _ = _ from h]; simp
  | .pair a b, _, _, _, _, h => by
    obtain ⟨c1, c2, rfl, h1, h2⟩ := h
    intro v hv
    rcases List.mem_append.1 hv with hv | hv
    · exact a.rp_one h1 v hv
    · exact b.rp_one h2 v hv
  | .clo _ _, _, _, _, _, h => by obtain ⟨_, rfl, _⟩ := h; simp; rfl

/-- A code by which data can be cast. -/
def Ty.castD {a b : Ty} (x : a.den) : Option b.den := if h : a = b then some (h ▸ x) else none
def Ty.castL {a b : Ty} (x : List a.den) : Option (List b.den) := if h : a = b then some (h ▸ x) else none
def Ty.castO {a b : Ty} (x : Option a.den) : Option (Option b.den) := if h : a = b then some (h ▸ x) else none
theorem Ty.castD_eq {a b : Ty} {x : a.den} {y : b.den} (h : Ty.castD x = some y) : ∃ e : a = b, y = e ▸ x := by
  unfold Ty.castD at h
  split at h
  · rename_i e; exact ⟨e, by simpa using h.symm⟩
  · cases h
theorem Ty.castL_eq {a b : Ty} {x : List a.den} {y : List b.den} (h : Ty.castL x = some y) : ∃ e : a = b, y = e ▸ x := by
  unfold Ty.castL at h
  split at h
  · rename_i e; exact ⟨e, by simpa using h.symm⟩
  · cases h
theorem Ty.castO_eq {a b : Ty} {x : Option a.den} {y : Option b.den} (h : Ty.castO x = some y) : ∃ e : a = b, y = e ▸ x := by
  unfold Ty.castO at h
  split at h
  · rename_i e; exact ⟨e, by simpa using h.symm⟩
  · cases h
end Go.Proofs.YtbdokiecpmhjmaaGreatDoor
