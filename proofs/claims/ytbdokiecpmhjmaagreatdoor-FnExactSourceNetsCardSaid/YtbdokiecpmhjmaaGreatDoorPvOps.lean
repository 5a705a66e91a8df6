/- One operation at a time: what it does to the frame is what was reckoned on plain data. No condition of its own. -/
import Derived.Test.YtbdokiecpmhjmaaGreatDoorPvRun
namespace Go.Proofs.YtbdokiecpmhjmaaGreatDoor
set_option linter.unusedSimpArgs false
set_option linter.unusedVariables false
open Go.RowKit

/-- The operation yields a value and a world. -/
def Yields (P : Program) (o : Oper) (a : Act) (w : World) (F : Value → World → Prop) : Prop :=
  ∀ (next : Act → World → Prop) (Q : Exit → Act → World → Prop), (∀ V w', F V w' → next (a.put o.dst V) w') → o.wp P a w next Q
theorem Yields.value {P : Program} {o : Oper} {a : Act} {w w' : World} {F : Value → World → Prop} {V : Value} (h : (execOp a.eval o).run P w = .ok (.value V) w') (hF : F V w') : Yields P o a w F := by
  intro next Q hn
  unfold Oper.wp
  rw [h]
  exact hn V w' hF
theorem Yields.skip {P : Program} {o : Oper} {a : Act} {w w' : World} {F : Value → World → Prop} (h : (execOp a.eval o).run P w = .ok .skip w') (hF : F undef w') : Yields P o a w F := by
  intro next Q hn
  unfold Oper.wp
  rw [h]
  exact hn undef w' hF
theorem Yields.enter {P : Program} {o : Oper} {a : Act} {w w' : World} {F : Value → World → Prop} {f : FuncId} {args : Array Value} (h : (execOp a.eval o).run P w = .ok (.enter f args) w')
    (hc : Calls P f args w' (fun e w'' => ∃ V, e = .returned V ∧ F V w'')) : Yields P o a w F := by
  intro next Q hn
  unfold Oper.wp
  rw [h]
  exact hc.mono fun e w'' ⟨V, he, hF⟩ => by subst he; exact hn V w'' hF
theorem Yields.mono {P : Program} {o : Oper} {a : Act} {w : World} {F F' : Value → World → Prop} (h : Yields P o a w F) (hF : ∀ V w', F V w' → F' V w') : Yields P o a w F' :=
  fun next Q hn => h next Q fun V w' hf => hn V w' (hF V w' hf)

/-- The parameters' values hold the data. -/
def ArgsOk (w : World) (ok : Nat → Prop) : (τ : Ty) → List Value → τ.den → Prop
  | .pair a b, v :: vs, x => (∃ cs, v = pack1 a cs ∧ a.rp w ok cs x.1) ∧ ArgsOk w ok b vs x.2
  | .nil, [], _ => True
  | _, _, _ => False
/-- The values of a list of results. -/
def packs : Ty → List Value → List Value
  | .pair a b, cs => pack1 a (cs.take a.sz) :: packs b (cs.drop a.sz)
  | _, _ => []
def packR (τ : Ty) (cs : List Value) : Value := match packs τ cs with
  | [v] => v
  | vs => .tuple vs.toArray
/-- What a contract says of its results: the flagged rows are new and nobody else's. -/
def ResOk (S : FnSpec) (w : World) (ok : Nat → Prop) (w' : World) (V : Value) (r : S.rs.den) : Prop :=
  ∃ (G : GM) (vs : List Value), V = packR S.rs vs ∧ RCs w' (imm w ok w' G) G (ownAcs S.deep S.own 0 (S.rs.acs r)).1 vs ∧ St w ok (ownAcs S.deep S.own 0 (S.rs.acs r)).2 w' G
/-- A function does on memory what its contract says on data. -/
def Sound (P : Program) (Pre : World → Prop) (f : FuncId) (S : FnSpec) : Prop :=
  ∀ (w : World) (args : Array Value) (x : S.ps.den) (r : S.rs.den) (ok : Nat → Prop), Pre w → (∀ b, ok b → b < w.heap.size) → ArgsOk w ok S.ps args.toList x → S.fn x = some r →
    Calls P f args w (fun e w' => ∃ V, e = .returned V ∧ ResOk S w ok w' V r)

section
variable {ρ : Type} {P : Program} {w0 : World} {ok0 : Nat → Prop}

/-- The one list of blocks goes on the other. -/
def Pfx (h H : List (Nat × Ob)) : Prop := ∀ (i : Nat) (p : Nat × Ob), h[i]? = some p → ∃ p' : Nat × Ob, H[i]? = some p' ∧ p'.2 = p.2

/-- What an operation that overwrites nothing does, whatever else has been made meanwhile. -/
def NoFrames (D : List (Nat × Ob)) : Prop := ∀ p ∈ D, ∀ k l, p.2 ≠ .frame k l
def Stable (P : Program) (w0 : World) (ok0 : Nat → Prop) (σ : Env) (D : List (Nat × Ob)) (o : Oper) (v : AV) : Prop :=
  NoFrames D ∧ ∀ (H : List (Nat × Ob)) (w : World) (G : GM) (a : Act), Pfx (σ.h ++ D) H → St w0 ok0 H w G →
    (∀ x ∈ o.op.operands, RV w (imm w0 ok0 w G) G (σ.ev x) (a.eval x)) → (∀ id, σ.h.length ≤ id → id < σ.h.length + D.length → G id = none) →
    Yields P o a w (fun V w' => ∃ G', St w0 ok0 H w' G' ∧ Later w G w' G' ∧ (∀ id gh, G' id = some gh → G id = some gh ∨ (σ.h.length ≤ id ∧ id < σ.h.length + D.length)) ∧
      RV w' (imm w0 ok0 w' G') G' v V)

/-- An operation that leaves the world alone. -/
theorem stable_same {σ : Env} {o : Oper} {v : AV}
    (h : ∀ (H : List (Nat × Ob)) (w : World) (G : GM) (a : Act), Pfx σ.h H → St w0 ok0 H w G → (∀ x ∈ o.op.operands, RV w (imm w0 ok0 w G) G (σ.ev x) (a.eval x)) →
      ∃ V, (execOp a.eval o).run P w = .ok (.value V) w ∧ RV w (imm w0 ok0 w G) G v V) : Stable P w0 ok0 σ [] o v := by
  refine ⟨fun p h => by simp at h, ?_⟩
  intro H w G a hp hst hops _
  obtain ⟨V, h1, h2⟩ := h H w G a (by simpa using hp) hst hops
  exact .value h1 ⟨G, hst, Later.refl w G, fun id gh hg => .inl hg, h2⟩

/-- What of the call's own memory a slot leads to is what stands there. -/
theorem St.obOf {H h : List (Nat × Ob)} {w : World} {G : GM} {id : Nat} {gh : Gh} (hst : St w0 ok0 H w G) (hp : Pfx h H)
    (hg : G id = some gh) (hn : (nth h id (0, .gone)).2 ≠ .gone) : ObR w (imm w0 ok0 w G) G gh (nth h id (0, .gone)).2 := by
  rw [nth_eq] at hn ⊢
  cases hi : h[id]? with
  | none => simp [hi] at hn
  | some p =>
    obtain ⟨p', hp', he⟩ := hp id p hi
    obtain ⟨q, hq, ho⟩ := hst.ob id gh hg
    rw [hp'] at hq
    cases hq
    simpa [he] using ho

/-- A new block of the call's own. -/
theorem St.make {H : List (Nat × Ob)} {w w' : World} {G : GM} (hst : St w0 ok0 H w G) {n : Nat} {p : Nat × Ob} (hH : H[n]? = some p) (hG : G n = none) (gh : Gh) (hext : Ext w w')
    (hb : ∀ b, gh.has b → w.heap.size ≤ b ∧ b < w'.heap.size)
    (ho : ∀ G', Later w G w' G' → G' n = some gh → ObR w' (imm w0 ok0 w' G') G' gh p.2) :
    ∃ G', G' n = some gh ∧ St w0 ok0 H w' G' ∧ Later w G w' G' ∧ ∀ id g, G' id = some g → G id = some g ∨ id = n := by
  let G' : GM := fun id => if id = n then some gh else G id
  have hn : G' n = some gh := by simp [G']
  have hne : ∀ id, id ≠ n → G' id = G id := fun id h => by simp [G', h]
  have hl : Later w G w' G' := by
    refine ⟨hext, fun id g hg => ?_, fun id g b hg hgb => ?_⟩
    · by_cases h : id = n
      · subst h; rw [hG] at hg; cases hg
      · rw [hne id h]; exact hg
    · by_cases h : id = n
      · subst h; rw [hn] at hg; cases hg; exact .inr (hb b hgb).1
      · rw [hne id h] at hg; exact .inl hg
  refine ⟨G', hn, hst.later hl (fun id p g hp hg => ⟨p, hp, rfl⟩) (fun id g hg => ?_) (fun id id' g g' b h1 h2 h3 h4 h5 => ?_) (fun id g b hg hgb => ?_), hl, fun id g hg => ?_⟩
  · by_cases h : id = n
    · subst h; rw [hn] at hg; cases hg; exact .inr ⟨p, hH, ho G' hl hn⟩
    · rw [hne id h] at hg; exact .inl hg
  · have hk : ∀ id g, G' id = some g → g.has b → id = n := fun id g hg hgb => by
      by_cases h : id = n
      · exact h
      · rw [hne id h] at hg
        have := (hst.low id g b hg hgb).2
        omega
    rw [hk id g h1 h3, hk id' g' h2 h4]
  · by_cases h : id = n
    · subst h; rw [hn] at hg; cases hg; exact (hb b hgb).2
    · rw [hne id h] at hg
      exact Nat.lt_of_lt_of_le (hst.low id g b hg hgb).2 hext.size
  · by_cases h : id = n
    · exact .inr h
    · rw [hne id h] at hg; exact .inl hg

/-- An operation that makes one block. -/
theorem stable_new {σ : Env} {o : Oper} {v : AV} {ob : Ob}
    (h : ∀ (H : List (Nat × Ob)) (w : World) (G : GM) (a : Act), Pfx σ.h H → St w0 ok0 H w G → (∀ x ∈ o.op.operands, RV w (imm w0 ok0 w G) G (σ.ev x) (a.eval x)) →
      ∃ V w' gh, (execOp a.eval o).run P w = .ok (.value V) w' ∧ Ext w w' ∧ (∀ b, Gh.has gh b → w.heap.size ≤ b ∧ b < w'.heap.size) ∧
        ∀ G', Later w G w' G' → G' σ.h.length = some gh → ObR w' (imm w0 ok0 w' G') G' gh ob ∧ RV w' (imm w0 ok0 w' G') G' v V) (hnf : ∀ k l, ob ≠ .frame k l := by intro k l h; cases h) : Stable P w0 ok0 σ [(0, ob)] o v := by
  refine ⟨fun p h k l he => by simp at h; subst h; exact hnf k l he, ?_⟩
  intro H w G a hp hst hops hfr
  obtain ⟨V, w', gh, h1, h2, h3, h4⟩ := h H w G a (fun i p hi => hp i p (by rw [List.getElem?_append_left (List.getElem?_eq_some_iff.1 hi).1]; exact hi)) hst hops
  obtain ⟨q, hq, hq2⟩ := hp σ.h.length (0, ob) (by simp)
  obtain ⟨G', g1, g2, g3, g4⟩ := hst.make hq (hfr _ (Nat.le_refl _) (by simp)) gh h2 h3 (fun G' hl hn => by rw [hq2]; exact (h4 G' hl hn).1)
  refine .value h1 ⟨G', g2, g3, fun id g hg => ?_, (h4 G' g3 g1).2⟩
  rcases g4 id g hg with h | rfl
  · exact .inl h
  · exact .inr ⟨Nat.le_refl _, by simp⟩

theorem Env.eta (σ : Env) : σ = { σ with h := σ.h ++ [] } := by simp
theorem Env.eta' (σ : Env) (ob : Ob) : σ.newOb ob = { σ with h := σ.h ++ [(0, ob)] } := rfl

/-- Out of cells. -/
theorem loadK_sound {σ : Env} {t : TypeId} {cs : List AC} {off : Nat} {K : AV → Env → Option ρ} {r : ρ} (h : loadK P σ t cs off K = some r) :
    ∃ v d, P.underlying t = some d ∧ K v σ = some r ∧ ((aggD d = true ∧ off + sizeT P t ≤ cs.length ∧ v = .agg (sub cs off (sizeT P t))) ∨ (aggD d = false ∧ ∃ c, cs[off]? = some c ∧ v = .one c)) := by
  unfold loadK at h
  split at h
  · rename_i d hd
    cases ha : aggD d
    · simp only [ha, cond_false] at h
      by_cases hl : off < cs.length
      · simp only [hl, decide_true, cond_true] at h
        exact ⟨_, d, hd, h, .inr ⟨ha, cs[off], by simp [hl], by simp [nth_eq, hl]⟩⟩
      · simp [hl] at h
    · simp only [ha, cond_true] at h
      by_cases hl : off + sizeT P t ≤ cs.length
      · simp only [hl, decide_true, cond_true] at h
        exact ⟨_, d, hd, h, .inl ⟨ha, hl, rfl⟩⟩
      · simp [hl] at h
  · cases h
theorem loadV {t : TypeId} {d : TypeDesc} {cs : List AC} {off : Nat} {v : AV} (ht : P.underlying t = some d)
    (hv : (aggD d = true ∧ off + sizeT P t ≤ cs.length ∧ v = .agg (sub cs off (sizeT P t))) ∨ (aggD d = false ∧ ∃ c, cs[off]? = some c ∧ v = .one c))
    {w : World} {ok : Nat → Prop} {G : GM} {b o : Nat} {us : List Value} (hr : RCs w ok G cs us) (hc : CellsAt w b o us) :
    ∃ V, (loadVar t ⟨b, o + off, none⟩).run P w = .ok V w ∧ RV w ok G v V := by
  obtain ⟨h1, h2⟩ := run_loadT (off := off) ht hc
  rcases hv with ⟨hd, hl, rfl⟩ | ⟨hd, c, hcc, rfl⟩
  · exact ⟨_, h1 hd (by rw [← hr.1]; exact hl), _, rfl, hr.sub _ _⟩
  · have hlt : off < us.length := by rw [← hr.1]; exact (List.getElem?_eq_some_iff.1 hcc).1
    have hu : us[off]? = some us[off] := List.getElem?_eq_getElem hlt
    exact ⟨_, h2 hd _ hu, hr.2 off c _ hcc hu⟩
theorem partV {t : TypeId} {d : TypeDesc} {cs : List AC} {off : Nat} {v : AV} (ht : P.underlying t = some d)
    (hv : (aggD d = true ∧ off + sizeT P t ≤ cs.length ∧ v = .agg (sub cs off (sizeT P t))) ∨ (aggD d = false ∧ ∃ c, cs[off]? = some c ∧ v = .one c))
    {w : World} {ok : Nat → Prop} {G : GM} {us : List Value} (hr : RCs w ok G cs us) :
    ∃ V, (part t us.toArray off).run P w = .ok V w ∧ RV w ok G v V := by
  obtain ⟨h1, h2⟩ := run_partT (off := off) (us := us) (w := w) ht
  rcases hv with ⟨hd, hl, rfl⟩ | ⟨hd, c, hcc, rfl⟩
  · exact ⟨_, h1 hd, _, rfl, hr.sub _ _⟩
  · have hlt : off < us.length := by rw [← hr.1]; exact (List.getElem?_eq_some_iff.1 hcc).1
    have hu : us[off]? = some us[off] := List.getElem?_eq_getElem hlt
    exact ⟨_, h2 hd _ hu, hr.2 off c _ hcc hu⟩

theorem obind_some {α ρ : Type} {o : Option α} {k : α → Option ρ} {r : ρ} (h : obind o k = some r) : ∃ x, o = some x ∧ k x = some r := by
  cases o with
  | none => cases h
  | some x => exact ⟨x, rfl, h⟩
theorem bif_some {α : Type} {b : Bool} {x : Option α} {r : α} (h : (bif b then x else none) = some r) : b = true ∧ x = some r := by
  cases b
  · cases h
  · exact ⟨rfl, h⟩

/-- Numbers, bools, strings. -/
theorem intK_sound {op : BinOp} (t : TypeId) {k : IntKind} {a b : Int} {σ : Env} {K : AV → Env → Option ρ} {r : ρ} (h : intK op k a b σ K = some r) (ha : (Lit.int k a).wf = true) :
    ∃ v, K v σ = some r ∧ ∀ (w : World) (ok : Nat → Prop) (G : GM), ∃ V, (binOp op t (.int k a) (.int k b)).run P w = .ok V w ∧ RV w ok G v V := by
  cases op with
  | add => exact ⟨_, h, fun w ok G => ⟨.int k (k.wrap (a + b)), by simp [binOp, Op.intArith], rfl, wf_wrap _ _⟩⟩
  | sub => exact ⟨_, h, fun w ok G => ⟨.int k (k.wrap (a - b)), by simp [binOp, Op.intArith], rfl, wf_wrap _ _⟩⟩
  | mul => exact ⟨_, h, fun w ok G => ⟨.int k (k.wrap (a * b)), by simp [binOp, Op.intArith], rfl, wf_wrap _ _⟩⟩
  | quo =>
    simp only [intK] at h
    by_cases hb : b = 0
    · simp [hb] at h
    · simp only [hb, decide_false, cond_false] at h
      exact ⟨_, h, fun w ok G => ⟨.int k (k.wrap (a.tdiv b)), by simp [binOp, Op.intDiv, hb], rfl, wf_wrap _ _⟩⟩
  | rem =>
    simp only [intK] at h
    by_cases hb : b = 0
    · simp [hb] at h
    · simp only [hb, decide_false, cond_false] at h
      exact ⟨_, h, fun w ok G => ⟨.int k (a.tmod b), by simp [binOp, Op.intDiv, hb], rfl, wf_tmod ha⟩⟩
  | eql => exact ⟨_, h, fun w ok G => ⟨.bool (decide (a = b)), by simp [binOp, Op.intCmp, BEq.beq], rfl⟩⟩
  | neq => exact ⟨_, h, fun w ok G => ⟨.bool (!decide (a = b)), by simp [binOp, Op.intCmp, bne, BEq.beq], rfl⟩⟩
  | lss => exact ⟨_, h, fun w ok G => ⟨.bool (decide (a < b)), by simp [binOp, Op.intCmp], rfl⟩⟩
  | leq => exact ⟨_, h, fun w ok G => ⟨.bool (decide (a ≤ b)), by simp [binOp, Op.intCmp], rfl⟩⟩
  | gtr => exact ⟨_, h, fun w ok G => ⟨.bool (decide (b < a)), by simp [binOp, Op.intCmp], rfl⟩⟩
  | geq => exact ⟨_, h, fun w ok G => ⟨.bool (decide (b ≤ a)), by simp [binOp, Op.intCmp], rfl⟩⟩
  | shl =>
    obtain ⟨hb, h⟩ := bif_some h
    have hb : ¬ b < 0 := by have : 0 ≤ b := by simpa using hb
                            omega
    exact ⟨_, h, fun w ok G => ⟨.int k (k.wrap (a * 2 ^ (min b.toNat k.bits))), by simp [binOp, Op.shift, hb], rfl, wf_wrap _ _⟩⟩
  | shr =>
    obtain ⟨hb, h⟩ := bif_some h
    have hb : ¬ b < 0 := by have : 0 ≤ b := by simpa using hb
                            omega
    exact ⟨_, h, fun w ok G => ⟨.int k (a.fdiv (2 ^ (min b.toNat k.bits))), by simp [binOp, Op.shift, hb], rfl, wf_fdiv _ ha⟩⟩
  | _ => cases h
end
end Go.Proofs.YtbdokiecpmhjmaaGreatDoor
