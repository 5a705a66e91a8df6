/- Each kind of operation that overwrites nothing. No condition of its own. -/
import Derived.Test.YtbdokiecpmhjmaaGreatDoorPvOps
import Derived.Laws.BytesString
import Derived.Laws.Tables
import Derived.Laws.Strings
import Derived.Laws.StructEq
namespace Go.Proofs.YtbdokiecpmhjmaaGreatDoor
set_option linter.unusedSimpArgs false
set_option linter.unusedVariables false
open Go.RowKit

section
variable {ρ : Type} {P : Program} {C : Ctx} {I : Inl ρ} {w0 : World} {ok0 : Nat → Prop} {σ : Env} {o : Oper} {K : AV → Env → Option ρ} {r : ρ}

/-- What is to be shown of an operation. -/
abbrev Goes (P : Program) (w0 : World) (ok0 : Nat → Prop) (σ : Env) (o : Oper) (K : AV → Env → Option ρ) (r : ρ) : Prop :=
  ∃ v D, K v { σ with h := σ.h ++ D } = some r ∧ Stable P w0 ok0 σ D o v
theorem goes_same {v : AV} (hK : K v σ = some r)
    (h : ∀ (H : List (Nat × Ob)) (w : World) (G : GM) (a : Act), Pfx σ.h H → St w0 ok0 H w G → (∀ x ∈ o.op.operands, RV w (imm w0 ok0 w G) G (σ.ev x) (a.eval x)) →
      ∃ V, (execOp a.eval o).run P w = .ok (.value V) w ∧ RV w (imm w0 ok0 w G) G v V) : Goes P w0 ok0 σ o K r :=
  ⟨v, [], by rw [← Env.eta]; exact hK, stable_same h⟩

theorem go_move {x : Operand} (ho : o.op = .move x) (hK : opK P C I σ o K = some r) : Goes P w0 ok0 σ o K r := by
  simp only [opK, ho] at hK
  refine goes_same hK fun H w G a _ _ hx => ⟨a.eval x, by simp [execOp, ho], hx x (by simp [ho, Op.operands])⟩
theorem go_assign {x : Operand} (ho : o.op = .assign x) (hK : opK P C I σ o K = some r) : Goes P w0 ok0 σ o K r := by
  simp only [opK, ho] at hK
  refine goes_same hK fun H w G a _ _ hx => ⟨a.eval x, by simp [execOp, ho], hx x (by simp [ho, Op.operands])⟩
theorem go_pick {c x y : Operand} (ho : o.op = .pick c x y) (hK : opK P C I σ o K = some r) : Goes P w0 ok0 σ o K r := by
  simp only [opK, ho] at hK
  split at hK
  · rename_i t hc
    have hcv : ∀ (H : List (Nat × Ob)) (w : World) (G : GM) (a : Act), (∀ x ∈ o.op.operands, RV w (imm w0 ok0 w G) G (σ.ev x) (a.eval x)) → a.eval c = .bool t := fun H w G a hx => by
      have := hx c (by simp [ho, Op.operands])
      rw [hc] at this
      exact this
    cases t
    · exact goes_same hK fun H w G a _ _ hx => ⟨a.eval y, by simp [execOp, ho, hcv H w G a hx, asBool], hx y (by simp [ho, Op.operands])⟩
    · exact goes_same hK fun H w G a _ _ hx => ⟨a.eval x, by simp [execOp, ho, hcv H w G a hx, asBool], hx x (by simp [ho, Op.operands])⟩
  · cases hK

/-- The cells of a slot. -/
theorem cells_rv {w : World} {ok : Nat → Prop} {G : GM} {v : AV} {V : Value} (h : RV w ok G v V) (hg : v.cells.all AC.good = true) (hh : ∀ id gh, G id = some gh → gh.hdr.oneCell' = true) : RCs w ok G v.cells V.cells.toList := by
  cases v with
  | one c =>
    have h1 := RC.one' (c := c) h (by simpa [AV.cells] using hg) hh
    have : V.cells = #[V] := by cases V <;> first | rfl | cases h1
    rw [this]
    exact RCs.cons h RCs.nil
  | agg cs => obtain ⟨vs, rfl, h⟩ := h; simpa [AV.cells, Value.cells] using h
  | tup l => simp [AV.cells, AC.good] at hg

theorem alloc_ext (w : World) (o : Obj) : Ext w (w.alloc o) := (Ext.refl w).alloc o
theorem goes_var {cs : List AC} {t : TypeId} {Z : Act → Value} (hK : K (.one (.vptr σ.h.length 0)) (σ.newOb (.var cs)) = some r)
    (hrun : ∀ (w : World) (a : Act), (execOp a.eval o).run P w = .ok (.value (.pointer (some ⟨w.heap.size, 0, none⟩))) (w.alloc (.cells (Z a).cells t)))
    (hZ : ∀ (H : List (Nat × Ob)) (w : World) (G : GM) (a : Act), St w0 ok0 H w G → (∀ x ∈ o.op.operands, RV w (imm w0 ok0 w G) G (σ.ev x) (a.eval x)) → RCs w (imm w0 ok0 w G) G cs (Z a).cells.toList) : Goes P w0 ok0 σ o K r := by
  refine ⟨_, [(0, .var cs)], hK, stable_new fun H w G a _ hst hx => ⟨_, _, .mk0 (some w.heap.size) (.bool true), hrun w a, alloc_ext _ _, fun b hb => ?_, fun G' hl hg => ⟨?_, ?_⟩⟩⟩
  · cases Gh.has0.1 hb; exact ⟨Nat.le_refl _, by simp⟩
  · exact ⟨w.heap.size, (Z a).cells.toList, t, rfl, rfl, by rw [Array.toArray_toList]; exact heap_alloc_new w _, (hZ H w G a hst hx).later hl⟩
  · exact ⟨_, w.heap.size, hg, rfl, rfl⟩
theorem go_box {t : TypeId} {x : Operand} (ho : o.op = .box t x) (hK : opK P C I σ o K = some r) : Goes P w0 ok0 σ o K r := by
  simp only [opK, ho] at hK
  obtain ⟨hg, hK⟩ := bif_some hK
  cases hraw : C.isRaw o.dst with
  | true =>
    rw [hraw] at hK
    simp only [cond_true] at hK
    split at hK
    · rename_i e he
      split at hK
      · rename_i y hy
        refine ⟨_, [], by rw [List.append_nil]; exact hK, (fun p h => by simp at h), fun H w G a hp hst hx _ => ?_⟩
        have hrun : (execOp a.eval o).run P w = .ok (.value (.pointer (some ⟨w.heap.size, 0, none⟩))) (w.alloc (.cells (a.eval x).cells t)) := by simp [execOp, ho, Instr.box, newVar, newRow]
        have hl : Later w G (w.alloc (.cells (a.eval x).cells t)) G := Later.of_ext G (alloc_ext _ _)
        have hr := cells_rv (hx x (by simp [ho, Op.operands])) hg hst.hdr
        refine .value hrun ⟨G, hst.later hl (fun id p gh hp _ => ⟨p, hp, rfl⟩) (fun id gh hg => .inl hg) (fun id id' gh gh' b g1 g2 g3 g4 _ => hst.inj id id' gh gh' b g1 g2 g3 g4) (fun id gh b hg hb => Nat.lt_of_lt_of_le (hst.low id gh b hg hb).2 hl.ext.size), hl, fun id gh hg => .inl hg, ?_⟩
        refine ⟨w.heap.size, 0, (a.eval x).cells.toList, rfl, ⟨.inr hst.ext.size, by simp, fun id gh hg hb => ?_⟩, Ty.rp_keep e (Ty.ofAcs_nil hy hr) (fun _ => hl.heap) (fun _ => hl.imm), fun j u hj => ?_⟩
        · have := (hst.low id gh _ hg hb).2
          omega
        · rw [cell_of_row (heap_alloc_new w _), Nat.zero_add]
          simpa using hj
      · cases hK
    · cases hK
  | false =>
  rw [hraw] at hK
  exact goes_var (t := t) (Z := fun a => a.eval x) hK (fun w a => by simp [execOp, ho, Instr.box, newVar, newRow]) fun H w G a hst hx => cells_rv (hx x (by simp [ho, Op.operands])) hg hst.hdr
theorem go_alloc {t : TypeId} (ho : o.op = .alloc t) (hK : opK P C I σ o K = some r) : Goes P w0 ok0 σ o K r := by
  simp only [opK, ho] at hK
  split at hK
  · rename_i v hv
    obtain ⟨hg, hK⟩ := bif_some hK
    unfold zeroOf at hv
    split at hv
    · rename_i i hi
      obtain ⟨z, hz, rfl⟩ := Option.map_eq_some_iff.1 hv
      exact goes_var (t := t) (Z := fun _ => z) hK (fun w a => by simp [execOp, ho, Instr.alloc, zeroValue, typeInfo, hi, hz, newVar, newRow]) fun H w G a hst _ => cells_rv (RV_const _ _ _ z) hg hst.hdr
    · cases hv
  · cases hK

theorem isSl_spec {t : TypeId} (h : isSl P t = true) : ∃ et, P.underlying t = some (.slice et) := by
  unfold isSl at h
  split at h
  · rename_i et hu; exact ⟨et, hu⟩
  · cases h
theorem go_load (htab : ∀ w, Ext w0 w → TabsAt C.tabs w) {t : TypeId} {x : Operand} (ho : o.op = .load t x) (hK : opK P C I σ o K = some r) : Goes P w0 ok0 σ o K r := by
  simp only [opK, ho] at hK
  split at hK
  · rename_i id off hx
    split at hK
    · rename_i cs hob
      obtain ⟨v, d, hd, hK, hv⟩ := loadK_sound hK
      refine goes_same hK fun H w G a hp hst hops => ?_
      have hxa := hops x (by simp [ho, Op.operands])
      rw [hx] at hxa
      obtain ⟨gh, b, hg, hb, he⟩ := hxa
      have hr := hst.obOf hp hg (by rw [show (nth σ.h id (0, .gone)).2 = _ from hob]; simp)
      rw [show (nth σ.h id (0, .gone)).2 = _ from hob] at hr
      obtain ⟨b', us, ty, hb', _, hh, hr⟩ := hr
      obtain rfl : b = b' := by rw [hb] at hb'; exact Option.some.inj hb'
      have hc : CellsAt w b 0 us := fun j u hj => by rw [cell_of_row hh]; simpa using hj
      obtain ⟨V, h1, h2⟩ := loadV hd hv hr hc
      rw [Nat.zero_add] at h1
      exact ⟨V, by simp [execOp, ho, he, Instr.loadAt, Instr.sureAddr, h1], h2⟩
    · cases hK
  · rename_i e y off hx
    obtain ⟨v, d, hd, hK, hv⟩ := loadK_sound hK
    refine goes_same hK fun H w G a hp hst hops => ?_
    have hxa := hops x (by simp [ho, Op.operands])
    rw [hx] at hxa
    obtain ⟨b, oo, us, he, hb, hr, hc⟩ := hxa
    obtain ⟨V, h1, h2⟩ := loadV hd hv (e.acs_rc (G := G) hr) hc
    exact ⟨V, by simp [execOp, ho, he, Instr.loadAt, Instr.sureAddr, h1], h2⟩
  · rename_i e p hx
    obtain ⟨y, rfl, hK1⟩ := obind_some hK
    obtain ⟨v, d, hd, hK2, hv⟩ := loadK_sound hK1
    refine goes_same hK2 fun H w G a hp hst hops => ?_
    have hxa := hops x (by simp [ho, Op.operands])
    rw [hx] at hxa
    obtain ⟨b, oo, us, he, hb, hr, hc⟩ := hxa
    have he : a.eval x = _ := List.singleton_inj.1 he
    obtain ⟨V, h1, h2⟩ := loadV hd hv (e.acs_rc (G := G) hr) hc
    rw [Nat.add_zero] at h1
    exact ⟨V, by simp [execOp, ho, he, Instr.loadAt, Instr.sureAddr, h1], h2⟩
  · rename_i g i hx
    split at hK
    · rename_i xs hxs
      obtain ⟨s, hs, hK1⟩ := obind_some hK
      obtain ⟨v, d, hd, hK2, hv⟩ := loadK_sound hK1
      refine goes_same hK2 fun H w G a hp hst hops => ?_
      have hxa := hops x (by simp [ho, Op.operands])
      rw [hx] at hxa
      have he : a.eval x = _ := hxa
      obtain ⟨hc, hsz⟩ := htab w hst.ext g xs hxs i s hs
      obtain ⟨V, h1, h2⟩ := loadV hd hv (Ty.acs_rc (ok := imm w0 ok0 w G) (w := w) (G := G) .str (us := [.string s]) (x := s) ⟨rfl, hsz⟩) hc
      rw [Nat.add_zero] at h1
      exact ⟨V, by simp [execOp, ho, he, Instr.loadAt, Instr.sureAddr, h1], h2⟩
    · cases hK
  · rename_i id e i off hx
    split at hK
    · rename_i e' xs hob
      split at hK
      · rename_i ys hys
        obtain ⟨rfl, rfl⟩ := Ty.castL_eq hys
        obtain ⟨y, hy, hK⟩ := obind_some hK
        obtain ⟨v, d, hd, hK, hv⟩ := loadK_sound hK
        refine goes_same hK fun H w G a hp hst hops => ?_
        have hxa := hops x (by simp [ho, Op.operands])
        rw [hx] at hxa
        obtain ⟨gh, b, hg, hb, he⟩ := hxa
        have hr := hst.obOf hp hg (by rw [show (nth σ.h id (0, .gone)).2 = _ from hob]; simp)
        rw [show (nth σ.h id (0, .gone)).2 = _ from hob] at hr
        rcases hr with ⟨h1, _⟩ | ⟨b', cap, cur, ty, hb', _, hh, _, _, _, hel⟩
        · rw [hb] at h1; cases h1
        obtain rfl : b = b' := by rw [hb] at hb'; exact Option.some.inj hb'
        have hi := (List.getElem?_eq_some_iff.1 hy)
        obtain ⟨us, hrp, hu⟩ := hel i hi.1
        have hye : y = _ := hi.2.symm
        rw [← hye] at hrp
        have hc : CellsAt w b (i * e'.sz) us := fun j u hj => by rw [cell_of_row hh]; exact hu j u hj
        obtain ⟨V, h1, h2⟩ := loadV hd hv (Ty.acs_rc (G := G) _ hrp) hc
        exact ⟨V, by simp [execOp, ho, he, Instr.loadAt, Instr.sureAddr, h1], h2⟩
      · cases hK
    · rename_i e' xss hob
      obtain ⟨hb, hK1⟩ := bif_some hK
      simp only [Bool.and_eq_true] at hb
      obtain ⟨hoff, hsz, hsl⟩ := hb
      obtain rfl := Nat.eq_of_beq_eq_true hoff
      have hsz := Nat.eq_of_beq_eq_true hsz
      obtain ⟨et, hu⟩ := isSl_spec hsl
      obtain ⟨y, hy, hK2⟩ := obind_some hK1
      refine goes_same hK2 fun H w G a hp hst hops => ?_
      have hxa := hops x (by simp [ho, Op.operands])
      rw [hx] at hxa
      obtain ⟨gh, b, hg, hb, he⟩ := hxa
      have hr := hst.obOf hp hg (by rw [show (nth σ.h id (0, .gone)).2 = _ from hob]; simp)
      rw [show (nth σ.h id (0, .gone)).2 = _ from hob] at hr
      obtain ⟨b', cap, cur, ty, hb', _, hh, _, _, _, _, _, hel⟩ := hr
      obtain rfl : b = b' := by rw [hb] at hb'; exact Option.some.inj hb'
      obtain ⟨hi, _⟩ := List.getElem?_eq_some_iff.1 hy
      obtain ⟨hrow, hcell⟩ := hel i hi
      have hcell := hcell (by simp)
      have hc : CellsAt w b i [gh.ihdr i] := fun j u hj => by
        match j, hj with
        | 0, hj => simp at hj; subst hj; rw [cell_of_row hh]; exact hcell
        | j + 1, hj => simp at hj
      have h1 := (run_loadT hu (off := 0) hc).2 rfl _ rfl
      rw [hsz, Nat.mul_one] at he
      exact ⟨gh.ihdr i, by simp only [Nat.add_zero] at he h1; simp [execOp, ho, he, Instr.loadAt, Instr.sureAddr, h1], gh, hg, rfl, hrow.hdr1⟩
    · cases hK
  · cases hK

theorem go_nilCheck {x : Operand} (ho : o.op = .nilCheck x) (hK : opK P C I σ o K = some r) : Goes P w0 ok0 σ o K r := by
  simp only [opK, ho] at hK
  split at hK
  · rename_i id off hx
    refine goes_same hK fun H w G a hp hst hops => ?_
    have hxa := hops x (by simp [ho, Op.operands])
    rw [hx] at hxa
    have hxb := hxa
    obtain ⟨gh, b, hg, hb, he⟩ := hxb
    exact ⟨_, by simp [execOp, ho, he], gh, b, hg, hb, rfl⟩
  · rename_i e y off hx
    refine goes_same hK fun H w G a hp hst hops => ?_
    have hxa := hops x (by simp [ho, Op.operands])
    rw [hx] at hxa
    have hxb := hxa
    obtain ⟨b, oo, us, he, hb, hr, hc⟩ := hxb
    exact ⟨_, by simp [execOp, ho, he], b, oo, us, rfl, hb, hr, hc⟩
  · rename_i id e i off hx
    refine goes_same hK fun H w G a hp hst hops => ?_
    have hxa := hops x (by simp [ho, Op.operands])
    rw [hx] at hxa
    have hxb := hxa
    obtain ⟨gh, b, hg, hb, he⟩ := hxb
    exact ⟨_, by simp [execOp, ho, he], gh, b, hg, hb, rfl⟩
  · rename_i e p hx
    obtain ⟨y, rfl, hK⟩ := obind_some hK
    refine goes_same hK fun H w G a hp hst hops => ?_
    have hxa := hops x (by simp [ho, Op.operands])
    rw [hx] at hxa
    obtain ⟨b, oo, us, he, hb, hr, hc⟩ := hxa
    have he' : a.eval x = .pointer (some ⟨b, oo, none⟩) := by simpa using he
    exact ⟨_, by simp [execOp, ho, he'], b, oo, us, rfl, hb, hr, by simpa using hc⟩
  · cases hK

theorem run_equal_bool {t : TypeId} (hu : P.underlying t = some .bool) (a b : Bool) (w : World) : (Op.equal t (.bool a) (.bool b)).run P w = .ok (a == b) w := by
  show (Op.equalIn (9999 + 1) t (.bool a) (.bool b)).run P w = _
  generalize 9999 = n
  simp [Op.equalIn, run_underlying hu]
theorem run_equal_slnil {t et : TypeId} (hu : P.underlying t = some (.slice et)) (A : Option Addr) (n c : Nat) (w : World) : (Op.equal t (.slice A n c) (.slice none 0 0)).run P w = .ok A.isNone w := by
  show (Op.equalIn (9999 + 1) t (.slice A n c) (.slice none 0 0)).run P w = _
  generalize 9999 = n
  cases A <;> simp [Op.equalIn, run_underlying hu]
theorem run_equal_ptnil {t et : TypeId} (hu : P.underlying t = some (.pointer et)) (A : Option Addr) (w : World) : (Op.equal t (.pointer A) (.pointer none)).run P w = .ok A.isNone w := by
  show (Op.equalIn (9999 + 1) t (.pointer A) (.pointer none)).run P w = _
  generalize 9999 = n
  cases A <;> simp [Op.equalIn, run_underlying hu]
theorem isPt_spec {t : TypeId} (h : isPt P t = true) : ∃ et, P.underlying t = some (.pointer et) := by
  unfold isPt at h
  split at h
  · rename_i et hu; exact ⟨et, hu⟩
  · cases h
theorem ptr_form {e : Ty} {p : Option e.den} {w : World} {ok : Nat → Prop} {v : Value} (h : (Ty.ptr e).rp w ok [v] p) : ∃ A : Option Addr, v = .pointer A ∧ A.isNone = p.isNone ∧ (!A.isNone) = p.isSome := by
  cases p with
  | none =>
    have : v = _ := List.singleton_inj.1 h
    exact ⟨none, this, rfl, rfl⟩
  | some x =>
    obtain ⟨b, o, us, h1, _⟩ := h
    have : v = _ := List.singleton_inj.1 h1
    exact ⟨_, this, rfl, rfl⟩
theorem partA_sound {t : TypeId} {cs : List AC} {off : Nat} {v : AV} (h : partA P t cs off = some v) {w : World} {ok : Nat → Prop} {G : GM} {us : List Value} (hr : RCs w ok G cs us) :
    ∃ V, (part t us.toArray off).run P w = .ok V w ∧ RV w ok G v V := by
  unfold partA at h
  split at h
  · rename_i d hd
    cases ha : aggD d
    · simp only [ha, cond_false] at h
      by_cases hl : off < cs.length
      · simp only [hl, decide_true, cond_true, Option.some.injEq] at h
        exact partV hd (.inr ⟨ha, cs[off], by simp [hl], by rw [← h]; simp [nth_eq, hl]⟩) hr
      · simp [hl] at h
    · simp only [ha, cond_true] at h
      by_cases hl : off + sizeT P t ≤ cs.length
      · simp only [hl, decide_true, cond_true, Option.some.injEq] at h
        exact partV hd (.inl ⟨ha, hl, h.symm⟩) hr
      · simp [hl] at h
  · cases h
theorem eqA_sound : ∀ (n : Nat) (t : TypeId) (x y : AV) (c : Bool), eqA P n t x y = some c → ∀ (d : Nat), n ≤ d → ∀ (w : World) (ok : Nat → Prop) (G : GM) (X Y : Value), RV w ok G x X → RV w ok G y Y →
    (Op.equalIn d t X Y).run P w = .ok c w
  | 0, _, _, _, _, h, _, _, _, _, _, _, _, _, _ => by cases h
  | n + 1, t, x, y, c, h, d, hd, w, ok, G, X, Y, hX, hY => by
    obtain ⟨d, rfl⟩ : ∃ e, d = e + 1 := ⟨d - 1, by omega⟩
    unfold eqA at h
    split at h
    · rename_i k0 k a k' b hu
      obtain ⟨hk, h'⟩ := bif_some h
      clear h
      obtain rfl : k = k' := of_decide_eq_true hk
      obtain ⟨rfl, _⟩ := hX
      obtain ⟨rfl, _⟩ := hY
      obtain rfl : decide (a = b) = c := Option.some.inj h'
      rw [run_equalIn_int w d t k _ a b hu]
      congr 1
    · rename_i a b hu
      obtain rfl : X = _ := hX
      obtain rfl : Y = _ := hY
      cases h
      exact run_equalIn_bool' w d t a b hu
    · rename_i a b hu
      obtain ⟨rfl, _⟩ := hX
      obtain ⟨rfl, _⟩ := hY
      cases h
      rw [run_equalIn_string w d t a b hu]
      congr 1
      by_cases e : a = b
      · simp [e]
      · have : a.toList ≠ b.toList := fun h' => e (by rw [ByteArray.toList_eq, ByteArray.toList_eq] at h'; cases a; cases b; simp only [Array.toList_inj] at h'; simp_all)
        simp [e, this]
    · rename_i fs xs ys hu
      cases hs : P.stoodInHeld t with
      | true => rw [hs] at h; cases h
      | false =>
        rw [hs] at h
        replace h : eqFs _ fs.toList = some c := h
        obtain ⟨us, rfl, hus⟩ := hX
        obtain ⟨vs, rfl, hvs⟩ := hY
        have hf : P.fieldsOf t = fs := by unfold Program.fieldsOf; rw [hu]
        rw [run_equalIn_struct w d t _ _ (by rw [hf]; exact hu) hs, hf]
        clear hu hf
        generalize fs.toList = l at h
        induction l generalizing c with
        | nil => cases h; rfl
        | cons f l ih =>
          unfold eqFs at h
          by_cases hn : f.name = "_"
          · rw [decide_eq_true hn] at h; cases h
          rw [decide_eq_false hn] at h
          replace h : (match (match partA P f.type xs f.offset, partA P f.type ys f.offset with
            | some u, some v => eqA P n f.type u v
            | _, _ => none), eqFs _ l with
            | some a, some b => some (a && b)
            | _, _ => none) = some c := h
          split at h
          · rename_i a b ha hb
            cases h
            split at ha
            · rename_i u v hu hv
              obtain ⟨U, p1, q1⟩ := partA_sound hu hus
              obtain ⟨V, p2, q2⟩ := partA_sound hv hvs
              have he := eqA_sound n f.type u v a ha d (by omega) w ok G U V q1 q2
              simp only [Op.eqFields, Sem.run_ite, hn, ne_eq, not_false_eq_true, if_true, Sem.run_bind, p1, p2, he, Result.andThen_ok]
              cases a with
              | false => simp
              | true =>
                simp only [Bool.not_true, Bool.false_eq_true, if_false, Bool.true_and]
                exact ih b hb
            · cases ha
          · cases h
    · cases h
theorem binK_sound {op : BinOp} {t : TypeId} {x y : AV} (h : binK P op t σ x y K = some r) :
    ∃ v, K v σ = some r ∧ ∀ (w : World) (ok : Nat → Prop) (G : GM) (X Y : Value) (xo yo : Operand), RV w ok G x X → RV w ok G y Y →
      ∃ V, (do eqGuard op t xo yo X Y; binOp op t X Y : Sem Value).run P w = .ok V w ∧ RV w ok G v V := by
  unfold binK at h
  split at h
  · rename_i k a k' b
    by_cases hk : k = k'
    · have h' : intK op k a b σ K = some r := by simpa [hk] using h
      clear h
      subst hk
      by_cases hw : (Lit.int k a).wf = true
      · obtain ⟨v, hK, hv⟩ := intK_sound (P := P) t h' hw
        refine ⟨v, hK, fun w ok G X Y xo yo hX hY => ?_⟩
        obtain ⟨rfl, _⟩ := hX
        obtain ⟨rfl, _⟩ := hY
        obtain ⟨V, h1, h2⟩ := hv w ok G
        exact ⟨V, by simp [eqGuard, h1], h2⟩
      · have : ∃ v, K v σ = some r := by
          have h := h'
          cases op <;> simp only [intK] at h <;> first
            | exact ⟨_, h⟩
            | (cases h; done)
            | exact ⟨_, (bif_some h).2⟩
            | (split at h <;> first | (cases h; done) | exact ⟨_, h⟩)
            | (by_cases hb : b = 0 <;> simp only [hb, decide_true, decide_false, cond_true, cond_false] at h <;> first | (cases h; done) | exact ⟨_, h⟩)
        obtain ⟨v, hK⟩ := this
        exact ⟨v, hK, fun w ok G X Y xo yo hX hY => absurd hX.2 hw⟩
    · have hsh : (op = .shl ∨ op = .shr) ∧ intK op k a b σ K = some r := by
        simp only [hk, decide_false, cond_false] at h
        obtain ⟨hb, h⟩ := bif_some h
        refine ⟨?_, h⟩
        cases op <;> first | exact .inl rfl | exact .inr rfl | (cases hb; done)
      obtain ⟨hop, h'⟩ := hsh
      clear h
      by_cases hw : (Lit.int k a).wf = true
      · obtain ⟨v, hK, hv⟩ := intK_sound (P := P) t h' hw
        refine ⟨v, hK, fun w ok G X Y xo yo hX hY => ?_⟩
        obtain ⟨rfl, _⟩ := hX
        obtain ⟨rfl, _⟩ := hY
        obtain ⟨V, h1, h2⟩ := hv w ok G
        refine ⟨V, ?_, h2⟩
        have e : binOp op t (.int k a) (.int k' b) = binOp op t (.int k a) (.int k b) := by rcases hop with rfl | rfl <;> rfl
        rw [Sem.run_bind]
        simp [eqGuard, e, h1]
      · have : ∃ v, K v σ = some r := by rcases hop with rfl | rfl <;> exact ⟨_, (bif_some h').2⟩
        obtain ⟨v, hK⟩ := this
        exact ⟨v, hK, fun w ok G X Y xo yo hX hY => absurd hX.2 hw⟩
  · rename_i a b
    split at h
    · rename_i hu
      refine ⟨_, h, fun w ok G X Y xo yo hX hY => ?_⟩
      obtain rfl : X = _ := hX
      obtain rfl : Y = _ := hY
      refine ⟨.bool (a == b), ?_, rfl⟩
      simp [eqGuard, binOp, run_equal_bool hu]
    · rename_i hu
      refine ⟨_, h, fun w ok G X Y xo yo hX hY => ?_⟩
      obtain rfl : X = _ := hX
      obtain rfl : Y = _ := hY
      refine ⟨.bool (!(a == b)), ?_, rfl⟩
      simp [eqGuard, binOp, run_equal_bool hu]
    · cases h
  · rename_i a b
    have he : (a.toList == b.toList) = decide (a = b) := by
      by_cases h : a = b
      · simp [h]
      · have : a.toList ≠ b.toList := fun h' => h (by rw [ByteArray.toList_eq, ByteArray.toList_eq] at h'; cases a; cases b; simp only [Array.toList_inj] at h'; simp_all)
        simp [h, this]
    split at h
    · refine ⟨_, h, fun w ok G X Y xo yo hX hY => ?_⟩
      obtain ⟨rfl, _⟩ := hX
      obtain ⟨rfl, _⟩ := hY
      exact ⟨.bool (decide (a = b)), by simp [eqGuard, binOp, Op.stringOp, he], rfl⟩
    · refine ⟨_, h, fun w ok G X Y xo yo hX hY => ?_⟩
      obtain ⟨rfl, _⟩ := hX
      obtain ⟨rfl, _⟩ := hY
      exact ⟨.bool (!decide (a = b)), by simp [eqGuard, binOp, Op.stringOp, he], rfl⟩
    · obtain ⟨hl, h⟩ := bif_some h
      have hl : a.size + b.size ≤ limS := by simpa using hl
      unfold limS at hl
      refine ⟨_, h, fun w ok G X Y xo yo hX hY => ?_⟩
      obtain ⟨rfl, _⟩ := hX
      obtain ⟨rfl, _⟩ := hY
      refine ⟨.string (a ++ b), ?_, rfl, ?_⟩
      · have : ¬ ((9223372036854775807 : Int) < (a.size : Int) + (b.size : Int)) := by omega
        simp [eqGuard, binOp, Op.stringOp, IntKind.max, IntKind.signed, IntKind.bits, this]
      · rw [ByteArray.size_append]; unfold maxLen; omega
    · cases h
  · rename_i e xs
    obtain ⟨hsl, h1⟩ := bif_some h
    clear h
    obtain ⟨et, hu⟩ := isSl_spec hsl
    split at h1
    · refine ⟨_, h1, fun w ok G X Y xo yo hX hY => ?_⟩
      obtain ⟨_, A, n, c, rfl⟩ := hX
      obtain rfl : Y = _ := hY
      exact ⟨.bool false, by simp [eqGuard, binOp, run_equal_slnil hu], rfl⟩
    · refine ⟨_, h1, fun w ok G X Y xo yo hX hY => ?_⟩
      obtain ⟨_, A, n, c, rfl⟩ := hX
      obtain rfl : Y = _ := hY
      exact ⟨.bool true, by simp [eqGuard, binOp, run_equal_slnil hu], rfl⟩
    · cases h1
  · obtain ⟨hsl, h1⟩ := bif_some h
    clear h
    obtain ⟨et, hu⟩ := isSl_spec hsl
    split at h1
    · refine ⟨_, h1, fun w ok G X Y xo yo hX hY => ?_⟩
      obtain ⟨n, c, rfl⟩ := hX
      obtain rfl : Y = _ := hY
      exact ⟨.bool true, by simp [eqGuard, binOp, run_equal_slnil hu], rfl⟩
    · refine ⟨_, h1, fun w ok G X Y xo yo hX hY => ?_⟩
      obtain ⟨n, c, rfl⟩ := hX
      obtain rfl : Y = _ := hY
      exact ⟨.bool false, by simp [eqGuard, binOp, run_equal_slnil hu], rfl⟩
    · cases h1
  · rename_i e p
    obtain ⟨hsl, h1⟩ := bif_some h
    clear h
    obtain ⟨et, hu⟩ := isPt_spec hsl
    split at h1
    · refine ⟨_, h1, fun w ok G X Y xo yo hX hY => ?_⟩
      obtain ⟨A, rfl, hA, _⟩ := ptr_form hX
      obtain rfl : Y = _ := hY
      exact ⟨.bool A.isNone, by simp [eqGuard, binOp, run_equal_ptnil hu], by rw [hA]; rfl⟩
    · refine ⟨_, h1, fun w ok G X Y xo yo hX hY => ?_⟩
      obtain ⟨A, rfl, _, hA⟩ := ptr_form hX
      obtain rfl : Y = _ := hY
      exact ⟨.bool (!A.isNone), by simp [eqGuard, binOp, run_equal_ptnil hu], by rw [hA]; rfl⟩
    · cases h1
  · rename_i xs ys
    have hcase : ∀ (g : Bool → Bool) (o : Bool), (bif P.eqGuardType P.depth t then none else match eqA P 8 t (.agg xs) (.agg ys) with
        | some c => K (.one (.bool (g c))) σ
        | none => none) = some r → P.eqGuardType P.depth t = false ∧ ∃ c, eqA P 8 t (.agg xs) (.agg ys) = some c ∧ K (.one (.bool (g c))) σ = some r := by
      intro g _ h
      cases hg : P.eqGuardType P.depth t with
      | true => rw [hg] at h; cases h
      | false =>
        rw [hg, cond_false] at h
        split at h
        · rename_i c hc; exact ⟨rfl, c, hc, h⟩
        · cases h
    split at h
    · obtain ⟨hg, c, hc, hK⟩ := hcase (fun c => c) true h
      refine ⟨_, hK, fun w ok G X Y xo yo hX hY => ⟨.bool c, ?_, rfl⟩⟩
      have he := eqA_sound 8 t _ _ c hc 10000 (by omega) w ok G X Y hX hY
      obtain ⟨us, rfl, _⟩ := hX
      obtain ⟨vs, rfl, _⟩ := hY
      rw [Sem.run_bind, run_eqGuard_agg w _ t xo yo _ _ hg]
      simp only [Result.andThen_ok]
      rw [run_eql_struct, he]
      rfl
    · obtain ⟨hg, c, hc, hK⟩ := hcase (fun c => !c) true h
      refine ⟨_, hK, fun w ok G X Y xo yo hX hY => ⟨.bool (!c), ?_, rfl⟩⟩
      have he := eqA_sound 8 t _ _ c hc 10000 (by omega) w ok G X Y hX hY
      obtain ⟨us, rfl, _⟩ := hX
      obtain ⟨vs, rfl, _⟩ := hY
      rw [Sem.run_bind, run_eqGuard_agg w _ t xo yo _ _ hg]
      simp only [Result.andThen_ok]
      rw [run_neq_struct, he]
      rfl
    · cases h
  · cases h
theorem go_binOp {op : BinOp} {t t' : TypeId} {x y : Operand} (ho : o.op = .binOp op t x y t') (hK : opK P C I σ o K = some r) : Goes P w0 ok0 σ o K r := by
  simp only [opK, ho] at hK
  obtain ⟨v, hK, hv⟩ := binK_sound hK
  refine goes_same hK fun H w G a hp hst hops => ?_
  obtain ⟨V, h1, h2⟩ := hv w _ G _ _ x y (hops x (by simp [ho, Op.operands])) (hops y (by simp [ho, Op.operands]))
  refine ⟨V, ?_, h2⟩
  simp only [execOp, ho]
  rw [Sem.run_bind, h1]
  rfl
theorem go_unOp {op : UnOp} {t : TypeId} {x : Operand} (ho : o.op = .unOp op t x) (hK : opK P C I σ o K = some r) : Goes P w0 ok0 σ o K r := by
  simp only [opK, ho] at hK
  split at hK
  · rename_i b hx
    refine goes_same hK fun H w G a hp hst hops => ?_
    have hxa := hops x (by simp [ho, Op.operands])
    rw [hx] at hxa
    have he : a.eval x = _ := hxa
    exact ⟨_, by simp [execOp, ho, he, Op.unary], rfl⟩
  · rename_i k n hx
    refine goes_same hK fun H w G a hp hst hops => ?_
    have hxa := hops x (by simp [ho, Op.operands])
    rw [hx] at hxa
    have he : a.eval x = _ := hxa.1
    exact ⟨.int k (k.wrap (0 - n)), by simp [execOp, ho, he, Op.unary, Op.intArith], rfl, wf_wrap _ _⟩
  · cases hK
theorem strOf_size (xs : List Int) : (strOf xs).size = xs.length := by
  have : ∀ (l : List Int) (s : ByteArray), (l.foldl (fun r n => r.push (UInt8.ofNat n.toNat)) s).size = s.size + l.length := by
    intro l
    induction l with
    | nil => intro s; rfl
    | cons a l ih => intro s; rw [List.foldl_cons, ih, List.length_cons, ByteArray.size_push]; omega
  have := this xs ByteArray.empty
  simpa [strOf] using this
theorem go_convert {s d : TypeId} {x : Operand} (ho : o.op = .convert s d x) (hK : opK P C I σ o K = some r) : Goes P w0 ok0 σ o K r := by
  simp only [opK, ho] at hK
  split at hK
  · rename_i k' n ds k hx hs hd
    refine goes_same hK fun H w G a hp hst hops => ?_
    have hxa := hops x (by simp [ho, Op.operands])
    rw [hx] at hxa
    have he : a.eval x = _ := hxa.1
    refine ⟨.int k (k.wrap n), ?_, rfl, wf_wrap _ _⟩
    cases ds <;> simp [execOp, ho, he, convert, run_underlying hs, run_underlying hd, Conv.intToInt]
  · rename_i c e hx hs hd
    split at hK
    · rename_i xs he hxs
      refine goes_same hK fun H w G a hp hst hops => ?_
      have hxa := hops x (by simp [ho, Op.operands])
      rw [hx] at hxa
      have hr := Ty.ofAcs_rp (G := G) (ok := imm w0 ok0 w G) (okR := fun b => b < w.heap.size) σ.h (fun b hb => hb.2.1) (fun id gh hg hn => ⟨hst.obOf hp hg hn, fun b hb => (hst.low id gh b hg (Ob.uses_has hb)).2⟩) _ [c] [a.eval x] xs hxs (RCs.cons hxa RCs.nil)
      obtain ⟨A, cap, hv, h1, h2, h3⟩ := hr
      have hv : a.eval x = .slice A xs.length cap := List.singleton_inj.1 hv
      refine ⟨.string (strOf xs), ?_, rfl, by rw [strOf_size]; omega⟩
      simp only [execOp, ho, hv]
      rw [Sem.run_bind, run_convert_bytes_string w s d e A xs.length cap hs he hd]
      have : (Conv.bytesToString (.slice A xs.length cap)).run P w = .ok (.string (strOf xs)) w := by
        cases A with
        | none =>
          have : xs.length = 0 := by
            rcases Nat.eq_zero_or_pos xs.length with h0 | h0
            · exact h0
            · obtain ⟨b, oo, hA, _⟩ := h3 h0
              cases hA
          have : xs = [] := List.eq_nil_of_length_eq_zero this
          subst this
          rfl
        | some ad =>
          refine run_bytesToString w ad xs.length cap xs ?_
          have := run_loadCells_list (P := P) (w := w) ad (xs.map (Value.int .u8)) (fun j v hj => by
            rw [List.getElem?_map] at hj
            obtain ⟨n, hn, rfl⟩ := Option.map_eq_some_iff.1 hj
            obtain ⟨hlt, hne⟩ := List.getElem?_eq_some_iff.1 hn
            obtain ⟨b, oo, hA, _, hc⟩ := h3 (by omega)
            cases hA
            obtain ⟨us, hr, hcs⟩ := hc j hlt
            obtain ⟨rfl, _⟩ := hr
            have := hcs 0 _ rfl
            rw [hne] at this
            rw [addr_add]
            simpa [Ty.sz] using this)
          rw [List.length_map] at this
          exact this
      rw [this]
      rfl
    · cases hK
  · cases hK

theorem fieldOf_spec {s : TypeId} {f fo : Nat} {ft : TypeId} (h : fieldOf P s f = some (fo, ft)) : ∃ fs fd, P.underlying s = some (.struct fs) ∧ fs[f]? = some fd ∧ fd.offset = fo ∧ fd.type = ft := by
  unfold fieldOf at h
  split at h
  · rename_i fs hs
    split at h
    · rename_i fd hfd
      cases h
      exact ⟨fs, fd, hs, by simpa using hfd, rfl, rfl⟩
    · cases h
  · cases h
theorem run_fieldAt {s : TypeId} {f fo : Nat} {ft : TypeId} (h : fieldOf P s f = some (fo, ft)) (hz : Nat.blt 0 (sizeT P ft) = true) (w : World) (b oo : Nat) :
    (Instr.fieldAt s (.pointer (some ⟨b, oo, none⟩)) f).run P w = .ok (.pointer (some ⟨b, oo + fo, none⟩)) w := by
  obtain ⟨fs, fd, h1, h2, rfl, rfl⟩ := fieldOf_spec h
  have hz : 0 < sizeT P fd.type := by simpa [Nat.blt_eq] using hz
  cases hi : P.info? fd.type with
  | none => simp [sizeT, hi] at hz
  | some i =>
    have : i.size ≠ 0 := by simp [sizeT, hi] at hz; omega
    simp [Instr.fieldAt, run_underlying h1, h2, Instr.sureAddr, fieldPlace, sizeOf, typeInfo, hi, this, addr_add]
theorem go_fieldAddr {s : TypeId} {x : Operand} {f : Nat} (ho : o.op = .fieldAddr s x f) (hK : opK P C I σ o K = some r) : Goes P w0 ok0 σ o K r := by
  simp only [opK, ho] at hK
  split at hK
  · rename_i fo ft id off hf hx
    obtain ⟨hz, hK⟩ := bif_some hK
    refine goes_same hK fun H w G a hp hst hops => ?_
    have hxa := hops x (by simp [ho, Op.operands])
    rw [hx] at hxa
    obtain ⟨gh, b, hg, hb, he⟩ := hxa
    exact ⟨_, by simp [execOp, ho, he, run_fieldAt hf hz], gh, b, hg, hb, rfl⟩
  · rename_i fo ft e y off hf hx
    obtain ⟨hz, hK⟩ := bif_some hK
    refine goes_same hK fun H w G a hp hst hops => ?_
    have hxa := hops x (by simp [ho, Op.operands])
    rw [hx] at hxa
    obtain ⟨b, oo, us, he, hb, hr, hc⟩ := hxa
    exact ⟨.pointer (some ⟨b, oo + off + fo, none⟩), by simp [execOp, ho, he, run_fieldAt hf hz], b, oo, us, by rw [Nat.add_assoc], hb, hr, hc⟩
  · rename_i fo ft id e i off hf hx
    obtain ⟨hz, hK⟩ := bif_some hK
    refine goes_same hK fun H w G a hp hst hops => ?_
    have hxa := hops x (by simp [ho, Op.operands])
    rw [hx] at hxa
    obtain ⟨gh, b, hg, hb, he⟩ := hxa
    exact ⟨.pointer (some ⟨b, i * e.sz + off + fo, none⟩), by simp [execOp, ho, he, run_fieldAt hf hz], gh, b, hg, hb, by rw [Nat.add_assoc]⟩
  · rename_i fo ft e p hf hx
    obtain ⟨hz, hK1⟩ := bif_some hK
    obtain ⟨y, rfl, hK2⟩ := obind_some hK1
    refine goes_same hK2 fun H w G a hp hst hops => ?_
    have hxa := hops x (by simp [ho, Op.operands])
    rw [hx] at hxa
    obtain ⟨b, oo, us, he, hb, hr, hc⟩ := hxa
    have he : a.eval x = _ := List.singleton_inj.1 he
    exact ⟨.pointer (some ⟨b, oo + fo, none⟩), by simp [execOp, ho, he, run_fieldAt hf hz], b, oo, us, rfl, hb, hr, hc⟩
  · cases hK
theorem go_field {s : TypeId} {x : Operand} {f : Nat} (ho : o.op = .field s x f) (hK : opK P C I σ o K = some r) : Goes P w0 ok0 σ o K r := by
  simp only [opK, ho] at hK
  split at hK
  · rename_i fo ft cs hf hx
    obtain ⟨v, d, hd, hK, hv⟩ := loadK_sound hK
    refine goes_same hK fun H w G a hp hst hops => ?_
    have hxa := hops x (by simp [ho, Op.operands])
    rw [hx] at hxa
    obtain ⟨us, he, hr⟩ := hxa
    obtain ⟨V, h1, h2⟩ := partV hd hv hr
    obtain ⟨fs, fd, g1, g2, rfl, rfl⟩ := fieldOf_spec hf
    exact ⟨V, by simp [execOp, ho, he, Instr.field, run_underlying g1, g2, asAgg, h1], h2⟩
  · cases hK
end
end Go.Proofs.YtbdokiecpmhjmaaGreatDoor
