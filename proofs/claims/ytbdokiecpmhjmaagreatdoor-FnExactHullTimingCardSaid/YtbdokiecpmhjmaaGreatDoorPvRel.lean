/- How what is known of slots and of the call's own memory stands to the frame and the world. No condition of its own. -/
import Derived.Test.YtbdokiecpmhjmaaGreatDoorPvEv
namespace Go.Proofs.YtbdokiecpmhjmaaGreatDoor
set_option linter.unusedSimpArgs false
set_option linter.unusedVariables false
open Go.RowKit

/-- Nothing that was there has turned. -/
def Ext (w w' : World) : Prop := Below w.heap.size w w'
theorem Ext.refl (w : World) : Ext w w := Below.refl _ _
theorem Ext.size {w w' : World} (h : Ext w w') : w.heap.size ≤ w'.heap.size := Below.size h
theorem Ext.trans {a b c : World} (h : Ext a b) (k : Ext b c) : Ext a c := Below.trans h (Below.mono k h.size)
theorem Ext.alloc {a w : World} (h : Ext a w) (o : Obj) : Ext a (w.alloc o) := Below.alloc h h.size o
theorem Ext.drew {a w : World} (h : Ext a w) : Ext a w.drew := Below.drew h
theorem Ext.block {a w : World} (h : Ext a w) {b : Nat} (hb : b < a.heap.size) : w.heap[b]? = a.heap[b]? := Below.block h b hb

/-- What stands in memory for a block of the call's own: its number, and for a row the slice's value. -/
structure Gh where
  blk : Option Nat
  hdr : Value
  inn : Nat → Option Nat
  ihdr : Nat → Value
/-- One block, and no rows within. -/
abbrev Gh.mk0 (b : Option Nat) (h : Value) : Gh := ⟨b, h, fun _ => none, fun _ => h⟩
/-- Its blocks. -/
def Gh.has (g : Gh) (b : Nat) : Prop := g.blk = some b ∨ ∃ i, g.inn i = some b
/-- Those within. -/
def Gh.ins (g : Gh) (b : Nat) : Prop := ∃ i, g.inn i = some b
theorem Gh.has0 {o : Option Nat} {h : Value} {b : Nat} : (Gh.mk0 o h).has b ↔ o = some b := ⟨fun k => k.elim id fun ⟨_, e⟩ => (by cases e), .inl⟩
abbrev GM := Nat → Option Gh

/-- The blocks that nobody writes: of the arguments', or made since, and not the call's own. -/
def imm (w0 : World) (ok0 : Nat → Prop) (w : World) (G : GM) (b : Nat) : Prop :=
  (ok0 b ∨ w0.heap.size ≤ b) ∧ b < w.heap.size ∧ ∀ id gh, G id = some gh → ¬ gh.has b

/-- A table of strings that lies in a variable of the program's. -/
def TabsAt (l : List (Nat × List ByteArray)) (w : World) : Prop := ∀ g xs, tabFind l g = some xs → ∀ (i : Nat) (s : ByteArray), xs[i]? = some s → CellsAt w g i [.string s] ∧ s.size ≤ maxLen
theorem tabsAt_nil (w : World) : TabsAt [] w := fun g xs h => by cases h
/-- A captured value. -/
def RCap (w : World) (ok : Nat → Prop) (G : GM) : Cap → Value → Prop
  | .vptr id off, v => ∃ gh b, G id = some gh ∧ gh.blk = some b ∧ v = .pointer (some ⟨b, off, none⟩)
  | .own id, v => ∃ gh, G id = some gh ∧ v = gh.hdr
  | .dat τ x, v => τ.rp w ok [v] x
def Cap.leads (id : Nat) : Cap → Prop
  | .vptr i _ => i = id
  | .own i => i = id
  | .dat _ _ => False
theorem RCap.mono {w w' : World} {ok ok' : Nat → Prop} {G G' : GM} {c : Cap} {v : Value} (h : RCap w ok G c v) (hk : ∀ b, ok b → w'.heap[b]? = w.heap[b]?) (hm : ∀ b, ok b → ok' b)
    (hG : ∀ id gh, c.leads id → G id = some gh → G' id = some gh) : RCap w' ok' G' c v := by
  cases c with
  | vptr id off => obtain ⟨gh, b, h1, h2⟩ := h; exact ⟨gh, b, hG id gh rfl h1, h2⟩
  | own id => obtain ⟨gh, h1, h2⟩ := h; exact ⟨gh, hG id gh rfl h1, h2⟩
  | dat τ x => exact Ty.rp_keep _ h hk hm

def RC (w : World) (ok : Nat → Prop) (G : GM) : AC → Value → Prop
  | .bad, _ => True
  | .und, v => v = undef
  | .int k n, v => v = .int k n ∧ (Lit.int k n).wf = true
  | .bool b, v => v = .bool b
  | .str s, v => v = .string s ∧ s.size ≤ maxLen
  | .slc e xs, v => (Ty.slice e).rp w ok [v] xs
  | .nils, v => v = .slice none 0 0
  | .nilp, v => v = .pointer none
  | .ptr e p, v => (Ty.ptr e).rp w ok [v] p
  | .own id, v => ∃ gh, G id = some gh ∧ v = gh.hdr
  | .vptr id off, v => ∃ gh b, G id = some gh ∧ gh.blk = some b ∧ v = .pointer (some ⟨b, off, none⟩)
  | .eptr id e i off, v => ∃ gh b, G id = some gh ∧ gh.blk = some b ∧ v = .pointer (some ⟨b, i * e.sz + off, none⟩)
  | .dptr e x off, v => ∃ b o us, v = .pointer (some ⟨b, o + off, none⟩) ∧ ok b ∧ e.rp w ok us x ∧ CellsAt w b o us
  | .clo g t x, v => (Ty.clo g t).rp w ok [v] x
  | .cloA g cs, v => ∃ us : List Value, v = .func (.func g) #[] us.toArray ∧ us.length = cs.length ∧ ∀ (i : Nat) (c : Cap) (u : Value), cs[i]? = some c → us[i]? = some u → RCap w ok G c u
  | .inn id i, v => ∃ gh, G id = some gh ∧ v = gh.ihdr i ∧ v.oneCell' = true
  | .slz _, v => ∃ n c, v = .slice none n c
  | .gl g, v => v = .pointer (some ⟨g, 0, none⟩)
  | .gidx g i, v => v = .pointer (some ⟨g, i, none⟩)
  | .opre id e m, v => ∃ gh A n c, G id = some gh ∧ gh.hdr = .slice A n c ∧ m ≤ n ∧ v = .slice A m c
  | .osub id e lo, v => ∃ gh A n c, G id = some gh ∧ gh.hdr = .slice A n c ∧ lo ≤ n ∧ n ≤ c ∧ v = .slice (if c = lo then A else A.map (·.add (lo * e.sz))) (n - lo) (c - lo)
  | .sln e xs, v => (Ty.slice e).rp w ok [v] xs ∧ ∃ A n c, v = .slice (some A) n c

/-- Which block of the call's own it leads to. -/
def AC.leads (id : Nat) : AC → Prop
  | .own i => i = id
  | .vptr i _ => i = id
  | .eptr i _ _ _ => i = id
  | .cloA _ cs => ∃ c ∈ cs, c.leads id
  | .inn i _ => i = id
  | .osub i _ _ => i = id
  | .opre i _ _ => i = id
  | _ => False

theorem RC.mono {w w' : World} {ok ok' : Nat → Prop} {G G' : GM} {c : AC} {v : Value} (h : RC w ok G c v) (hk : ∀ b, ok b → w'.heap[b]? = w.heap[b]?) (hm : ∀ b, ok b → ok' b)
    (hG : ∀ id gh, c.leads id → G id = some gh → G' id = some gh) : RC w' ok' G' c v := by
  cases c with
  | slc e xs => exact Ty.rp_keep _ h hk hm
  | sln e xs => exact ⟨Ty.rp_keep _ h.1 hk hm, h.2⟩
  | ptr e p => exact Ty.rp_keep _ h hk hm
  | clo g t x => exact Ty.rp_keep (.clo g t) h hk hm
  | own id => obtain ⟨gh, h1, h2⟩ := h; exact ⟨gh, hG id gh rfl h1, h2⟩
  | inn id i => obtain ⟨gh, h1, h2⟩ := h; exact ⟨gh, hG id gh rfl h1, h2⟩
  | opre id e lo => obtain ⟨gh, A, n, c, h1, h2⟩ := h; exact ⟨gh, A, n, c, hG id gh rfl h1, h2⟩
  | osub id e lo => obtain ⟨gh, A, n, c, h1, h2⟩ := h; exact ⟨gh, A, n, c, hG id gh rfl h1, h2⟩
  | vptr id off => obtain ⟨gh, b, h1, h2⟩ := h; exact ⟨gh, b, hG id gh rfl h1, h2⟩
  | eptr id e i off => obtain ⟨gh, b, h1, h2⟩ := h; exact ⟨gh, b, hG id gh rfl h1, h2⟩
  | dptr e x off =>
    obtain ⟨b, o, us, h1, h2, h3, h4⟩ := h
    exact ⟨b, o, us, h1, hm b h2, Ty.rp_keep _ h3 hk hm, h4.keep (hk b h2)⟩
  | cloA g cs =>
    obtain ⟨us, h1, h2, h3⟩ := h
    exact ⟨us, h1, h2, fun i c u hc hu => (h3 i c u hc hu).mono hk hm fun id gh hl => hG id gh ⟨c, List.mem_of_getElem? hc, hl⟩⟩
  | _ => exact h

/-- Cell by cell. -/
def RCs (w : World) (ok : Nat → Prop) (G : GM) (cs : List AC) (vs : List Value) : Prop :=
  cs.length = vs.length ∧ ∀ (i : Nat) (c : AC) (v : Value), cs[i]? = some c → vs[i]? = some v → RC w ok G c v

theorem RCs.nil {w : World} {ok : Nat → Prop} {G : GM} : RCs w ok G [] [] := ⟨rfl, fun i c v h => by simp at h⟩
theorem RCs.cons {w : World} {ok : Nat → Prop} {G : GM} {c : AC} {v : Value} {cs : List AC} {vs : List Value} (h : RC w ok G c v) (hs : RCs w ok G cs vs) : RCs w ok G (c :: cs) (v :: vs) := by
  refine ⟨by simp [hs.1], fun i a u ha hu => ?_⟩
  cases i with
  | zero => simp at ha hu; subst ha hu; exact h
  | succ i => exact hs.2 i a u (by simpa using ha) (by simpa using hu)
theorem RCs.head {w : World} {ok : Nat → Prop} {G : GM} {c : AC} {v : Value} {cs : List AC} {vs : List Value} (h : RCs w ok G (c :: cs) (v :: vs)) : RC w ok G c v := h.2 0 c v rfl rfl
theorem RCs.tail {w : World} {ok : Nat → Prop} {G : GM} {c : AC} {v : Value} {cs : List AC} {vs : List Value} (h : RCs w ok G (c :: cs) (v :: vs)) : RCs w ok G cs vs :=
  ⟨by simpa using h.1, fun i a u ha hu => h.2 (i + 1) a u (by simpa using ha) (by simpa using hu)⟩
theorem RCs.one {w : World} {ok : Nat → Prop} {G : GM} {c : AC} {vs : List Value} (h : RCs w ok G [c] vs) : ∃ v, vs = [v] ∧ RC w ok G c v := by
  match vs, h with
  | [v], h => exact ⟨v, rfl, h.head⟩
  | [], h => exact absurd h.1 (by simp)
  | _ :: _ :: _, h => exact absurd h.1 (by simp)
theorem RCs.append {w : World} {ok : Nat → Prop} {G : GM} {cs ds : List AC} {vs us : List Value} (h : RCs w ok G cs vs) (k : RCs w ok G ds us) : RCs w ok G (cs ++ ds) (vs ++ us) := by
  refine ⟨by simp [h.1, k.1], fun i c v hc hv => ?_⟩
  rw [List.getElem?_append] at hc hv
  by_cases hi : i < cs.length
  · rw [if_pos hi] at hc
    rw [if_pos (by rw [← h.1]; exact hi)] at hv
    exact h.2 i c v hc hv
  · rw [if_neg hi] at hc
    rw [if_neg (by rw [← h.1]; exact hi), ← h.1] at hv
    exact k.2 _ c v hc hv
theorem RCs.take {w : World} {ok : Nat → Prop} {G : GM} {cs : List AC} {vs : List Value} (h : RCs w ok G cs vs) (n : Nat) : RCs w ok G (cs.take n) (vs.take n) := by
  refine ⟨by simp [h.1], fun i c v hc hv => ?_⟩
  rw [List.getElem?_take] at hc hv
  split at hc
  · rename_i hi; rw [if_pos hi] at hv; exact h.2 i c v hc hv
  · cases hc
theorem RCs.drop {w : World} {ok : Nat → Prop} {G : GM} {cs : List AC} {vs : List Value} (h : RCs w ok G cs vs) (n : Nat) : RCs w ok G (cs.drop n) (vs.drop n) := by
  refine ⟨by simp [h.1], fun i c v hc hv => ?_⟩
  rw [List.getElem?_drop] at hc hv
  exact h.2 _ c v hc hv
theorem RCs.sub {w : World} {ok : Nat → Prop} {G : GM} {cs : List AC} {vs : List Value} (h : RCs w ok G cs vs) (o n : Nat) : RCs w ok G (sub cs o n) (sub vs o n) := (h.drop o).take n
theorem RCs.mono {w w' : World} {ok ok' : Nat → Prop} {G G' : GM} {cs : List AC} {vs : List Value} (h : RCs w ok G cs vs) (hk : ∀ b, ok b → w'.heap[b]? = w.heap[b]?) (hm : ∀ b, ok b → ok' b)
    (hG : ∀ c ∈ cs, ∀ id gh, c.leads id → G id = some gh → G' id = some gh) : RCs w' ok' G' cs vs :=
  ⟨h.1, fun i c v hc hv => (h.2 i c v hc hv).mono hk hm (hG c (List.mem_of_getElem? hc))⟩
theorem RCs.map {w w' : World} {ok ok' : Nat → Prop} {G G' : GM} {cs : List AC} {vs : List Value} {f : AC → AC} (h : RCs w ok G cs vs) (hf : ∀ c v, c ∈ cs → RC w ok G c v → RC w' ok' G' (f c) v) : RCs w' ok' G' (cs.map f) vs := by
  refine ⟨by simp [h.1], fun i c v hc hv => ?_⟩
  rw [List.getElem?_map] at hc
  obtain ⟨c', hc', rfl⟩ := Option.map_eq_some_iff.1 hc
  exact hf _ _ (List.mem_of_getElem? hc') (h.2 i c' v hc' hv)

theorem getElem?_setN {α : Type} : ∀ (l : List α) (n i : Nat) (b : α), (setN l n b)[i]? = if i = n ∧ n < l.length then some b else l[i]?
  | [], n, i, b => by simp [setN]
  | a :: l, 0, i, b => by cases i <;> simp [setN]
  | a :: l, n + 1, i, b => by
    cases i with
    | zero => simp [setN]
    | succ i => simp [setN, getElem?_setN l n i b]
theorem length_setN {α : Type} : ∀ (l : List α) (n : Nat) (b : α), (setN l n b).length = l.length
  | [], _, _ => rfl
  | _ :: _, 0, _ => rfl
  | _ :: l, n + 1, b => by simp [setN, length_setN l n b]
theorem nth_eq {α : Type} : ∀ (l : List α) (n : Nat) (d : α), nth l n d = (l[n]?).getD d
  | [], _, _ => rfl
  | _ :: _, 0, _ => rfl
  | _ :: l, n + 1, d => by simp [nth, nth_eq l n d]
theorem length_putN {α : Type} : ∀ (bs l : List α) (o : Nat), (putN l o bs).length = l.length
  | [], l, o => by cases l <;> rfl
  | b :: bs, l, o => by
    have : putN l o (b :: bs) = putN (setN l o b) (o + 1) bs := by cases l <;> rfl
    rw [this, length_putN bs, length_setN]
theorem putN_cons {α : Type} (l : List α) (o : Nat) (b : α) (bs : List α) : putN l o (b :: bs) = putN (setN l o b) (o + 1) bs := by cases l <;> rfl
theorem putN_nil {α : Type} (l : List α) (o : Nat) : putN l o [] = l := by cases l <;> rfl
theorem RCs.setN {w : World} {ok : Nat → Prop} {G : GM} {cs : List AC} {vs : List Value} {c : AC} {v : Value} (h : RCs w ok G cs vs) (n : Nat) (hc : RC w ok G c v) : RCs w ok G (setN cs n c) (setN vs n v) := by
  refine ⟨by simp [length_setN, h.1], fun i a u ha hu => ?_⟩
  rw [getElem?_setN] at ha hu
  rw [← h.1] at hu
  split at ha
  · rename_i hi; rw [if_pos hi] at hu; cases ha; cases hu; exact hc
  · rename_i hi; rw [if_neg hi] at hu; exact h.2 i a u ha hu
theorem RCs.putN {w : World} {ok : Nat → Prop} {G : GM} : ∀ {ds : List AC} {us : List Value} {cs : List AC} {vs : List Value}, RCs w ok G cs vs → RCs w ok G ds us → ∀ n, RCs w ok G (putN cs n ds) (putN vs n us)
  | [], us, cs, vs, h, k, n => by
    obtain rfl : us = [] := List.eq_nil_of_length_eq_zero k.1.symm
    rw [putN_nil, putN_nil]; exact h
  | d :: ds, [], cs, vs, h, k, n => absurd k.1 (by simp)
  | d :: ds, u :: us, cs, vs, h, k, n => by
    rw [putN_cons, putN_cons]
    exact (h.setN n k.head).putN k.tail (n + 1)

theorem RC.one' {w : World} {ok : Nat → Prop} {G : GM} {c : AC} {v : Value} (h : RC w ok G c v) (hg : c.good = true) (hh : ∀ id gh, G id = some gh → gh.hdr.oneCell' = true) : v.oneCell' = true := by
  cases c with
  | bad => cases hg
  | und => cases hg
  | int k n => rw [h.1]; rfl
  | bool b => rw [show v = _ from h]; rfl
  | str s => rw [h.1]; rfl
  | slc e xs => exact Ty.rp_one _ h v (by simp)
  | nils => rw [show v = _ from h]; rfl
  | nilp => rw [show v = _ from h]; rfl
  | ptr e p => exact Ty.rp_one _ h v (by simp)
  | own id => obtain ⟨gh, h1, rfl⟩ := h; exact hh id gh h1
  | vptr id off => obtain ⟨gh, b, _, _, rfl⟩ := h; rfl
  | eptr id e i off => obtain ⟨gh, b, _, _, rfl⟩ := h; rfl
  | dptr e x off => obtain ⟨b, o, us, rfl, _⟩ := h; rfl
  | clo g t x => exact Ty.rp_one (.clo g t) h v (by simp)
  | cloA g cs => obtain ⟨us, rfl, _⟩ := h; rfl
  | inn id i => obtain ⟨gh, _, _, h⟩ := h; exact h
  | sln e xs => obtain ⟨_, A, n, c, rfl⟩ := h; rfl
  | slz e => obtain ⟨n, c, rfl⟩ := h; rfl
  | gl g => rw [show v = _ from h]; rfl
  | gidx g i => rw [show v = _ from h]; rfl
  | osub id e lo => obtain ⟨_, _, _, _, _, _, _, _, rfl⟩ := h; rfl
  | opre id e lo => obtain ⟨_, _, _, _, _, _, _, rfl⟩ := h; rfl
theorem RCs.one' {w : World} {ok : Nat → Prop} {G : GM} {cs : List AC} {vs : List Value} (h : RCs w ok G cs vs) (hg : cs.all AC.good = true) (hh : ∀ id gh, G id = some gh → gh.hdr.oneCell' = true) : ∀ v ∈ vs, v.oneCell' = true := by
  intro v hv
  obtain ⟨i, hi⟩ := List.getElem?_of_mem hv
  have hlt : i < cs.length := by rw [h.1]; exact (List.getElem?_eq_some_iff.1 hi).1
  have hc : cs[i]? = some cs[i] := List.getElem?_eq_getElem hlt
  exact (h.2 i _ v hc hi).one' (List.all_eq_true.1 hg _ (List.getElem_mem hlt)) hh

/-- A slot. -/
def RV (w : World) (ok : Nat → Prop) (G : GM) : AV → Value → Prop
  | .one c, v => RC w ok G c v
  | .agg cs, v => ∃ vs : List Value, v = .agg vs.toArray ∧ RCs w ok G cs vs
  | .tup l, v => ∃ vs : List Value, v = .tuple vs.toArray ∧ vs.length = l.length ∧ ∀ (i : Nat) (p : Bool × List AC) (u : Value), l[i]? = some p → vs[i]? = some u →
      if p.1 then ∃ us : List Value, u = .agg us.toArray ∧ RCs w ok G p.2 us else RCs w ok G p.2 [u]
theorem RV.mono {w w' : World} {ok ok' : Nat → Prop} {G G' : GM} {c : AV} {v : Value} (h : RV w ok G c v) (hk : ∀ b, ok b → w'.heap[b]? = w.heap[b]?) (hm : ∀ b, ok b → ok' b)
    (hG : ∀ id gh, G id = some gh → G' id = some gh) : RV w' ok' G' c v := by
  cases c with
  | one c => exact RC.mono h hk hm (fun id gh _ => hG id gh)
  | agg cs => obtain ⟨vs, rfl, h⟩ := h; exact ⟨vs, rfl, h.mono hk hm (fun _ _ id gh _ => hG id gh)⟩
  | tup l =>
    obtain ⟨vs, rfl, hl, h⟩ := h
    refine ⟨vs, rfl, hl, fun i p u hp hu => ?_⟩
    have := h i p u hp hu
    split
    · rename_i hp1; rw [if_pos hp1] at this; obtain ⟨us, rfl, h⟩ := this; exact ⟨us, rfl, h.mono hk hm (fun _ _ id gh _ => hG id gh)⟩
    · rename_i hp1; rw [if_neg hp1] at this; exact this.mono hk hm (fun _ _ id gh _ => hG id gh)
theorem RV.mapC {w w' : World} {ok ok' : Nat → Prop} {G G' : GM} {f : AC → AC} {c : AV} {v : Value} (h : RV w ok G c v) (hf : ∀ c v, RC w ok G c v → RC w' ok' G' (f c) v) : RV w' ok' G' (c.mapC f) v := by
  cases c with
  | one c => exact hf _ _ h
  | agg cs => obtain ⟨vs, rfl, h⟩ := h; exact ⟨vs, rfl, h.map fun c v _ => hf c v⟩
  | tup l =>
    obtain ⟨vs, rfl, hl, h⟩ := h
    refine ⟨vs, rfl, by simpa using hl, fun i p u hp hu => ?_⟩
    rw [List.getElem?_map] at hp
    obtain ⟨q, hq, rfl⟩ := Option.map_eq_some_iff.1 hp
    have := h i q u hq hu
    split
    · rename_i hp1; rw [if_pos hp1] at this; obtain ⟨us, rfl, h⟩ := this; exact ⟨us, rfl, h.map fun c v _ => hf c v⟩
    · rename_i hp1; rw [if_neg hp1] at this; exact this.map fun c v _ => hf c v

/-- A row in a block of the call's own. -/
def RowR (w : World) (ok : Nat → Prop) (blk : Option Nat) (hdr : Value) (e : Ty) (xs : List e.den) : Prop :=
  (blk = none ∧ hdr = .slice none 0 0 ∧ xs = []) ∨
      ∃ (b cap : Nat) (cur : Array Value) (t : TypeId), blk = some b ∧ hdr = .slice (some ⟨b, 0, none⟩) xs.length cap ∧ w.heap[b]? = some (.cells cur t (0, 0)) ∧
        xs.length ≤ cap ∧ cap ≤ maxLen ∧ cur.size = cap * e.sz ∧ ∀ (i : Nat) (h : i < xs.length), ∃ us, e.rp w ok us xs[i] ∧ ∀ j u, us[j]? = some u → cur[i * e.sz + j]? = some u
theorem RowR.mono {w w' : World} {ok ok' : Nat → Prop} {blk : Option Nat} {hdr : Value} {e : Ty} {xs : List e.den} (h : RowR w ok blk hdr e xs) (hk : ∀ b, ok b → w'.heap[b]? = w.heap[b]?) (hm : ∀ b, ok b → ok' b)
    (hb : ∀ b, blk = some b → w'.heap[b]? = w.heap[b]?) : RowR w' ok' blk hdr e xs := by
  rcases h with h | ⟨b, cap, cur, t, h1, h2, h3, h4, h5, h6, h7⟩
  · exact .inl h
  · exact .inr ⟨b, cap, cur, t, h1, h2, (hb b h1).trans h3, h4, h5, h6, fun i hi => by
      obtain ⟨us, hr, hu⟩ := h7 i hi
      exact ⟨us, Ty.rp_keep _ hr hk hm, hu⟩⟩
theorem RowR.hdr1 {w : World} {ok : Nat → Prop} {blk : Option Nat} {hdr : Value} {e : Ty} {xs : List e.den} (h : RowR w ok blk hdr e xs) : hdr.oneCell' = true := by
  rcases h with ⟨_, h2, _⟩ | ⟨_, _, _, _, _, h2, _⟩ <;> rw [h2] <;> rfl

/-- A block of cells that may be written. -/
def Solid (w : World) (b : Nat) : Prop := ∃ (cur : Array Value) (t : TypeId), w.heap[b]? = some (.cells cur t (0, 0))
theorem Solid.keep {w w' : World} {b : Nat} (h : Solid w b) (hk : w'.heap[b]? = w.heap[b]?) : Solid w' b := by
  obtain ⟨cur, t, h⟩ := h
  exact ⟨cur, t, hk.trans h⟩
/-- A block of the call's own. -/
def ObR (w : World) (ok : Nat → Prop) (G : GM) (gh : Gh) : Ob → Prop
  | .var cs => ∃ (b : Nat) (vs : List Value) (t : TypeId), gh.blk = some b ∧ gh.hdr = .bool true ∧ w.heap[b]? = some (.cells vs.toArray t (0, 0)) ∧ RCs w ok G cs vs
  | .row e xs => RowR w ok gh.blk gh.hdr e xs
  | .tree e xss p => ∃ (b cap : Nat) (cur : Array Value) (t : TypeId), gh.blk = some b ∧ gh.hdr = .slice (some ⟨b, 0, none⟩) xss.length cap ∧ w.heap[b]? = some (.cells cur t (0, 0)) ∧
        xss.length ≤ cap ∧ cap ≤ maxLen ∧ cur.size = cap ∧ (∀ i b', gh.inn i = some b' → b' ≠ b) ∧ (∀ i j b', gh.inn i = some b' → gh.inn j = some b' → i = j) ∧
        ∀ (i : Nat) (h : i < xss.length), RowR w ok (gh.inn i) (gh.ihdr i) e xss[i] ∧ (p ≠ some i → cur[i]? = some (gh.ihdr i))
  | .drow e xs => RowR w gh.ins gh.blk gh.hdr e xs ∧ (∀ b, gh.ins b → gh.blk ≠ some b) ∧ ∀ b, gh.ins b → Solid w b
  | .gone => False
  | .frame _ l => gh.blk = none ∧ ∃ vs : List Value, gh.hdr = .func (.func 0) #[] vs.toArray ∧ l.length = vs.length ∧ ∀ (i : Nat) (p : Nat × AV) (v : Value), l[i]? = some p → vs[i]? = some v → RV w ok G p.2 v
/-- The blocks that hold what is known of it. -/
def Ob.uses (gh : Gh) : Ob → Nat → Prop
  | .drow _ _, b => gh.has b
  | _, b => gh.blk = some b
theorem Ob.uses_has {gh : Gh} {ob : Ob} {b : Nat} (h : ob.uses gh b) : gh.has b := by
  cases ob <;> first | exact .inl h | exact h
theorem ObR.mono {w w' : World} {ok ok' : Nat → Prop} {G G' : GM} {gh : Gh} {o : Ob} (h : ObR w ok G gh o) (hk : ∀ b, ok b → w'.heap[b]? = w.heap[b]?) (hm : ∀ b, ok b → ok' b)
    (hb : ∀ b, gh.has b → w'.heap[b]? = w.heap[b]?) (hG : ∀ id gh, G id = some gh → G' id = some gh) : ObR w' ok' G' gh o := by
  cases o with
  | var cs =>
    obtain ⟨b, vs, t, h1, h2, h3, h4⟩ := h
    exact ⟨b, vs, t, h1, h2, (hb b (.inl h1)).trans h3, h4.mono hk hm (fun _ _ id gh _ => hG id gh)⟩
  | row e xs => exact RowR.mono h hk hm fun b hb' => hb b (.inl hb')
  | tree e xss p =>
    obtain ⟨b, cap, cur, t, h1, h2, h3, h4, h5, h6, h7, h8, h9⟩ := h
    exact ⟨b, cap, cur, t, h1, h2, (hb b (.inl h1)).trans h3, h4, h5, h6, h7, h8, fun i hi => ⟨(h9 i hi).1.mono hk hm fun b' hb' => hb b' (.inr ⟨i, hb'⟩), (h9 i hi).2⟩⟩
  | drow e xs => exact ⟨RowR.mono h.1 (fun b hb' => hb b (.inr hb')) (fun _ h => h) fun b hb' => hb b (.inl hb'), h.2.1, fun b hb' => (h.2.2 b hb').keep (hb b (.inr hb'))⟩
  | gone => exact h
  | frame k l =>
    obtain ⟨h0, vs, h1, h2, h3⟩ := h
    exact ⟨h0, vs, h1, h2, fun i p v hp hv => (h3 i p v hp hv).mono hk hm hG⟩
theorem ObR.mapC {w w' : World} {ok ok' : Nat → Prop} {G G' : GM} {gh : Gh} {o : Ob} {f : AC → AC} (h : ObR w ok G gh o) (hk : ∀ b, ok b → w'.heap[b]? = w.heap[b]?) (hm : ∀ b, ok b → ok' b)
    (hb : ∀ b, gh.has b → w'.heap[b]? = w.heap[b]?) (hf : ∀ c v, RC w ok G c v → RC w' ok' G' (f c) v) : ObR w' ok' G' gh (o.mapC f) := by
  cases o with
  | var cs =>
    obtain ⟨b, vs, t, h1, h2, h3, h4⟩ := h
    exact ⟨b, vs, t, h1, h2, (hb b (.inl h1)).trans h3, h4.map fun c v _ => hf c v⟩
  | row e xs => exact RowR.mono h hk hm fun b hb' => hb b (.inl hb')
  | tree e xss p =>
    obtain ⟨b, cap, cur, t, h1, h2, h3, h4, h5, h6, h7, h8, h9⟩ := h
    exact ⟨b, cap, cur, t, h1, h2, (hb b (.inl h1)).trans h3, h4, h5, h6, h7, h8, fun i hi => ⟨(h9 i hi).1.mono hk hm fun b' hb' => hb b' (.inr ⟨i, hb'⟩), (h9 i hi).2⟩⟩
  | drow e xs => exact ⟨RowR.mono h.1 (fun b hb' => hb b (.inr hb')) (fun _ h => h) fun b hb' => hb b (.inl hb'), h.2.1, fun b hb' => (h.2.2 b hb').keep (hb b (.inr hb'))⟩
  | gone => exact h
  | frame k l =>
    obtain ⟨h0, vs, h1, h2, h3⟩ := h
    refine ⟨h0, vs, h1, by simpa using h2, fun i p v hp hv => ?_⟩
    rw [List.getElem?_map] at hp
    obtain ⟨q, hq, rfl⟩ := Option.map_eq_some_iff.1 hp
    exact (h3 i q v hq hv).mapC hf

/-- The call's own memory, as far as it has been made. -/
structure St (w0 : World) (ok0 : Nat → Prop) (h : List (Nat × Ob)) (w : World) (G : GM) : Prop where
  ob : ∀ id gh, G id = some gh → ∃ p, h[id]? = some p ∧ ObR w (imm w0 ok0 w G) G gh p.2
  inj : ∀ id id' gh gh' b, G id = some gh → G id' = some gh' → gh.has b → gh'.has b → id = id'
  low : ∀ id gh b, G id = some gh → gh.has b → w0.heap.size ≤ b ∧ b < w.heap.size
  ext : Ext w0 w
/-- The slots of the calls that wait hold what they held. -/
def FrOk (fr : Nat → Value) (h : List (Nat × Ob)) (G : GM) : Prop :=
  ∀ (id : Nat) (p : Nat × Ob) (k : Nat) (l : List (Nat × AV)), h[id]? = some p → p.2 = .frame k l → ∃ gh, G id = some gh ∧ gh.hdr = fr k
theorem St.hdr {w0 : World} {ok0 : Nat → Prop} {h : List (Nat × Ob)} {w : World} {G : GM} (H : St w0 ok0 h w G) : ∀ id gh, G id = some gh → gh.hdr.oneCell' = true := by
  intro id gh hg
  obtain ⟨p, _, ho⟩ := H.ob id gh hg
  cases hp : p.2 with
  | var cs => rw [hp] at ho; obtain ⟨_, _, _, _, h2, _⟩ := ho; rw [h2]; rfl
  | row e xs =>
    rw [hp] at ho
    exact RowR.hdr1 ho
  | tree e xss q => rw [hp] at ho; obtain ⟨_, _, _, _, _, h2, _⟩ := ho; rw [h2]; rfl
  | drow e xs => rw [hp] at ho; exact RowR.hdr1 ho.1
  | gone => rw [hp] at ho; exact ho.elim
  | frame k l => rw [hp] at ho; obtain ⟨_, _, h1, _⟩ := ho; rw [h1]; rfl

/-- The world has gone on, and blocks of the call's own may have been made. -/
structure Later (w : World) (G : GM) (w' : World) (G' : GM) : Prop where
  ext : Ext w w'
  old : ∀ id gh, G id = some gh → G' id = some gh
  new : ∀ id gh b, G' id = some gh → gh.has b → G id = some gh ∨ w.heap.size ≤ b
theorem Later.refl (w : World) (G : GM) : Later w G w G := ⟨Ext.refl _, fun _ _ h => h, fun _ _ _ h _ => .inl h⟩
theorem Later.of_ext {w w' : World} (G : GM) (h : Ext w w') : Later w G w' G := ⟨h, fun _ _ h => h, fun _ _ _ h _ => .inl h⟩
theorem Later.trans {w w' w'' : World} {G G' G'' : GM} (h : Later w G w' G') (k : Later w' G' w'' G'') : Later w G w'' G'' :=
  ⟨h.ext.trans k.ext, fun id gh hg => k.old id gh (h.old id gh hg), fun id gh b hg hb => by
    rcases k.new id gh b hg hb with h1 | h1
    · exact h.new id gh b h1 hb
    · exact .inr (Nat.le_trans h.ext.size h1)⟩
theorem Later.imm {w0 : World} {ok0 : Nat → Prop} {w w' : World} {G G' : GM} (h : Later w G w' G') {b : Nat} (hb : imm w0 ok0 w G b) : imm w0 ok0 w' G' b := by
  refine ⟨hb.1, Nat.lt_of_lt_of_le hb.2.1 h.ext.size, fun id gh hg he => ?_⟩
  rcases h.new id gh b hg he with h1 | h1
  · exact hb.2.2 id gh h1 he
  · exact absurd hb.2.1 (by omega)
theorem Later.heap {w0 : World} {ok0 : Nat → Prop} {w w' : World} {G G' : GM} (h : Later w G w' G') {b : Nat} (hb : Go.Proofs.YtbdokiecpmhjmaaGreatDoor.imm w0 ok0 w G b) : w'.heap[b]? = w.heap[b]? := h.ext.block hb.2.1
theorem RC.later {w0 : World} {ok0 : Nat → Prop} {w w' : World} {G G' : GM} {c : AC} {v : Value} (h : RC w (imm w0 ok0 w G) G c v) (l : Later w G w' G') : RC w' (imm w0 ok0 w' G') G' c v :=
  h.mono (fun _ => l.heap) (fun _ => l.imm) (fun id gh _ => l.old id gh)
theorem RCs.later {w0 : World} {ok0 : Nat → Prop} {w w' : World} {G G' : GM} {c : List AC} {v : List Value} (h : RCs w (imm w0 ok0 w G) G c v) (l : Later w G w' G') : RCs w' (imm w0 ok0 w' G') G' c v :=
  h.mono (fun _ => l.heap) (fun _ => l.imm) (fun _ _ id gh _ => l.old id gh)
theorem RV.later {w0 : World} {ok0 : Nat → Prop} {w w' : World} {G G' : GM} {c : AV} {v : Value} (h : RV w (imm w0 ok0 w G) G c v) (l : Later w G w' G') : RV w' (imm w0 ok0 w' G') G' c v :=
  h.mono (fun _ => l.heap) (fun _ => l.imm) l.old
/-- The old blocks of the call's own hold what they held. -/
theorem St.later {w0 : World} {ok0 : Nat → Prop} {h h' : List (Nat × Ob)} {w w' : World} {G G' : GM} (H : St w0 ok0 h w G) (l : Later w G w' G')
    (hh : ∀ id p gh, h[id]? = some p → G id = some gh → ∃ p', h'[id]? = some p' ∧ p'.2 = p.2)
    (hn : ∀ id gh, G' id = some gh → G id = some gh ∨ ∃ p, h'[id]? = some p ∧ ObR w' (imm w0 ok0 w' G') G' gh p.2)
    (hi : ∀ id id' gh gh' b, G' id = some gh → G' id' = some gh' → gh.has b → gh'.has b → w.heap.size ≤ b → id = id')
    (hl : ∀ id gh b, G' id = some gh → gh.has b → b < w'.heap.size) : St w0 ok0 h' w' G' := by
  refine ⟨fun id gh hg => ?_, fun id id' gh gh' b h1 h2 h3 h4 => ?_, fun id gh b hg hb => ?_, H.ext.trans l.ext⟩
  · rcases hn id gh hg with h1 | h1
    · obtain ⟨p, hp, ho⟩ := H.ob id gh h1
      obtain ⟨p', hp', he⟩ := hh id p gh hp h1
      exact ⟨p', hp', by rw [he]; exact ho.mono (fun _ => l.heap) (fun _ => l.imm) (fun b hb => l.ext.block (H.low id gh b h1 hb).2) l.old⟩
    · exact h1
  · rcases l.new id gh b h1 h3 with g1 | g1
    · rcases l.new id' gh' b h2 h4 with g2 | g2
      · exact H.inj id id' gh gh' b g1 g2 h3 h4
      · exact hi id id' gh gh' b h1 h2 h3 h4 g2
    · exact hi id id' gh gh' b h1 h2 h3 h4 g1
  · refine ⟨?_, hl id gh b hg hb⟩
    rcases l.new id gh b hg hb with g1 | g1
    · exact (H.low id gh b g1 hb).1
    · exact Nat.le_trans H.ext.size g1

/-- The frame and the world are as the plain values say. -/
structure Rel (w0 : World) (ok0 : Nat → Prop) (fr : Nat → Value) (σ : Env) (a : Act) (w : World) (G : GM) : Prop where
  len : σ.t.length = a.tmps.size
  tmp : ∀ (i : Nat) (p : Nat × AV) (v : Value), σ.t[i]? = some p → a.tmps[i]? = some v → RV w (imm w0 ok0 w G) G p.2 v
  dfs : a.defers = []
  st : St w0 ok0 σ.h w G
  frm : FrOk fr σ.h G
theorem FrOk.later {fr : Nat → Value} {h : List (Nat × Ob)} {w w' : World} {G G' : GM} (H : FrOk fr h G) (l : Later w G w' G') : FrOk fr h G' := fun id p k m hp hk => by
  obtain ⟨gh, h1, h2⟩ := H id p k m hp hk
  exact ⟨gh, l.old id gh h1, h2⟩
theorem FrOk.append {fr : Nat → Value} {h D : List (Nat × Ob)} {G : GM} (H : FrOk fr h G) (hD : ∀ p ∈ D, ∀ k l, p.2 ≠ .frame k l) : FrOk fr (h ++ D) G := fun id p k m hp hk => by
  rw [List.getElem?_append] at hp
  split at hp
  · exact H id p k m hp hk
  · exact absurd hk (hD p (List.mem_of_getElem? hp) k m)
theorem FrOk.append1 {fr : Nat → Value} {h : List (Nat × Ob)} {p : Nat × Ob} {G : GM} (H : FrOk fr h G) (hD : ∀ k l, p.2 ≠ .frame k l) : FrOk fr (h ++ [p]) G :=
  H.append fun q hq k l => by simp at hq; subst hq; exact hD k l
theorem FrOk.setN {fr : Nat → Value} {h : List (Nat × Ob)} {n : Nat} {p : Nat × Ob} {G : GM} (H : FrOk fr h G) (hp : ∀ k l, p.2 ≠ .frame k l) : FrOk fr (setN h n p) G := fun id q k m hq hk => by
  rw [getElem?_setN] at hq
  split at hq
  · cases hq; exact absurd hk (hp k m)
  · exact H id q k m hq hk

/-- An operand. -/
theorem RV_const (w : World) (ok : Nat → Prop) (G : GM) (v : Value) : RV w ok G (avOf v) v := by
  have hac : ∀ v, RC w ok G (acOf v) v := by
    intro v
    unfold acOf
    split
    · rename_i k n
      cases h : (Lit.int k n).wf
      · exact trivial
      · exact ⟨rfl, h⟩
    · rfl
    · rename_i s
      by_cases h : s.size ≤ maxLen
      · simp only [h, decide_true, cond_true]; exact ⟨rfl, h⟩
      · simp only [h, decide_false, cond_false]; exact trivial
    · rfl
    · rfl
    · exact trivial
  unfold avOf
  split
  · rename_i cs
    refine ⟨cs.toList, by simp, by simp, fun i c v hc hv => ?_⟩
    rw [List.getElem?_map, hv] at hc
    cases hc
    exact hac v
  · exact hac v
theorem Rel.ev {w0 : World} {ok0 : Nat → Prop} {fr : Nat → Value} {σ : Env} {a : Act} {w : World} {G : GM} (H : Rel w0 ok0 fr σ a w G) (x : Operand) : RV w (imm w0 ok0 w G) G (σ.ev x) (a.eval x) := by
  cases x with
  | tmp i =>
    simp only [Env.ev, nth_eq, Act.eval]
    by_cases hi : i < σ.t.length
    · have h1 : σ.t[i]? = some σ.t[i] := List.getElem?_eq_getElem hi
      have h2 : a.tmps[i]? = some (a.tmps[i]'(by rw [← H.len]; exact hi)) := Array.getElem?_eq_getElem _
      rw [h1, Array.getD_eq_getD_getElem?, h2]
      exact H.tmp i _ _ h1 h2
    · rw [List.getElem?_eq_none (Nat.le_of_not_lt hi)]
      exact trivial
  | const v => exact RV_const _ _ _ v
  | global g => exact rfl
  | func f => exact ⟨[], rfl, rfl⟩
end Go.Proofs.YtbdokiecpmhjmaaGreatDoor
