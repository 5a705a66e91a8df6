/- More kinds of operation that overwrite nothing: composites, indexes, calls. No condition of its own. -/
import Derived.Test.YtbdokiecpmhjmaaGreatDoorPvOps2
namespace Go.Proofs.YtbdokiecpmhjmaaGreatDoor
set_option linter.unusedSimpArgs false
set_option linter.unusedVariables false
open Go.RowKit

section
variable {ρ : Type} {P : Program} {C : Ctx} {I : Inl ρ} {w0 : World} {ok0 : Nat → Prop} {σ : Env} {o : Oper} {K : AV → Env → Option ρ} {r : ρ}

theorem idxOk_spec {t : TypeId} {e : Ty} (h : idxOk P t e = true) : ∃ et i, P.underlying t = some (.slice et) ∧ P.info? et = some i ∧ i.size = e.sz := by
  unfold idxOk at h
  split at h
  · rename_i et hu
    simp only [Bool.and_eq_true] at h
    obtain ⟨i, hi⟩ := Option.isSome_iff_exists.1 h.1
    have := Nat.eq_of_beq_eq_true h.2
    exact ⟨et, i, hu, hi, by simpa [sizeT, hi] using this⟩
  · cases h
theorem run_indexAt {t : TypeId} {e : Ty} (h : idxOk P t e = true) {k : IntKind} {i : Int} {b o' n cap : Nat} (h0 : 0 ≤ i) (hn : i.toNat < n) (w : World) :
    (Instr.indexAt t (.slice (some ⟨b, o', none⟩) n cap) (.int k i)).run P w = .ok (.pointer (some ⟨b, o' + i.toNat * e.sz, none⟩)) w := by
  obtain ⟨et, inf, hu, hi, hs⟩ := idxOk_spec h
  have hlt : i < (n : Int) := by omega
  simp [Instr.indexAt, asIntOf, run_underlying hu, h0, hlt, sizeOf, typeInfo, hi, hs, addr_add]
theorem run_indexArr {t e : TypeId} {n : Nat} {inf : TypeInfo} (hu : P.underlying t = some (.array n e)) (hi : P.info? e = some inf) {k : IntKind} {i : Int} {b o' : Nat} (h0 : 0 ≤ i) (hn : i < (n : Int)) (w : World) :
    (Instr.indexAt t (.pointer (some ⟨b, o', none⟩)) (.int k i)).run P w = .ok (.pointer (some ⟨b, o' + i.toNat * inf.size, none⟩)) w := by
  simp [Instr.indexAt, asIntOf, run_underlying hu, h0, hn, sizeOf, typeInfo, hi, addr_add, Instr.sureAddr]
theorem go_indexAddr {t : TypeId} {x ix : Operand} (ho : o.op = .indexAddr t x ix) (hK : opK P C I σ o K = some r) : Goes P w0 ok0 σ o K r := by
  simp only [opK, ho] at hK
  split at hK
  · rename_i e xs k i hx hix
    obtain ⟨hok, hK'⟩ := bif_some hK
    obtain ⟨y, hy, hK''⟩ := obind_some hK'
    unfold atI at hy
    obtain ⟨h0, hy⟩ := bif_some hy
    have h0 : 0 ≤ i := by simpa using h0
    obtain ⟨hlt, hye⟩ := List.getElem?_eq_some_iff.1 hy
    refine goes_same hK'' fun H w G a hp hst hops => ?_
    have hxa := hops x (by simp [ho, Op.operands])
    have hia := hops ix (by simp [ho, Op.operands])
    rw [hx] at hxa
    rw [hix] at hia
    have hie : a.eval ix = _ := hia.1
    obtain ⟨A, cap, he, h1, h2, h3⟩ := hxa
    have he : a.eval x = _ := List.singleton_inj.1 he
    obtain ⟨b, oo, rfl, hb, hc⟩ := h3 (by omega)
    obtain ⟨us, hr, hcs⟩ := hc _ hlt
    rw [hye] at hr
    exact ⟨_, by simp only [execOp, ho, he, hie]; rw [Sem.run_bind, run_indexAt hok h0 hlt]; rfl, b, oo + i.toNat * e.sz, us, by simp, hb, hr, hcs⟩
  · rename_i id k i hx hix
    split at hK
    · rename_i e xs hob
      obtain ⟨hb, hK'⟩ := bif_some hK
      simp only [Bool.and_eq_true, inI, decide_eq_true_eq] at hb
      obtain ⟨hok, h0, hlt⟩ := hb
      refine goes_same hK' fun H w G a hp hst hops => ?_
      have hxa := hops x (by simp [ho, Op.operands])
      have hia := hops ix (by simp [ho, Op.operands])
      rw [hx] at hxa
      rw [hix] at hia
      have hie : a.eval ix = _ := hia.1
      obtain ⟨gh, hg, he⟩ := hxa
      have hr := hst.obOf hp hg (by rw [show (nth σ.h id (0, .gone)).2 = _ from hob]; simp)
      rw [show (nth σ.h id (0, .gone)).2 = _ from hob] at hr
      rcases hr with ⟨_, _, rfl⟩ | ⟨b, cap, cur, ty, hb, hh, _⟩
      · simp at hlt; omega
      · rw [hh] at he
        exact ⟨_, by simp only [execOp, ho, he, hie]; rw [Sem.run_bind, run_indexAt hok h0 (by omega)]; rfl, gh, b, hg, hb, by simp⟩
    · rename_i e xs p hob
      obtain ⟨hb, hK'⟩ := bif_some hK
      simp only [Bool.and_eq_true, inI, decide_eq_true_eq] at hb
      obtain ⟨hok, h0, hlt⟩ := hb
      refine goes_same hK' fun H w G a hp hst hops => ?_
      have hxa := hops x (by simp [ho, Op.operands])
      have hia := hops ix (by simp [ho, Op.operands])
      rw [hx] at hxa
      rw [hix] at hia
      have hie : a.eval ix = _ := hia.1
      obtain ⟨gh, hg, he⟩ := hxa
      have hr := hst.obOf hp hg (by rw [show (nth σ.h id (0, .gone)).2 = _ from hob]; simp)
      rw [show (nth σ.h id (0, .gone)).2 = _ from hob] at hr
      obtain ⟨b, cap, cur, ty, hb, hh, _⟩ := hr
      rw [hh] at he
      exact ⟨_, by simp only [execOp, ho, he, hie]; rw [Sem.run_bind, run_indexAt hok h0 (by omega)]; rfl, gh, b, hg, hb, by simp⟩
    · rename_i e xs hob
      obtain ⟨hb, hK'⟩ := bif_some hK
      simp only [Bool.and_eq_true, inI, decide_eq_true_eq] at hb
      obtain ⟨hok, h0, hlt⟩ := hb
      refine goes_same hK' fun H w G a hp hst hops => ?_
      have hxa := hops x (by simp [ho, Op.operands])
      have hia := hops ix (by simp [ho, Op.operands])
      rw [hx] at hxa
      rw [hix] at hia
      have hie : a.eval ix = _ := hia.1
      obtain ⟨gh, hg, he⟩ := hxa
      have hr := hst.obOf hp hg (by rw [show (nth σ.h id (0, .gone)).2 = _ from hob]; simp)
      rw [show (nth σ.h id (0, .gone)).2 = _ from hob] at hr
      rcases hr.1 with ⟨_, _, rfl⟩ | ⟨b, cap, cur, ty, hb, hh, _⟩
      · simp at hlt; omega
      · rw [hh] at he
        exact ⟨_, by simp only [execOp, ho, he, hie]; rw [Sem.run_bind, run_indexAt hok h0 (by omega)]; rfl, gh, b, hg, hb, by simp⟩
    · cases hK
  · rename_i id off k i hx hix
    split at hK
    · rename_i n e hu
      obtain ⟨hb, hK'⟩ := bif_some hK
      simp only [Bool.and_eq_true, decide_eq_true_eq] at hb
      obtain ⟨hi, h0, hlt⟩ := hb
      obtain ⟨inf, hi⟩ := Option.isSome_iff_exists.1 hi
      refine goes_same hK' fun H w G a hp hst hops => ?_
      have hxa := hops x (by simp [ho, Op.operands])
      have hia := hops ix (by simp [ho, Op.operands])
      rw [hx] at hxa
      rw [hix] at hia
      have hie : a.eval ix = _ := hia.1
      obtain ⟨gh, b, hg, hb, he⟩ := hxa
      exact ⟨_, by simp only [execOp, ho, he, hie]; rw [Sem.run_bind, run_indexArr hu hi h0 hlt]; rfl, gh, b, hg, hb, by simp [sizeT, hi]⟩
    · cases hK
  · rename_i g k i hx hix
    split at hK
    · rename_i n e xs hu hxs
      obtain ⟨hb, hK'⟩ := bif_some hK
      simp only [Bool.and_eq_true, decide_eq_true_eq] at hb
      obtain ⟨hi, hsz, h0, hlt⟩ := hb
      obtain ⟨inf, hi⟩ := Option.isSome_iff_exists.1 hi
      have hsz := Nat.eq_of_beq_eq_true hsz
      refine goes_same hK' fun H w G a hp hst hops => ?_
      have hxa := hops x (by simp [ho, Op.operands])
      have hia := hops ix (by simp [ho, Op.operands])
      rw [hx] at hxa
      rw [hix] at hia
      have hie : a.eval ix = _ := hia.1
      have he : a.eval x = _ := hxa
      have hsz' : inf.size = 1 := by simpa [sizeT, hi] using hsz
      exact ⟨_, by simp only [execOp, ho, he, hie]; rw [Sem.run_bind, run_indexArr hu hi h0 hlt]; rfl, show _ = _ by simp [hsz']⟩
    · cases hK
  · cases hK

theorem ba_get (s : ByteArray) (i : Nat) : s[i]? = s.data.toList[i]? := by
  cases s with
  | mk d =>
    simp only [getElem?_def, ByteArray.size]
    split <;> simp_all
    rfl
theorem go_index {t : TypeId} {x ix : Operand} (ho : o.op = .index t x ix) (hK : opK P C I σ o K = some r) : Goes P w0 ok0 σ o K r := by
  simp only [opK, ho] at hK
  split at hK
  · rename_i s k i hx hix hu
    obtain ⟨y, hy, hK''⟩ := obind_some hK
    unfold byteAt at hy
    obtain ⟨h0, hy⟩ := bif_some hy
    have h0 : 0 ≤ i := by simpa using h0
    obtain ⟨b, hb, rfl⟩ := Option.map_eq_some_iff.1 hy
    refine goes_same hK'' fun H w G a hp hst hops => ?_
    have hxa := hops x (by simp [ho, Op.operands])
    have hia := hops ix (by simp [ho, Op.operands])
    rw [hx] at hxa
    rw [hix] at hia
    have hie : a.eval ix = _ := hia.1
    have he : a.eval x = _ := hxa.1
    refine ⟨.int .u8 b.toNat, ?_, rfl, wf_of (by simp [IntKind.min, IntKind.signed]) (by have := b.toNat_lt; simp [IntKind.max, IntKind.signed, IntKind.bits]; omega)⟩
    have hb' : s.data[i.toNat]? = some b := by simpa using hb
    simp [execOp, ho, he, hie, Instr.index, asIntOf, run_underlying hu, h0, ba_get, hb']
  · cases hK

theorem go_extract {x : Operand} {i : Nat} (ho : o.op = .extract x i) (hK : opK P C I σ o K = some r) : Goes P w0 ok0 σ o K r := by
  simp only [opK, ho] at hK
  split at hK
  · rename_i vs hx
    split at hK
    · rename_i p hp
      refine goes_same hK fun H w G a _ hst hops => ?_
      have hxa := hops x (by simp [ho, Op.operands])
      rw [hx] at hxa
      obtain ⟨us, he, hl, hr⟩ := hxa
      have hlt : i < us.length := by rw [hl]; exact (List.getElem?_eq_some_iff.1 hp).1
      have hu : us[i]? = some us[i] := List.getElem?_eq_getElem hlt
      have hh := hr i p _ hp hu
      refine ⟨us[i], by simp [execOp, ho, he, Instr.extract, hlt], ?_⟩
      obtain ⟨p1, p2⟩ := p
      cases p1 with
      | true =>
        obtain ⟨ws, hw, hr⟩ := (if_pos rfl).mp hh
        exact ⟨ws, hw, hr⟩
      | false =>
        have hh : RCs w (imm w0 ok0 w G) G p2 [us[i]] := by simpa using hh
        match p2, hh with
        | [c], hh => exact hh.head
        | [], hh => exact absurd hh.1 (by simp)
        | _ :: _ :: _, hh => exact absurd hh.1 (by simp)
    · cases hK
  · cases hK

/-- Parts laid into cells. -/
theorem foldl_put (off : Nat) : ∀ (vs : List Value) (k : Nat) (cells : Array Value), ((vs.zipIdx k).foldl (fun cs (p : Value × Nat) => cs.setIfInBounds (off + p.2) p.1) cells).toList = putN cells.toList (off + k) vs
  | [], k, cells => by simp [putN_nil]
  | v :: vs, k, cells => by
    rw [List.zipIdx_cons, List.foldl_cons, foldl_put off vs (k + 1), putN_cons]
    have : ∀ (l : List Value) (i : Nat) (u : Value), l.set i u = setN l i u := by
      intro l
      induction l with
      | nil => intro i u; rfl
      | cons a l ih => intro i u; cases i <;> simp [setN, ih]
    simp only [Array.toList_setIfInBounds, this]
    rw [Nat.add_assoc]
theorem fill_sound {w : World} {ok : Nat → Prop} {G : GM} (hh : ∀ id gh, G id = some gh → gh.hdr.oneCell' = true) {places : List (Nat × Nat)} {place : Nat → Option (Nat × Nat)} (hpl : ∀ (i : Nat) (p : Nat × Nat), places[i]? = some p → place i = some p) :
    ∀ (parts : List (Nat × AV)) (Vs : List (Nat × Value)) (cs : List AC) (cells : Array Value) (cs' : List AC), parts.length = Vs.length → (∀ (i : Nat) (p : Nat × AV) (q : Nat × Value), parts[i]? = some p → Vs[i]? = some q → p.1 = q.1 ∧ RV w ok G p.2 q.2) →
      RCs w ok G cs cells.toList → buildCells places cs parts = some cs' → ∃ cells', Instr.fill place cells Vs = some cells' ∧ RCs w ok G cs' cells'.toList
  | [], [], cs, cells, cs', _, _, hr, h => by
    simp only [buildCells, Option.some.injEq] at h
    subst h
    exact ⟨cells, rfl, hr⟩
  | [], _ :: _, _, _, _, hl, _, _, _ => by simp at hl
  | _ :: _, [], _, _, _, hl, _, _, _ => by simp at hl
  | (i, v) :: parts, (j, V) :: Vs, cs, cells, cs', hl, hv, hr, h => by
    simp only [buildCells] at h
    split at h
    · rename_i off n hp
      obtain ⟨hb, h'⟩ := bif_some h
      simp only [Bool.and_eq_true, decide_eq_true_eq] at hb
      obtain ⟨⟨hg, hn⟩, hoff⟩ := hb
      have hn := Nat.eq_of_beq_eq_true hn
      obtain ⟨rfl, h0⟩ := hv 0 _ _ rfl rfl
      have hc := cells_rv h0 hg hh
      have hsz : V.cells.size = n := by
        have := hc.1
        simp only [Array.length_toList] at this
        omega
      have hcs : cells.size = cs.length := by have := hr.1; simpa using this.symm
      have hnot : ¬ ((decide (V.cells.size ≠ n) || decide (off + V.cells.size > cells.size)) = true) := by
        simp only [Bool.or_eq_true, decide_eq_true_eq]; omega
      have hput : RCs w ok G (putN cs off v.cells) (V.cells.zipIdx.foldl (fun cs (p : Value × Nat) => cs.setIfInBounds (off + p.2) p.1) cells).toList := by
        rw [← Array.foldl_toList, Array.toList_zipIdx, foldl_put off V.cells.toList 0 cells]
        exact hr.putN hc off
      obtain ⟨cells', h1, h2⟩ := fill_sound hh hpl parts Vs _ _ cs' (by simpa using hl) (fun i p q hp hq => hv (i + 1) p q (by simpa using hp) (by simpa using hq)) hput h'
      refine ⟨cells', ?_, h2⟩
      simp only [Instr.fill, hpl _ _ hp]
      rw [if_neg hnot]
      exact h1
    · cases h

theorem parts_rv {w : World} {ok : Nat → Prop} {G : GM} {a : Act} {parts : Array (Nat × Operand)} (h : ∀ x ∈ (parts.toList.map (·.2)).toArray, RV w ok G (σ.ev x) (a.eval x)) :
    ∀ (i : Nat) (p : Nat × AV) (q : Nat × Value), (parts.toList.map fun p => (p.1, σ.ev p.2))[i]? = some p → ((parts.map fun (p : Nat × Operand) => (p.1, a.eval p.2)).toList)[i]? = some q → p.1 = q.1 ∧ RV w ok G p.2 q.2 := by
  intro i p q hp hq
  rw [List.getElem?_map] at hp
  rw [Array.toList_map, List.getElem?_map] at hq
  obtain ⟨u, hu, rfl⟩ := Option.map_eq_some_iff.1 hp
  rw [hu] at hq
  cases hq
  refine ⟨rfl, h _ ?_⟩
  simp only [List.mem_toArray, List.mem_map]
  exact ⟨u, List.mem_of_getElem? hu, rfl⟩
theorem go_build {t : TypeId} {parts : Array (Nat × Operand)} (ho : o.op = .build t parts) (hK : opK P C I σ o K = some r) : Goes P w0 ok0 σ o K r := by
  simp only [opK, ho] at hK
  split at hK
  · rename_i z fs hz hu
    obtain ⟨hfs, hK'⟩ := bif_some hK
    split at hK'
    · rename_i cs hcs
      obtain ⟨hza, hK''⟩ := bif_some hK'
      unfold zeroOf at hz
      split at hz
      · rename_i i hi
        obtain ⟨zv, hzv, rfl⟩ := Option.map_eq_some_iff.1 hz
        refine goes_same hK'' fun H w G a hp hst hops => ?_
        have hzr : RCs w (imm w0 ok0 w G) G (avOf zv).cells zv.cells.toList := by
          have h1 := RV_const w (imm w0 ok0 w G) G zv
          cases hav : avOf zv with
          | agg cs => rw [hav] at h1; obtain ⟨vs, rfl, h1⟩ := h1; simpa [AV.cells, Value.cells] using h1
          | one c => rw [hav] at hza; cases hza
          | tup l => rw [hav] at hza; cases hza
        have hplaces : fs.toList.mapM (fun f => (P.info? f.type).map fun i => (f.offset, i.size)) = some (fs.toList.map fun f => (f.offset, sizeT P f.type)) := by
          have : ∀ (l : List Field), l.all (fun f => (P.info? f.type).isSome) = true → l.mapM (fun f => (P.info? f.type).map fun i => (f.offset, i.size)) = some (l.map fun f => (f.offset, sizeT P f.type)) := by
            intro l
            induction l with
            | nil => intro _; rfl
            | cons f l ih =>
              intro h
              simp only [List.all_cons, Bool.and_eq_true] at h
              obtain ⟨i, hi⟩ := Option.isSome_iff_exists.1 h.1
              simp [List.mapM_cons, hi, ih h.2, sizeT]
          exact this _ hfs
        obtain ⟨cells', h1, h2⟩ := fill_sound (G := G) (ok := imm w0 ok0 w G) (w := w) hst.hdr (place := fun i => (fs.toList.map fun f => (f.offset, sizeT P f.type)).toArray[i]?) (fun i p hp => by simpa using hp) _ (parts.map fun (p : Nat × Operand) => (p.1, a.eval p.2)).toList _ zv.cells cs
          (by simp) (parts_rv (by simpa [ho, Op.operands] using hops)) hzr hcs
        have hb : P.built t (parts.map fun (p : Nat × Operand) => (p.1, a.eval p.2)).toList = some cells' := by
          simp only [Program.built, hi, hu, hzv, hplaces]
          exact h1
        exact ⟨.agg cells', by simp only [execOp, ho]; rw [Sem.run_bind, run_build w t _ cells' hb]; rfl, cells'.toList, by simp, h2⟩
      · cases hz
    · cases hK'
  · rename_i z n e hz hu
    obtain ⟨hfs, hK'⟩ := bif_some hK
    obtain ⟨ie, hie⟩ := Option.isSome_iff_exists.1 hfs
    split at hK'
    · rename_i cs hcs
      obtain ⟨hza, hK''⟩ := bif_some hK'
      unfold zeroOf at hz
      split at hz
      · rename_i i hi
        obtain ⟨zv, hzv, rfl⟩ := Option.map_eq_some_iff.1 hz
        refine goes_same hK'' fun H w G a hp hst hops => ?_
        have hzr : RCs w (imm w0 ok0 w G) G (avOf zv).cells zv.cells.toList := by
          have h1 := RV_const w (imm w0 ok0 w G) G zv
          cases hav : avOf zv with
          | agg cs => rw [hav] at h1; obtain ⟨vs, rfl, h1⟩ := h1; simpa [AV.cells, Value.cells] using h1
          | one c => rw [hav] at hza; cases hza
          | tup l => rw [hav] at hza; cases hza
        have hsz : sizeT P e = ie.size := by simp [sizeT, hie]
        obtain ⟨cells', h1, h2⟩ := fill_sound (G := G) (ok := imm w0 ok0 w G) (w := w) hst.hdr (place := fun i => some (i * ie.size, ie.size)) (fun i p hp => by
          rw [List.getElem?_map] at hp
          obtain ⟨j, hj, rfl⟩ := Option.map_eq_some_iff.1 hp
          obtain ⟨hlt, hj⟩ := List.getElem?_eq_some_iff.1 hj
          rw [List.getElem_range] at hj
          rw [← hj, hsz]) _ (parts.map fun (p : Nat × Operand) => (p.1, a.eval p.2)).toList _ zv.cells cs
          (by simp) (parts_rv (by simpa [ho, Op.operands] using hops)) hzr hcs
        have hb : P.built t (parts.map fun (p : Nat × Operand) => (p.1, a.eval p.2)).toList = some cells' := by
          simp only [Program.built, hi, hu, hzv, hie]
          exact h1
        exact ⟨.agg cells', by simp only [execOp, ho]; rw [Sem.run_bind, run_build w t _ cells' hb]; rfl, cells'.toList, by simp, h2⟩
      · cases hz
    · cases hK'
  · cases hK

theorem rowOk_spec {et : TypeId} {e : Ty} (h : rowOk P et e = true) : ∃ i z, P.info? et = some i ∧ i.size = e.sz ∧ 0 < e.sz ∧ i.bytes ≤ 4096 ∧ i.zero = some z ∧ z.cells.size = e.sz := by
  unfold rowOk at h
  split at h
  · rename_i i hi
    simp only [Bool.and_eq_true, decide_eq_true_eq] at h
    obtain ⟨⟨⟨h1, h2⟩, h3⟩, h4⟩ := h
    split at h4
    · rename_i z hz
      exact ⟨i, z, hi, Nat.eq_of_beq_eq_true h1, h2, h3, hz, Nat.eq_of_beq_eq_true h4⟩
    · cases h4
  · cases h
theorem repN_get {α : Type} (l : List α) : ∀ (n j : Nat), (repN n l)[j]? = if j < n * l.length then l[j % l.length]? else none
  | 0, j => by simp [repN]
  | n + 1, j => by
    rw [repN, List.getElem?_append]
    by_cases h : j < l.length
    · rw [if_pos h, if_pos (by rw [Nat.succ_mul]; omega), Nat.mod_eq_of_lt h]
    · rw [if_neg h, repN_get l n]
      have e : (j - l.length) % l.length = j % l.length := by
        rw [← Nat.mod_eq_sub_mod (by omega)]
      rw [e]
      have : (j - l.length < n * l.length) ↔ (j < (n + 1) * l.length) := by rw [Nat.succ_mul]; omega
      simp only [this]
theorem zeros_rc {w : World} {ok : Nat → Prop} {G : GM} {zs : List AC} {zv : Array Value} (h : RCs w ok G zs zv.toList) (n : Nat) : RCs w ok G (repN n zs) (madeCells zv (n * zv.size)).toList := by
  have hl : zs.length = zv.size := by have := h.1; simpa using this
  have hlen : ∀ n, (repN n zs).length = n * zs.length := by
    intro n
    induction n with
    | zero => simp [repN]
    | succ n ih => rw [repN, List.length_append, ih, Nat.succ_mul]; omega
  refine ⟨by rw [hlen, hl, Array.length_toList, size_madeCells], fun i c v hc hv => ?_⟩
  rw [repN_get] at hc
  split at hc
  · rename_i hi
    have hz : 0 < zv.size := by
      rcases Nat.eq_zero_or_pos zv.size with h0 | h0
      · rw [hl, h0] at hi; simp at hi
      · exact h0
    rw [hl] at hc hi
    have hm : i % zv.size < zv.size := Nat.mod_lt _ hz
    refine h.2 (i % zv.size) c v hc ?_
    simp only [madeCells, Array.toList_map, Array.toList_range, List.getElem?_map, List.getElem?_range hi, Option.map_some, Option.some.injEq] at hv
    rw [← hv]
    simp [hm]
  · cases hc
theorem chunks_spec {e : Ty} : ∀ (n : Nat) (cs : List AC) (xs : List e.den), chunks e [] n cs = some xs → xs.length = n ∧ ∀ i (h : i < xs.length), e.ofAcs [] (sub cs (i * e.sz) e.sz) = some xs[i]
  | 0, cs, xs, h => by simp only [chunks, Option.some.injEq] at h; subst h; exact ⟨rfl, fun i h => absurd h (by simp)⟩
  | n + 1, cs, xs, h => by
    simp only [chunks] at h
    split at h
    · rename_i x ys hx hys
      cases h
      obtain ⟨h1, h2⟩ := chunks_spec n _ ys hys
      refine ⟨by simp [h1], fun i hi => ?_⟩
      cases i with
      | zero => simpa [sub] using hx
      | succ i =>
        have := h2 i (by simpa using hi)
        simp only [sub, List.drop_drop] at this
        simp only [sub, List.getElem_cons_succ, Nat.succ_mul]
        rw [Nat.add_comm]
        exact this
    · cases h
/-- A new row. -/
theorem goes_row {e : Ty} {xs : List e.den} {et : TypeId} {cur : Act → Array Value} (raw : Bool) (hn : xs.length ≤ maxLen) (hK : (bif raw then K (.one (.slc e xs)) σ else K (.one (.own σ.h.length)) (σ.newOb (.row e xs))) = some r)
    (hrun : ∀ (H : List (Nat × Ob)) (w : World) (G : GM) (a : Act), St w0 ok0 H w G → (∀ x ∈ o.op.operands, RV w (imm w0 ok0 w G) G (σ.ev x) (a.eval x)) →
      (execOp a.eval o).run P w = .ok (.value (.slice (some ⟨w.heap.size, 0, none⟩) xs.length xs.length)) (w.alloc (.cells (cur a) et)) ∧ (cur a).size = xs.length * e.sz ∧
      ∀ (i : Nat) (h : i < xs.length), ∃ us, e.rp w (imm w0 ok0 w G) us xs[i] ∧ ∀ j u, us[j]? = some u → (cur a)[i * e.sz + j]? = some u) : Goes P w0 ok0 σ o K r := by
  cases raw with
  | true =>
    refine ⟨_, [], by rw [List.append_nil]; exact hK, (fun p h => by simp at h), fun H w G a hp hst hx _ => ?_⟩
    obtain ⟨h1, h2, h3⟩ := hrun H w G a hst hx
    have hl : Later w G (w.alloc (.cells (cur a) et)) G := Later.of_ext G (alloc_ext _ _)
    refine .value h1 ⟨G, hst.later hl (fun id p gh hp _ => ⟨p, hp, rfl⟩) (fun id gh hg => .inl hg) (fun id id' gh gh' b g1 g2 g3 g4 _ => hst.inj id id' gh gh' b g1 g2 g3 g4) (fun id gh b hg hb => Nat.lt_of_lt_of_le (hst.low id gh b hg hb).2 hl.ext.size), hl, fun id gh hg => .inl hg, ?_⟩
    refine ⟨some ⟨w.heap.size, 0, none⟩, xs.length, rfl, Nat.le_refl _, hn, fun _ => ⟨w.heap.size, 0, rfl, ⟨.inr hst.ext.size, by simp, fun id gh hg hb => ?_⟩, fun i hi => ?_⟩⟩
    · have := (hst.low id gh _ hg hb).2
      omega
    · obtain ⟨us, hr, hu⟩ := h3 i hi
      refine ⟨us, Ty.rp_keep _ hr (fun _ => hl.heap) (fun _ => hl.imm), fun j u hj => ?_⟩
      rw [cell_of_row (heap_alloc_new w _), Nat.zero_add]
      exact hu j u hj
  | false =>
  replace hK : K (.one (.own σ.h.length)) (σ.newOb (.row e xs)) = some r := hK
  refine ⟨_, [(0, .row e xs)], hK, stable_new fun H w G a _ hst hx => ?_⟩
  obtain ⟨h1, h2, h3⟩ := hrun H w G a hst hx
  refine ⟨_, _, .mk0 (some w.heap.size) (.slice (some ⟨w.heap.size, 0, none⟩) xs.length xs.length), h1, alloc_ext _ _, fun b hb => ?_, fun G' hl hg => ⟨?_, ?_⟩⟩
  · cases Gh.has0.1 hb; exact ⟨Nat.le_refl _, by simp⟩
  · refine .inr ⟨w.heap.size, xs.length, cur a, et, rfl, rfl, heap_alloc_new w _, Nat.le_refl _, hn, h2, fun i hi => ?_⟩
    obtain ⟨us, hr, hu⟩ := h3 i hi
    exact ⟨us, Ty.rp_keep _ hr (fun _ => hl.heap) (fun _ => hl.imm), hu⟩
  · exact ⟨_, hg, rfl⟩
theorem zero_rc {w : World} {ok : Nat → Prop} {G : GM} (zv : Value) (hz : 0 < zv.cells.size) : RCs w ok G (avOf zv).cells zv.cells.toList := by
  have h1 := RV_const w ok G zv
  unfold avOf at h1 ⊢
  split at h1
  · rename_i cs
    obtain ⟨vs, h2, h3⟩ := h1
    cases h2
    simpa [AV.cells, Value.cells] using h3
  · rename_i hne
    have : zv.cells = #[zv] := by cases zv <;> first | rfl | exact absurd rfl (hne _)
    rw [this]
    exact RCs.cons h1 RCs.nil
theorem repN_len {α : Type} (l : List α) : ∀ n, (repN n l).length = n * l.length
  | 0 => by simp [repN]
  | n + 1 => by rw [repN, List.length_append, repN_len l n, Nat.succ_mul]; omega
theorem buildCells_len (places : List (Nat × Nat)) : ∀ (parts : List (Nat × AV)) (cs cs' : List AC), buildCells places cs parts = some cs' → cs'.length = cs.length
  | [], cs, cs', h => by simp only [buildCells, Option.some.injEq] at h; rw [h]
  | (i, v) :: parts, cs, cs', h => by
    simp only [buildCells] at h
    split at h
    · obtain ⟨_, h'⟩ := bif_some h
      rw [buildCells_len places parts _ _ h', length_putN]
    · cases h
theorem go_buildSlice {t : TypeId} {len : Nat} {parts : Array (Nat × Operand)} (ho : o.op = .buildSlice t len parts) (hK : opK P C I σ o K = some r) : Goes P w0 ok0 σ o K r := by
  simp only [opK, ho] at hK
  split at hK
  · rename_i et hu
    split at hK
    · rename_i e z he hz
      obtain ⟨hb, hK'⟩ := bif_some hK
      simp only [Bool.and_eq_true, decide_eq_true_eq] at hb
      obtain ⟨hrow, hlen⟩ := hb
      obtain ⟨inf, zv, hi, hs, hpos, hby, hzv, hzs⟩ := rowOk_spec hrow
      split at hK'
      · rename_i cs hcs
        split at hK'
        · rename_i xs hxs
          obtain ⟨hxl, hxe⟩ := chunks_spec _ _ _ hxs
          obtain rfl : avOf zv = z := by simpa [zeroOf, hi, hzv] using hz
          have hxa : (avOf zv).isAgg = true ∨ ∃ c, avOf zv = .one c := by
            unfold avOf
            split
            · exact .inl rfl
            · exact .inr ⟨_, rfl⟩
          have key : ∀ (H : List (Nat × Ob)) (w : World) (G : GM) (a : Act), St w0 ok0 H w G → (∀ x ∈ o.op.operands, RV w (imm w0 ok0 w G) G (σ.ev x) (a.eval x)) →
              ∃ cells', Instr.fill (fun i => some (i * e.sz, e.sz)) (madeCells zv.cells (len * zv.cells.size)) (parts.map fun (p : Nat × Operand) => (p.1, a.eval p.2)).toList = some cells' ∧ RCs w (imm w0 ok0 w G) G cs cells'.toList := by
            intro H w G a hst hops
            refine fill_sound (G := G) (ok := imm w0 ok0 w G) (w := w) hst.hdr (fun i p hp => ?_) _ _ _ _ cs (by simp) (parts_rv (by simpa [ho, Op.operands] using hops)) (zeros_rc (zero_rc zv (by rw [hzs]; exact hpos)) len) hcs
            rw [List.getElem?_map] at hp
            obtain ⟨j, hj, rfl⟩ := Option.map_eq_some_iff.1 hp
            rw [List.getElem?_range] at hj
            · cases hj; rfl
            · rcases Nat.lt_or_ge i len with h | h
              · exact h
              · rw [List.getElem?_eq_none (by simpa using h)] at hj; cases hj
          obtain ⟨hcl, hsz⟩ : (0 : Nat) = 0 ∧ len ≤ maxLen := ⟨rfl, by
            have : len * 1 ≤ len * e.sz := Nat.mul_le_mul_left _ hpos
            unfold maxLen; omega⟩
          refine goes_row (xs := xs) (et := et) (raw := C.isRaw o.dst) (cur := fun a => ((Instr.fill (fun i => some (i * e.sz, e.sz)) (madeCells zv.cells (len * zv.cells.size)) (parts.map fun (p : Nat × Operand) => (p.1, a.eval p.2)).toList).getD #[])) (by rw [hxl]; exact hsz) hK' fun H w G a hst hops => ?_
          obtain ⟨cells', h1, h2⟩ := key H w G a hst hops
          rw [h1]
          have hlz : len * inf.size = len * zv.cells.size := by rw [hs, hzs]
          have hcs' : (cells' : Array Value).size = xs.length * e.sz := by
            have e1 : cs.length = len * e.sz := by
              have := buildCells_len _ _ _ _ hcs
              rw [this, repN_len]
              have := (zero_rc (w := w) (ok := imm w0 ok0 w G) (G := G) zv (by rw [hzs]; exact hpos)).1
              rw [this, Array.length_toList, hzs]
            have h3 : cs.length = cells'.toList.length := h2.1
            have h4 : cells'.toList.length = cells'.size := Array.length_toList
            rw [hxl]
            omega
          refine ⟨?_, hcs', fun i hi => ?_⟩
          · simp only [execOp, ho]
            rw [Sem.run_bind]
            have hrun : (Instr.buildSlice t len (parts.map fun (p : Nat × Operand) => (p.1, a.eval p.2))).run P w = .ok (.slice (some ⟨w.heap.size, 0, none⟩) len len) (w.alloc (.cells cells' et)) := by
              have hle : ¬ (len * inf.size > 2 ^ 24) := by rw [hs]; omega
              unfold Instr.buildSlice
              simp only [Sem.run_bind, run_underlying hu, Result.andThen_ok, sizeOf, typeInfo, run_program, hi, Sem.run_pure]
              rw [if_neg hle]
              rw [hs]
              have h1' : Instr.fill (fun i => some (i * e.sz, e.sz)) (madeCells zv.cells (len * e.sz)) (List.map (fun p => (p.fst, a.eval p.snd)) parts.toList) = some cells' := by
                rw [show len * e.sz = len * zv.cells.size by rw [hzs]]; simpa using h1
              by_cases h0 : len * e.sz = 0
              · have hm : madeCells zv.cells 0 = #[] := by simp [madeCells]
                rw [h0, hm] at h1'
                have hr0 : (Array.range 0) = #[] := rfl
                simp [h0, h1', newRow, hr0]
              · have hm : (Array.range (len * e.sz)).map (fun x => zv.cells[x % zv.cells.size]!) = madeCells zv.cells (len * e.sz) := rfl
                simp only [h0, if_false, zeroValue, Sem.run_bind, typeInfo, run_program, Result.andThen_ok, hi, Sem.run_pure, hzv, hm]
                simp [h1', newRow]
            rw [hrun, hxl]
            rfl
          · have := hxe i hi
            refine ⟨_, Ty.ofAcs_nil this (h2.sub _ _), fun j u hj => ?_⟩
            rw [sub_get] at hj
            split at hj
            · simpa using hj
            · cases hj
        · cases hK'
      · cases hK'
    · cases hK
  · cases hK
theorem avOf_nils {v : Value} (h : avOf v = .one .nils) : v = .slice none 0 0 := by
  cases v with
  | agg cs => cases h
  | int k n =>
    have h : (bif (Lit.int k n).wf then AC.int k n else .bad) = .nils := AV.one.inj h
    cases hw : (Lit.int k n).wf <;> rw [hw] at h <;> cases h
  | string s =>
    have h : (bif decide (s.size ≤ maxLen) then AC.str s else .bad) = .nils := AV.one.inj h
    cases hw : decide (s.size ≤ maxLen) <;> rw [hw] at h <;> cases h
  | slice A n c =>
    match A, n, c, h with
    | none, 0, 0, _ => rfl
    | some a, _, _, h => cases h
    | none, n + 1, _, h => cases h
    | none, 0, c + 1, h => cases h
  | pointer A => cases A <;> cases h
  | _ => cases h
theorem go_makeSlice {t : TypeId} {l c : Operand} (ho : o.op = .makeSlice t l c) (hK : opK P C I σ o K = some r) : Goes P w0 ok0 σ o K r := by
  simp only [opK, ho] at hK
  split at hK
  · rename_i et hu
    split at hK
    · rename_i e z he hz
      split at hK
      · rename_i x k n k' m hx hl hc
        obtain ⟨hb, hK'⟩ := bif_some hK
        simp only [Bool.and_eq_true, decide_eq_true_eq] at hb
        obtain ⟨hrow, h0, hlim, rfl⟩ := hb
        obtain ⟨inf, zv, hi, hs, hpos, hby, hzv, hzs⟩ := rowOk_spec hrow
        obtain rfl : avOf zv = z := by simpa [zeroOf, hi, hzv] using hz
        unfold lim at hlim
        obtain ⟨q, rfl⟩ : ∃ q : Nat, n = (q : Int) := ⟨n.toNat, by omega⟩
        have hq : q ≤ 4294967296 := by omega
        have hgo : ∀ (H : List (Nat × Ob)) (w : World) (G : GM) (a : Act), St w0 ok0 H w G → (∀ x ∈ o.op.operands, RV w (imm w0 ok0 w G) G (σ.ev x) (a.eval x)) →
            (execOp a.eval o).run P w = .ok (.value (.slice (some ⟨w.heap.size, 0, none⟩) q q)) (w.alloc (.cells (madeCells zv.cells (q * inf.size)) et)) := by
          intro H w G a hst hops
          have hla := hops l (by simp [ho, Op.operands])
          have hca := hops c (by simp [ho, Op.operands])
          rw [hl] at hla
          rw [hc] at hca
          have hle : a.eval l = _ := hla.1
          have hce : a.eval c = _ := hca.1
          have hb : (inf.bytes : Int) * (q : Int) ≤ 281474976710656 := by
            have h : inf.bytes * q ≤ 4096 * 4294967296 := Nat.mul_le_mul hby hq
            have h' : ((inf.bytes * q : Nat) : Int) ≤ 281474976710656 := by omega
            rwa [Int.natCast_mul] at h'
          have hrun := run_make (P := P) w t et inf zv hu hi hzv k k' (q : Int) (q : Int) (by omega) (Int.le_refl _) hb (by omega)
          simp only [execOp, ho, hle, hce]
          rw [Sem.run_bind, hrun]
          simp
        cases hraw : C.isRaw o.dst with
        | true =>
          rw [hraw, cond_true] at hK'
          split at hK'
          · rename_i e' _ _ _
            have hzv0 : zv = .slice none 0 0 := avOf_nils (by assumption)
            subst hzv0
            refine ⟨_, [(0, .tree e' (List.replicate ((q : Int).toNat) []) none)], hK', stable_new fun H w G a _ hst hops => ?_⟩
            have h1 := hgo H w G a hst hops
            refine ⟨_, _, ⟨some w.heap.size, .slice (some ⟨w.heap.size, 0, none⟩) q q, fun _ => none, fun _ => .slice none 0 0⟩, h1, alloc_ext _ _, fun b hb => ?_, fun G' hl hg => ⟨?_, ?_⟩⟩
            · rcases hb with hb | ⟨i, hb⟩
              · cases hb; exact ⟨Nat.le_refl _, by simp⟩
              · cases hb
            · have hs1 : inf.size = 1 := by rw [hs]; rfl
              refine ⟨w.heap.size, q, _, et, rfl, by simp, heap_alloc_new w _, by simp, by unfold maxLen; omega, by rw [size_madeCells, hs1, Nat.mul_one], (fun i b' h => nomatch h), (fun i j b' h => nomatch h), fun i hi => ⟨.inl ⟨rfl, rfl, by simp⟩, fun _ => ?_⟩⟩
              have hi' : i < q := by simpa using hi
              simp [madeCells, hs1, hi', Value.cells, Nat.mod_one]
            · exact ⟨_, hg, rfl⟩
          · rename_i τ x _
            refine ⟨_, [(0, .drow (.agg τ) (List.replicate ((q : Int).toNat) x))], hK', stable_new fun H w G a _ hst hops => ?_⟩
            have h1 := hgo H w G a hst hops
            refine ⟨_, _, ⟨some w.heap.size, .slice (some ⟨w.heap.size, 0, none⟩) q q, fun _ => none, fun _ => .slice none 0 0⟩, h1, alloc_ext _ _, fun b hb => ?_, fun G' hl hg => ⟨⟨?_, (fun b ⟨i, h⟩ => nomatch h), fun b ⟨i, h⟩ => nomatch h⟩, ?_⟩⟩
            · rcases hb with hb | ⟨i, hb⟩
              · cases hb; exact ⟨Nat.le_refl _, by simp⟩
              · cases hb
            · refine .inr ⟨w.heap.size, q, _, et, rfl, by simp, heap_alloc_new w _, by simp, by unfold maxLen; omega, by rw [size_madeCells, hs], fun i hi' => ⟨zv.cells.toList, ?_, fun j u hj => ?_⟩⟩
              · have := Ty.ofAcs_nil hx (zero_rc (ok := Gh.ins ⟨some w.heap.size, .slice (some ⟨w.heap.size, 0, none⟩) q q, fun _ => none, fun _ => .slice none 0 0⟩) (w := w.alloc (.cells (madeCells zv.cells (q * inf.size)) et)) (G := G) zv (by rw [hzs]; exact hpos))
                rw [List.getElem_replicate]
                exact this
              · have hj' : j < (Ty.agg τ).sz := by have := (List.getElem?_eq_some_iff.1 hj).1; simp at this; omega
                have hi'' : i < q := by simpa using hi'
                have hlt : i * (Ty.agg τ).sz + j < q * inf.size := by
                  rw [hs]
                  have : (i + 1) * (Ty.agg τ).sz ≤ q * (Ty.agg τ).sz := Nat.mul_le_mul_right _ hi''
                  rw [Nat.succ_mul] at this
                  omega
                have hm : (i * (Ty.agg τ).sz + j) % zv.cells.size = j := by rw [hzs, Nat.mul_add_mod_self_right]; exact Nat.mod_eq_of_lt hj'
                have hju : zv.cells[j]? = some u := by simpa using hj
                simp [madeCells, hlt, hm]
                rw [getElem!_def, hju]
            · exact ⟨_, hg, rfl⟩
          · cases hK'
        | false =>
        rw [hraw, cond_false] at hK'
        refine goes_row (raw := false) (et := et) (xs := List.replicate ((q : Int).toNat) x) (cur := fun _ => madeCells zv.cells (q * inf.size)) (by rw [List.length_replicate]; unfold maxLen; omega) hK' fun H w G a hst hops => ?_
        refine ⟨by rw [hgo H w G a hst hops]; simp, by rw [size_madeCells, List.length_replicate, hs]; simp, fun i hi' => ⟨zv.cells.toList, ?_, fun j u hj => ?_⟩⟩
        · have := Ty.ofAcs_nil hx (zero_rc (w := w) (ok := imm w0 ok0 w G) (G := G) zv (by rw [hzs]; exact hpos))
          simpa using this
        · have hj' : j < e.sz := by have := (List.getElem?_eq_some_iff.1 hj).1; simp at this; omega
          have hi'' : i < q := by simpa using hi'
          have hlt : i * e.sz + j < q * inf.size := by
            rw [hs]
            have : (i + 1) * e.sz ≤ q * e.sz := Nat.mul_le_mul_right _ hi''
            rw [Nat.succ_mul] at this
            omega
          have hm : (i * e.sz + j) % zv.cells.size = j := by rw [hzs, Nat.mul_add_mod_self_right]; exact Nat.mod_eq_of_lt hj'
          have hju : zv.cells[j]? = some u := by simpa using hj
          simp [madeCells, hlt, hm]
          rw [getElem!_def, hju]
      · cases hK
    · cases hK
  · cases hK

theorem run_call_builtin {b : Builtin} {args : Array Operand} {ts : Array TypeId} (ho : o.op = .call { callee := .builtin b, args := args, argTypes := ts }) (a : Act) :
    execOp a.eval o = builtin b ts o.type (args.map fun | .const _ => true | _ => false) (args.map a.eval) := by
  simp only [execOp, ho, resolve]
  rfl
theorem map_one {c : Array Operand} {v : AV} (h : c.toList.map σ.ev = [v]) : ∃ x, c = #[x] ∧ σ.ev x = v := by
  match hc : c.toList, h with
  | [x], h => exact ⟨x, by cases c; simp_all, by simpa using h⟩
  | [], h => simp at h
  | _ :: _ :: _, h => simp at h
theorem go_len {args : Array Operand} {ts : Array TypeId} (ho : o.op = .call { callee := .builtin .len, args := args, argTypes := ts }) (hK : opK P C I σ o K = some r) : Goes P w0 ok0 σ o K r := by
  simp only [opK, ho] at hK
  have hts : ∀ d, ts.toList.map P.underlying = [some d] → ∃ t, ts = #[t] ∧ P.underlying t = some d := by
    intro d h
    match hc : ts.toList, h with
    | [t], h => exact ⟨t, by cases ts; simp_all, by simpa using h⟩
    | [], h => simp at h
    | _ :: _ :: _, h => simp at h
  split at hK
  · rename_i e xs et ha ht
    obtain ⟨x, rfl, hx⟩ := map_one ha
    obtain ⟨t, rfl, hu⟩ := hts _ ht
    refine goes_same hK fun H w G a hp hst hops => ?_
    have hxa := hops x (by simp [ho, Op.operands, Call.operands])
    rw [hx] at hxa
    obtain ⟨A, cap, he, h1, h2, _⟩ := hxa
    have he : a.eval x = _ := List.singleton_inj.1 he
    exact ⟨.int .i64 xs.length, by rw [run_call_builtin ho]; simp [builtin, Builtin.len_, he, run_underlying hu, goInt], rfl, wf_len (by omega)⟩
  · rename_i et ha ht
    obtain ⟨x, rfl, hx⟩ := map_one ha
    obtain ⟨t, rfl, hu⟩ := hts _ ht
    refine goes_same hK fun H w G a hp hst hops => ?_
    have hxa := hops x (by simp [ho, Op.operands, Call.operands])
    rw [hx] at hxa
    have he : a.eval x = _ := hxa
    exact ⟨.int .i64 0, by rw [run_call_builtin ho]; simp [builtin, Builtin.len_, he, run_underlying hu, goInt], rfl, wf_len (n := 0) (by simp [maxLen])⟩
  · rename_i id et ha ht
    obtain ⟨x, rfl, hx⟩ := map_one ha
    obtain ⟨t, rfl, hu⟩ := hts _ ht
    split at hK
    · rename_i e xs hob
      refine goes_same hK fun H w G a hp hst hops => ?_
      have hxa := hops x (by simp [ho, Op.operands, Call.operands])
      rw [hx] at hxa
      obtain ⟨gh, hg, he⟩ := hxa
      have hr := hst.obOf hp hg (by rw [show (nth σ.h id (0, .gone)).2 = _ from hob]; simp)
      rw [show (nth σ.h id (0, .gone)).2 = _ from hob] at hr
      rcases hr with ⟨_, hh, rfl⟩ | ⟨b, cap, cur, ty, hb, hh, _, h1, h2, _⟩
      · rw [hh] at he
        exact ⟨.int .i64 0, by rw [run_call_builtin ho]; simp [builtin, Builtin.len_, he, run_underlying hu, goInt], rfl, wf_len (n := 0) (by simp [maxLen])⟩
      · rw [hh] at he
        exact ⟨.int .i64 xs.length, by rw [run_call_builtin ho]; simp [builtin, Builtin.len_, he, run_underlying hu, goInt], rfl, wf_len (by omega)⟩
    · rename_i e xs hob
      refine goes_same hK fun H w G a hp hst hops => ?_
      have hxa := hops x (by simp [ho, Op.operands, Call.operands])
      rw [hx] at hxa
      obtain ⟨gh, hg, he⟩ := hxa
      have hr := hst.obOf hp hg (by rw [show (nth σ.h id (0, .gone)).2 = _ from hob]; simp)
      rw [show (nth σ.h id (0, .gone)).2 = _ from hob] at hr
      rcases hr.1 with ⟨_, hh, rfl⟩ | ⟨b, cap, cur, ty, hb, hh, _, h1, h2, _⟩
      · rw [hh] at he
        exact ⟨.int .i64 0, by rw [run_call_builtin ho]; simp [builtin, Builtin.len_, he, run_underlying hu, goInt], rfl, wf_len (n := 0) (by simp [maxLen])⟩
      · rw [hh] at he
        exact ⟨.int .i64 xs.length, by rw [run_call_builtin ho]; simp [builtin, Builtin.len_, he, run_underlying hu, goInt], rfl, wf_len (by omega)⟩
    · cases hK
  · rename_i s ha ht
    obtain ⟨x, rfl, hx⟩ := map_one ha
    obtain ⟨t, rfl, hu⟩ := hts _ ht
    refine goes_same hK fun H w G a hp hst hops => ?_
    have hxa := hops x (by simp [ho, Op.operands, Call.operands])
    rw [hx] at hxa
    obtain ⟨he, h1⟩ := hxa
    exact ⟨.int .i64 s.size, by rw [run_call_builtin ho]; simp [builtin, Builtin.len_, he, run_underlying hu, goInt], rfl, wf_len h1⟩
  · cases hK

theorem foldR_spec {f : Int → Int → Int} {f2 : Value → Value → Sem Value} (hf : ∀ k k' n m (w : World), (f2 (.int k n) (.int k' m)).run P w = .ok (.int k (f n m)) w) {k : IntKind}
    (hwf : ∀ n m, (Lit.int k n).wf = true → (Lit.int k m).wf = true → (Lit.int k (f n m)).wf = true) {w : World} {ok : Nat → Prop} {G : GM} :
    ∀ (l : List AV) (Vs : List Value) (n : Int) (p : IntKind × Int), l.length = Vs.length → (∀ (i : Nat) v V, l[i]? = some v → Vs[i]? = some V → RV w ok G v V) → (Lit.int k n).wf = true →
      foldR f k n l = some p → p.1 = k ∧ (Lit.int k p.2).wf = true ∧ (Vs.foldlM f2 (.int k n)).run P w = .ok (.int k p.2) w
  | [], [], n, p, _, _, hn, h => by
    simp only [foldR, Option.some.injEq] at h
    subst h
    exact ⟨rfl, hn, rfl⟩
  | [], _ :: _, _, _, hl, _, _, _ => by simp at hl
  | _ :: _, [], _, _, hl, _, _, _ => by simp at hl
  | v :: l, V :: Vs, n, p, hl, hr, hn, h => by
    unfold foldR at h
    split at h
    · rename_i heq; cases heq
    · rename_i k' m l' heq
      cases heq
      obtain ⟨hk, h'⟩ := bif_some h
      obtain rfl : k' = k := by simpa using hk
      have h0 := hr 0 _ _ rfl rfl
      obtain ⟨rfl, hm⟩ := h0
      obtain ⟨h1, h2, h3⟩ := foldR_spec hf hwf l Vs _ p (by simpa using hl) (fun i v V hv hV => hr (i + 1) v V (by simpa using hv) (by simpa using hV)) (hwf _ _ hn hm) h'
      exact ⟨h1, h2, by rw [List.foldlM_cons, Sem.run_bind, hf]; exact h3⟩
    · cases h
theorem goes_fold {f : Int → Int → Int} {f2 : Value → Value → Sem Value} {bi : Builtin} {args : Array Operand} {ts : Array TypeId} (ho : o.op = .call { callee := .builtin bi, args := args, argTypes := ts })
    (hbi : ∀ a : Act, execOp a.eval o = (do pure (.value (← match (args.map a.eval).toList with | [] => stuck "" | x :: rest => rest.foldlM f2 x)) : Sem Next) ∨ args.toList = [])
    (hf : ∀ k k' n m (w : World), (f2 (.int k n) (.int k' m)).run P w = .ok (.int k (f n m)) w)
    (hwf : ∀ k n m, (Lit.int k n).wf = true → (Lit.int k m).wf = true → (Lit.int k (f n m)).wf = true) {k : IntKind} {n : Int} (hfo : foldI f (args.toList.map σ.ev) = some (k, n)) (hK : K (.one (.int k n)) σ = some r) : Goes P w0 ok0 σ o K r := by
  refine goes_same hK fun H w G a hp hst hops => ?_
  have hops' : ∀ x ∈ args.toList, RV w (imm w0 ok0 w G) G (σ.ev x) (a.eval x) := fun x hx => hops x (by simp [ho, Op.operands, Call.operands]; simpa using hx)
  have hrel : ∀ (l : List Operand), (∀ x ∈ l, RV w (imm w0 ok0 w G) G (σ.ev x) (a.eval x)) → ∀ (i : Nat) v V, (l.map σ.ev)[i]? = some v → (l.map a.eval)[i]? = some V → RV w (imm w0 ok0 w G) G v V := by
    intro l hl i v V hv hV
    rw [List.getElem?_map] at hv hV
    obtain ⟨x, hx, rfl⟩ := Option.map_eq_some_iff.1 hv
    rw [hx] at hV
    cases hV
    exact hl x (List.mem_of_getElem? hx)
  unfold foldI at hfo
  split at hfo
  · rename_i k0 n0 l heq
    match hal : args.toList, heq with
    | x :: rest, heq =>
      simp only [List.map_cons, List.cons.injEq] at heq
      obtain ⟨hx, rfl⟩ := heq
      have h0 := hops' x (by simp [hal])
      rw [hx] at h0
      obtain ⟨he, hw⟩ := h0
      obtain ⟨h1, h2, h3⟩ := foldR_spec (P := P) (w := w) (ok := imm w0 ok0 w G) (G := G) hf (hwf k0) (rest.map σ.ev) (rest.map a.eval) n0 (k, n) (by simp) (hrel rest fun y hy => hops' y (by simp [hal, hy])) hw hfo
      obtain rfl : k = k0 := h1
      refine ⟨.int k n, ?_, rfl, h2⟩
      rcases hbi a with hb | hb
      · rw [hb]
        simp only [Array.toList_map, hal, List.map_cons, he]
        rw [Sem.run_bind, h3]
        rfl
      · rw [hal] at hb; cases hb
  · cases hfo
theorem go_min {args : Array Operand} {ts : Array TypeId} (ho : o.op = .call { callee := .builtin .min, args := args, argTypes := ts }) (hK : opK P C I σ o K = some r) : Goes P w0 ok0 σ o K r := by
  simp only [opK, ho] at hK
  split at hK
  · rename_i k n hf
    refine goes_fold (f2 := Builtin.min2) ho (fun a => ?_) (fun k k' n m w => ?_) (fun k n m hn hm => ?_) hf hK
    · rw [run_call_builtin ho]
      cases h : args.toList with
      | nil => exact .inr rfl
      | cons x l => left; simp [builtin, Builtin.min_, h]
    · by_cases h : m < n <;> simp [Builtin.min2, h]
    · by_cases h : m < n <;> simp [h, hn, hm]
  · cases hK
theorem go_max {args : Array Operand} {ts : Array TypeId} (ho : o.op = .call { callee := .builtin .max, args := args, argTypes := ts }) (hK : opK P C I σ o K = some r) : Goes P w0 ok0 σ o K r := by
  simp only [opK, ho] at hK
  split at hK
  · rename_i k n hf
    refine goes_fold (f2 := Builtin.max2) ho (fun a => ?_) (fun k k' n m w => ?_) (fun k n m hn hm => ?_) hf hK
    · rw [run_call_builtin ho]
      cases h : args.toList with
      | nil => exact .inr rfl
      | cons x l => left; simp [builtin, Builtin.max_, h]
    · by_cases h : n < m <;> simp [Builtin.max2, h]
    · by_cases h : n < m <;> simp [h, hn, hm]
  · cases hK

theorem bndK_spec {d : Int} {x : Option Operand} {n : Int} (h : bndK σ d x = some n) : (x = none ∧ n = d) ∨ ∃ y k, x = some y ∧ σ.ev y = .one (.int k n) := by
  cases x with
  | none => cases h; exact .inl ⟨rfl, rfl⟩
  | some y =>
    simp only [bndK] at h
    split at h
    · rename_i k m hy
      cases h
      exact .inr ⟨y, k, rfl, hy⟩
    · cases h
theorem run_bounds (b : Bool) (w : World) {len cap : Nat} {lo hi : Option Value} {l h : Int} (hlo : (lo = none ∧ l = 0) ∨ ∃ k, lo = some (.int k l)) (hhi : (hi = none ∧ h = (len : Int)) ∨ ∃ k, hi = some (.int k h))
    (h0 : 0 ≤ l) (h1 : l ≤ h) (h2 : h ≤ (len : Int)) (h3 : len ≤ cap) : (Instr.sliceBounds b len cap lo hi none).run P w = .ok (l.toNat, h.toNat, cap) w := by
  have e1 : 0 ≤ h ∧ h ≤ (cap : Int) := ⟨by omega, by omega⟩
  have e2 : 0 ≤ l ∧ l ≤ ((h.toNat : Nat) : Int) := ⟨h0, by omega⟩
  rcases hlo with ⟨rfl, rfl⟩ | ⟨k, rfl⟩ <;> rcases hhi with ⟨rfl, rfl⟩ | ⟨k', rfl⟩
  · simp [Instr.sliceBounds]
  · simp [Instr.sliceBounds, Instr.sliceBound, asIntOf, e1]
  · have e3 : 0 ≤ l ∧ l ≤ (len : Int) := ⟨h0, by omega⟩
    simp [Instr.sliceBounds, Instr.sliceBound, asIntOf, e3]
  · have e3 : 0 ≤ l ∧ l ≤ h := ⟨h0, h1⟩
    have e4 : (max h 0) = h := by omega
    simp [Instr.sliceBounds, Instr.sliceBound, asIntOf, e1, e3, e4]
theorem bif_or {α : Type} {b : Bool} {x y : Option α} {r : α} (h : (bif b then x else y) = some r) : (b = true ∧ x = some r) ∨ (b = false ∧ y = some r) := by
  cases b
  · exact .inr ⟨rfl, h⟩
  · exact .inl ⟨rfl, h⟩
theorem go_slice {t : TypeId} {x : Operand} {lo hi mx : Option Operand} (ho : o.op = .slice t x lo hi mx) (hK : opK P C I σ o K = some r) : Goes P w0 ok0 σ o K r := by
  simp only [opK, ho] at hK
  obtain ⟨hmx, hK1⟩ := bif_some hK
  clear hK
  obtain rfl : mx = none := by simpa using hmx
  have bnd : ∀ (w : World) (G : GM) (a : Act) (y : Option Operand) (d n : Int), (∀ z ∈ o.op.operands, RV w (imm w0 ok0 w G) G (σ.ev z) (a.eval z)) → (∀ z, y = some z → z ∈ o.op.operands) → bndK σ d y = some n → (y.map a.eval = none ∧ n = d) ∨ ∃ k, y.map a.eval = some (.int k n) := by
    intro w G a y d n hops hm h
    rcases bndK_spec h with ⟨rfl, rfl⟩ | ⟨z, k, rfl, hz⟩
    · exact .inl ⟨rfl, rfl⟩
    · have := hops z (hm z rfl)
      rw [hz] at this
      exact .inr ⟨k, by simp [this.1]⟩
  have mlo : ∀ z, lo = some z → z ∈ o.op.operands := fun z hz => by simp [ho, Op.operands, hz]
  have mhi : ∀ z, hi = some z → z ∈ o.op.operands := fun z hz => by simp [ho, Op.operands, hz]
  have mx' : x ∈ o.op.operands := by simp [ho, Op.operands]
  split at hK1
  · rename_i s hx hu
    split at hK1
    · rename_i l h hl hh
      obtain ⟨hb, hK'⟩ := bif_some hK1
      simp only [Bool.and_eq_true, decide_eq_true_eq] at hb
      refine goes_same hK' fun H w G a hp hst hops => ?_
      have hxa := hops x mx'
      rw [hx] at hxa
      have he : a.eval x = .string s := hxa.1
      refine ⟨.string (s.extract l.toNat h.toNat), ?_, rfl, ?_⟩
      · have := run_bounds (P := P) false w (bnd w G a lo _ l hops mlo hl) (bnd w G a hi _ h hops mhi hh) hb.1.1 hb.1.2 hb.2 (Nat.le_refl _)
        simp only [execOp, ho, he]
        simp [Instr.sliceAt, Instr.slice, run_underlying hu, this]
      · have : (s.extract l.toNat h.toNat).size ≤ s.size := by simp; omega
        exact Nat.le_trans this hxa.2
    · cases hK1
  · rename_i e xs et0 hx hu0
    split at hK1
    · rename_i l h hl hh
      obtain ⟨hb, hK'⟩ := bif_some hK1
      simp only [Bool.and_eq_true, decide_eq_true_eq] at hb
      obtain ⟨hidx, hb⟩ := hb
      obtain ⟨et, inf, hu, hi', hs⟩ := idxOk_spec hidx
      refine goes_same hK' fun H w G a hp hst hops => ?_
      have hxa := hops x mx'
      rw [hx] at hxa
      obtain ⟨A, cap, he, h1, h2, h3⟩ := hxa
      have he : a.eval x = _ := List.singleton_inj.1 he
      have hlen : ((xs.take h.toNat).drop l.toNat).length = h.toNat - l.toNat := by
        rw [List.length_drop, List.length_take]; omega
      refine ⟨.slice (if cap = l.toNat then A else A.map (·.add (l.toNat * inf.size))) (h.toNat - l.toNat) (cap - l.toNat), ?_, ?_⟩
      · have := run_bounds (P := P) true w (bnd w G a lo _ l hops mlo hl) (bnd w G a hi _ h hops mhi hh) hb.1.1 hb.1.2 hb.2 h1
        simp only [execOp, ho, he]
        simp [Instr.sliceAt, Instr.slice, run_underlying hu, this, sizeOf, typeInfo, hi']
      · refine ⟨if cap = l.toNat then A else A.map (·.add (l.toNat * inf.size)), cap - l.toNat, ?_, by rw [hlen]; omega, by omega, fun h0 => ?_⟩
        · rw [hlen]
        · rw [hlen] at h0
          obtain ⟨b, oo, rfl, hbk, hc⟩ := h3 (by omega)
          rw [if_neg (by omega)]
          refine ⟨b, oo + l.toNat * inf.size, by simp [addr_add], hbk, fun i hi => ?_⟩
          have hi2 : i < h.toNat - l.toNat := by rw [hlen] at hi; exact hi
          have hlt : l.toNat + i < xs.length := by omega
          obtain ⟨us, hr, hcs⟩ := hc (l.toNat + i) hlt
          have hget : ((xs.take h.toNat).drop l.toNat)[i] = xs[l.toNat + i] := by simp
          rw [hget]
          refine ⟨us, hr, ?_⟩
          rw [hs, show oo + l.toNat * e.sz + i * e.sz = oo + (l.toNat + i) * e.sz by rw [Nat.add_mul]; omega]
          exact hcs
    · cases hK1
  · rename_i id et0 hx hu0
    rcases bif_or hK1 with ⟨his, hK1⟩ | ⟨his, hK1⟩
    case inl =>
      split at hK1
      · rename_i e xs l h hob hl hh
        obtain ⟨hb, hK'⟩ := bif_some hK1
        simp only [Bool.and_eq_true, decide_eq_true_eq] at hb
        obtain ⟨hidx, rfl, hb0, hb1⟩ := hb
        obtain ⟨et, inf, hu, hi', hs⟩ := idxOk_spec hidx
        refine goes_same hK' fun H w G a hp hst hops => ?_
        have hxa := hops x mx'
        rw [hx] at hxa
        obtain ⟨gh, hg, he⟩ := hxa
        have hr := hst.obOf hp hg (by rw [show (nth σ.h id (0, .gone)).2 = _ from hob]; simp)
        rw [show (nth σ.h id (0, .gone)).2 = _ from hob] at hr
        have hform : ∃ A c, gh.hdr = .slice A xs.length c ∧ xs.length ≤ c ∧ (A = none ∨ ∃ b, A = some ⟨b, 0, none⟩) := by
          rcases hr with ⟨_, hh, rfl⟩ | ⟨b, cap, cur, ty, _, hh, _, h1, _⟩
          · exact ⟨none, 0, hh, Nat.le_refl _, .inl rfl⟩
          · exact ⟨_, cap, hh, h1, .inr ⟨b, rfl⟩⟩
        obtain ⟨A, c, hh', hle, hA⟩ := hform
        rw [hh'] at he
        refine ⟨.slice A h.toNat c, ?_, gh, A, xs.length, c, hg, hh', by omega, rfl⟩
        have := run_bounds (P := P) true w (bnd w G a lo _ 0 hops mlo hl) (bnd w G a hi _ h hops mhi (by
          cases hi with
          | none => cases his
          | some y => exact hh)) (Int.le_refl 0) hb0 hb1 hle
        have hadd : (if c = 0 then A else A.map (·.add (0 * inf.size))) = A := by
          rcases hA with rfl | ⟨b, rfl⟩
          · simp
          · simp [addr_add]
        simp only [Int.toNat_zero, Nat.sub_zero] at this
        simp only [execOp, ho, he]
        simp [Instr.sliceAt, Instr.slice, run_underlying hu, this, sizeOf, typeInfo, hi']
        rcases hA with rfl | ⟨b, rfl⟩ <;> simp [addr_add]
      · cases hK1
    split at hK1
    · rename_i e xs l hob hl _
      obtain ⟨hb, hK'⟩ := bif_some hK1
      simp only [Bool.and_eq_true, decide_eq_true_eq] at hb
      obtain ⟨hidx, hb0, hb1⟩ := hb
      obtain ⟨et, inf, hu, hi', hs⟩ := idxOk_spec hidx
      refine goes_same hK' fun H w G a hp hst hops => ?_
      have hxa := hops x mx'
      rw [hx] at hxa
      obtain ⟨gh, hg, he⟩ := hxa
      have hr := hst.obOf hp hg (by rw [show (nth σ.h id (0, .gone)).2 = _ from hob]; simp)
      rw [show (nth σ.h id (0, .gone)).2 = _ from hob] at hr
      have hform : ∃ A c, gh.hdr = .slice A xs.length c ∧ xs.length ≤ c := by
        rcases hr with ⟨_, hh, rfl⟩ | ⟨b, cap, cur, ty, _, hh, _, h1, _⟩
        · exact ⟨none, 0, hh, Nat.le_refl _⟩
        · exact ⟨_, cap, hh, h1⟩
      obtain ⟨A, c, hh, hle⟩ := hform
      rw [hh] at he
      refine ⟨.slice (if c = l.toNat then A else A.map (·.add (l.toNat * inf.size))) (xs.length - l.toNat) (c - l.toNat), ?_, gh, A, xs.length, c, hg, hh, by omega, hle, by rw [hs]⟩
      have := run_bounds (P := P) true w (bnd w G a lo _ l hops mlo hl) (bnd w G a none _ xs.length hops (fun z hz => by cases hz) rfl) hb0 hb1 (Int.le_refl _) hle
      simp only [Option.map_none, Int.toNat_natCast] at this
      simp only [execOp, ho, he]
      simp [Instr.sliceAt, Instr.slice, run_underlying hu, this, sizeOf, typeInfo, hi']
    · cases hK1
  · cases hK1
end
end Go.Proofs.YtbdokiecpmhjmaaGreatDoor
