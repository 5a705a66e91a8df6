/- What a row lays is what the contracts ask for: a table of strings, a table of numbers. No condition of its own. -/
import Derived.Test.YtkkbkhlpbmhchabGreatDoorPvLibT
import Derived.Test.YtkkbkhlpbmhchabGreatDoorRows
import Derived.Lib.LaidTab
import Derived.Lib.AppendIntMem
namespace Go.Proofs.YtkkbkhlpbmhchabGreatDoor
set_option linter.unusedSimpArgs false
set_option linter.unusedVariables false
open Go.Lib Go.RowKit
set_option linter.unusedVariables false

/-- An array of strings that reads as the table holds the table's strings. -/
theorem strs_of_tab {H : Type} {enc : TypeId × Value → H} {P : Program} {w : World} {base : Nat} {sp : Nat → Bool} {held : Bool} {fuel : Nat} {t e : TypeId} {n : Nat} {cs : List Value} {zs : List ByteArray} {p : List MemPlace}
    (ht : P.underlying t = some (.array n e)) (he : P.underlying e = some .string) (hce : P.cellsOf e = 1) (hct : P.cellsOf t = n)
    (h : DataW.trod enc P w base sp held fuel t cs = some (.agg (zs.map fun z => .lit (.string z.data.toList)), p)) : cs = zs.map (fun z => Value.string z) ∧ ∀ z ∈ zs, z.size ≤ maxLen := by
  cases fuel with
  | zero => simp [DataW.trod] at h
  | succ fuel =>
    simp only [DataW.trod, ht, hce, hct, Nat.mul_one] at h
    split at h
    · rename_i hl
      obtain ⟨xs, hm, hx⟩ := Option.map_eq_some_iff.1 h
      have hxs : xs.map (·.1) = zs.map fun z => (DataW.lit (.string z.data.toList) : DataW H) := by
        have := congrArg Prod.fst hx
        simpa using this
      have hxl : xs.length = n := by simpa using mapM_length hm
      have hzl : zs.length = n := by
        have := congrArg List.length hxs
        simp at this
        omega
      have at_i : ∀ i, i < n → ∃ z : ByteArray, zs[i]? = some z ∧ cs[i]? = some (.string z) ∧ z.size ≤ maxLen := by
        intro i hi
        obtain ⟨b, hb, hf⟩ := mapM_at hm i i (by simp [hi])
        obtain ⟨z, hc, rfl, hsz⟩ := DataW.trod_string he hf
        have h1 : cs[i]? = some (.string z) := by
          have := congrArg (·[0]?) hc
          simpa [List.getElem?_take, List.getElem?_drop] using this
        have h2 : (xs.map (·.1))[i]? = some (DataW.lit (.string z.data.toList) : DataW H) := by simp [hb]
        rw [hxs] at h2
        simp only [List.getElem?_map, Option.map_eq_some_iff, DataW.lit.injEq, Lit.string.injEq] at h2
        obtain ⟨z', hz', hzz⟩ := h2
        have : z' = z := by cases z'; cases z; simp at hzz; simp [hzz]
        subst this
        exact ⟨z', hz', h1, hsz⟩
      refine ⟨?_, fun z hz => ?_⟩
      · apply List.ext_getElem?
        intro i
        by_cases hi : i < n
        · obtain ⟨z, hz, hc, _⟩ := at_i i hi
          simp [hc, hz]
        · rw [List.getElem?_eq_none (by omega), List.getElem?_eq_none (by simp; omega)]
      · obtain ⟨i, hi, rfl⟩ := List.getElem_of_mem hz
        obtain ⟨z', hz', _, hsz⟩ := at_i i (by omega)
        rw [List.getElem?_eq_getElem hi] at hz'
        cases hz'
        exact hsz
    · cases h
theorem laid_tail {P : Program} {x : String × DataW Unit} {r : List (String × DataW Unit)} {w : World} (h : laidMet P (x :: r) w) : laidMet P r w := by
  obtain ⟨ps, ⟨g, t, cs, fuel, p, q, _, _, _, _, h1, rfl⟩, hnd, hc⟩ := h
  exact ⟨q, h1, (List.nodup_append.1 hnd).2.1, fun b off hm => hc b off (List.mem_append_right _ hm)⟩
/-- The table of strings stands first on the list: it goes on reading so. -/
theorem tabsAt_of_head {P : Program} {W : World} {name : String} {zs : List ByteArray} {rest : List (String × DataW Unit)} {g : Nat} {t e : TypeId} {n : Nat}
    (hg : P.globalNamed name = some g) (hty : (P.globals[g]?).map (·.type) = some t) (ht : P.underlying t = some (.array n e)) (he : P.underlying e = some .string) (hce : P.cellsOf e = 1) (hct : P.cellsOf t = n)
    (h : laidMet P ((name, .agg (zs.map fun z => .lit (.string z.data.toList))) :: rest) W) : ∀ w', Below W.heap.size W w' → TabsAt [(g, zs)] w' := by
  obtain ⟨ps, ⟨g', t', cs, fuel, p, q, hg', ht', hvar, hd, _, _⟩, _⟩ := h
  obtain rfl := Option.some.inj (hg.symm.trans hg')
  obtain rfl := Option.some.inj (hty.symm.trans ht')
  obtain ⟨hcs, hsz⟩ := strs_of_tab ht he hce hct hd
  intro w' hb g2 xs hx i s hs
  have hlt : g < W.heap.size := by
    rcases Nat.lt_or_ge g W.heap.size with h' | h'
    · exact h'
    · unfold World.var? at hvar
      rw [hg, Option.bind_some, Array.getElem?_eq_none h'] at hvar; simp at hvar
  have hg2 : g = g2 ∧ zs = xs := by
    simp only [tabFind] at hx
    cases hb : Nat.beq g g2 with
    | true => rw [hb, cond_true] at hx; exact ⟨Nat.eq_of_beq_eq_true hb, Option.some.inj hx⟩
    | false => rw [hb, cond_false] at hx; cases hx
  obtain ⟨rfl, rfl⟩ := hg2
  refine ⟨fun j u hj => ?_, hsz s (List.mem_of_getElem? hs)⟩
  match j, hj with
  | 0, hj =>
    simp only [List.getElem?_cons_zero, Option.some.injEq] at hj
    subst hj
    have h1 := World.var?_cell hg hvar i
    have h2 : cs[i]? = some (.string s) := by
      have : cs.toList[i]? = some (.string s) := by rw [hcs, List.getElem?_map, hs]; rfl
      simpa using this
    rw [h2] at h1
    have : w'.cell? ⟨g, i + 0, none⟩ = W.cell? ⟨g, i, none⟩ := by
      simp only [World.cell?, hb.block g hlt, Nat.add_zero]
    rw [this, h1]
  | j + 1, hj => simp at hj
theorem pre_of_tabs {W : World} (h1 : TabIs Tryz.prog W "internal/strconv.uint64pow10" .u64 pow10Tab) (h2 : ∀ w', Below W.heap.size W w' → TabsAt [(0, Tab_kindWords)] w') : PRE W := fun w' hb => ⟨tabBelow_of_tabIs h1 w' hb, h2 w' hb⟩
end Go.Proofs.YtkkbkhlpbmhchabGreatDoor
