/- The marking functions: how much they mark. Printed by my lawgen.py. No program in sight. -/
import Derived.Test.YtbdokiecpmhjmaaDoorPwMark
namespace Go.Proofs.YtbdokiecpmhjmaaDoor
set_option linter.unusedSimpArgs false
set_option linter.unusedVariables false
def cel_Corner (x : (ByteArray) × (Int) × (Int) × (Int) × (Int) × Unit) : Nat := 1 + 1 + 1 + 1 + 1
def cnt_CornerS (x : List ((ByteArray) × (Int) × (Int) × (Int) × (Int) × Unit)) : Nat := (x.map fun e => cel_Corner e).sum
theorem sc_Corner {N : Nat} (hN : 4000000 ≤ N) (x : (ByteArray) × (Int) × (Int) × (Int) × (Int) × Unit) (room : Int) (h : 0 ≤ room ∧ room ≤ 1048576) (hf : ((.agg (.pair (.str) (.pair (.int .i64) (.pair (.int .i64) (.pair (.int .i64) (.pair (.int .i64) .nil)))))) : Ty).fits x) (u : Unit) : Ret (F_laws_szCorner N (x, room, u)) (fun r => r.1 ≤ room ∧ (0 ≤ r.1 → ((x.1.size < 4000000)) ∧ (cel_Corner x : Int) ≤ 5 + 32 * (room - r.1))) := by
  have hm := maxLen_eq
  unfold F_laws_szCorner
  dsimp only
  have hf0 := hf.1
  rw [wrapI (n := room - (x.1.size : Int)) (by omega) (by omega)]
  refine Ret.ifd ?_ ?_ <;> intro g0
  · exact Ret.ret ⟨by show (-1 : Int) ≤ room; omega, fun h => absurd h (by decide)⟩
  exact Ret.ret ⟨by show (room - (x.1.size : Int)) ≤ room; omega, fun _ => ⟨(by omega), by simp only [cel_Corner]; show _ ≤ 5 + 32 * (room - (room - (x.1.size : Int))); omega⟩⟩
theorem sc_CornerS {N : Nat} (hN : 4000000 ≤ N) (x : List ((ByteArray) × (Int) × (Int) × (Int) × (Int) × Unit)) (room : Int) (h : 0 ≤ room ∧ room ≤ 1048576) (hf : ((.slice (.agg (.pair (.str) (.pair (.int .i64) (.pair (.int .i64) (.pair (.int .i64) (.pair (.int .i64) .nil))))))) : Ty).fits x) (u : Unit) : Ret (F_laws_szCornerS N (x, room, u)) (fun r => r.1 ≤ room ∧ (0 ≤ r.1 → (x.length < 4000000 ∧ ∀ e0 ∈ x, (e0.1.size < 4000000)) ∧ (cnt_CornerS x : Int) ≤ 32 * (room - r.1))) := by
  have hm := maxLen_eq
  unfold F_laws_szCornerS
  have hl := hf.1
  dsimp only
  rw [wrapI (n := room - (x.length : Int)) (by omega) (by omega)]
  refine Ret.ifd ?_ ?_ <;> intro h1
  · exact Ret.ret ⟨by show (-1 : Int) ≤ room; omega, fun h => absurd h (by decide)⟩
  refine Ret.upM 0 x.length (fun i r _ => 0 ≤ r ∧ r ≤ room - (x.length : Int) ∧ (∀ j, j < i → ∀ h : j < x.length, (x[j].1.size < 4000000)) ∧ ((((x.take i).map fun e => cel_Corner e).sum : Nat) : Int) ≤ 32 * (i : Int) + 32 * (room - (x.length : Int) - r)) (by omega) (by omega) (by omega) ⟨by omega, by omega, upto_zero, by simp⟩ ?_ ?_
  · rintro i r t next _ hi ⟨hr0, hr, hI, hS⟩ hn
    have hfi := hf.2 _ (List.getElem_mem hi)
    have hts := sum_take_succ (fun e => cel_Corner e) hi
    dsimp only at hts ⊢
    refine Ret.must ?_ ?_
    · omega
    refine Ret.atN hi (Ret.bind (sc_Corner hN x[i] r ⟨hr0, by omega⟩ hfi ()) ?_)
    rintro ⟨r2, v⟩ ⟨h2, h3⟩
    dsimp only at h2 h3 ⊢
    refine Ret.ifd ?_ ?_ <;> intro h4
    · exact Ret.ret ⟨by show (-1 : Int) ≤ room; omega, fun h => absurd h (by decide)⟩
    · obtain ⟨h5, h6⟩ := h3 (by omega)
      exact hn _ _ ⟨by omega, by omega, upto_succ hI fun _ => h5, by rw [hts]; omega⟩
  · rintro r t next ⟨hr0, hr, hI, hS⟩
    rw [List.take_length] at hS
    dsimp only
    refine Ret.mustN ?_ (Ret.ret ⟨by show r ≤ room; omega, fun _ => ⟨⟨by omega, forall_mem_iff.2 fun j hj => hI j hj hj⟩, ?_⟩⟩)
    · omega
    · unfold cnt_CornerS; show _ ≤ 32 * (room - r); omega
theorem mk_CornerS {N : Nat} (hN : 1000000000000 ≤ N) (x : List ((ByteArray) × (Int) × (Int) × (Int) × (Int) × Unit)) (hs : x.length < 4000000 ∧ ∀ e0 ∈ x, (e0.1.size < 4000000)) (k : Int) (h0 : 0 ≤ k) (hb : k + (cnt_CornerS x : Nat) ≤ 100000000000) : F_laws_markCornerS N x k = some (k + (cnt_CornerS x : Nat)) := by
  unfold F_laws_markCornerS
  have hlen : x.length < 4000000 := hs.1
  refine mark_loop (fun e => cel_Corner e) hN h0 hb hlen ?_ ?_
  · intro i hi m next hm hmb hn
    have hse := hs.2 _ (List.getElem_mem hi)
    simp only [cel_Corner] at hmb
    dsimp only [nth]
    refine Ret.must (by omega) ?_
    refine Ret.text hN (by (try simp (disch := omega) only [wrapI]); omega) fun _ => ?_
    refine Ret.atN hi ?_
    refine Ret.atN hi ?_
    refine Ret.atN hi ?_
    refine Ret.atN hi ?_
    refine Ret.atN hi ?_
    refine Ret.next hn ?_
    (try simp (disch := omega) only [wrapI])
    simp only [cel_Corner]
    omega
  · intro m next
    dsimp only [nth]
    exact Ret.eq (Ret.mustN (by omega) (Ret.ret rfl))
end Go.Proofs.YtbdokiecpmhjmaaDoor
