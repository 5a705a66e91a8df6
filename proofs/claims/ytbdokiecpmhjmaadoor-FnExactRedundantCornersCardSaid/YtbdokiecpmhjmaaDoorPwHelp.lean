/- The laws' own helpers: what they return. Printed by my lawgen.py. No program in sight. -/
import Derived.Test.YtbdokiecpmhjmaaDoorPvF1
import Derived.Test.YtbdokiecpmhjmaaDoorPvFits
namespace Go.Proofs.YtbdokiecpmhjmaaDoor
set_option linter.unusedSimpArgs false
set_option linter.unusedVariables false
theorem sz_Corner {N : Nat} (hN : 4000000 ≤ N) (x : (ByteArray) × (Int) × (Int) × (Int) × (Int) × Unit) (room : Int) (h : 0 ≤ room ∧ room ≤ 1048576) (hf : ((.agg (.pair (.str) (.pair (.int .i64) (.pair (.int .i64) (.pair (.int .i64) (.pair (.int .i64) .nil)))))) : Ty).fits x) (u : Unit) : Ret (F_laws_szCorner N (x, room, u)) (fun r => r.1 ≤ room ∧ (0 ≤ r.1 → (x.1.size < 4000000))) := by
  have hm := maxLen_eq
  unfold F_laws_szCorner
  dsimp only
  have hf0 := hf.1
  rw [wrapI (n := room - (x.1.size : Int)) (by omega) (by omega)]
  refine Ret.ifd ?_ ?_ <;> intro g0
  · exact Ret.ret ⟨by show (-1 : Int) ≤ room; omega, fun h => absurd h (by decide)⟩
  exact Ret.ret ⟨by show (room - (x.1.size : Int)) ≤ room; omega, fun _ => (by omega)⟩
theorem sz_CornerS {N : Nat} (hN : 4000000 ≤ N) (x : List ((ByteArray) × (Int) × (Int) × (Int) × (Int) × Unit)) (room : Int) (h : 0 ≤ room ∧ room ≤ 1048576) (hf : ((.slice (.agg (.pair (.str) (.pair (.int .i64) (.pair (.int .i64) (.pair (.int .i64) (.pair (.int .i64) .nil))))))) : Ty).fits x) (u : Unit) : Ret (F_laws_szCornerS N (x, room, u)) (fun r => r.1 ≤ room ∧ (0 ≤ r.1 → x.length < 4000000 ∧ ∀ e0 ∈ x, (e0.1.size < 4000000))) := by
  have hm := maxLen_eq
  unfold F_laws_szCornerS
  have hl := hf.1
  dsimp only
  rw [wrapI (n := room - (x.length : Int)) (by omega) (by omega)]
  refine Ret.ifd ?_ ?_ <;> intro h1
  · exact Ret.ret ⟨by show (-1 : Int) ≤ room; omega, fun h => absurd h (by decide)⟩
  refine Ret.upM 0 x.length (fun i r _ => 0 ≤ r ∧ r ≤ room - (x.length : Int) ∧ ∀ j, j < i → ∀ h : j < x.length, (x[j].1.size < 4000000)) (by omega) (by omega) (by omega) ⟨by omega, by omega, upto_zero⟩ ?_ ?_
  · rintro i r t next _ hi ⟨hr0, hr, hI⟩ hn
    have hfi := hf.2 _ (List.getElem_mem hi)
    dsimp only
    refine Ret.must ?_ ?_
    · omega
    refine Ret.atN hi (Ret.bind (sz_Corner hN x[i] r ⟨hr0, by omega⟩ hfi ()) ?_)
    rintro ⟨r2, v⟩ ⟨h2, h3⟩
    dsimp only at h2 h3 ⊢
    refine Ret.ifd ?_ ?_ <;> intro h4
    · exact Ret.ret ⟨by show (-1 : Int) ≤ room; omega, fun h => absurd h (by decide)⟩
    · exact hn _ _ ⟨by omega, by omega, upto_succ hI fun _ => h3 (by omega)⟩
  · rintro r t next ⟨hr0, hr, hI⟩
    dsimp only
    refine Ret.mustN ?_ (Ret.ret ⟨by show r ≤ room; omega, fun _ => ⟨by omega, forall_mem_iff.2 fun j hj => hI j hj hj⟩⟩)
    omega
theorem to_Corner {N : Nat} (hN : 4000000 ≤ N) (x : (ByteArray) × (Int) × (Int) × (Int) × (Int) × Unit) (hs : (x.1.size < 4000000)) (u : Unit) : F_laws_toCorner N (x, u) = some (x, ()) := by
  unfold F_laws_toCorner
  rfl
theorem to_CornerS {N : Nat} (hN : 4000000 ≤ N) (x : List ((ByteArray) × (Int) × (Int) × (Int) × (Int) × Unit)) (hs : x.length < 4000000 ∧ ∀ e0 ∈ x, (e0.1.size < 4000000)) (u : Unit) : F_laws_toCornerS N (x, u) = some (x, ()) := by
  unfold F_laws_toCornerS
  have hl := hs.1
  refine (copy_guard hl).trans ?_
  exact copyBy_eq _ (fun e => F_laws_toCorner N (e, ())) (fun e he => to_Corner hN e (hs.2 e he) ()) hl hN
theorem eq_Int64S {N : Nat} (hN : 4000000 ≤ N) (x y : List (Int)) (hs : x.length < 4000000) (u : Unit) : F_laws_eqInt64S N (x, y, u) = some (dec (x = y), ()) := by
  unfold F_laws_eqInt64S
  exact eqFlat_eq (hs) hN
theorem eq_Corner {N : Nat} (hN : 4000000 ≤ N) (x y : (ByteArray) × (Int) × (Int) × (Int) × (Int) × Unit) (hs : (x.1.size < 4000000)) (u : Unit) : F_laws_eqCorner N (x, y, u) = some (dec (x = y), ()) := by
  refine Ret.tells ?_
  unfold F_laws_eqCorner
  obtain ⟨x0, x1, x2, x3, x4, ux⟩ := x
  obtain ⟨y0, y1, y2, y3, y4, uy⟩ := y
  dsimp only
  refine Ret.ifnd ?_ ?_ <;> intro g0
  · exact Ret.ret (tells_false.2 (fun h => g0 (congrArg (fun z => z.1) h)))
  refine Ret.ifnd ?_ ?_ <;> intro g1
  · exact Ret.ret (tells_false.2 (fun h => g1 (congrArg (fun z => z.2.1) h)))
  refine Ret.ifnd ?_ ?_ <;> intro g2
  · exact Ret.ret (tells_false.2 (fun h => g2 (congrArg (fun z => z.2.2.1) h)))
  refine Ret.ifnd ?_ ?_ <;> intro g3
  · exact Ret.ret (tells_false.2 (fun h => g3 (congrArg (fun z => z.2.2.2.1) h)))
  refine Ret.ifnd ?_ ?_ <;> intro g4
  · exact Ret.ret (tells_false.2 (fun h => g4 (congrArg (fun z => z.2.2.2.2.1) h)))
  subst g0 g1 g2 g3 g4
  exact Ret.ret (tells_true.2 rfl)
theorem eq_CornerS {N : Nat} (hN : 4000000 ≤ N) (x y : List ((ByteArray) × (Int) × (Int) × (Int) × (Int) × Unit)) (hs : x.length < 4000000 ∧ ∀ e0 ∈ x, (e0.1.size < 4000000)) (u : Unit) : F_laws_eqCornerS N (x, y, u) = some (dec (x = y), ()) := by
  unfold F_laws_eqCornerS
  exact eqLoop_eq (fun e f => F_laws_eqCorner N (e, f, ())) (fun e he f _ => eq_Corner hN e f (hs.2 e he) ()) (hs.1) hN
end Go.Proofs.YtbdokiecpmhjmaaDoor
