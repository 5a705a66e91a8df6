/- The marking functions: how much they mark. Printed by my lawgen.py. No program in sight. -/
import Derived.Test.YtdbmhfpphobmpaaGreatDoorPgV
namespace Go.Proofs.YtdbmhfpphobmpaaGreatDoor
set_option linter.unusedSimpArgs false
set_option linter.unusedVariables false
def cel_Pin (x : (ByteArray) × (Int) × (Int) × (Bool) × Unit) : Nat := 1 + 1 + 1 + 1
def cnt_PinS (x : List ((ByteArray) × (Int) × (Int) × (Bool) × Unit)) : Nat := (x.map fun e => cel_Pin e).sum
def cnt_Int64S (x : List (Int)) : Nat := (x.map fun e => 1).sum
def cel_Table (x : (List (Int)) × (List (Int)) × (List (Int)) × Unit) : Nat := cnt_Int64S x.1 + cnt_Int64S x.2.1 + cnt_Int64S x.2.2.1
def cnt_TableS (x : List ((List (Int)) × (List (Int)) × (List (Int)) × Unit)) : Nat := (x.map fun e => cel_Table e).sum
def cel_Arc (x : (Int) × (Int) × (Int) × (Int) × (List ((List (Int)) × (List (Int)) × (List (Int)) × Unit)) × (List ((List (Int)) × (List (Int)) × (List (Int)) × Unit)) × Unit) : Nat := 1 + 1 + 1 + 1 + cnt_TableS x.2.2.2.2.1 + cnt_TableS x.2.2.2.2.2.1
def cnt_ArcS (x : List ((Int) × (Int) × (Int) × (Int) × (List ((List (Int)) × (List (Int)) × (List (Int)) × Unit)) × (List ((List (Int)) × (List (Int)) × (List (Int)) × Unit)) × Unit)) : Nat := (x.map fun e => cel_Arc e).sum
def cel_Cell (x : (ByteArray) × (Int) × (List ((ByteArray) × (Int) × (Int) × (Bool) × Unit)) × (List ((Int) × (Int) × (Int) × (Int) × (List ((List (Int)) × (List (Int)) × (List (Int)) × Unit)) × (List ((List (Int)) × (List (Int)) × (List (Int)) × Unit)) × Unit)) × (List (Int)) × (Int) × (Int) × Unit) : Nat := 1 + 1 + cnt_PinS x.2.2.1 + cnt_ArcS x.2.2.2.1 + cnt_Int64S x.2.2.2.2.1 + 1 + 1
def cnt_CellS (x : List ((ByteArray) × (Int) × (List ((ByteArray) × (Int) × (Int) × (Bool) × Unit)) × (List ((Int) × (Int) × (Int) × (Int) × (List ((List (Int)) × (List (Int)) × (List (Int)) × Unit)) × (List ((List (Int)) × (List (Int)) × (List (Int)) × Unit)) × Unit)) × (List (Int)) × (Int) × (Int) × Unit)) : Nat := (x.map fun e => cel_Cell e).sum
def cel_Library (x : (List ((ByteArray) × (Int) × (List ((ByteArray) × (Int) × (Int) × (Bool) × Unit)) × (List ((Int) × (Int) × (Int) × (Int) × (List ((List (Int)) × (List (Int)) × (List (Int)) × Unit)) × (List ((List (Int)) × (List (Int)) × (List (Int)) × Unit)) × Unit)) × (List (Int)) × (Int) × (Int) × Unit)) × Unit) : Nat := cnt_CellS x.1
def cel_Instance (x : (ByteArray) × (Int) × (List (Int)) × Unit) : Nat := 1 + 1 + cnt_Int64S x.2.2.1
def cnt_InstanceS (x : List ((ByteArray) × (Int) × (List (Int)) × Unit)) : Nat := (x.map fun e => cel_Instance e).sum
def cnt_StringS (x : List (ByteArray)) : Nat := (x.map fun e => 1).sum
def cel_Port (x : (ByteArray) × (Int) × (Int) × Unit) : Nat := 1 + 1 + 1
def cnt_PortS (x : List ((ByteArray) × (Int) × (Int) × Unit)) : Nat := (x.map fun e => cel_Port e).sum
def cel_Design (x : (List ((ByteArray) × (Int) × (List (Int)) × Unit)) × (List (ByteArray)) × (List ((ByteArray) × (Int) × (Int) × Unit)) × Unit) : Nat := cnt_InstanceS x.1 + cnt_StringS x.2.1 + cnt_PortS x.2.2.1
def cel_Wire (x : (List (Int)) × (List (Int)) × (List (Int)) × (List (Int)) × Unit) : Nat := cnt_Int64S x.1 + cnt_Int64S x.2.1 + cnt_Int64S x.2.2.1 + cnt_Int64S x.2.2.2.1
def cnt_WireS (x : List ((List (Int)) × (List (Int)) × (List (Int)) × (List (Int)) × Unit)) : Nat := (x.map fun e => cel_Wire e).sum
def cel_Block (x : ((List ((ByteArray) × (Int) × (List ((ByteArray) × (Int) × (Int) × (Bool) × Unit)) × (List ((Int) × (Int) × (Int) × (Int) × (List ((List (Int)) × (List (Int)) × (List (Int)) × Unit)) × (List ((List (Int)) × (List (Int)) × (List (Int)) × Unit)) × Unit)) × (List (Int)) × (Int) × (Int) × Unit)) × Unit) × ((List ((ByteArray) × (Int) × (List (Int)) × Unit)) × (List (ByteArray)) × (List ((ByteArray) × (Int) × (Int) × Unit)) × Unit) × (List ((List (Int)) × (List (Int)) × (List (Int)) × (List (Int)) × Unit)) × Unit) : Nat := cel_Library x.1 + cel_Design x.2.1 + cnt_WireS x.2.2.1
theorem sc_Pin {N : Nat} (hN : 4000000 ≤ N) (x : (ByteArray) × (Int) × (Int) × (Bool) × Unit) (room : Int) (h : 0 ≤ room ∧ room ≤ 1048576) (hf : ((.agg (.pair (.str) (.pair (.int .i64) (.pair (.int .i64) (.pair (.bool) .nil))))) : Ty).fits x) (u : Unit) : Ret (F_laws_szPin N (x, room, u)) (fun r => r.1 ≤ room ∧ (0 ≤ r.1 → ((x.1.size < 4000000)) ∧ (cel_Pin x : Int) ≤ 4 + 32 * (room - r.1))) := by
 have hm := maxLen_eq
 unfold F_laws_szPin
 dsimp only
 have hf0 := hf.1
 rw [wrapI (n := room - (x.1.size : Int)) (by omega) (by omega)]
 refine Ret.ifd ?_ ?_ <;> intro g0
 ·exact Ret.ret ⟨by show (-1 : Int) ≤ room; omega, fun h => absurd h (by decide)⟩
 exact Ret.ret ⟨by show (room - (x.1.size : Int)) ≤ room; omega, fun _ => ⟨(by omega), by simp only [cel_Pin]; show _ ≤ 4 + 32 * (room - (room - (x.1.size : Int))); omega⟩⟩
theorem sc_PinS {N : Nat} (hN : 4000000 ≤ N) (x : List ((ByteArray) × (Int) × (Int) × (Bool) × Unit)) (room : Int) (h : 0 ≤ room ∧ room ≤ 1048576) (hf : ((.slice (.agg (.pair (.str) (.pair (.int .i64) (.pair (.int .i64) (.pair (.bool) .nil)))))) : Ty).fits x) (u : Unit) : Ret (F_laws_szPinS N (x, room, u)) (fun r => r.1 ≤ room ∧ (0 ≤ r.1 → (x.length < 4000000 ∧ ∀ e0 ∈ x, (e0.1.size < 4000000)) ∧ (cnt_PinS x : Int) ≤ 32 * (room - r.1))) := by
 have hm := maxLen_eq
 unfold F_laws_szPinS
 have hl := hf.1
 dsimp only
 rw [wrapI (n := room - (x.length : Int)) (by omega) (by omega)]
 refine Ret.ifd ?_ ?_ <;> intro h1
 ·exact Ret.ret ⟨by show (-1 : Int) ≤ room; omega, fun h => absurd h (by decide)⟩
 refine Ret.upM 0 x.length (fun i r _ => 0 ≤ r ∧ r ≤ room - (x.length : Int) ∧ (∀ j, j < i → ∀ h : j < x.length, (x[j].1.size < 4000000)) ∧ ((((x.take i).map fun e => cel_Pin e).sum : Nat) : Int) ≤ 32 * (i : Int) + 32 * (room - (x.length : Int) - r)) (by omega) (by omega) (by omega) ⟨by omega, by omega, upto_zero, by simp⟩ ?_ ?_
 ·rintro i r t next _ hi ⟨hr0, hr, hI, hS⟩ hn
  have hfi := hf.2 _ (List.getElem_mem hi)
  have hts := sum_take_succ (fun e => cel_Pin e) hi
  dsimp only at hts ⊢
  refine Ret.must ?_ ?_
  ·omega
  refine Ret.atN hi (Ret.bind (sc_Pin hN x[i] r ⟨hr0, by omega⟩ hfi ()) ?_)
  rintro ⟨r2, v⟩ ⟨h2, h3⟩
  dsimp only at h2 h3 ⊢
  refine Ret.ifd ?_ ?_ <;> intro h4
  ·exact Ret.ret ⟨by show (-1 : Int) ≤ room; omega, fun h => absurd h (by decide)⟩
  ·obtain ⟨h5, h6⟩ := h3 (by omega)
   exact hn _ _ ⟨by omega, by omega, upto_succ hI fun _ => h5, by rw [hts]; omega⟩
 ·rintro r t next ⟨hr0, hr, hI, hS⟩
  rw [List.take_length] at hS
  dsimp only
  refine Ret.mustN ?_ (Ret.ret ⟨by show r ≤ room; omega, fun _ => ⟨⟨by omega, forall_mem_iff.2 fun j hj => hI j hj hj⟩, ?_⟩⟩)
  ·omega
  ·unfold cnt_PinS; show _ ≤ 32 * (room - r); omega
theorem sc_Int64S {N : Nat} (hN : 4000000 ≤ N) (x : List (Int)) (room : Int) (h : 0 ≤ room ∧ room ≤ 1048576) (hf : ((.slice (.int .i64)) : Ty).fits x) (u : Unit) : Ret (F_laws_szInt64S N (x, room, u)) (fun r => r.1 ≤ room ∧ (0 ≤ r.1 → (x.length < 4000000) ∧ (cnt_Int64S x : Int) ≤ 32 * (room - r.1))) := by
 have hm := maxLen_eq
 unfold F_laws_szInt64S
 have hl := hf.1
 dsimp only
 rw [wrapI (n := room - (x.length : Int)) (by omega) (by omega)]
 refine Ret.ifd ?_ ?_ <;> intro h1
 ·exact Ret.ret ⟨by show (-1 : Int) ≤ room; omega, fun h => absurd h (by decide)⟩
 ·have hc : cnt_Int64S x ≤ 32 * x.length := by
   unfold cnt_Int64S
   refine sum_map_le (fun e _ => ?_)
   omega
  exact Ret.ret ⟨by show room - (x.length : Int) ≤ room; omega, fun _ => ⟨by omega, by show _ ≤ 32 * (room - (room - (x.length : Int))); omega⟩⟩
theorem sc_Table {N : Nat} (hN : 4000000 ≤ N) (x : (List (Int)) × (List (Int)) × (List (Int)) × Unit) (room : Int) (h : 0 ≤ room ∧ room ≤ 1048576) (hf : ((.agg (.pair (.slice (.int .i64)) (.pair (.slice (.int .i64)) (.pair (.slice (.int .i64)) .nil)))) : Ty).fits x) (u : Unit) : Ret (F_laws_szTable N (x, room, u)) (fun r => r.1 ≤ room ∧ (0 ≤ r.1 → ((x.1.length < 4000000) ∧ (x.2.1.length < 4000000) ∧ (x.2.2.1.length < 4000000)) ∧ (cel_Table x : Int) ≤ 0 + 32 * (room - r.1))) := by
 have hm := maxLen_eq
 unfold F_laws_szTable
 dsimp only
 have hf0 := hf.1
 refine Ret.bind (sc_Int64S hN x.1 room ⟨by omega, by omega⟩ hf0 ()) ?_
 rintro ⟨r0, v0⟩ ⟨a0, b0⟩
 dsimp only at a0 b0 ⊢
 refine Ret.ifd ?_ ?_ <;> intro g0
 ·exact Ret.ret ⟨by show (-1 : Int) ≤ room; omega, fun h => absurd h (by decide)⟩
 have hf1 := hf.2.1
 refine Ret.bind (sc_Int64S hN x.2.1 r0 ⟨by omega, by omega⟩ hf1 ()) ?_
 rintro ⟨r1, v1⟩ ⟨a1, b1⟩
 dsimp only at a1 b1 ⊢
 refine Ret.ifd ?_ ?_ <;> intro g1
 ·exact Ret.ret ⟨by show (-1 : Int) ≤ room; omega, fun h => absurd h (by decide)⟩
 have hf2 := hf.2.2.1
 refine Ret.bind (sc_Int64S hN x.2.2.1 r1 ⟨by omega, by omega⟩ hf2 ()) ?_
 rintro ⟨r2, v2⟩ ⟨a2, b2⟩
 dsimp only at a2 b2 ⊢
 refine Ret.ifd ?_ ?_ <;> intro g2
 ·exact Ret.ret ⟨by show (-1 : Int) ≤ room; omega, fun h => absurd h (by decide)⟩
 have c0 := (b0 (by omega)).2
 have c1 := (b1 (by omega)).2
 have c2 := (b2 (by omega)).2
 exact Ret.ret ⟨by show r2 ≤ room; omega, fun _ => ⟨⟨(b0 (by omega)).1, (b1 (by omega)).1, (b2 (by omega)).1⟩, by simp only [cel_Table]; show _ ≤ 0 + 32 * (room - r2); omega⟩⟩
theorem sc_TableS {N : Nat} (hN : 4000000 ≤ N) (x : List ((List (Int)) × (List (Int)) × (List (Int)) × Unit)) (room : Int) (h : 0 ≤ room ∧ room ≤ 1048576) (hf : ((.slice (.agg (.pair (.slice (.int .i64)) (.pair (.slice (.int .i64)) (.pair (.slice (.int .i64)) .nil))))) : Ty).fits x) (u : Unit) : Ret (F_laws_szTableS N (x, room, u)) (fun r => r.1 ≤ room ∧ (0 ≤ r.1 → (x.length < 4000000 ∧ ∀ e0 ∈ x, (e0.1.length < 4000000) ∧ (e0.2.1.length < 4000000) ∧ (e0.2.2.1.length < 4000000)) ∧ (cnt_TableS x : Int) ≤ 32 * (room - r.1))) := by
 have hm := maxLen_eq
 unfold F_laws_szTableS
 have hl := hf.1
 dsimp only
 rw [wrapI (n := room - (x.length : Int)) (by omega) (by omega)]
 refine Ret.ifd ?_ ?_ <;> intro h1
 ·exact Ret.ret ⟨by show (-1 : Int) ≤ room; omega, fun h => absurd h (by decide)⟩
 refine Ret.upM 0 x.length (fun i r _ => 0 ≤ r ∧ r ≤ room - (x.length : Int) ∧ (∀ j, j < i → ∀ h : j < x.length, (x[j].1.length < 4000000) ∧ (x[j].2.1.length < 4000000) ∧ (x[j].2.2.1.length < 4000000)) ∧ ((((x.take i).map fun e => cel_Table e).sum : Nat) : Int) ≤ 32 * (i : Int) + 32 * (room - (x.length : Int) - r)) (by omega) (by omega) (by omega) ⟨by omega, by omega, upto_zero, by simp⟩ ?_ ?_
 ·rintro i r t next _ hi ⟨hr0, hr, hI, hS⟩ hn
  have hfi := hf.2 _ (List.getElem_mem hi)
  have hts := sum_take_succ (fun e => cel_Table e) hi
  dsimp only at hts ⊢
  refine Ret.must ?_ ?_
  ·omega
  refine Ret.atN hi (Ret.bind (sc_Table hN x[i] r ⟨hr0, by omega⟩ hfi ()) ?_)
  rintro ⟨r2, v⟩ ⟨h2, h3⟩
  dsimp only at h2 h3 ⊢
  refine Ret.ifd ?_ ?_ <;> intro h4
  ·exact Ret.ret ⟨by show (-1 : Int) ≤ room; omega, fun h => absurd h (by decide)⟩
  ·obtain ⟨h5, h6⟩ := h3 (by omega)
   exact hn _ _ ⟨by omega, by omega, upto_succ hI fun _ => h5, by rw [hts]; omega⟩
 ·rintro r t next ⟨hr0, hr, hI, hS⟩
  rw [List.take_length] at hS
  dsimp only
  refine Ret.mustN ?_ (Ret.ret ⟨by show r ≤ room; omega, fun _ => ⟨⟨by omega, forall_mem_iff.2 fun j hj => hI j hj hj⟩, ?_⟩⟩)
  ·omega
  ·unfold cnt_TableS; show _ ≤ 32 * (room - r); omega
theorem sc_Arc {N : Nat} (hN : 4000000 ≤ N) (x : (Int) × (Int) × (Int) × (Int) × (List ((List (Int)) × (List (Int)) × (List (Int)) × Unit)) × (List ((List (Int)) × (List (Int)) × (List (Int)) × Unit)) × Unit) (room : Int) (h : 0 ≤ room ∧ room ≤ 1048576) (hf : ((.agg (.pair (.int .i64) (.pair (.int .i64) (.pair (.int .i64) (.pair (.int .i64) (.pair (.slice (.agg (.pair (.slice (.int .i64)) (.pair (.slice (.int .i64)) (.pair (.slice (.int .i64)) .nil))))) (.pair (.slice (.agg (.pair (.slice (.int .i64)) (.pair (.slice (.int .i64)) (.pair (.slice (.int .i64)) .nil))))) .nil))))))) : Ty).fits x) (u : Unit) : Ret (F_laws_szArc N (x, room, u)) (fun r => r.1 ≤ room ∧ (0 ≤ r.1 → ((x.2.2.2.2.1.length < 4000000 ∧ ∀ e0 ∈ x.2.2.2.2.1, (e0.1.length < 4000000) ∧ (e0.2.1.length < 4000000) ∧ (e0.2.2.1.length < 4000000)) ∧ (x.2.2.2.2.2.1.length < 4000000 ∧ ∀ e0 ∈ x.2.2.2.2.2.1, (e0.1.length < 4000000) ∧ (e0.2.1.length < 4000000) ∧ (e0.2.2.1.length < 4000000))) ∧ (cel_Arc x : Int) ≤ 4 + 32 * (room - r.1))) := by
 have hm := maxLen_eq
 unfold F_laws_szArc
 dsimp only
 have hf0 := hf.2.2.2.2.1
 refine Ret.bind (sc_TableS hN x.2.2.2.2.1 room ⟨by omega, by omega⟩ hf0 ()) ?_
 rintro ⟨r0, v0⟩ ⟨a0, b0⟩
 dsimp only at a0 b0 ⊢
 refine Ret.ifd ?_ ?_ <;> intro g0
 ·exact Ret.ret ⟨by show (-1 : Int) ≤ room; omega, fun h => absurd h (by decide)⟩
 have hf1 := hf.2.2.2.2.2.1
 refine Ret.bind (sc_TableS hN x.2.2.2.2.2.1 r0 ⟨by omega, by omega⟩ hf1 ()) ?_
 rintro ⟨r1, v1⟩ ⟨a1, b1⟩
 dsimp only at a1 b1 ⊢
 refine Ret.ifd ?_ ?_ <;> intro g1
 ·exact Ret.ret ⟨by show (-1 : Int) ≤ room; omega, fun h => absurd h (by decide)⟩
 have c0 := (b0 (by omega)).2
 have c1 := (b1 (by omega)).2
 exact Ret.ret ⟨by show r1 ≤ room; omega, fun _ => ⟨⟨(b0 (by omega)).1, (b1 (by omega)).1⟩, by simp only [cel_Arc]; show _ ≤ 4 + 32 * (room - r1); omega⟩⟩
theorem sc_ArcS {N : Nat} (hN : 4000000 ≤ N) (x : List ((Int) × (Int) × (Int) × (Int) × (List ((List (Int)) × (List (Int)) × (List (Int)) × Unit)) × (List ((List (Int)) × (List (Int)) × (List (Int)) × Unit)) × Unit)) (room : Int) (h : 0 ≤ room ∧ room ≤ 1048576) (hf : ((.slice (.agg (.pair (.int .i64) (.pair (.int .i64) (.pair (.int .i64) (.pair (.int .i64) (.pair (.slice (.agg (.pair (.slice (.int .i64)) (.pair (.slice (.int .i64)) (.pair (.slice (.int .i64)) .nil))))) (.pair (.slice (.agg (.pair (.slice (.int .i64)) (.pair (.slice (.int .i64)) (.pair (.slice (.int .i64)) .nil))))) .nil)))))))) : Ty).fits x) (u : Unit) : Ret (F_laws_szArcS N (x, room, u)) (fun r => r.1 ≤ room ∧ (0 ≤ r.1 → (x.length < 4000000 ∧ ∀ e0 ∈ x, (e0.2.2.2.2.1.length < 4000000 ∧ ∀ e1 ∈ e0.2.2.2.2.1, (e1.1.length < 4000000) ∧ (e1.2.1.length < 4000000) ∧ (e1.2.2.1.length < 4000000)) ∧ (e0.2.2.2.2.2.1.length < 4000000 ∧ ∀ e1 ∈ e0.2.2.2.2.2.1, (e1.1.length < 4000000) ∧ (e1.2.1.length < 4000000) ∧ (e1.2.2.1.length < 4000000))) ∧ (cnt_ArcS x : Int) ≤ 32 * (room - r.1))) := by
 have hm := maxLen_eq
 unfold F_laws_szArcS
 have hl := hf.1
 dsimp only
 rw [wrapI (n := room - (x.length : Int)) (by omega) (by omega)]
 refine Ret.ifd ?_ ?_ <;> intro h1
 ·exact Ret.ret ⟨by show (-1 : Int) ≤ room; omega, fun h => absurd h (by decide)⟩
 refine Ret.upM 0 x.length (fun i r _ => 0 ≤ r ∧ r ≤ room - (x.length : Int) ∧ (∀ j, j < i → ∀ h : j < x.length, (x[j].2.2.2.2.1.length < 4000000 ∧ ∀ e0 ∈ x[j].2.2.2.2.1, (e0.1.length < 4000000) ∧ (e0.2.1.length < 4000000) ∧ (e0.2.2.1.length < 4000000)) ∧ (x[j].2.2.2.2.2.1.length < 4000000 ∧ ∀ e0 ∈ x[j].2.2.2.2.2.1, (e0.1.length < 4000000) ∧ (e0.2.1.length < 4000000) ∧ (e0.2.2.1.length < 4000000))) ∧ ((((x.take i).map fun e => cel_Arc e).sum : Nat) : Int) ≤ 32 * (i : Int) + 32 * (room - (x.length : Int) - r)) (by omega) (by omega) (by omega) ⟨by omega, by omega, upto_zero, by simp⟩ ?_ ?_
 ·rintro i r t next _ hi ⟨hr0, hr, hI, hS⟩ hn
  have hfi := hf.2 _ (List.getElem_mem hi)
  have hts := sum_take_succ (fun e => cel_Arc e) hi
  dsimp only at hts ⊢
  refine Ret.must ?_ ?_
  ·omega
  refine Ret.atN hi (Ret.bind (sc_Arc hN x[i] r ⟨hr0, by omega⟩ hfi ()) ?_)
  rintro ⟨r2, v⟩ ⟨h2, h3⟩
  dsimp only at h2 h3 ⊢
  refine Ret.ifd ?_ ?_ <;> intro h4
  ·exact Ret.ret ⟨by show (-1 : Int) ≤ room; omega, fun h => absurd h (by decide)⟩
  ·obtain ⟨h5, h6⟩ := h3 (by omega)
   exact hn _ _ ⟨by omega, by omega, upto_succ hI fun _ => h5, by rw [hts]; omega⟩
 ·rintro r t next ⟨hr0, hr, hI, hS⟩
  rw [List.take_length] at hS
  dsimp only
  refine Ret.mustN ?_ (Ret.ret ⟨by show r ≤ room; omega, fun _ => ⟨⟨by omega, forall_mem_iff.2 fun j hj => hI j hj hj⟩, ?_⟩⟩)
  ·omega
  ·unfold cnt_ArcS; show _ ≤ 32 * (room - r); omega
theorem sc_Cell {N : Nat} (hN : 4000000 ≤ N) (x : (ByteArray) × (Int) × (List ((ByteArray) × (Int) × (Int) × (Bool) × Unit)) × (List ((Int) × (Int) × (Int) × (Int) × (List ((List (Int)) × (List (Int)) × (List (Int)) × Unit)) × (List ((List (Int)) × (List (Int)) × (List (Int)) × Unit)) × Unit)) × (List (Int)) × (Int) × (Int) × Unit) (room : Int) (h : 0 ≤ room ∧ room ≤ 1048576) (hf : ((.agg (.pair (.str) (.pair (.int .i64) (.pair (.slice (.agg (.pair (.str) (.pair (.int .i64) (.pair (.int .i64) (.pair (.bool) .nil)))))) (.pair (.slice (.agg (.pair (.int .i64) (.pair (.int .i64) (.pair (.int .i64) (.pair (.int .i64) (.pair (.slice (.agg (.pair (.slice (.int .i64)) (.pair (.slice (.int .i64)) (.pair (.slice (.int .i64)) .nil))))) (.pair (.slice (.agg (.pair (.slice (.int .i64)) (.pair (.slice (.int .i64)) (.pair (.slice (.int .i64)) .nil))))) .nil)))))))) (.pair (.slice (.int .i64)) (.pair (.int .i64) (.pair (.int .i64) .nil)))))))) : Ty).fits x) (u : Unit) : Ret (F_laws_szCell N (x, room, u)) (fun r => r.1 ≤ room ∧ (0 ≤ r.1 → ((x.1.size < 4000000) ∧ (x.2.2.1.length < 4000000 ∧ ∀ e0 ∈ x.2.2.1, (e0.1.size < 4000000)) ∧ (x.2.2.2.1.length < 4000000 ∧ ∀ e0 ∈ x.2.2.2.1, (e0.2.2.2.2.1.length < 4000000 ∧ ∀ e1 ∈ e0.2.2.2.2.1, (e1.1.length < 4000000) ∧ (e1.2.1.length < 4000000) ∧ (e1.2.2.1.length < 4000000)) ∧ (e0.2.2.2.2.2.1.length < 4000000 ∧ ∀ e1 ∈ e0.2.2.2.2.2.1, (e1.1.length < 4000000) ∧ (e1.2.1.length < 4000000) ∧ (e1.2.2.1.length < 4000000))) ∧ (x.2.2.2.2.1.length < 4000000)) ∧ (cel_Cell x : Int) ≤ 4 + 32 * (room - r.1))) := by
 have hm := maxLen_eq
 unfold F_laws_szCell
 dsimp only
 have hf0 := hf.1
 rw [wrapI (n := room - (x.1.size : Int)) (by omega) (by omega)]
 refine Ret.ifd ?_ ?_ <;> intro g0
 ·exact Ret.ret ⟨by show (-1 : Int) ≤ room; omega, fun h => absurd h (by decide)⟩
 have hf1 := hf.2.2.1
 refine Ret.bind (sc_PinS hN x.2.2.1 (room - (x.1.size : Int)) ⟨by omega, by omega⟩ hf1 ()) ?_
 rintro ⟨r1, v1⟩ ⟨a1, b1⟩
 dsimp only at a1 b1 ⊢
 refine Ret.ifd ?_ ?_ <;> intro g1
 ·exact Ret.ret ⟨by show (-1 : Int) ≤ room; omega, fun h => absurd h (by decide)⟩
 have hf2 := hf.2.2.2.1
 refine Ret.bind (sc_ArcS hN x.2.2.2.1 r1 ⟨by omega, by omega⟩ hf2 ()) ?_
 rintro ⟨r2, v2⟩ ⟨a2, b2⟩
 dsimp only at a2 b2 ⊢
 refine Ret.ifd ?_ ?_ <;> intro g2
 ·exact Ret.ret ⟨by show (-1 : Int) ≤ room; omega, fun h => absurd h (by decide)⟩
 have hf3 := hf.2.2.2.2.1
 refine Ret.bind (sc_Int64S hN x.2.2.2.2.1 r2 ⟨by omega, by omega⟩ hf3 ()) ?_
 rintro ⟨r3, v3⟩ ⟨a3, b3⟩
 dsimp only at a3 b3 ⊢
 refine Ret.ifd ?_ ?_ <;> intro g3
 ·exact Ret.ret ⟨by show (-1 : Int) ≤ room; omega, fun h => absurd h (by decide)⟩
 have c1 := (b1 (by omega)).2
 have c2 := (b2 (by omega)).2
 have c3 := (b3 (by omega)).2
 exact Ret.ret ⟨by show r3 ≤ room; omega, fun _ => ⟨⟨(by omega), (b1 (by omega)).1, (b2 (by omega)).1, (b3 (by omega)).1⟩, by simp only [cel_Cell]; show _ ≤ 4 + 32 * (room - r3); omega⟩⟩
theorem sc_CellS {N : Nat} (hN : 4000000 ≤ N) (x : List ((ByteArray) × (Int) × (List ((ByteArray) × (Int) × (Int) × (Bool) × Unit)) × (List ((Int) × (Int) × (Int) × (Int) × (List ((List (Int)) × (List (Int)) × (List (Int)) × Unit)) × (List ((List (Int)) × (List (Int)) × (List (Int)) × Unit)) × Unit)) × (List (Int)) × (Int) × (Int) × Unit)) (room : Int) (h : 0 ≤ room ∧ room ≤ 1048576) (hf : ((.slice (.agg (.pair (.str) (.pair (.int .i64) (.pair (.slice (.agg (.pair (.str) (.pair (.int .i64) (.pair (.int .i64) (.pair (.bool) .nil)))))) (.pair (.slice (.agg (.pair (.int .i64) (.pair (.int .i64) (.pair (.int .i64) (.pair (.int .i64) (.pair (.slice (.agg (.pair (.slice (.int .i64)) (.pair (.slice (.int .i64)) (.pair (.slice (.int .i64)) .nil))))) (.pair (.slice (.agg (.pair (.slice (.int .i64)) (.pair (.slice (.int .i64)) (.pair (.slice (.int .i64)) .nil))))) .nil)))))))) (.pair (.slice (.int .i64)) (.pair (.int .i64) (.pair (.int .i64) .nil))))))))) : Ty).fits x) (u : Unit) : Ret (F_laws_szCellS N (x, room, u)) (fun r => r.1 ≤ room ∧ (0 ≤ r.1 → (x.length < 4000000 ∧ ∀ e0 ∈ x, (e0.1.size < 4000000) ∧ (e0.2.2.1.length < 4000000 ∧ ∀ e1 ∈ e0.2.2.1, (e1.1.size < 4000000)) ∧ (e0.2.2.2.1.length < 4000000 ∧ ∀ e1 ∈ e0.2.2.2.1, (e1.2.2.2.2.1.length < 4000000 ∧ ∀ e2 ∈ e1.2.2.2.2.1, (e2.1.length < 4000000) ∧ (e2.2.1.length < 4000000) ∧ (e2.2.2.1.length < 4000000)) ∧ (e1.2.2.2.2.2.1.length < 4000000 ∧ ∀ e2 ∈ e1.2.2.2.2.2.1, (e2.1.length < 4000000) ∧ (e2.2.1.length < 4000000) ∧ (e2.2.2.1.length < 4000000))) ∧ (e0.2.2.2.2.1.length < 4000000)) ∧ (cnt_CellS x : Int) ≤ 32 * (room - r.1))) := by
 have hm := maxLen_eq
 unfold F_laws_szCellS
 have hl := hf.1
 dsimp only
 rw [wrapI (n := room - (x.length : Int)) (by omega) (by omega)]
 refine Ret.ifd ?_ ?_ <;> intro h1
 ·exact Ret.ret ⟨by show (-1 : Int) ≤ room; omega, fun h => absurd h (by decide)⟩
 refine Ret.upM 0 x.length (fun i r _ => 0 ≤ r ∧ r ≤ room - (x.length : Int) ∧ (∀ j, j < i → ∀ h : j < x.length, (x[j].1.size < 4000000) ∧ (x[j].2.2.1.length < 4000000 ∧ ∀ e0 ∈ x[j].2.2.1, (e0.1.size < 4000000)) ∧ (x[j].2.2.2.1.length < 4000000 ∧ ∀ e0 ∈ x[j].2.2.2.1, (e0.2.2.2.2.1.length < 4000000 ∧ ∀ e1 ∈ e0.2.2.2.2.1, (e1.1.length < 4000000) ∧ (e1.2.1.length < 4000000) ∧ (e1.2.2.1.length < 4000000)) ∧ (e0.2.2.2.2.2.1.length < 4000000 ∧ ∀ e1 ∈ e0.2.2.2.2.2.1, (e1.1.length < 4000000) ∧ (e1.2.1.length < 4000000) ∧ (e1.2.2.1.length < 4000000))) ∧ (x[j].2.2.2.2.1.length < 4000000)) ∧ ((((x.take i).map fun e => cel_Cell e).sum : Nat) : Int) ≤ 32 * (i : Int) + 32 * (room - (x.length : Int) - r)) (by omega) (by omega) (by omega) ⟨by omega, by omega, upto_zero, by simp⟩ ?_ ?_
 ·rintro i r t next _ hi ⟨hr0, hr, hI, hS⟩ hn
  have hfi := hf.2 _ (List.getElem_mem hi)
  have hts := sum_take_succ (fun e => cel_Cell e) hi
  dsimp only at hts ⊢
  refine Ret.must ?_ ?_
  ·omega
  refine Ret.atN hi (Ret.bind (sc_Cell hN x[i] r ⟨hr0, by omega⟩ hfi ()) ?_)
  rintro ⟨r2, v⟩ ⟨h2, h3⟩
  dsimp only at h2 h3 ⊢
  refine Ret.ifd ?_ ?_ <;> intro h4
  ·exact Ret.ret ⟨by show (-1 : Int) ≤ room; omega, fun h => absurd h (by decide)⟩
  ·obtain ⟨h5, h6⟩ := h3 (by omega)
   exact hn _ _ ⟨by omega, by omega, upto_succ hI fun _ => h5, by rw [hts]; omega⟩
 ·rintro r t next ⟨hr0, hr, hI, hS⟩
  rw [List.take_length] at hS
  dsimp only
  refine Ret.mustN ?_ (Ret.ret ⟨by show r ≤ room; omega, fun _ => ⟨⟨by omega, forall_mem_iff.2 fun j hj => hI j hj hj⟩, ?_⟩⟩)
  ·omega
  ·unfold cnt_CellS; show _ ≤ 32 * (room - r); omega
theorem sc_Library {N : Nat} (hN : 4000000 ≤ N) (x : (List ((ByteArray) × (Int) × (List ((ByteArray) × (Int) × (Int) × (Bool) × Unit)) × (List ((Int) × (Int) × (Int) × (Int) × (List ((List (Int)) × (List (Int)) × (List (Int)) × Unit)) × (List ((List (Int)) × (List (Int)) × (List (Int)) × Unit)) × Unit)) × (List (Int)) × (Int) × (Int) × Unit)) × Unit) (room : Int) (h : 0 ≤ room ∧ room ≤ 1048576) (hf : ((.agg (.pair (.slice (.agg (.pair (.str) (.pair (.int .i64) (.pair (.slice (.agg (.pair (.str) (.pair (.int .i64) (.pair (.int .i64) (.pair (.bool) .nil)))))) (.pair (.slice (.agg (.pair (.int .i64) (.pair (.int .i64) (.pair (.int .i64) (.pair (.int .i64) (.pair (.slice (.agg (.pair (.slice (.int .i64)) (.pair (.slice (.int .i64)) (.pair (.slice (.int .i64)) .nil))))) (.pair (.slice (.agg (.pair (.slice (.int .i64)) (.pair (.slice (.int .i64)) (.pair (.slice (.int .i64)) .nil))))) .nil)))))))) (.pair (.slice (.int .i64)) (.pair (.int .i64) (.pair (.int .i64) .nil))))))))) .nil)) : Ty).fits x) (u : Unit) : Ret (F_laws_szLibrary N (x, room, u)) (fun r => r.1 ≤ room ∧ (0 ≤ r.1 → ((x.1.length < 4000000 ∧ ∀ e0 ∈ x.1, (e0.1.size < 4000000) ∧ (e0.2.2.1.length < 4000000 ∧ ∀ e1 ∈ e0.2.2.1, (e1.1.size < 4000000)) ∧ (e0.2.2.2.1.length < 4000000 ∧ ∀ e1 ∈ e0.2.2.2.1, (e1.2.2.2.2.1.length < 4000000 ∧ ∀ e2 ∈ e1.2.2.2.2.1, (e2.1.length < 4000000) ∧ (e2.2.1.length < 4000000) ∧ (e2.2.2.1.length < 4000000)) ∧ (e1.2.2.2.2.2.1.length < 4000000 ∧ ∀ e2 ∈ e1.2.2.2.2.2.1, (e2.1.length < 4000000) ∧ (e2.2.1.length < 4000000) ∧ (e2.2.2.1.length < 4000000))) ∧ (e0.2.2.2.2.1.length < 4000000))) ∧ (cel_Library x : Int) ≤ 0 + 32 * (room - r.1))) := by
 have hm := maxLen_eq
 unfold F_laws_szLibrary
 dsimp only
 have hf0 := hf.1
 refine Ret.bind (sc_CellS hN x.1 room ⟨by omega, by omega⟩ hf0 ()) ?_
 rintro ⟨r0, v0⟩ ⟨a0, b0⟩
 dsimp only at a0 b0 ⊢
 refine Ret.ifd ?_ ?_ <;> intro g0
 ·exact Ret.ret ⟨by show (-1 : Int) ≤ room; omega, fun h => absurd h (by decide)⟩
 have c0 := (b0 (by omega)).2
 exact Ret.ret ⟨by show r0 ≤ room; omega, fun _ => ⟨(b0 (by omega)).1, by simp only [cel_Library]; show _ ≤ 0 + 32 * (room - r0); omega⟩⟩
theorem sc_Instance {N : Nat} (hN : 4000000 ≤ N) (x : (ByteArray) × (Int) × (List (Int)) × Unit) (room : Int) (h : 0 ≤ room ∧ room ≤ 1048576) (hf : ((.agg (.pair (.str) (.pair (.int .i64) (.pair (.slice (.int .i64)) .nil)))) : Ty).fits x) (u : Unit) : Ret (F_laws_szInstance N (x, room, u)) (fun r => r.1 ≤ room ∧ (0 ≤ r.1 → ((x.1.size < 4000000) ∧ (x.2.2.1.length < 4000000)) ∧ (cel_Instance x : Int) ≤ 2 + 32 * (room - r.1))) := by
 have hm := maxLen_eq
 unfold F_laws_szInstance
 dsimp only
 have hf0 := hf.1
 rw [wrapI (n := room - (x.1.size : Int)) (by omega) (by omega)]
 refine Ret.ifd ?_ ?_ <;> intro g0
 ·exact Ret.ret ⟨by show (-1 : Int) ≤ room; omega, fun h => absurd h (by decide)⟩
 have hf1 := hf.2.2.1
 refine Ret.bind (sc_Int64S hN x.2.2.1 (room - (x.1.size : Int)) ⟨by omega, by omega⟩ hf1 ()) ?_
 rintro ⟨r1, v1⟩ ⟨a1, b1⟩
 dsimp only at a1 b1 ⊢
 refine Ret.ifd ?_ ?_ <;> intro g1
 ·exact Ret.ret ⟨by show (-1 : Int) ≤ room; omega, fun h => absurd h (by decide)⟩
 have c1 := (b1 (by omega)).2
 exact Ret.ret ⟨by show r1 ≤ room; omega, fun _ => ⟨⟨(by omega), (b1 (by omega)).1⟩, by simp only [cel_Instance]; show _ ≤ 2 + 32 * (room - r1); omega⟩⟩
theorem sc_InstanceS {N : Nat} (hN : 4000000 ≤ N) (x : List ((ByteArray) × (Int) × (List (Int)) × Unit)) (room : Int) (h : 0 ≤ room ∧ room ≤ 1048576) (hf : ((.slice (.agg (.pair (.str) (.pair (.int .i64) (.pair (.slice (.int .i64)) .nil))))) : Ty).fits x) (u : Unit) : Ret (F_laws_szInstanceS N (x, room, u)) (fun r => r.1 ≤ room ∧ (0 ≤ r.1 → (x.length < 4000000 ∧ ∀ e0 ∈ x, (e0.1.size < 4000000) ∧ (e0.2.2.1.length < 4000000)) ∧ (cnt_InstanceS x : Int) ≤ 32 * (room - r.1))) := by
 have hm := maxLen_eq
 unfold F_laws_szInstanceS
 have hl := hf.1
 dsimp only
 rw [wrapI (n := room - (x.length : Int)) (by omega) (by omega)]
 refine Ret.ifd ?_ ?_ <;> intro h1
 ·exact Ret.ret ⟨by show (-1 : Int) ≤ room; omega, fun h => absurd h (by decide)⟩
 refine Ret.upM 0 x.length (fun i r _ => 0 ≤ r ∧ r ≤ room - (x.length : Int) ∧ (∀ j, j < i → ∀ h : j < x.length, (x[j].1.size < 4000000) ∧ (x[j].2.2.1.length < 4000000)) ∧ ((((x.take i).map fun e => cel_Instance e).sum : Nat) : Int) ≤ 32 * (i : Int) + 32 * (room - (x.length : Int) - r)) (by omega) (by omega) (by omega) ⟨by omega, by omega, upto_zero, by simp⟩ ?_ ?_
 ·rintro i r t next _ hi ⟨hr0, hr, hI, hS⟩ hn
  have hfi := hf.2 _ (List.getElem_mem hi)
  have hts := sum_take_succ (fun e => cel_Instance e) hi
  dsimp only at hts ⊢
  refine Ret.must ?_ ?_
  ·omega
  refine Ret.atN hi (Ret.bind (sc_Instance hN x[i] r ⟨hr0, by omega⟩ hfi ()) ?_)
  rintro ⟨r2, v⟩ ⟨h2, h3⟩
  dsimp only at h2 h3 ⊢
  refine Ret.ifd ?_ ?_ <;> intro h4
  ·exact Ret.ret ⟨by show (-1 : Int) ≤ room; omega, fun h => absurd h (by decide)⟩
  ·obtain ⟨h5, h6⟩ := h3 (by omega)
   exact hn _ _ ⟨by omega, by omega, upto_succ hI fun _ => h5, by rw [hts]; omega⟩
 ·rintro r t next ⟨hr0, hr, hI, hS⟩
  rw [List.take_length] at hS
  dsimp only
  refine Ret.mustN ?_ (Ret.ret ⟨by show r ≤ room; omega, fun _ => ⟨⟨by omega, forall_mem_iff.2 fun j hj => hI j hj hj⟩, ?_⟩⟩)
  ·omega
  ·unfold cnt_InstanceS; show _ ≤ 32 * (room - r); omega
theorem sc_StringS {N : Nat} (hN : 4000000 ≤ N) (x : List (ByteArray)) (room : Int) (h : 0 ≤ room ∧ room ≤ 1048576) (hf : ((.slice (.str)) : Ty).fits x) (u : Unit) : Ret (F_laws_szStringS N (x, room, u)) (fun r => r.1 ≤ room ∧ (0 ≤ r.1 → (x.length < 4000000 ∧ ∀ e0 ∈ x, e0.size < 4000000) ∧ (cnt_StringS x : Int) ≤ 32 * (room - r.1))) := by
 have hm := maxLen_eq
 unfold F_laws_szStringS
 have hl := hf.1
 dsimp only
 rw [wrapI (n := room - (x.length : Int)) (by omega) (by omega)]
 refine Ret.ifd ?_ ?_ <;> intro h1
 ·exact Ret.ret ⟨by show (-1 : Int) ≤ room; omega, fun h => absurd h (by decide)⟩
 refine Ret.upM 0 x.length (fun i r _ => 0 ≤ r ∧ r ≤ room - (x.length : Int) ∧ (∀ j, j < i → ∀ h : j < x.length, x[j].size < 4000000) ∧ ((((x.take i).map fun e => 1).sum : Nat) : Int) ≤ 32 * (i : Int) + 32 * (room - (x.length : Int) - r)) (by omega) (by omega) (by omega) ⟨by omega, by omega, upto_zero, by simp⟩ ?_ ?_
 ·rintro i r t next _ hi ⟨hr0, hr, hI, hS⟩ hn
  have hfi := hf.2 _ (List.getElem_mem hi)
  have hts := sum_take_succ (fun e => 1) hi
  dsimp only at hts ⊢
  refine Ret.must ?_ ?_
  ·omega
  refine Ret.atN hi ?_
  have hfi : x[i].size ≤ maxLen := hfi
  rw [wrapI (n := r - (x[i].size : Int)) (by omega) (by omega)]
  refine Ret.ifd ?_ ?_ <;> intro h2
  ·exact Ret.ret ⟨by show (-1 : Int) ≤ room; omega, fun h => absurd h (by decide)⟩
  ·exact hn _ _ ⟨by omega, by omega, upto_succ hI fun _ => by omega, by rw [hts]; omega⟩
 ·rintro r t next ⟨hr0, hr, hI, hS⟩
  rw [List.take_length] at hS
  dsimp only
  refine Ret.mustN ?_ (Ret.ret ⟨by show r ≤ room; omega, fun _ => ⟨⟨by omega, forall_mem_iff.2 fun j hj => hI j hj hj⟩, ?_⟩⟩)
  ·omega
  ·unfold cnt_StringS; show _ ≤ 32 * (room - r); omega
theorem sc_Port {N : Nat} (hN : 4000000 ≤ N) (x : (ByteArray) × (Int) × (Int) × Unit) (room : Int) (h : 0 ≤ room ∧ room ≤ 1048576) (hf : ((.agg (.pair (.str) (.pair (.int .i64) (.pair (.int .i64) .nil)))) : Ty).fits x) (u : Unit) : Ret (F_laws_szPort N (x, room, u)) (fun r => r.1 ≤ room ∧ (0 ≤ r.1 → ((x.1.size < 4000000)) ∧ (cel_Port x : Int) ≤ 3 + 32 * (room - r.1))) := by
 have hm := maxLen_eq
 unfold F_laws_szPort
 dsimp only
 have hf0 := hf.1
 rw [wrapI (n := room - (x.1.size : Int)) (by omega) (by omega)]
 refine Ret.ifd ?_ ?_ <;> intro g0
 ·exact Ret.ret ⟨by show (-1 : Int) ≤ room; omega, fun h => absurd h (by decide)⟩
 exact Ret.ret ⟨by show (room - (x.1.size : Int)) ≤ room; omega, fun _ => ⟨(by omega), by simp only [cel_Port]; show _ ≤ 3 + 32 * (room - (room - (x.1.size : Int))); omega⟩⟩
theorem sc_PortS {N : Nat} (hN : 4000000 ≤ N) (x : List ((ByteArray) × (Int) × (Int) × Unit)) (room : Int) (h : 0 ≤ room ∧ room ≤ 1048576) (hf : ((.slice (.agg (.pair (.str) (.pair (.int .i64) (.pair (.int .i64) .nil))))) : Ty).fits x) (u : Unit) : Ret (F_laws_szPortS N (x, room, u)) (fun r => r.1 ≤ room ∧ (0 ≤ r.1 → (x.length < 4000000 ∧ ∀ e0 ∈ x, (e0.1.size < 4000000)) ∧ (cnt_PortS x : Int) ≤ 32 * (room - r.1))) := by
 have hm := maxLen_eq
 unfold F_laws_szPortS
 have hl := hf.1
 dsimp only
 rw [wrapI (n := room - (x.length : Int)) (by omega) (by omega)]
 refine Ret.ifd ?_ ?_ <;> intro h1
 ·exact Ret.ret ⟨by show (-1 : Int) ≤ room; omega, fun h => absurd h (by decide)⟩
 refine Ret.upM 0 x.length (fun i r _ => 0 ≤ r ∧ r ≤ room - (x.length : Int) ∧ (∀ j, j < i → ∀ h : j < x.length, (x[j].1.size < 4000000)) ∧ ((((x.take i).map fun e => cel_Port e).sum : Nat) : Int) ≤ 32 * (i : Int) + 32 * (room - (x.length : Int) - r)) (by omega) (by omega) (by omega) ⟨by omega, by omega, upto_zero, by simp⟩ ?_ ?_
 ·rintro i r t next _ hi ⟨hr0, hr, hI, hS⟩ hn
  have hfi := hf.2 _ (List.getElem_mem hi)
  have hts := sum_take_succ (fun e => cel_Port e) hi
  dsimp only at hts ⊢
  refine Ret.must ?_ ?_
  ·omega
  refine Ret.atN hi (Ret.bind (sc_Port hN x[i] r ⟨hr0, by omega⟩ hfi ()) ?_)
  rintro ⟨r2, v⟩ ⟨h2, h3⟩
  dsimp only at h2 h3 ⊢
  refine Ret.ifd ?_ ?_ <;> intro h4
  ·exact Ret.ret ⟨by show (-1 : Int) ≤ room; omega, fun h => absurd h (by decide)⟩
  ·obtain ⟨h5, h6⟩ := h3 (by omega)
   exact hn _ _ ⟨by omega, by omega, upto_succ hI fun _ => h5, by rw [hts]; omega⟩
 ·rintro r t next ⟨hr0, hr, hI, hS⟩
  rw [List.take_length] at hS
  dsimp only
  refine Ret.mustN ?_ (Ret.ret ⟨by show r ≤ room; omega, fun _ => ⟨⟨by omega, forall_mem_iff.2 fun j hj => hI j hj hj⟩, ?_⟩⟩)
  ·omega
  ·unfold cnt_PortS; show _ ≤ 32 * (room - r); omega
theorem sc_Design {N : Nat} (hN : 4000000 ≤ N) (x : (List ((ByteArray) × (Int) × (List (Int)) × Unit)) × (List (ByteArray)) × (List ((ByteArray) × (Int) × (Int) × Unit)) × Unit) (room : Int) (h : 0 ≤ room ∧ room ≤ 1048576) (hf : ((.agg (.pair (.slice (.agg (.pair (.str) (.pair (.int .i64) (.pair (.slice (.int .i64)) .nil))))) (.pair (.slice (.str)) (.pair (.slice (.agg (.pair (.str) (.pair (.int .i64) (.pair (.int .i64) .nil))))) .nil)))) : Ty).fits x) (u : Unit) : Ret (F_laws_szDesign N (x, room, u)) (fun r => r.1 ≤ room ∧ (0 ≤ r.1 → ((x.1.length < 4000000 ∧ ∀ e0 ∈ x.1, (e0.1.size < 4000000) ∧ (e0.2.2.1.length < 4000000)) ∧ (x.2.1.length < 4000000 ∧ ∀ e0 ∈ x.2.1, e0.size < 4000000) ∧ (x.2.2.1.length < 4000000 ∧ ∀ e0 ∈ x.2.2.1, (e0.1.size < 4000000))) ∧ (cel_Design x : Int) ≤ 0 + 32 * (room - r.1))) := by
 have hm := maxLen_eq
 unfold F_laws_szDesign
 dsimp only
 have hf0 := hf.1
 refine Ret.bind (sc_InstanceS hN x.1 room ⟨by omega, by omega⟩ hf0 ()) ?_
 rintro ⟨r0, v0⟩ ⟨a0, b0⟩
 dsimp only at a0 b0 ⊢
 refine Ret.ifd ?_ ?_ <;> intro g0
 ·exact Ret.ret ⟨by show (-1 : Int) ≤ room; omega, fun h => absurd h (by decide)⟩
 have hf1 := hf.2.1
 refine Ret.bind (sc_StringS hN x.2.1 r0 ⟨by omega, by omega⟩ hf1 ()) ?_
 rintro ⟨r1, v1⟩ ⟨a1, b1⟩
 dsimp only at a1 b1 ⊢
 refine Ret.ifd ?_ ?_ <;> intro g1
 ·exact Ret.ret ⟨by show (-1 : Int) ≤ room; omega, fun h => absurd h (by decide)⟩
 have hf2 := hf.2.2.1
 refine Ret.bind (sc_PortS hN x.2.2.1 r1 ⟨by omega, by omega⟩ hf2 ()) ?_
 rintro ⟨r2, v2⟩ ⟨a2, b2⟩
 dsimp only at a2 b2 ⊢
 refine Ret.ifd ?_ ?_ <;> intro g2
 ·exact Ret.ret ⟨by show (-1 : Int) ≤ room; omega, fun h => absurd h (by decide)⟩
 have c0 := (b0 (by omega)).2
 have c1 := (b1 (by omega)).2
 have c2 := (b2 (by omega)).2
 exact Ret.ret ⟨by show r2 ≤ room; omega, fun _ => ⟨⟨(b0 (by omega)).1, (b1 (by omega)).1, (b2 (by omega)).1⟩, by simp only [cel_Design]; show _ ≤ 0 + 32 * (room - r2); omega⟩⟩
theorem sc_Wire {N : Nat} (hN : 4000000 ≤ N) (x : (List (Int)) × (List (Int)) × (List (Int)) × (List (Int)) × Unit) (room : Int) (h : 0 ≤ room ∧ room ≤ 1048576) (hf : ((.agg (.pair (.slice (.int .i64)) (.pair (.slice (.int .i64)) (.pair (.slice (.int .i64)) (.pair (.slice (.int .i64)) .nil))))) : Ty).fits x) (u : Unit) : Ret (F_laws_szWire N (x, room, u)) (fun r => r.1 ≤ room ∧ (0 ≤ r.1 → ((x.1.length < 4000000) ∧ (x.2.1.length < 4000000) ∧ (x.2.2.1.length < 4000000) ∧ (x.2.2.2.1.length < 4000000)) ∧ (cel_Wire x : Int) ≤ 0 + 32 * (room - r.1))) := by
 have hm := maxLen_eq
 unfold F_laws_szWire
 dsimp only
 have hf0 := hf.1
 refine Ret.bind (sc_Int64S hN x.1 room ⟨by omega, by omega⟩ hf0 ()) ?_
 rintro ⟨r0, v0⟩ ⟨a0, b0⟩
 dsimp only at a0 b0 ⊢
 refine Ret.ifd ?_ ?_ <;> intro g0
 ·exact Ret.ret ⟨by show (-1 : Int) ≤ room; omega, fun h => absurd h (by decide)⟩
 have hf1 := hf.2.1
 refine Ret.bind (sc_Int64S hN x.2.1 r0 ⟨by omega, by omega⟩ hf1 ()) ?_
 rintro ⟨r1, v1⟩ ⟨a1, b1⟩
 dsimp only at a1 b1 ⊢
 refine Ret.ifd ?_ ?_ <;> intro g1
 ·exact Ret.ret ⟨by show (-1 : Int) ≤ room; omega, fun h => absurd h (by decide)⟩
 have hf2 := hf.2.2.1
 refine Ret.bind (sc_Int64S hN x.2.2.1 r1 ⟨by omega, by omega⟩ hf2 ()) ?_
 rintro ⟨r2, v2⟩ ⟨a2, b2⟩
 dsimp only at a2 b2 ⊢
 refine Ret.ifd ?_ ?_ <;> intro g2
 ·exact Ret.ret ⟨by show (-1 : Int) ≤ room; omega, fun h => absurd h (by decide)⟩
 have hf3 := hf.2.2.2.1
 refine Ret.bind (sc_Int64S hN x.2.2.2.1 r2 ⟨by omega, by omega⟩ hf3 ()) ?_
 rintro ⟨r3, v3⟩ ⟨a3, b3⟩
 dsimp only at a3 b3 ⊢
 refine Ret.ifd ?_ ?_ <;> intro g3
 ·exact Ret.ret ⟨by show (-1 : Int) ≤ room; omega, fun h => absurd h (by decide)⟩
 have c0 := (b0 (by omega)).2
 have c1 := (b1 (by omega)).2
 have c2 := (b2 (by omega)).2
 have c3 := (b3 (by omega)).2
 exact Ret.ret ⟨by show r3 ≤ room; omega, fun _ => ⟨⟨(b0 (by omega)).1, (b1 (by omega)).1, (b2 (by omega)).1, (b3 (by omega)).1⟩, by simp only [cel_Wire]; show _ ≤ 0 + 32 * (room - r3); omega⟩⟩
theorem sc_WireS {N : Nat} (hN : 4000000 ≤ N) (x : List ((List (Int)) × (List (Int)) × (List (Int)) × (List (Int)) × Unit)) (room : Int) (h : 0 ≤ room ∧ room ≤ 1048576) (hf : ((.slice (.agg (.pair (.slice (.int .i64)) (.pair (.slice (.int .i64)) (.pair (.slice (.int .i64)) (.pair (.slice (.int .i64)) .nil)))))) : Ty).fits x) (u : Unit) : Ret (F_laws_szWireS N (x, room, u)) (fun r => r.1 ≤ room ∧ (0 ≤ r.1 → (x.length < 4000000 ∧ ∀ e0 ∈ x, (e0.1.length < 4000000) ∧ (e0.2.1.length < 4000000) ∧ (e0.2.2.1.length < 4000000) ∧ (e0.2.2.2.1.length < 4000000)) ∧ (cnt_WireS x : Int) ≤ 32 * (room - r.1))) := by
 have hm := maxLen_eq
 unfold F_laws_szWireS
 have hl := hf.1
 dsimp only
 rw [wrapI (n := room - (x.length : Int)) (by omega) (by omega)]
 refine Ret.ifd ?_ ?_ <;> intro h1
 ·exact Ret.ret ⟨by show (-1 : Int) ≤ room; omega, fun h => absurd h (by decide)⟩
 refine Ret.upM 0 x.length (fun i r _ => 0 ≤ r ∧ r ≤ room - (x.length : Int) ∧ (∀ j, j < i → ∀ h : j < x.length, (x[j].1.length < 4000000) ∧ (x[j].2.1.length < 4000000) ∧ (x[j].2.2.1.length < 4000000) ∧ (x[j].2.2.2.1.length < 4000000)) ∧ ((((x.take i).map fun e => cel_Wire e).sum : Nat) : Int) ≤ 32 * (i : Int) + 32 * (room - (x.length : Int) - r)) (by omega) (by omega) (by omega) ⟨by omega, by omega, upto_zero, by simp⟩ ?_ ?_
 ·rintro i r t next _ hi ⟨hr0, hr, hI, hS⟩ hn
  have hfi := hf.2 _ (List.getElem_mem hi)
  have hts := sum_take_succ (fun e => cel_Wire e) hi
  dsimp only at hts ⊢
  refine Ret.must ?_ ?_
  ·omega
  refine Ret.atN hi (Ret.bind (sc_Wire hN x[i] r ⟨hr0, by omega⟩ hfi ()) ?_)
  rintro ⟨r2, v⟩ ⟨h2, h3⟩
  dsimp only at h2 h3 ⊢
  refine Ret.ifd ?_ ?_ <;> intro h4
  ·exact Ret.ret ⟨by show (-1 : Int) ≤ room; omega, fun h => absurd h (by decide)⟩
  ·obtain ⟨h5, h6⟩ := h3 (by omega)
   exact hn _ _ ⟨by omega, by omega, upto_succ hI fun _ => h5, by rw [hts]; omega⟩
 ·rintro r t next ⟨hr0, hr, hI, hS⟩
  rw [List.take_length] at hS
  dsimp only
  refine Ret.mustN ?_ (Ret.ret ⟨by show r ≤ room; omega, fun _ => ⟨⟨by omega, forall_mem_iff.2 fun j hj => hI j hj hj⟩, ?_⟩⟩)
  ·omega
  ·unfold cnt_WireS; show _ ≤ 32 * (room - r); omega
theorem sc_Block {N : Nat} (hN : 4000000 ≤ N) (x : ((List ((ByteArray) × (Int) × (List ((ByteArray) × (Int) × (Int) × (Bool) × Unit)) × (List ((Int) × (Int) × (Int) × (Int) × (List ((List (Int)) × (List (Int)) × (List (Int)) × Unit)) × (List ((List (Int)) × (List (Int)) × (List (Int)) × Unit)) × Unit)) × (List (Int)) × (Int) × (Int) × Unit)) × Unit) × ((List ((ByteArray) × (Int) × (List (Int)) × Unit)) × (List (ByteArray)) × (List ((ByteArray) × (Int) × (Int) × Unit)) × Unit) × (List ((List (Int)) × (List (Int)) × (List (Int)) × (List (Int)) × Unit)) × Unit) (room : Int) (h : 0 ≤ room ∧ room ≤ 1048576) (hf : ((.agg (.pair (.agg (.pair (.slice (.agg (.pair (.str) (.pair (.int .i64) (.pair (.slice (.agg (.pair (.str) (.pair (.int .i64) (.pair (.int .i64) (.pair (.bool) .nil)))))) (.pair (.slice (.agg (.pair (.int .i64) (.pair (.int .i64) (.pair (.int .i64) (.pair (.int .i64) (.pair (.slice (.agg (.pair (.slice (.int .i64)) (.pair (.slice (.int .i64)) (.pair (.slice (.int .i64)) .nil))))) (.pair (.slice (.agg (.pair (.slice (.int .i64)) (.pair (.slice (.int .i64)) (.pair (.slice (.int .i64)) .nil))))) .nil)))))))) (.pair (.slice (.int .i64)) (.pair (.int .i64) (.pair (.int .i64) .nil))))))))) .nil)) (.pair (.agg (.pair (.slice (.agg (.pair (.str) (.pair (.int .i64) (.pair (.slice (.int .i64)) .nil))))) (.pair (.slice (.str)) (.pair (.slice (.agg (.pair (.str) (.pair (.int .i64) (.pair (.int .i64) .nil))))) .nil)))) (.pair (.slice (.agg (.pair (.slice (.int .i64)) (.pair (.slice (.int .i64)) (.pair (.slice (.int .i64)) (.pair (.slice (.int .i64)) .nil)))))) .nil)))) : Ty).fits x) (u : Unit) : Ret (F_laws_szBlock N (x, room, u)) (fun r => r.1 ≤ room ∧ (0 ≤ r.1 → (((x.1.1.length < 4000000 ∧ ∀ e0 ∈ x.1.1, (e0.1.size < 4000000) ∧ (e0.2.2.1.length < 4000000 ∧ ∀ e1 ∈ e0.2.2.1, (e1.1.size < 4000000)) ∧ (e0.2.2.2.1.length < 4000000 ∧ ∀ e1 ∈ e0.2.2.2.1, (e1.2.2.2.2.1.length < 4000000 ∧ ∀ e2 ∈ e1.2.2.2.2.1, (e2.1.length < 4000000) ∧ (e2.2.1.length < 4000000) ∧ (e2.2.2.1.length < 4000000)) ∧ (e1.2.2.2.2.2.1.length < 4000000 ∧ ∀ e2 ∈ e1.2.2.2.2.2.1, (e2.1.length < 4000000) ∧ (e2.2.1.length < 4000000) ∧ (e2.2.2.1.length < 4000000))) ∧ (e0.2.2.2.2.1.length < 4000000))) ∧ ((x.2.1.1.length < 4000000 ∧ ∀ e0 ∈ x.2.1.1, (e0.1.size < 4000000) ∧ (e0.2.2.1.length < 4000000)) ∧ (x.2.1.2.1.length < 4000000 ∧ ∀ e0 ∈ x.2.1.2.1, e0.size < 4000000) ∧ (x.2.1.2.2.1.length < 4000000 ∧ ∀ e0 ∈ x.2.1.2.2.1, (e0.1.size < 4000000))) ∧ (x.2.2.1.length < 4000000 ∧ ∀ e0 ∈ x.2.2.1, (e0.1.length < 4000000) ∧ (e0.2.1.length < 4000000) ∧ (e0.2.2.1.length < 4000000) ∧ (e0.2.2.2.1.length < 4000000))) ∧ (cel_Block x : Int) ≤ 0 + 32 * (room - r.1))) := by
 have hm := maxLen_eq
 unfold F_laws_szBlock
 dsimp only
 have hf0 := hf.1
 refine Ret.bind (sc_Library hN x.1 room ⟨by omega, by omega⟩ hf0 ()) ?_
 rintro ⟨r0, v0⟩ ⟨a0, b0⟩
 dsimp only at a0 b0 ⊢
 refine Ret.ifd ?_ ?_ <;> intro g0
 ·exact Ret.ret ⟨by show (-1 : Int) ≤ room; omega, fun h => absurd h (by decide)⟩
 have hf1 := hf.2.1
 refine Ret.bind (sc_Design hN x.2.1 r0 ⟨by omega, by omega⟩ hf1 ()) ?_
 rintro ⟨r1, v1⟩ ⟨a1, b1⟩
 dsimp only at a1 b1 ⊢
 refine Ret.ifd ?_ ?_ <;> intro g1
 ·exact Ret.ret ⟨by show (-1 : Int) ≤ room; omega, fun h => absurd h (by decide)⟩
 have hf2 := hf.2.2.1
 refine Ret.bind (sc_WireS hN x.2.2.1 r1 ⟨by omega, by omega⟩ hf2 ()) ?_
 rintro ⟨r2, v2⟩ ⟨a2, b2⟩
 dsimp only at a2 b2 ⊢
 refine Ret.ifd ?_ ?_ <;> intro g2
 ·exact Ret.ret ⟨by show (-1 : Int) ≤ room; omega, fun h => absurd h (by decide)⟩
 have c0 := (b0 (by omega)).2
 have c1 := (b1 (by omega)).2
 have c2 := (b2 (by omega)).2
 exact Ret.ret ⟨by show r2 ≤ room; omega, fun _ => ⟨⟨(b0 (by omega)).1, (b1 (by omega)).1, (b2 (by omega)).1⟩, by simp only [cel_Block]; show _ ≤ 0 + 32 * (room - r2); omega⟩⟩
theorem sz_Block {N : Nat} (hN : 4000000 ≤ N) (x : ((List ((ByteArray) × (Int) × (List ((ByteArray) × (Int) × (Int) × (Bool) × Unit)) × (List ((Int) × (Int) × (Int) × (Int) × (List ((List (Int)) × (List (Int)) × (List (Int)) × Unit)) × (List ((List (Int)) × (List (Int)) × (List (Int)) × Unit)) × Unit)) × (List (Int)) × (Int) × (Int) × Unit)) × Unit) × ((List ((ByteArray) × (Int) × (List (Int)) × Unit)) × (List (ByteArray)) × (List ((ByteArray) × (Int) × (Int) × Unit)) × Unit) × (List ((List (Int)) × (List (Int)) × (List (Int)) × (List (Int)) × Unit)) × Unit) (room : Int) (h : 0 ≤ room ∧ room ≤ 1048576) (hf : ((.agg (.pair (.agg (.pair (.slice (.agg (.pair (.str) (.pair (.int .i64) (.pair (.slice (.agg (.pair (.str) (.pair (.int .i64) (.pair (.int .i64) (.pair (.bool) .nil)))))) (.pair (.slice (.agg (.pair (.int .i64) (.pair (.int .i64) (.pair (.int .i64) (.pair (.int .i64) (.pair (.slice (.agg (.pair (.slice (.int .i64)) (.pair (.slice (.int .i64)) (.pair (.slice (.int .i64)) .nil))))) (.pair (.slice (.agg (.pair (.slice (.int .i64)) (.pair (.slice (.int .i64)) (.pair (.slice (.int .i64)) .nil))))) .nil)))))))) (.pair (.slice (.int .i64)) (.pair (.int .i64) (.pair (.int .i64) .nil))))))))) .nil)) (.pair (.agg (.pair (.slice (.agg (.pair (.str) (.pair (.int .i64) (.pair (.slice (.int .i64)) .nil))))) (.pair (.slice (.str)) (.pair (.slice (.agg (.pair (.str) (.pair (.int .i64) (.pair (.int .i64) .nil))))) .nil)))) (.pair (.slice (.agg (.pair (.slice (.int .i64)) (.pair (.slice (.int .i64)) (.pair (.slice (.int .i64)) (.pair (.slice (.int .i64)) .nil)))))) .nil)))) : Ty).fits x) (u : Unit) : Ret (F_laws_szBlock N (x, room, u)) (fun r => r.1 ≤ room ∧ (0 ≤ r.1 → ((x.1.1.length < 4000000 ∧ ∀ e0 ∈ x.1.1, (e0.1.size < 4000000) ∧ (e0.2.2.1.length < 4000000 ∧ ∀ e1 ∈ e0.2.2.1, (e1.1.size < 4000000)) ∧ (e0.2.2.2.1.length < 4000000 ∧ ∀ e1 ∈ e0.2.2.2.1, (e1.2.2.2.2.1.length < 4000000 ∧ ∀ e2 ∈ e1.2.2.2.2.1, (e2.1.length < 4000000) ∧ (e2.2.1.length < 4000000) ∧ (e2.2.2.1.length < 4000000)) ∧ (e1.2.2.2.2.2.1.length < 4000000 ∧ ∀ e2 ∈ e1.2.2.2.2.2.1, (e2.1.length < 4000000) ∧ (e2.2.1.length < 4000000) ∧ (e2.2.2.1.length < 4000000))) ∧ (e0.2.2.2.2.1.length < 4000000))) ∧ ((x.2.1.1.length < 4000000 ∧ ∀ e0 ∈ x.2.1.1, (e0.1.size < 4000000) ∧ (e0.2.2.1.length < 4000000)) ∧ (x.2.1.2.1.length < 4000000 ∧ ∀ e0 ∈ x.2.1.2.1, e0.size < 4000000) ∧ (x.2.1.2.2.1.length < 4000000 ∧ ∀ e0 ∈ x.2.1.2.2.1, (e0.1.size < 4000000))) ∧ (x.2.2.1.length < 4000000 ∧ ∀ e0 ∈ x.2.2.1, (e0.1.length < 4000000) ∧ (e0.2.1.length < 4000000) ∧ (e0.2.2.1.length < 4000000) ∧ (e0.2.2.2.1.length < 4000000)))) :=
 (sc_Block hN x room h hf u).imp fun r hh => ⟨hh.1, fun h0 => (hh.2 h0).1⟩
end Go.Proofs.YtdbmhfpphobmpaaGreatDoor
