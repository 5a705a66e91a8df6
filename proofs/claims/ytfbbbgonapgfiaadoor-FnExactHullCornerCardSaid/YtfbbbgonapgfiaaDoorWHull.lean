/- The walks of HullCorner, on both sides. No condition of its own. -/
import Derived.Test.YtfbbbgonapgfiaaDoorWCorner
namespace Go.Proofs.YtfbbbgonapgfiaaDoor
set_option linter.unusedSimpArgs false
set_option linter.unusedVariables false
open Go.RowKit

def cornerV (c : Corner) : Value := .agg #[.string c.name, .int .i64 c.cellEarly, .int .i64 c.cellLate, .int .i64 c.wireEarly, .int .i64 c.wireLate]
def zeroCorner : Corner := ⟨⟨#[]⟩, 0, 0, 0, 0⟩
def hullStep (nm : ByteArray) (o c : Corner) : Corner := ⟨nm, min o.cellEarly c.cellEarly, max o.cellLate c.cellLate, min o.wireEarly c.wireEarly, max o.wireLate c.wireLate⟩
def hullTo (nm : ByteArray) (o : Corner) (l : List Corner) : Corner := l.foldl (hullStep nm) o
/-- the hull of a list, its name and its code -/
def HullR (xs : List Corner) (nm : ByteArray) (r : Corner) (code : Int) : Prop :=
  (¬ CornersP xs ∧ r = zeroCorner ∧ code = 5) ∨ (CornersP xs ∧ ¬ NameP nm ∧ r = zeroCorner ∧ code = 2) ∨
    (CornersP xs ∧ NameP nm ∧ r = hullTo nm (xs.headD zeroCorner) xs ∧ code = 0)
theorem HullR.det {xs : List Corner} {nm : ByteArray} {r r' : Corner} {c c' : Int} (h : HullR xs nm r c) (h' : HullR xs nm r' c') : r = r' ∧ c = c' := by
  unfold HullR at h h'
  rcases h with ⟨a, b, d⟩ | ⟨a, b, d, e⟩ | ⟨a, b, d, e⟩ <;> rcases h' with ⟨a', b', d'⟩ | ⟨a', b', d', e'⟩ | ⟨a', b', d', e'⟩ <;> simp_all
theorem hullTo_take (nm : ByteArray) (o : Corner) (xs : List Corner) (k : Nat) (h : k < xs.length) :
    hullTo nm o (xs.take (k + 1)) = hullStep nm (hullTo nm o (xs.take k)) xs[k] := by
  unfold hullTo
  rw [List.take_succ_eq_append_getElem h, List.foldl_append]
  rfl
theorem hullTo_one (xs : List Corner) (h : 0 < xs.length) : hullTo xs[0].name xs[0] (xs.take 1) = xs[0] := by
  cases xs with
  | nil => simp at h
  | cons a l => simp [hullTo, hullStep]
theorem hullTo_name (nm : ByteArray) (l : List Corner) : ∀ o : Corner, o.name = nm → (hullTo nm o l).name = nm := by
  induction l with
  | nil => intro o h; exact h
  | cons a l ih => intro o _; exact ih _ rfl
theorem hullTo_rename (n m : ByteArray) (l : List Corner) : ∀ o : Corner, { hullTo n o l with name := m } = hullTo m { o with name := m } l := by
  induction l with
  | nil => intro o; rfl
  | cons a l ih => intro o; exact ih (hullStep n o a)
theorem hullTo_both (nm : ByteArray) (xs : List Corner) (h : 0 < xs.length) : { hullTo xs[0].name xs[0] xs with name := nm } = hullTo nm (xs.headD zeroCorner) xs := by
  cases xs with
  | nil => simp at h
  | cons a l =>
    rw [hullTo_rename]
    simp [hullTo, hullStep]
theorem gen_world {p : Program} {c : Code} {Q : Exit → Act → World → Prop} {a : Act} {w : World} (P : World → Prop) (h : P w) (k : ∀ w1, P w1 → Code.wp p c Q a w1) : Code.wp p c Q a w := k w h
/-- a corner's box -/
def CBox (w : World) (b : Nat) (c : Corner) : Prop :=
  w.cell? ⟨b, 0, none⟩ = some (.string c.name) ∧ w.cell? ⟨b, 1, none⟩ = some (.int .i64 c.cellEarly) ∧ w.cell? ⟨b, 2, none⟩ = some (.int .i64 c.cellLate)
    ∧ w.cell? ⟨b, 3, none⟩ = some (.int .i64 c.wireEarly) ∧ w.cell? ⟨b, 4, none⟩ = some (.int .i64 c.wireLate)
    ∧ w.frozen? ⟨b, 0, none⟩ = false ∧ w.frozen? ⟨b, 1, none⟩ = false ∧ w.frozen? ⟨b, 2, none⟩ = false ∧ w.frozen? ⟨b, 3, none⟩ = false ∧ w.frozen? ⟨b, 4, none⟩ = false

set_option maxRecDepth 100000 in
set_option maxHeartbeats 1000000 in
theorem w_HullCorner (v u : Value) (xs : List Corner) (nm : ByteArray) (w : World) (hv : Rd w v xs) (hu : Rd w u nm) (hlen : xs.length ≤ 1048576) :
    Calls Tryd.prog 21 #[v, u] w fun e w' => (∃ r c, HullR xs nm r c ∧ e = .returned (.tuple #[cornerV r, .int .i64 c])) ∧ Ext w w' := by
  have hne : CornersP xs → 0 < xs.length := fun h => h.1
  obtain ⟨A, cap, rfl, hcap, hmax⟩ := hv.form
  have Hv := Lib.hid hv; clear hv
  obtain ⟨rfl, hs⟩ := rd_str.1 hu
  clear hu
  by_cases hC : CornersP xs
  · have hc1 := tf_mk hC
    have HC := Lib.hid hC
    have hpos := hne hC
    clear hC hne
    by_cases hN : NameP nm
    · have hn1 := tf_mk hN
      have HN := Lib.hid hN
      clear hN
      obtain ⟨b, o, rfl, hbl, g0, g1, g2, g3, g4, grd, f0, f1, f2, f3, f4⟩ := Rd.atCorner Hv.out 0 hpos
      simp only [Nat.zero_mul, Nat.add_zero] at g0 g1 g2 g3 g4
      go_enter Tryd.func21, Tryd.ntmps21
      go_wp2_with (first
        | (go_at_call 18; refine (w_IsCornerList _ xs _ (Hv.out.up (by (repeat (first | with_reducible exact Ext.refl _ | with_reducible assumption | with_reducible refine Ext.drew ?_ | with_reducible refine Ext.drewN ?_ _ | with_reducible refine Ext.alloc ?_ _ | ((with_reducible refine Ext.setCell ?_ ?_ _); rotate_left; focus (first | omega | (simp; done) | (simp; omega))) | with_reducible refine Ext.trans ?_ (by with_reducible assumption))))) hlen).mono ?_; rintro e w_he ⟨rfl, he⟩; have hz_he := he.size; (try simp at hz_he); obtain ⟨hl_he_0, hf_he_0⟩ := he.loc (w.heap.size) (by first | omega | (simp; done) | (simp; omega)); obtain ⟨hl_he_1, hf_he_1⟩ := he.loc (b) (by first | omega | (simp; done) | (simp; omega)))
        | (go_at_call 41; refine (w_isName _ _ hs).mono ?_; rintro e w_he2 ⟨rfl, he2⟩; have hz_he2 := he2.size; (try simp at hz_he2); obtain ⟨hl_he2_0, hf_he2_0⟩ := he2.loc (w.heap.size) (by first | omega | (simp; done) | (simp; omega)); obtain ⟨hl_he2_1, hf_he2_1⟩ := he2.loc (b) (by first | omega | (simp; done) | (simp; omega))))
      have hB : Ext w w_he2 := (by (repeat (first | with_reducible exact Ext.refl _ | with_reducible assumption | with_reducible refine Ext.drew ?_ | with_reducible refine Ext.drewN ?_ _ | with_reducible refine Ext.alloc ?_ _ | ((with_reducible refine Ext.setCell ?_ ?_ _); rotate_left; focus (first | omega | (simp; done) | (simp; omega))) | with_reducible refine Ext.trans ?_ (by with_reducible assumption))))
      have hsz : w.heap.size < w_he2.heap.size := by omega
      have hq0 : w_he2.cell? ⟨w.heap.size, 0, none⟩ = w_he.cell? ⟨w.heap.size, 0, none⟩ := hl_he2_0 0
      go_loopw [24] (fun i wr => ∃ k : Nat, k ≤ xs.length ∧ i = .int .i64 k ∧ Ext w wr ∧ w_he2.heap.size < wr.heap.size ∧ CBox wr w.heap.size zeroCorner ∧ CBox wr w_he2.heap.size (hullTo nm xs[0] (xs.take k))) (fun i _ => xs.length - (intOf i).toNat)
      case atStart =>
        refine ⟨0, by omega, rfl, (by (repeat (first | with_reducible exact Ext.refl _ | with_reducible assumption | with_reducible refine Ext.drew ?_ | with_reducible refine Ext.drewN ?_ _ | with_reducible refine Ext.alloc ?_ _ | ((with_reducible refine Ext.setCell ?_ ?_ _); rotate_left; focus (first | omega | (simp; done) | (simp; omega))) | with_reducible refine Ext.trans ?_ (by with_reducible assumption)))), by simp, ?_, ?_⟩
        · unfold CBox zeroCorner
          refine ⟨?_, ?_, ?_, ?_, ?_, ?_, ?_, ?_, ?_, ?_⟩ <;> first | (go_keep; done) | (simp [go_sem, *]; done) | ((try simp only [World.frozen?_setCell]); rw [World.frozen?_alloc_past _ _ _ (by omega)]; simp [*])
        · unfold CBox
          refine ⟨?_, ?_, ?_, ?_, ?_, ?_, ?_, ?_, ?_, ?_⟩ <;> first | (go_keep; done) | (go_keep; rfl)
      case round =>
        obtain ⟨k, hk, rfl, hb, hz, ⟨r0, r1, r2, r3, r4, s0, s1, s2, s3, s4⟩, ⟨q0, q1, q2, q3, q4, t0, t1, t2, t3, t4⟩⟩ := hrel
        have hsz2 : w.heap.size < wr.heap.size := by omega
        by_cases hlt : k < xs.length
        · have ht := hullTo_take nm xs[0] xs k hlt
          generalize hullTo nm xs[0] (xs.take k) = oc at *
          have HT := Lib.hid ht
          clear ht
          clear g0 g1 g2 g3 g4 grd f0 f1 f2 f3 f4 hl_he_0 hl_he_1 hf_he_0 hf_he_1 hl_he2_0 hl_he2_1 hf_he2_0 hf_he2_1 hq0
          obtain ⟨_, _, hA, _, g0, g1, g2, g3, g4, grd, f0, f1, f2, f3, f4⟩ := Rd.atCorner (Hv.out.up hb) k hlt
          injection hA with hA; injection hA with hA1 hA2; subst hA1 hA2
          go_wp2
          refine ⟨⟨k + 1, by omega, by go_num, (by (repeat (first | with_reducible exact Ext.refl _ | with_reducible assumption | with_reducible refine Ext.drew ?_ | with_reducible refine Ext.drewN ?_ _ | with_reducible refine Ext.alloc ?_ _ | ((with_reducible refine Ext.setCell ?_ ?_ _); rotate_left; focus (first | omega | (simp; done) | (simp; omega))) | with_reducible refine Ext.trans ?_ (by with_reducible assumption)))), by simp; omega, ?_, ?_⟩, ?_⟩
          · unfold CBox
            refine ⟨?_, ?_, ?_, ?_, ?_, ?_, ?_, ?_, ?_, ?_⟩ <;> first | (go_keep; done) | (simp [go_sem, *]; done) | skip
          · rw [HT.out]
            unfold CBox hullStep
            refine ⟨?_, ?_, ?_, ?_, ?_, ?_, ?_, ?_, ?_, ?_⟩ <;> first | (go_keep; done) | (simp [go_sem, *]; done) | skip
          · simp [intOf]; omega
        · obtain rfl : k = xs.length := by omega
          rw [List.take_of_length_le (Nat.le_refl _)] at q0 q1 q2 q3 q4
          go_wp2
          exact bodyPost_ret (v := .tuple #[cornerV (hullTo nm xs[0] xs), .int .i64 0]) (by simp [results, Tryd.results21, go_sem, *, cornerV]) rfl ⟨⟨hullTo nm xs[0] xs, 0, Or.inr (Or.inr ⟨HC.out, HN.out, by cases xs with | nil => simp at hpos | cons a l => rfl, rfl⟩), rfl⟩, (by (repeat (first | with_reducible exact Ext.refl _ | with_reducible assumption | with_reducible refine Ext.drew ?_ | with_reducible refine Ext.drewN ?_ _ | with_reducible refine Ext.alloc ?_ _ | ((with_reducible refine Ext.setCell ?_ ?_ _); rotate_left; focus (first | omega | (simp; done) | (simp; omega))) | with_reducible refine Ext.trans ?_ (by with_reducible assumption))))⟩
    · have hn1 := tf_mk_not hN
      have HN := Lib.hid hN
      clear hN
      go_enter Tryd.func21, Tryd.ntmps21
      go_wp2_with (first
        | (go_at_call 18; refine (w_IsCornerList _ xs _ (Hv.out.up (by (repeat (first | with_reducible exact Ext.refl _ | with_reducible assumption | with_reducible refine Ext.drew ?_ | with_reducible refine Ext.drewN ?_ _ | with_reducible refine Ext.alloc ?_ _ | ((with_reducible refine Ext.setCell ?_ ?_ _); rotate_left; focus (first | omega | (simp; done) | (simp; omega))) | with_reducible refine Ext.trans ?_ (by with_reducible assumption))))) hlen).mono ?_; rintro e w_he ⟨rfl, he⟩; have hz_he := he.size; (try simp at hz_he); obtain ⟨hl_he_0, hf_he_0⟩ := he.loc (w.heap.size) (by first | omega | (simp; done) | (simp; omega)))
        | (go_at_call 41; refine (w_isName _ _ hs).mono ?_; rintro e w_he2 ⟨rfl, he2⟩; have hz_he2 := he2.size; (try simp at hz_he2); obtain ⟨hl_he2_0, hf_he2_0⟩ := he2.loc (w.heap.size) (by first | omega | (simp; done) | (simp; omega))))
      exact bodyPost_ret (v := .tuple #[cornerV zeroCorner, .int .i64 2]) (by simp [results, Tryd.results21, go_sem, *, cornerV, zeroCorner]) rfl ⟨⟨zeroCorner, 2, Or.inr (Or.inl ⟨HC.out, HN.out, rfl, rfl⟩), rfl⟩, (by (repeat (first | with_reducible exact Ext.refl _ | with_reducible assumption | with_reducible refine Ext.drew ?_ | with_reducible refine Ext.drewN ?_ _ | with_reducible refine Ext.alloc ?_ _ | ((with_reducible refine Ext.setCell ?_ ?_ _); rotate_left; focus (first | omega | (simp; done) | (simp; omega))) | with_reducible refine Ext.trans ?_ (by with_reducible assumption))))⟩
  · have hc1 := tf_mk_not hC
    have HC := Lib.hid hC
    clear hC hne
    go_enter Tryd.func21, Tryd.ntmps21
    go_wp2_with (go_at_call 18; refine (w_IsCornerList _ xs _ (Hv.out.up (by (repeat (first | with_reducible exact Ext.refl _ | with_reducible assumption | with_reducible refine Ext.drew ?_ | with_reducible refine Ext.drewN ?_ _ | with_reducible refine Ext.alloc ?_ _ | ((with_reducible refine Ext.setCell ?_ ?_ _); rotate_left; focus (first | omega | (simp; done) | (simp; omega))) | with_reducible refine Ext.trans ?_ (by with_reducible assumption))))) hlen).mono ?_; rintro e w_he ⟨rfl, he⟩; have hz_he := he.size; (try simp at hz_he); obtain ⟨hl_he_0, hf_he_0⟩ := he.loc (w.heap.size) (by first | omega | (simp; done) | (simp; omega)))
    exact bodyPost_ret (v := .tuple #[cornerV zeroCorner, .int .i64 5]) (by simp [results, Tryd.results21, go_sem, *, cornerV, zeroCorner]) rfl ⟨⟨zeroCorner, 5, Or.inl ⟨HC.out, rfl, rfl⟩, rfl⟩, (by (repeat (first | with_reducible exact Ext.refl _ | with_reducible assumption | with_reducible refine Ext.drew ?_ | with_reducible refine Ext.drewN ?_ _ | with_reducible refine Ext.alloc ?_ _ | ((with_reducible refine Ext.setCell ?_ ?_ _); rotate_left; focus (first | omega | (simp; done) | (simp; omega))) | with_reducible refine Ext.trans ?_ (by with_reducible assumption))))⟩
set_option maxRecDepth 100000 in
set_option maxHeartbeats 1000000 in
theorem w_sHullCorner (v u : Value) (xs : List Corner) (nm : ByteArray) (w : World) (hv : Rd w v xs) (hu : Rd w u nm) :
    Calls Tryd.prog 20 #[v, u] w fun e w' => (∃ r c, HullR xs nm r c ∧ e = .returned (.tuple #[cornerV r, .int .i64 c])) ∧ Ext w w' := by
  have hne : CornersP xs → 0 < xs.length := fun h => h.1
  obtain ⟨A, cap, rfl, hcap, hmax⟩ := hv.form
  have Hv := Lib.hid hv; clear hv
  obtain ⟨rfl, hs⟩ := rd_str.1 hu
  clear hu
  by_cases hC : CornersP xs
  · have hc1 := tf_mk hC
    have HC := Lib.hid hC
    have hpos := hne hC
    clear hC hne
    by_cases hN : NameP nm
    · have hn1 := tf_mk hN
      have HN := Lib.hid hN
      clear hN
      obtain ⟨b, o, rfl, hbl, g0, g1, g2, g3, g4, grd, f0, f1, f2, f3, f4⟩ := Rd.atCorner Hv.out 0 hpos
      simp only [Nat.zero_mul, Nat.add_zero] at g0 g1 g2 g3 g4
      go_enter Tryd.func20, Tryd.ntmps20
      go_wp2_with (first
        | (go_at_call 16; refine (w_sIsCornerList _ xs _ (Hv.out.up (by (repeat (first | with_reducible exact Ext.refl _ | with_reducible assumption | with_reducible refine Ext.drew ?_ | with_reducible refine Ext.drewN ?_ _ | with_reducible refine Ext.alloc ?_ _ | ((with_reducible refine Ext.setCell ?_ ?_ _); rotate_left; focus (first | omega | (simp; done) | (simp; omega))) | with_reducible refine Ext.trans ?_ (by with_reducible assumption)))))).mono ?_; rintro e w_he ⟨rfl, he⟩; have hz_he := he.size; (try simp at hz_he); obtain ⟨hl_he_0, hf_he_0⟩ := he.loc (w.heap.size) (by first | omega | (simp; done) | (simp; omega)); obtain ⟨hl_he_1, hf_he_1⟩ := he.loc (b) (by first | omega | (simp; done) | (simp; omega)))
        | (go_at_call 40; refine (w_l03Name _ _ hs).mono ?_; rintro e w' ⟨rfl, rfl⟩))
      have hB : Ext w w' := (by (repeat (first | with_reducible exact Ext.refl _ | with_reducible assumption | with_reducible refine Ext.drew ?_ | with_reducible refine Ext.drewN ?_ _ | with_reducible refine Ext.alloc ?_ _ | ((with_reducible refine Ext.setCell ?_ ?_ _); rotate_left; focus (first | omega | (simp; done) | (simp; omega))) | with_reducible refine Ext.trans ?_ (by with_reducible assumption))))
      have hsz : w.heap.size < w'.heap.size := by omega
      go_loopw [7] (fun i wr => ∃ k : Nat, 1 ≤ k ∧ k ≤ xs.length ∧ i = .int .i64 k ∧ Ext w wr ∧ w'.heap.size < wr.heap.size ∧ CBox wr w.heap.size zeroCorner ∧ CBox wr w'.heap.size (hullTo xs[0].name xs[0] (xs.take k))) (fun i _ => xs.length - (intOf i).toNat)
      case atStart =>
        refine ⟨1, by omega, hpos, rfl, (by (repeat (first | with_reducible exact Ext.refl _ | with_reducible assumption | with_reducible refine Ext.drew ?_ | with_reducible refine Ext.drewN ?_ _ | with_reducible refine Ext.alloc ?_ _ | ((with_reducible refine Ext.setCell ?_ ?_ _); rotate_left; focus (first | omega | (simp; done) | (simp; omega))) | with_reducible refine Ext.trans ?_ (by with_reducible assumption)))), by simp, ?_, ?_⟩
        · unfold CBox zeroCorner
          refine ⟨?_, ?_, ?_, ?_, ?_, ?_, ?_, ?_, ?_, ?_⟩ <;> first | (go_keep; done) | (simp [go_sem, *]; done) | ((try simp only [World.frozen?_setCell]); rw [World.frozen?_alloc_past _ _ _ (by omega)]; simp [*])
        · unfold CBox
          refine ⟨?_, ?_, ?_, ?_, ?_, ?_, ?_, ?_, ?_, ?_⟩ <;> first | (go_keep; done) | (rw [hullTo_one _ hpos]; go_keep)
      case round =>
        obtain ⟨k, hk0, hk, rfl, hb, hz, ⟨r0, r1, r2, r3, r4, s0, s1, s2, s3, s4⟩, ⟨q0, q1, q2, q3, q4, t0, t1, t2, t3, t4⟩⟩ := hrel
        have hsz2 : w.heap.size < wr.heap.size := by omega
        by_cases hlt : k < xs.length
        · have HON := Lib.hid (hullTo_name xs[0].name (xs.take k) xs[0] rfl)
          have ht := hullTo_take xs[0].name xs[0] xs k hlt
          generalize hullTo xs[0].name xs[0] (xs.take k) = oc at *
          have HT := Lib.hid ht
          clear ht
          clear g0 g1 g2 g3 g4 grd f0 f1 f2 f3 f4 hl_he_0 hl_he_1 hf_he_0 hf_he_1
          obtain ⟨_, _, hA, _, g0, g1, g2, g3, g4, grd, f0, f1, f2, f3, f4⟩ := Rd.atCorner (Hv.out.up hb) k hlt
          injection hA with hA; injection hA with hA1 hA2; subst hA1 hA2
          go_wp2
          go_still_tail 9, (by kernel_rfl)
          go_upto_region 10 with (fail)
          refine gen_world (P := fun wx => Ext w wx ∧ w'.heap.size < wx.heap.size ∧ w.heap.size < wx.heap.size ∧ CBox wx w.heap.size zeroCorner ∧ CBox wx w'.heap.size { oc with cellEarly := min oc.cellEarly xs[k].cellEarly }) ?_ ?_
          · refine ⟨(by (repeat (first | with_reducible exact Ext.refl _ | with_reducible assumption | with_reducible refine Ext.drew ?_ | with_reducible refine Ext.drewN ?_ _ | with_reducible refine Ext.alloc ?_ _ | ((with_reducible refine Ext.setCell ?_ ?_ _); rotate_left; focus (first | omega | (simp; done) | (simp; omega))) | with_reducible refine Ext.trans ?_ (by with_reducible assumption)))), by simp; omega, by simp; omega, ?_, ?_⟩
            · unfold CBox
              refine ⟨?_, ?_, ?_, ?_, ?_, ?_, ?_, ?_, ?_, ?_⟩ <;> first | (go_keep; done) | (simp [go_sem, *]; done)
            · unfold CBox
              refine ⟨?_, ?_, ?_, ?_, ?_, ?_, ?_, ?_, ?_, ?_⟩ <;> first | (go_keep; done) | (simp [go_sem, *]; done)
          clear hb hz hsz2 r0 r1 r2 r3 r4 s0 s1 s2 s3 s4 q0 q1 q2 q3 q4 t0 t1 t2 t3 t4 g0 g1 g2 g3 g4
          rintro wr1 ⟨hb, hz, hsz2, ⟨r0, r1, r2, r3, r4, s0, s1, s2, s3, s4⟩, ⟨q0, q1, q2, q3, q4, t0, t1, t2, t3, t4⟩⟩
          obtain ⟨_, _, hA, hbl2, g0, g1, g2, g3, g4, _⟩ := Rd.atCorner (Hv.out.up hb) k hlt
          injection hA with hA; injection hA with hA1 hA2; subst hA1 hA2
          go_still_tail 9, (by kernel_rfl)
          go_upto_region 11 with (fail)
          refine gen_world (P := fun wx => Ext w wx ∧ w'.heap.size < wx.heap.size ∧ w.heap.size < wx.heap.size ∧ CBox wx w.heap.size zeroCorner ∧ CBox wx w'.heap.size { oc with cellEarly := min oc.cellEarly xs[k].cellEarly, wireEarly := min oc.wireEarly xs[k].wireEarly }) ?_ ?_
          · refine ⟨(by (repeat (first | with_reducible exact Ext.refl _ | with_reducible assumption | with_reducible refine Ext.drew ?_ | with_reducible refine Ext.drewN ?_ _ | with_reducible refine Ext.alloc ?_ _ | ((with_reducible refine Ext.setCell ?_ ?_ _); rotate_left; focus (first | omega | (simp; done) | (simp; omega))) | with_reducible refine Ext.trans ?_ (by with_reducible assumption)))), by simp; omega, by simp; omega, ?_, ?_⟩
            · unfold CBox
              refine ⟨?_, ?_, ?_, ?_, ?_, ?_, ?_, ?_, ?_, ?_⟩ <;> first | (go_keep; done) | (simp [go_sem, *]; done)
            · unfold CBox
              refine ⟨?_, ?_, ?_, ?_, ?_, ?_, ?_, ?_, ?_, ?_⟩ <;> first | (go_keep; done) | (simp [go_sem, *]; done)
          clear hb hz hsz2 r0 r1 r2 r3 r4 s0 s1 s2 s3 s4 q0 q1 q2 q3 q4 t0 t1 t2 t3 t4 g0 g1 g2 g3 g4
          rintro wr2 ⟨hb, hz, hsz2, ⟨r0, r1, r2, r3, r4, s0, s1, s2, s3, s4⟩, ⟨q0, q1, q2, q3, q4, t0, t1, t2, t3, t4⟩⟩
          obtain ⟨_, _, hA, hbl2, g0, g1, g2, g3, g4, _⟩ := Rd.atCorner (Hv.out.up hb) k hlt
          injection hA with hA; injection hA with hA1 hA2; subst hA1 hA2
          go_still_tail 9, (by kernel_rfl)
          go_upto_region 12 with (fail)
          refine gen_world (P := fun wx => Ext w wx ∧ w'.heap.size < wx.heap.size ∧ w.heap.size < wx.heap.size ∧ CBox wx w.heap.size zeroCorner ∧ CBox wx w'.heap.size { oc with cellEarly := min oc.cellEarly xs[k].cellEarly, wireEarly := min oc.wireEarly xs[k].wireEarly, cellLate := max oc.cellLate xs[k].cellLate }) ?_ ?_
          · refine ⟨(by (repeat (first | with_reducible exact Ext.refl _ | with_reducible assumption | with_reducible refine Ext.drew ?_ | with_reducible refine Ext.drewN ?_ _ | with_reducible refine Ext.alloc ?_ _ | ((with_reducible refine Ext.setCell ?_ ?_ _); rotate_left; focus (first | omega | (simp; done) | (simp; omega))) | with_reducible refine Ext.trans ?_ (by with_reducible assumption)))), by simp; omega, by simp; omega, ?_, ?_⟩
            · unfold CBox
              refine ⟨?_, ?_, ?_, ?_, ?_, ?_, ?_, ?_, ?_, ?_⟩ <;> first | (go_keep; done) | (simp [go_sem, *]; done)
            · unfold CBox
              refine ⟨?_, ?_, ?_, ?_, ?_, ?_, ?_, ?_, ?_, ?_⟩ <;> first | (go_keep; done) | (simp [go_sem, *]; done)
          clear hb hz hsz2 r0 r1 r2 r3 r4 s0 s1 s2 s3 s4 q0 q1 q2 q3 q4 t0 t1 t2 t3 t4 g0 g1 g2 g3 g4
          rintro wr3 ⟨hb, hz, hsz2, ⟨r0, r1, r2, r3, r4, s0, s1, s2, s3, s4⟩, ⟨q0, q1, q2, q3, q4, t0, t1, t2, t3, t4⟩⟩
          obtain ⟨_, _, hA, hbl2, g0, g1, g2, g3, g4, _⟩ := Rd.atCorner (Hv.out.up hb) k hlt
          injection hA with hA; injection hA with hA1 hA2; subst hA1 hA2
          go_still_tail 9, (by kernel_rfl)
          go_wp2
          refine ⟨⟨k + 1, by omega, by omega, by go_num, (by (repeat (first | with_reducible exact Ext.refl _ | with_reducible assumption | with_reducible refine Ext.drew ?_ | with_reducible refine Ext.drewN ?_ _ | with_reducible refine Ext.alloc ?_ _ | ((with_reducible refine Ext.setCell ?_ ?_ _); rotate_left; focus (first | omega | (simp; done) | (simp; omega))) | with_reducible refine Ext.trans ?_ (by with_reducible assumption)))), by simp; omega, ?_, ?_⟩, ?_⟩
          · unfold CBox
            refine ⟨?_, ?_, ?_, ?_, ?_, ?_, ?_, ?_, ?_, ?_⟩ <;> first | (go_keep; done) | (simp [go_sem, *]; done) | skip
          · rw [HT.out]
            unfold CBox hullStep
            have hon := HON.out
            refine ⟨?_, ?_, ?_, ?_, ?_, ?_, ?_, ?_, ?_, ?_⟩ <;> first | (go_keep; done) | (simp [go_sem, *]; done)
          · simp [intOf]; omega
        · obtain rfl : k = xs.length := by omega
          rw [List.take_of_length_le (Nat.le_refl _)] at q0 q1 q2 q3 q4
          go_wp2
          exact bodyPost_ret (v := .tuple #[cornerV { hullTo xs[0].name xs[0] xs with name := nm }, .int .i64 0]) (by simp [results, Tryd.results20, go_sem, *, cornerV]) rfl ⟨⟨_, 0, Or.inr (Or.inr ⟨HC.out, HN.out, hullTo_both nm xs hpos, rfl⟩), rfl⟩, (by (repeat (first | with_reducible exact Ext.refl _ | with_reducible assumption | with_reducible refine Ext.drew ?_ | with_reducible refine Ext.drewN ?_ _ | with_reducible refine Ext.alloc ?_ _ | ((with_reducible refine Ext.setCell ?_ ?_ _); rotate_left; focus (first | omega | (simp; done) | (simp; omega))) | with_reducible refine Ext.trans ?_ (by with_reducible assumption))))⟩
    · have hn1 := tf_mk_not hN
      have HN := Lib.hid hN
      clear hN
      go_enter Tryd.func20, Tryd.ntmps20
      go_wp2_with (first
        | (go_at_call 16; refine (w_sIsCornerList _ xs _ (Hv.out.up (by (repeat (first | with_reducible exact Ext.refl _ | with_reducible assumption | with_reducible refine Ext.drew ?_ | with_reducible refine Ext.drewN ?_ _ | with_reducible refine Ext.alloc ?_ _ | ((with_reducible refine Ext.setCell ?_ ?_ _); rotate_left; focus (first | omega | (simp; done) | (simp; omega))) | with_reducible refine Ext.trans ?_ (by with_reducible assumption)))))).mono ?_; rintro e w_he ⟨rfl, he⟩; have hz_he := he.size; (try simp at hz_he); obtain ⟨hl_he_0, hf_he_0⟩ := he.loc (w.heap.size) (by first | omega | (simp; done) | (simp; omega)))
        | (go_at_call 40; refine (w_l03Name _ _ hs).mono ?_; rintro e w' ⟨rfl, rfl⟩))
      exact bodyPost_ret (v := .tuple #[cornerV zeroCorner, .int .i64 2]) (by simp [results, Tryd.results20, go_sem, *, cornerV, zeroCorner]) rfl ⟨⟨zeroCorner, 2, Or.inr (Or.inl ⟨HC.out, HN.out, rfl, rfl⟩), rfl⟩, (by (repeat (first | with_reducible exact Ext.refl _ | with_reducible assumption | with_reducible refine Ext.drew ?_ | with_reducible refine Ext.drewN ?_ _ | with_reducible refine Ext.alloc ?_ _ | ((with_reducible refine Ext.setCell ?_ ?_ _); rotate_left; focus (first | omega | (simp; done) | (simp; omega))) | with_reducible refine Ext.trans ?_ (by with_reducible assumption))))⟩
  · have hc1 := tf_mk_not hC
    have HC := Lib.hid hC
    clear hC hne
    go_enter Tryd.func20, Tryd.ntmps20
    go_wp2_with (go_at_call 16; refine (w_sIsCornerList _ xs _ (Hv.out.up (by (repeat (first | with_reducible exact Ext.refl _ | with_reducible assumption | with_reducible refine Ext.drew ?_ | with_reducible refine Ext.drewN ?_ _ | with_reducible refine Ext.alloc ?_ _ | ((with_reducible refine Ext.setCell ?_ ?_ _); rotate_left; focus (first | omega | (simp; done) | (simp; omega))) | with_reducible refine Ext.trans ?_ (by with_reducible assumption)))))).mono ?_; rintro e w_he ⟨rfl, he⟩; have hz_he := he.size; (try simp at hz_he); obtain ⟨hl_he_0, hf_he_0⟩ := he.loc (w.heap.size) (by first | omega | (simp; done) | (simp; omega)))
    exact bodyPost_ret (v := .tuple #[cornerV zeroCorner, .int .i64 5]) (by simp [results, Tryd.results20, go_sem, *, cornerV, zeroCorner]) rfl ⟨⟨zeroCorner, 5, Or.inl ⟨HC.out, rfl, rfl⟩, rfl⟩, (by (repeat (first | with_reducible exact Ext.refl _ | with_reducible assumption | with_reducible refine Ext.drew ?_ | with_reducible refine Ext.drewN ?_ _ | with_reducible refine Ext.alloc ?_ _ | ((with_reducible refine Ext.setCell ?_ ?_ _); rotate_left; focus (first | omega | (simp; done) | (simp; omega))) | with_reducible refine Ext.trans ?_ (by with_reducible assumption))))⟩
end Go.Proofs.YtfbbbgonapgfiaaDoor
