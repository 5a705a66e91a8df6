/- append. No condition of its own. -/
import Derived.Test.YtbdokiecpmhjmaaGreatDoorPvOps5
import Derived.Laws.AppendOwn
namespace Go.Proofs.YtbdokiecpmhjmaaGreatDoor
set_option linter.unusedSimpArgs false
set_option linter.unusedVariables false
open Go.RowKit

/-- A header over cells that hold a list. -/
structure Hdr (w : World) (sz n : Nat) (v : Value) (olds : List Value) (g : Option Nat) : Prop where
  len : olds.length = n * sz
  form : (v = .slice none 0 0 ∧ n = 0 ∧ g = none) ∨ ∃ b cap cur t, v = .slice (some ⟨b, 0, none⟩) n cap ∧ g = some b ∧ w.heap[b]? = some (.cells cur t (0, 0)) ∧ n ≤ cap ∧ cap ≤ maxLen ∧ cur.size = cap * sz ∧ cur.toList.take (n * sz) = olds

theorem room_any {P : Program} {w : World} (t ty e : TypeId) (i : TypeInfo) (ht : P.underlying t = some (.slice e)) (hi : P.info? e = some i) (g sLen sCap : Nat) (cur : Array Value) (tt : TypeId) (hg : w.heap[g]? = some (.cells cur tt (0, 0)))
    (a : Addr) (m c : Nat) (news : List Value) (hl : news.length = m * i.size) (hnews : ∀ j u, news[j]? = some u → w.cell? (a.add j) = some u) (h1 : ∀ u ∈ news, u.oneCell' = true)
    (hroom : sLen + m ≤ sCap) (hfit : sLen * i.size + news.length ≤ cur.size) :
    (Builtin.append_ #[t, t] ty #[.slice (some ⟨g, 0, none⟩) sLen sCap, .slice (some a) m c]).run P w =
      .ok (.slice (some ⟨g, 0, none⟩) (sLen + m) sCap) (w.setRow g (cur.toList.take (sLen * i.size) ++ news ++ cur.toList.drop (sLen * i.size + news.length)).toArray) := by
  have hf := run_firstCells_some (P := P) w i.size m a m c news hl hnews
  have hst := run_storeCells_at P g (sLen * i.size) tt news 0 cur w hg (by simpa using hfit) h1
  simp only [Nat.add_zero] at hst
  simp [Builtin.append_, run_underlying ht, sizeOf, typeInfo, hi, Builtin.lenOf, hroom, hf, Addr.add_lit, hst]
/-- Nothing is appended. -/
theorem append_none {P : Program} {w : World} (t ty e : TypeId) (i : TypeInfo) (ht : P.underlying t = some (.slice e)) (hi : P.info? e = some i) (base A : Option Addr) (sLen sCap c : Nat) (hle : sLen ≤ sCap) :
    (Builtin.append_ #[t, t] ty #[.slice base sLen sCap, .slice A 0 c]).run P w = .ok (.slice base sLen sCap) w := by
  have hl : ∀ (x : Addr), (loadCells x 0).run P w = .ok #[] w := fun x => by simpa using run_loadCells_list (P := P) w x [] (by simp)
  cases base <;> cases A <;> simp [Builtin.append_, run_underlying ht, sizeOf, typeInfo, hi, Builtin.lenOf, hle, Builtin.firstCells, hl, storeCells]

/-- Something is appended: in place, or in a new block. -/
theorem append_some {P : Program} {w : World} (t ty e : TypeId) (i : TypeInfo) (z : Value) (ht : P.underlying t = some (.slice e)) (hi : P.info? e = some i) (hz : i.zero = some z) (hzs : z.cells.size = i.size) (hsz : 0 < i.size)
    {n : Nat} {v : Value} {olds : List Value} {g : Option Nat} (hv : Hdr w i.size n v olds g) (a : Addr) (m c : Nat) (news : List Value) (hl : news.length = m * i.size) (hnews : ∀ j u, news[j]? = some u → w.cell? (a.add j) = some u) (h1 : ∀ u ∈ news, u.oneCell' = true)
    (hm : 0 < m) (h63 : n + m ≤ maxLen) (hbytes : (n + m) * i.bytes ≤ 140737488355328) :
    ∃ v' w' g', (Builtin.append_ #[t, t] ty #[v, .slice (some a) m c]).run P w = .ok v' w' ∧ Hdr w' i.size (n + m) v' (olds ++ news) (some g') ∧ w.grownBy w' g ∧ (g = some g' ∨ (g' = w.heap.size ∧ g' < w'.heap.size)) := by
  have hsmall : n + m ≤ 9223372036854775807 := by simp only [maxLen] at h63; omega
  have hlen : (olds ++ news).length = (n + m) * i.size := by rw [List.length_append, hv.len, hl, Nat.add_mul]
  have grown : ∀ (old : Nat), old < n + m → ∀ (row : Option Nat),
      Hdr (w.drew.alloc (.cells (olds.toArray ++ news.toArray ++ Builtin.zeroCells z.cells (grownCap w (n + m) old e - (n + m))) e)) i.size (n + m)
        (.slice (some ⟨w.heap.size, 0, none⟩) (n + m) (grownCap w (n + m) old e)) (olds ++ news) (some w.heap.size) ∧
      w.grownBy (w.drew.alloc (.cells (olds.toArray ++ news.toArray ++ Builtin.zeroCells z.cells (grownCap w (n + m) old e - (n + m))) e)) row := by
    intro old ho row
    have hge := grownCap_ge w (n + m) old e
    have hcm : grownCap w (n + m) old e ≤ maxLen := grownCap_le_maxLen w (n + m) old e h63
    refine ⟨⟨hlen, .inr ⟨w.heap.size, _, _, _, rfl, rfl, heap_alloc_new w.drew _, hge, hcm, ?_, ?_⟩⟩, ⟨rfl, rfl, rfl, by simp, fun k hk _ => heap_alloc_old w.drew _ k hk⟩⟩
    · simp only [Array.size_append, List.size_toArray, size_zeroCells, hzs, hv.len, hl, ← Nat.add_mul]
      congr 1
      omega
    · simp only [Array.toList_append, List.append_assoc]
      rw [← List.append_assoc, ← hlen]
      exact List.take_left
  rcases hv.form with ⟨rfl, rfl, rfl⟩ | ⟨b, cap, cur, tt, rfl, rfl, hg, hnc, hcm, hcs, htake⟩
  · have hx : olds = [] := List.eq_nil_of_length_eq_zero (by simpa using hv.len)
    subst hx
    have hr := run_append_nil (P := P) w t ty e i z ht hi hz a m c news hl hnews hm (by omega) (by have hb := hbytes; simp only [Nat.zero_add] at hb; omega)
    have hgr := grown 0 (by omega) none
    simp only [Nat.zero_add, List.nil_append, Array.empty_append] at hgr ⊢
    exact ⟨_, _, _, hr, hgr.1, hgr.2, .inr ⟨rfl, by simp⟩⟩
  · by_cases hroom : n + m ≤ cap
    · have hfit : n * i.size + news.length ≤ cur.size := by rw [hl, hcs, ← Nat.add_mul]; exact Nat.mul_le_mul_right _ hroom
      have hr := room_any (P := P) t ty e i ht hi b n cap cur tt hg a m c news hl hnews h1 hroom hfit
      refine ⟨_, _, b, hr, ⟨hlen, .inr ⟨b, cap, _, tt, rfl, rfl, setRow_heap w b cur _ tt _ hg, hroom, hcm, ?_, ?_⟩⟩, ⟨rfl, rfl, rfl, by simp, fun k _ hk => setRow_other w b k _ (fun e => hk (by rw [e]))⟩, .inl rfl⟩
      · simp only [List.size_toArray, List.length_append, List.length_take, List.length_drop, Array.length_toList]
        omega
      · rw [htake, ← hlen]
        exact List.take_left
    · have holds : ∀ j u, olds[j]? = some u → w.cell? ((⟨b, 0, none⟩ : Addr).add j) = some u := by
        intro j u hu
        rw [addr_add, cell_of_row hg, Nat.zero_add]
        rw [← htake, List.getElem?_take] at hu
        split at hu
        · simpa using hu
        · cases hu
      have hr := run_append_grow (P := P) w t ty e i z ht hi hz ⟨b, 0, none⟩ n cap olds hv.len holds a m c news hl hnews (by omega) (by omega) (growslice_fits (by omega) hbytes)
      have hgr := grown cap (by omega) (some b)
      exact ⟨_, _, _, hr, hgr.1, hgr.2, .inr ⟨rfl, by simp⟩⟩

/-- The cells of a slice that is read. -/
theorem slice_cells {w : World} {ok : Nat → Prop} {e : Ty} {xs : List e.den} {b o : Nat} (hc : ∀ (i : Nat) (h : i < xs.length), ∃ us, e.rp w ok us xs[i] ∧ CellsAt w b (o + i * e.sz) us) :
    ∃ news : List Value, news.length = xs.length * e.sz ∧ (∀ j u, news[j]? = some u → w.cell? ⟨b, o + j, none⟩ = some u) ∧ (∀ u ∈ news, u.oneCell' = true) ∧
      ∀ (i : Nat) (h : i < xs.length), ∃ us, e.rp w ok us xs[i] ∧ ∀ j u, us[j]? = some u → news[i * e.sz + j]? = some u := by
  induction xs generalizing o with
  | nil => exact ⟨[], by simp, by simp, by simp, fun i h => absurd h (by simp)⟩
  | cons x xs ih =>
    obtain ⟨us, hr, hu⟩ := hc 0 (by simp)
    obtain ⟨news, h1, h2, h3, h4⟩ := ih (o := o + e.sz) (fun i hi => by
      obtain ⟨us, hr, hu⟩ := hc (i + 1) (by simpa using hi)
      exact ⟨us, by simpa using hr, by rw [show o + e.sz + i * e.sz = o + (i + 1) * e.sz by rw [Nat.succ_mul]; omega]; exact hu⟩)
    have hul : us.length = e.sz := Ty.rp_len _ hr
    refine ⟨us ++ news, by rw [List.length_append, hul, h1, List.length_cons, Nat.succ_mul]; omega, fun j u hj => ?_, fun u hm => ?_, fun i hi => ?_⟩
    · rw [List.getElem?_append] at hj
      split at hj
      · have := hu j u hj
        simpa using this
      · rw [hul] at hj
        have := h2 _ u hj
        rwa [show o + e.sz + (j - e.sz) = o + j by omega] at this
    · rcases List.mem_append.1 hm with hm | hm
      · exact Ty.rp_one _ hr u hm
      · exact h3 u hm
    · cases i with
      | zero => exact ⟨us, by simpa using hr, fun j u hj => by rw [Nat.zero_mul, Nat.zero_add, List.getElem?_append_left (List.getElem?_eq_some_iff.1 hj).1]; exact hj⟩
      | succ i =>
        obtain ⟨us', hr', hu'⟩ := h4 i (by simpa using hi)
        refine ⟨us', by simpa using hr', fun j u hj => ?_⟩
        rw [List.getElem?_append_right (by rw [hul, Nat.succ_mul]; omega), hul, show (i + 1) * e.sz + j - e.sz = i * e.sz + j by rw [Nat.succ_mul]; omega]
        exact hu' j u hj

section
variable {ρ : Type} {P : Program} {C : Ctx} {I : Inl ρ} {w0 : World} {ok0 : Nat → Prop} {fr : Nat → Value} {σ : Env} {o : Oper} {K : AV → Env → Option ρ} {r : ρ}

theorem beq_ne {i j : Nat} (h : i ≠ j) : Nat.beq i j = false := by
  cases hb : Nat.beq i j
  · rfl
  · exact absurd (Nat.eq_of_beq_eq_true hb) h
theorem Cap.has_of_leads {id : Nat} {c : Cap} (h : c.leads id) : c.has id = true := by
  cases c with
  | vptr i o => obtain rfl : i = id := h; exact Nat.beq_refl _
  | own i => obtain rfl : i = id := h; exact Nat.beq_refl _
  | dat τ x => exact h.elim
theorem frame_mapC {f : AC → AC} {q : Ob} {k : Nat} {l : List (Nat × AV)} (h : q.mapC f = .frame k l) : ∃ l', q = .frame k l' := by
  cases q with
  | frame k' l' =>
    have : k' = k := by injection h
    exact ⟨l', by rw [this]⟩
  | _ => cases h
theorem RC.killed {w w' : World} {ok ok' : Nat → Prop} {G G' : GM} {c : AC} {v : Value} (id : Nat) (h : RC w ok G c v) (hk : ∀ b, ok b → w'.heap[b]? = w.heap[b]?) (hm : ∀ b, ok b → ok' b)
    (hG : ∀ i gh, i ≠ id → G i = some gh → G' i = some gh) : RC w' ok' G' (c.kill id) v := by
  have plain : (∀ i, c.leads i → i ≠ id) → RC w' ok' G' c v := fun hne => h.mono hk hm fun i gh hl => hG i gh (hne i hl)
  cases c with
  | own i =>
    by_cases hi : i = id
    · subst hi; simp [AC.kill]; exact trivial
    · have : Nat.beq i id = false := beq_ne hi
      simp only [AC.kill, this, cond_false]
      exact plain fun j hj => by obtain rfl : i = j := hj; exact hi
  | vptr i _ =>
    by_cases hi : i = id
    · subst hi; simp [AC.kill]; exact trivial
    · have : Nat.beq i id = false := beq_ne hi
      simp only [AC.kill, this, cond_false]
      exact plain fun j hj => by obtain rfl : i = j := hj; exact hi
  | eptr i _ _ _ =>
    by_cases hi : i = id
    · subst hi; simp [AC.kill]; exact trivial
    · have : Nat.beq i id = false := beq_ne hi
      simp only [AC.kill, this, cond_false]
      exact plain fun j hj => by obtain rfl : i = j := hj; exact hi
  | inn i _ =>
    by_cases hi : i = id
    · subst hi; simp [AC.kill]; exact trivial
    · have : Nat.beq i id = false := beq_ne hi
      simp only [AC.kill, this, cond_false]
      exact plain fun j hj => by obtain rfl : i = j := hj; exact hi
  | opre i _ _ =>
    by_cases hi : i = id
    · subst hi; simp [AC.kill]; exact trivial
    · have : Nat.beq i id = false := beq_ne hi
      simp only [AC.kill, this, cond_false]
      exact plain fun j hj => by obtain rfl : i = j := hj; exact hi
  | osub i _ _ =>
    by_cases hi : i = id
    · subst hi; simp [AC.kill]; exact trivial
    · have : Nat.beq i id = false := beq_ne hi
      simp only [AC.kill, this, cond_false]
      exact plain fun j hj => by obtain rfl : i = j := hj; exact hi
  | cloA g cs =>
    cases hb : cs.any (Cap.has id) with
    | true => simp only [AC.kill, hb, cond_true]; exact trivial
    | false =>
      simp only [AC.kill, hb, cond_false]
      refine plain fun j hj => ?_
      rintro rfl
      obtain ⟨c, hc, hl⟩ := hj
      have : cs.any (Cap.has j) = true := List.any_eq_true.2 ⟨c, hc, Cap.has_of_leads hl⟩
      rw [hb] at this; cases this
  | _ => exact plain fun j hj => hj.elim

theorem kill_same {id : Nat} {c : AC} (h : c.has id = false) : c.kill id = c := by
  cases c <;> first | rfl | (simp only [AC.has] at h; simp only [AC.kill, h, cond_false])
theorem kill_sameL {id : Nat} : ∀ (cs : List AC), cs.any (AC.has id) = false → cs.map (AC.kill id) = cs
  | [], _ => rfl
  | c :: cs, h => by
    simp only [List.any_cons, Bool.or_eq_false_iff] at h
    rw [List.map_cons, kill_same h.1, kill_sameL cs h.2]
theorem kill_sameV {id : Nat} {v : AV} (h : v.anyC (AC.has id) = false) : v.mapC (AC.kill id) = v := by
  cases v with
  | one c => simp only [AV.mapC]; rw [kill_same h]
  | agg cs => simp only [AV.mapC]; rw [kill_sameL cs h]
  | tup vs =>
    simp only [AV.mapC, AV.anyC] at h ⊢
    congr 1
    induction vs with
    | nil => rfl
    | cons p vs ih =>
      simp only [List.any_cons, Bool.or_eq_false_iff] at h
      rw [List.map_cons, kill_sameL _ h.1, ih h.2]
theorem kill_sameO {id : Nat} {v : Ob} (h : v.anyC (AC.has id) = false) : v.mapC (AC.kill id) = v := by
  cases v with
  | var cs => simp only [Ob.mapC]; rw [kill_sameL cs h]
  | frame k l =>
    simp only [Ob.mapC, Ob.anyC] at h ⊢
    congr 1
    induction l with
    | nil => rfl
    | cons p l ih =>
      simp only [List.any_cons, Bool.or_eq_false_iff] at h
      rw [List.map_cons, kill_sameV h.1, ih h.2]
  | _ => rfl
theorem killT (σ : Env) (id : Nat) (i : Nat) (p : Nat × AV) (h : (σ.kill id).t[i]? = some p) : ∃ q, σ.t[i]? = some q ∧ p.2 = q.2.mapC (AC.kill id) := by
  simp only [Env.kill, List.getElem?_map] at h
  obtain ⟨q, hq, rfl⟩ := Option.map_eq_some_iff.1 h
  refine ⟨q, hq, ?_⟩
  cases hb : q.2.anyC (AC.has id)
  · simp [kill_sameV hb]
  · simp
theorem killH (σ : Env) (id : Nat) (i : Nat) (q : Nat × Ob) (h : σ.h[i]? = some q) : ∃ p, (σ.kill id).h[i]? = some p ∧ p.2 = q.2.mapC (AC.kill id) := by
  simp only [Env.kill, List.getElem?_map, h]
  refine ⟨_, rfl, ?_⟩
  cases hb : q.2.anyC (AC.has id)
  · rw [kill_sameO hb]; simp [hb]
  · simp [hb]
theorem killH' (σ : Env) (id : Nat) (i : Nat) (p : Nat × Ob) (h : (σ.kill id).h[i]? = some p) : ∃ q, σ.h[i]? = some q ∧ p.2 = q.2.mapC (AC.kill id) := by
  simp only [Env.kill, List.getElem?_map] at h
  obtain ⟨q, hq, rfl⟩ := Option.map_eq_some_iff.1 h
  refine ⟨q, hq, ?_⟩
  cases hb : q.2.anyC (AC.has id)
  · simp [kill_sameO hb]
  · simp
theorem kill_len (σ : Env) (id : Nat) : (σ.kill id).t.length = σ.t.length ∧ (σ.kill id).h.length = σ.h.length := by simp [Env.kill]

theorem same_L {g : AC → Bool} {f : AC → AC} (hs : ∀ c, g c = false → f c = c) : ∀ (cs : List AC), cs.any g = false → cs.map f = cs
  | [], _ => rfl
  | c :: cs, h => by
    simp only [List.any_cons, Bool.or_eq_false_iff] at h
    rw [List.map_cons, hs c h.1, same_L hs cs h.2]
theorem same_V {g : AC → Bool} {f : AC → AC} (hs : ∀ c, g c = false → f c = c) {v : AV} (h : v.anyC g = false) : v.mapC f = v := by
  cases v with
  | one c => simp only [AV.mapC]; rw [hs c h]
  | agg cs => simp only [AV.mapC]; rw [same_L hs cs h]
  | tup vs =>
    simp only [AV.mapC, AV.anyC] at h ⊢
    congr 1
    induction vs with
    | nil => rfl
    | cons p vs ih =>
      simp only [List.any_cons, Bool.or_eq_false_iff] at h
      rw [List.map_cons, same_L hs _ h.1, ih h.2]
theorem same_O {g : AC → Bool} {f : AC → AC} (hs : ∀ c, g c = false → f c = c) {v : Ob} (h : v.anyC g = false) : v.mapC f = v := by
  cases v with
  | var cs => simp only [Ob.mapC]; rw [same_L hs cs h]
  | frame k l =>
    simp only [Ob.mapC, Ob.anyC] at h ⊢
    congr 1
    induction l with
    | nil => rfl
    | cons p l ih =>
      simp only [List.any_cons, Bool.or_eq_false_iff] at h
      rw [List.map_cons, same_V hs h.1, ih h.2]
  | _ => rfl
theorem killI_same {id : Nat} (c : AC) (h : c.hasI id = false) : c.killI id = c := by
  cases c <;> first | rfl | (simp only [AC.hasI] at h; simp only [AC.killI, h, cond_false])
theorem killIT (σ : Env) (id : Nat) (i : Nat) (p : Nat × AV) (h : (σ.killI id).t[i]? = some p) : ∃ q, σ.t[i]? = some q ∧ p.2 = q.2.mapC (AC.killI id) := by
  simp only [Env.killI, List.getElem?_map] at h
  obtain ⟨q, hq, rfl⟩ := Option.map_eq_some_iff.1 h
  refine ⟨q, hq, ?_⟩
  cases hb : q.2.anyC (AC.hasI id)
  · simp [same_V killI_same hb]
  · simp
theorem killIH (σ : Env) (id : Nat) (i : Nat) (q : Nat × Ob) (h : σ.h[i]? = some q) : ∃ p, (σ.killI id).h[i]? = some p ∧ p.2 = q.2.mapC (AC.killI id) := by
  simp only [Env.killI, List.getElem?_map, h]
  refine ⟨_, rfl, ?_⟩
  cases hb : q.2.anyC (AC.hasI id)
  · rw [same_O killI_same hb]; simp [hb]
  · simp [hb]
theorem killIH' (σ : Env) (id : Nat) (i : Nat) (p : Nat × Ob) (h : (σ.killI id).h[i]? = some p) : ∃ q, σ.h[i]? = some q ∧ p.2 = q.2.mapC (AC.killI id) := by
  simp only [Env.killI, List.getElem?_map] at h
  obtain ⟨q, hq, rfl⟩ := Option.map_eq_some_iff.1 h
  refine ⟨q, hq, ?_⟩
  cases hb : q.2.anyC (AC.hasI id)
  · simp [same_O killI_same hb]
  · simp
theorem killI_len (σ : Env) (id : Nat) : (σ.killI id).t.length = σ.t.length ∧ (σ.killI id).h.length = σ.h.length := by simp [Env.killI]
theorem Fr.killI (σ : Env) (id : Nat) : Fr σ (σ.killI id) := by
  refine ⟨by simp [Env.killI], by simp [Env.killI], fun i p p' hp hp' => ?_, fun i p p' hp hp' => ?_⟩
  · simp only [Env.killI, List.getElem?_map, hp, Option.map_some, Option.some.injEq] at hp'
    subst hp'
    cases p.2.anyC (AC.hasI id)
    · exact ⟨Nat.le_refl _, fun _ => rfl⟩
    · exact ⟨Nat.le_succ _, fun e => by simp at e⟩
  · simp only [Env.killI, List.getElem?_map, hp, Option.map_some, Option.some.injEq] at hp'
    subst hp'
    cases p.2.anyC (AC.hasI id)
    · exact ⟨Nat.le_refl _, fun _ => rfl⟩
    · exact ⟨Nat.le_succ _, fun e => by simp at e⟩

/-- A row of the call's own grows. -/
theorem Rel.regrowG {a : Act} {w w' : World} {G : GM} (hR : Rel w0 ok0 fr σ a w G) {id : Nat} {gh gh' : Gh} {ob : Ob} {σ1 : Env} {f : AC → AC} {B : Option Nat} (hg : G id = some gh) (hgr : w.grownBy w' B) (hB : ∀ b, B = some b → gh.has b)
    (hbk : ∀ b, gh'.has b → gh.has b ∨ (b = w.heap.size ∧ w.heap.size < w'.heap.size))
    (hlT : σ1.t.length = σ.t.length) (hlH : σ1.h.length = σ.h.length)
    (hT : ∀ (i : Nat) (p : Nat × AV), σ1.t[i]? = some p → ∃ q : Nat × AV, σ.t[i]? = some q ∧ p.2 = q.2.mapC f)
    (hH : ∀ (i : Nat) (q : Nat × Ob), σ.h[i]? = some q → ∃ p : Nat × Ob, σ1.h[i]? = some p ∧ p.2 = q.2.mapC f)
    (hH' : ∀ (i : Nat) (p : Nat × Ob), σ1.h[i]? = some p → ∃ q : Nat × Ob, σ.h[i]? = some q ∧ p.2 = q.2.mapC f)
    (hf : ∀ G' : GM, (∀ b', imm w0 ok0 w G b' → w'.heap[b']? = w.heap[b']?) → (∀ b', imm w0 ok0 w G b' → imm w0 ok0 w' G' b') → G' id = some gh' → (∀ i, i ≠ id → G' i = G i) → ∀ c v, RC w (imm w0 ok0 w G) G c v → RC w' (imm w0 ok0 w' G') G' (f c) v)
    (ho : ∀ G' : GM, (∀ b', imm w0 ok0 w G b' → w'.heap[b']? = w.heap[b']?) → (∀ b', imm w0 ok0 w G b' → imm w0 ok0 w' G' b') → ObR w' (imm w0 ok0 w' G') G' gh' ob) (hnf : ∀ k l, ob ≠ .frame k l) :
    ∃ G', G' id = some gh' ∧ Rel w0 ok0 fr (σ1.setOb id ob) a w' G' := by
  let G' : GM := fun i => if i = id then some gh' else G i
  have gn : G' id = some gh' := if_pos rfl
  have go : ∀ i, i ≠ id → G' i = G i := fun i h => if_neg h
  have hk : ∀ b', imm w0 ok0 w G b' → w'.heap[b']? = w.heap[b']? := fun b' hi => hgr.block b' hi.2.1 (fun e => hi.2.2 id gh hg (hB b' e.symm))
  have hm : ∀ b', imm w0 ok0 w G b' → imm w0 ok0 w' G' b' := fun b' hi => ⟨hi.1, Nat.lt_of_lt_of_le hi.2.1 hgr.size, fun i g hgi he => by
    by_cases h : i = id
    · subst h
      rw [gn] at hgi
      cases hgi
      rcases hbk b' he with h1 | ⟨h1, _⟩
      · exact hi.2.2 i gh hg h1
      · exact absurd hi.2.1 (by omega)
    · rw [go i h] at hgi; exact hi.2.2 i g hgi he⟩
  have hrc := hf G' hk hm gn go
  refine ⟨G', gn, ⟨by simpa [Env.setOb, hlT] using hR.len, fun i p v hp hv => ?_, hR.dfs, ⟨fun i g hgi => ?_, fun i j g g' b h1 h2 h3 h4 => ?_, fun i g b h1 h2 => ?_, ?_⟩, fun i p k l hp hk' => ?_⟩⟩
  · obtain ⟨q, hq, he⟩ := hT i p hp
    rw [he]
    exact (hR.tmp i q v hq hv).mapC hrc
  · simp only [Env.setOb, getElem?_setN, hlH]
    by_cases h : i = id
    · subst h
      rw [gn] at hgi
      cases hgi
      obtain ⟨p, hp, _⟩ := hR.st.ob i gh hg
      rw [if_pos ⟨rfl, (List.getElem?_eq_some_iff.1 hp).1⟩]
      exact ⟨_, rfl, ho G' hk hm⟩
    · rw [go i h] at hgi
      obtain ⟨p, hp, hob⟩ := hR.st.ob i g hgi
      rw [if_neg (fun e => h e.1)]
      obtain ⟨p', hp', he'⟩ := hH i p hp
      rw [hp']
      refine ⟨_, rfl, ?_⟩
      rw [he']
      refine hob.mapC hk hm (fun b hb => hgr.block b (hR.st.low i g b hgi hb).2 (fun e => h (hR.st.inj i id g gh b hgi hg hb (hB b e.symm)))) hrc
  · by_cases hi : i = id
    · by_cases hj : j = id
      · rw [hi, hj]
      · subst hi
        rw [gn] at h1
        cases h1
        rw [go j hj] at h2
        rcases hbk b h3 with e | ⟨e, _⟩
        · exact hR.st.inj i j gh g' b hg h2 e h4
        · exact absurd (hR.st.low j g' _ h2 h4).2 (by omega)
    · rw [go i hi] at h1
      by_cases hj : j = id
      · subst hj
        rw [gn] at h2
        cases h2
        rcases hbk b h4 with e | ⟨e, _⟩
        · exact hR.st.inj i j g gh b h1 hg h3 e
        · exact absurd (hR.st.low i g _ h1 h3).2 (by omega)
      · rw [go j hj] at h2
        exact hR.st.inj i j g g' b h1 h2 h3 h4
  · by_cases hi : i = id
    · subst hi
      rw [gn] at h1
      cases h1
      rcases hbk b h2 with e | ⟨e, h⟩
      · have := hR.st.low i gh b hg e
        exact ⟨this.1, Nat.lt_of_lt_of_le this.2 hgr.size⟩
      · subst e
        exact ⟨hR.st.ext.size, h⟩
    · rw [go i hi] at h1
      have := hR.st.low i g b h1 h2
      exact ⟨this.1, Nat.lt_of_lt_of_le this.2 hgr.size⟩
  · exact Below.grown hR.st.ext hgr hR.st.ext.size (fun k hk => (hR.st.low id gh k hg (hB k hk)).1)
  · simp only [Env.setOb, getElem?_setN] at hp
    split at hp
    · cases hp; exact absurd hk' (hnf k l)
    · rename_i hne
      obtain ⟨q, hq, he⟩ := hH' i p hp
      obtain ⟨l', hl'⟩ := frame_mapC (he.symm.trans hk')
      have hi : i ≠ id := by
        rintro rfl
        exact hne ⟨rfl, by rw [hlH]; exact (List.getElem?_eq_some_iff.1 hq).1⟩
      rw [go i hi]
      exact hR.frm i q k l' hq hl'
theorem Rel.regrow {a : Act} {w w' : World} {G : GM} (hR : Rel w0 ok0 fr σ a w G) {id : Nat} {gh gh' : Gh} {ob : Ob} (hg : G id = some gh) (hgr : w.grownBy w' gh.blk)
    (hbk : gh'.blk = gh.blk ∨ (gh'.blk = some w.heap.size ∧ w.heap.size < w'.heap.size)) (hin : gh'.inn = gh.inn)
    (ho : ∀ G' : GM, (∀ b', imm w0 ok0 w G b' → w'.heap[b']? = w.heap[b']?) → (∀ b', imm w0 ok0 w G b' → imm w0 ok0 w' G' b') → ObR w' (imm w0 ok0 w' G') G' gh' ob) (hnf : ∀ k l, ob ≠ .frame k l := by intro k l h; cases h) :
    ∃ G', G' id = some gh' ∧ Rel w0 ok0 fr ((σ.kill id).setOb id ob) a w' G' := by
  refine hR.regrowG (σ1 := σ.kill id) (f := AC.kill id) hg hgr (fun b h => .inl h) (fun b hb => ?_) (kill_len σ id).1 (kill_len σ id).2 (killT σ id) (killH σ id) (killH' σ id) (fun G' hk hm _ go c v h => h.killed id hk hm fun i g h1 h2 => by rw [go i h1]; exact h2) ho hnf
  rcases hb with hb | hb
  · rcases hbk with e | ⟨e, h⟩
    · exact .inl (.inl (by rw [← e]; exact hb))
    · rw [e] at hb; exact .inr ⟨(Option.some.inj hb).symm, h⟩
  · rw [hin] at hb; exact .inl (.inr hb)
theorem RC.killedI {w w' : World} {ok ok' : Nat → Prop} {G G' : GM} {c : AC} {v : Value} (id : Nat) {gh gh' : Gh} (hg : G id = some gh) (hg' : G' id = some gh') (hbl : gh'.blk = gh.blk) (hhd : gh'.hdr = gh.hdr) (h : RC w ok G c v) (hk : ∀ b, ok b → w'.heap[b]? = w.heap[b]?) (hm : ∀ b, ok b → ok' b)
    (hG : ∀ i, i ≠ id → G' i = G i) : RC w' ok' G' (c.killI id) v := by
  have look : ∀ i g, G i = some g → ∃ g', G' i = some g' ∧ g'.blk = g.blk ∧ g'.hdr = g.hdr := fun i g h => by
    by_cases hi : i = id
    · subst hi; rw [hg] at h; cases h; exact ⟨gh', hg', hbl, hhd⟩
    · exact ⟨g, by rw [hG i hi]; exact h, rfl, rfl⟩
  cases c with
  | own i => obtain ⟨g, h1, h2⟩ := h; obtain ⟨g', k1, _, k3⟩ := look i g h1; exact ⟨g', k1, by rw [k3]; exact h2⟩
  | vptr i o => obtain ⟨g, b, h1, h2, h3⟩ := h; obtain ⟨g', k1, k2, _⟩ := look i g h1; exact ⟨g', b, k1, by rw [k2]; exact h2, h3⟩
  | eptr i e k o => obtain ⟨g, b, h1, h2, h3⟩ := h; obtain ⟨g', k1, k2, _⟩ := look i g h1; exact ⟨g', b, k1, by rw [k2]; exact h2, h3⟩
  | inn i k =>
    by_cases hi : i = id
    · subst hi; simp [AC.killI]; exact trivial
    · have : Nat.beq i id = false := beq_ne hi
      simp only [AC.killI, this, cond_false]
      obtain ⟨g, h1, h2⟩ := h
      exact ⟨g, by rw [hG i hi]; exact h1, h2⟩
  | opre i e lo => obtain ⟨g, A, n, c, h1, h2, h3⟩ := h; obtain ⟨g', k1, _, k3⟩ := look i g h1; exact ⟨g', A, n, c, k1, by rw [k3]; exact h2, h3⟩
  | osub i e lo => obtain ⟨g, A, n, c, h1, h2, h3⟩ := h; obtain ⟨g', k1, _, k3⟩ := look i g h1; exact ⟨g', A, n, c, k1, by rw [k3]; exact h2, h3⟩
  | cloA g cs =>
    obtain ⟨us, h1, h2, h3⟩ := h
    refine ⟨us, h1, h2, fun i c u hc hu => ?_⟩
    have := h3 i c u hc hu
    cases c with
    | vptr i o => obtain ⟨g, b, h1, h2, h3⟩ := this; obtain ⟨g', k1, k2, _⟩ := look i g h1; exact ⟨g', b, k1, by rw [k2]; exact h2, h3⟩
    | own i => obtain ⟨g, h1, h2⟩ := this; obtain ⟨g', k1, _, k3⟩ := look i g h1; exact ⟨g', k1, by rw [k3]; exact h2⟩
    | dat τ x => exact Ty.rp_keep _ this hk hm
  | _ => exact RC.mono h hk hm fun i g hl => hl.elim
/-- A row within a row grows. -/
theorem Rel.regrowI {a : Act} {w w' : World} {G : GM} (hR : Rel w0 ok0 fr σ a w G) {id : Nat} {gh gh' : Gh} {ob : Ob} {B : Option Nat} (hg : G id = some gh) (hgr : w.grownBy w' B) (hB : ∀ b, B = some b → gh.has b)
    (hbk : ∀ b, gh'.has b → gh.has b ∨ (b = w.heap.size ∧ w.heap.size < w'.heap.size)) (hbl : gh'.blk = gh.blk) (hhd : gh'.hdr = gh.hdr)
    (ho : ∀ G' : GM, (∀ b', imm w0 ok0 w G b' → w'.heap[b']? = w.heap[b']?) → (∀ b', imm w0 ok0 w G b' → imm w0 ok0 w' G' b') → ObR w' (imm w0 ok0 w' G') G' gh' ob) (hnf : ∀ k l, ob ≠ .frame k l := by intro k l h; cases h) :
    ∃ G', G' id = some gh' ∧ Rel w0 ok0 fr ((σ.killI id).setOb id ob) a w' G' :=
  hR.regrowG (σ1 := σ.killI id) (f := AC.killI id) hg hgr hB hbk (killI_len σ id).1 (killI_len σ id).2 (killIT σ id) (killIH σ id) (killIH' σ id) (fun _ hk hm gn go _ _ h => h.killedI id hg gn hbl hhd hk hm go) ho hnf

/-- What is appended. -/
theorem rowOf_src {h : List (Nat × Ob)} {w : World} {G : GM} (hst : St w0 ok0 h w G) (hσ : σ.h = h) {e : Ty} {x : AC} {X : Value} {ys : List e.den} (hy : rowOf σ e x = some ys) (hx : RC w (imm w0 ok0 w G) G x X) :
    ∃ A c, X = .slice A ys.length c ∧ (0 < ys.length → ∃ b o, A = some ⟨b, o, none⟩ ∧ ∀ (i : Nat) (h : i < ys.length), ∃ us, e.rp w (imm w0 ok0 w G) us ys[i] ∧ CellsAt w b (o + i * e.sz) us) := by
  subst hσ
  unfold rowOf at hy
  split at hy
  · obtain ⟨rfl, rfl⟩ := Ty.castL_eq hy
    obtain ⟨A, cap, he, h1, h2, h3⟩ := hx
    refine ⟨A, cap, List.singleton_inj.1 he, fun h0 => ?_⟩
    obtain ⟨b, o, hA, _, hc⟩ := h3 h0
    exact ⟨b, o, hA, hc⟩
  · obtain ⟨rfl, rfl⟩ := Ty.castL_eq hy
    obtain ⟨⟨A, cap, he, h1, h2, h3⟩, _⟩ := hx
    refine ⟨A, cap, List.singleton_inj.1 he, fun h0 => ?_⟩
    obtain ⟨b, o, hA, _, hc⟩ := h3 h0
    exact ⟨b, o, hA, hc⟩
  · cases hy
    obtain rfl : X = _ := hx
    exact ⟨none, 0, rfl, fun h0 => absurd h0 (by simp)⟩
  · rename_i id
    obtain ⟨gh, hg, rfl⟩ := hx
    split at hy
    · rename_i e' xs hob
      obtain ⟨rfl, rfl⟩ := Ty.castL_eq hy
      have hr := hst.obOf (h := σ.h) (fun i p hp => ⟨p, hp, rfl⟩) hg (by rw [show (nth σ.h id (0, .gone)).2 = _ from hob]; simp)
      rw [show (nth σ.h id (0, .gone)).2 = _ from hob] at hr
      rcases hr with ⟨_, hh, rfl⟩ | ⟨b, cap, cur, ty, hb, hh, hc, _, _, _, hel⟩
      · exact ⟨none, 0, hh, fun h0 => absurd h0 (by simp)⟩
      · refine ⟨_, cap, hh, fun _ => ⟨b, 0, rfl, fun i hi => ?_⟩⟩
        obtain ⟨us, hu, hcu⟩ := hel i hi
        exact ⟨us, hu, fun j u hj => by rw [cell_of_row hc, Nat.zero_add]; exact hcu j u hj⟩
    · cases hy
  · cases hy

/-- The two lists' cells make the list's. -/
theorem join_rows {w w' : World} {ok ok' : Nat → Prop} {e : Ty} {xs ys : List e.den} {olds news : List Value} {v' : Value} {g' : Nat} (hk : ∀ b, ok b → w'.heap[b]? = w.heap[b]?) (hm : ∀ b, ok b → ok' b)
    (ho : olds.length = xs.length * e.sz) (h1 : ∀ (i : Nat) (h : i < xs.length), ∃ us, e.rp w ok us xs[i] ∧ ∀ j u, us[j]? = some u → olds[i * e.sz + j]? = some u)
    (h2 : ∀ (i : Nat) (h : i < ys.length), ∃ us, e.rp w ok us ys[i] ∧ ∀ j u, us[j]? = some u → news[i * e.sz + j]? = some u)
    (hd : Hdr w' e.sz (xs.length + ys.length) v' (olds ++ news) (some g')) (hpos : 0 < ys.length) : RowR w' ok' (some g') v' e (xs ++ ys) := by
  rcases hd.form with ⟨_, _, h⟩ | ⟨b, cap, cur, t, rfl, hb, hh, hle, hcm, hcs, htk⟩
  · cases h
  cases hb
  refine .inr ⟨_, cap, cur, t, rfl, by rw [List.length_append], hh, by rw [List.length_append]; exact hle, hcm, hcs, fun i hi => ?_⟩
  have get : ∀ (j : Nat) (u : Value), (olds ++ news)[j]? = some u → cur[j]? = some u := by
    intro j u hj
    rw [← htk, List.getElem?_take] at hj
    split at hj
    · simpa using hj
    · cases hj
  by_cases hx : i < xs.length
  · obtain ⟨us, hu, hc⟩ := h1 i hx
    refine ⟨us, by rw [List.getElem_append_left hx]; exact Ty.rp_keep _ hu hk hm, fun j u hj => get _ u ?_⟩
    have := hc j u hj
    rw [List.getElem?_append_left (List.getElem?_eq_some_iff.1 this).1]
    exact this
  · rw [List.length_append] at hi
    obtain ⟨us, hu, hc⟩ := h2 (i - xs.length) (by omega)
    refine ⟨us, by rw [List.getElem_append_right (by omega)]; exact Ty.rp_keep _ hu hk hm, fun j u hj => get _ u ?_⟩
    have := hc j u hj
    have e1 : i * e.sz = xs.length * e.sz + (i - xs.length) * e.sz := by rw [← Nat.add_mul]; congr 1; omega
    rw [List.getElem?_append_right (by omega), ho, show i * e.sz + j - xs.length * e.sz = (i - xs.length) * e.sz + j by omega]
    exact this

theorem elemT_spec {st : TypeId} {e : Ty} (h : rowOk P (elemT P st) e = true) (hu : ∃ et, P.underlying st = some (.slice et)) : ∃ et i z, P.underlying st = some (.slice et) ∧ P.info? et = some i ∧ i.size = e.sz ∧ 0 < e.sz ∧ i.bytes ≤ 4096 ∧ i.zero = some z ∧ z.cells.size = e.sz := by
  obtain ⟨et, hu⟩ := hu
  simp only [elemT, hu] at h
  obtain ⟨i, z, h⟩ := rowOk_spec h
  exact ⟨et, i, z, hu, h⟩
theorem append_seq {args : Array Operand} {ts : Array TypeId} (ho : o.op = .call { callee := .builtin .append, args := args, argTypes := ts }) (hK : opK P C I σ o K = some r) : ∃ v σ', K v σ' = some r ∧ Fr σ σ' ∧ SeqS P w0 ok0 σ σ' o v := by
  simp only [opK, ho] at hK
  split at hK
  · rename_i s x st st' hargs hts
    obtain ⟨hst', hK1⟩ := bif_some hK
    clear hK
    obtain rfl := Nat.eq_of_beq_eq_true hst'
    have hK := hK1
    clear hK1
    obtain ⟨so, xo, rfl, hs, hx⟩ : ∃ so xo, args = #[so, xo] ∧ σ.ev so = .one s ∧ σ.ev xo = .one x := by
      match hc : args.toList, hargs with
      | [so, xo], h => simp at h; exact ⟨so, xo, by cases args; simp_all, h⟩
      | [], h => simp at h
      | [_], h => simp at h
      | _ :: _ :: _ :: _, h => simp at h
    obtain rfl : ts = #[st, st] := by cases ts; simp_all
    unfold appendK at hK
    have hex : ∀ a : Act, execOp a.eval o = (do pure (.value (← Builtin.append_ #[st, st] o.type #[a.eval so, a.eval xo])) : Sem Next) := fun a => by
      rw [run_call_builtin ho]
      simp [builtin]
    have hsl : isSl P st = true → ∃ et, P.underlying st = some (.slice et) := fun h => by
      unfold isSl at h
      split at h
      · rename_i et hu; exact ⟨et, hu⟩
      · cases h
    split at hK
    · rename_i id
      split at hK
      · rename_i e xs hob
        split at hK
        · rename_i ys hys
          obtain ⟨hb, hK'⟩ := bif_some hK
          simp only [Bool.and_eq_true, decide_eq_true_eq] at hb
          obtain ⟨hsl', hrow, hlim⟩ := hb
          unfold lim at hlim
          rw [List.length_append] at hlim
          obtain ⟨et, inf, z, hu, hi, hsz, hpos, hby, hz, hzs⟩ := elemT_spec hrow (hsl hsl')
          refine ⟨_, _, hK', (Fr.kill σ id).trans (Fr.setOb _ _ _), fun fr a w G hR => ?_⟩
          have hsa := hR.ev so
          rw [hs] at hsa
          obtain ⟨gh, hg, he⟩ := hsa
          have hxa := hR.ev xo
          rw [hx] at hxa
          obtain ⟨A, c, hxe, hxc⟩ := rowOf_src hR.st rfl hys hxa
          have hr := hR.st.obOf (h := σ.h) (fun i p hp => ⟨p, hp, rfl⟩) hg (by rw [show (nth σ.h id (0, .gone)).2 = _ from hob]; simp)
          rw [show (nth σ.h id (0, .gone)).2 = _ from hob] at hr
          by_cases hy0 : ys.length = 0
          · have hye : ys = [] := List.eq_nil_of_length_eq_zero hy0
            subst hye
            have hform : ∃ base cap, gh.hdr = .slice base xs.length cap ∧ xs.length ≤ cap := by
              rcases hr with ⟨_, hh, rfl⟩ | ⟨b, cap, cur, ty, _, hh, _, h1, _⟩
              · exact ⟨none, 0, hh, Nat.le_refl _⟩
              · exact ⟨_, cap, hh, h1⟩
            obtain ⟨base, cap, hh, hle⟩ := hform
            have hrun := append_none (P := P) (w := w) st o.type et inf hu hi base A xs.length cap c hle
            refine .value (V := gh.hdr) (w' := w) (by rw [hex, Sem.run_bind, he, hxe, hh, List.length_nil, hrun]; rfl) ?_
            obtain ⟨G', g1, g2⟩ := hR.regrow (gh' := gh) (ob := .row e (xs ++ [])) hg (w' := w) ⟨rfl, rfl, rfl, Nat.le_refl _, fun _ _ _ => rfl⟩ (.inl rfl) rfl (fun G' hk hm => by
              rw [List.append_nil]
              rcases hr with hr | ⟨b, cap, cur, t, h1, h2, h3, h4, h5, h6, h7⟩
              · exact .inl hr
              · exact .inr ⟨b, cap, cur, t, h1, h2, h3, h4, h5, h6, fun i hi => by obtain ⟨us, hu, hc⟩ := h7 i hi; exact ⟨us, Ty.rp_keep _ hu hk hm, hc⟩⟩)
            exact ⟨G', g2, gh, g1, rfl⟩
          · obtain ⟨b, oo, rfl, hcells⟩ := hxc (by omega)
            obtain ⟨news, n1, n2, n3, n4⟩ := slice_cells hcells
            have hhdr : ∃ olds, Hdr w inf.size xs.length gh.hdr olds gh.blk ∧ ∀ (i : Nat) (h : i < xs.length), ∃ us, e.rp w (imm w0 ok0 w G) us xs[i] ∧ ∀ j u, us[j]? = some u → olds[i * e.sz + j]? = some u := by
              rcases hr with ⟨h1, h2, rfl⟩ | ⟨b, cap, cur, ty, h1, h2, h3, h4, h5, h6, h7⟩
              · exact ⟨[], ⟨by simp, .inl ⟨h2, rfl, h1⟩⟩, fun i hi => absurd hi (by simp)⟩
              · refine ⟨cur.toList.take (xs.length * inf.size), ⟨?_, .inr ⟨b, cap, cur, ty, h2, h1, h3, h4, h5, by rw [hsz]; exact h6, rfl⟩⟩, fun i hi => ?_⟩
                · have h8 : xs.length * inf.size ≤ cur.toList.length := by
                    have : cur.toList.length = cap * e.sz := by simpa using h6
                    rw [this, hsz]
                    exact Nat.mul_le_mul_right _ h4
                  rw [List.length_take]
                  exact Nat.min_eq_left h8
                · obtain ⟨us, hu, hc⟩ := h7 i hi
                  refine ⟨us, hu, fun j u hj => ?_⟩
                  have hjl : j < e.sz := by have := (List.getElem?_eq_some_iff.1 hj).1; have := Ty.rp_len _ hu; omega
                  have : (i + 1) * e.sz ≤ xs.length * e.sz := Nat.mul_le_mul_right _ hi
                  rw [Nat.succ_mul] at this
                  rw [List.getElem?_take, hsz, if_pos (by omega)]
                  simpa using hc j u hj
            obtain ⟨olds, hd, hol⟩ := hhdr
            have hbytes : (xs.length + ys.length) * inf.bytes ≤ 140737488355328 := by
              have : (xs.length + ys.length) * inf.bytes ≤ 4294967296 * 4096 := Nat.mul_le_mul hlim hby
              omega
            obtain ⟨v', w', g', hrun, hd', hgr, hor⟩ := append_some (P := P) st o.type et inf z hu hi hz (by rw [hzs, hsz]) (by omega) hd ⟨b, oo, none⟩ ys.length c news (by rw [n1, hsz]) (fun j u hj => by rw [addr_add]; exact n2 j u hj) n3 (by omega) (by unfold maxLen; omega) hbytes
            rw [hsz] at hd'
            refine .value (V := v') (w' := w') (by rw [hex, Sem.run_bind, he, hxe, hrun]; rfl) ?_
            have hol' : olds.length = xs.length * e.sz := by rw [hd.len, hsz]
            obtain ⟨G', g1, g2⟩ := hR.regrow (gh' := { gh with blk := some g', hdr := v' }) (ob := .row e (xs ++ ys)) hg hgr (hor.imp Eq.symm fun h => by rw [h.1]; exact ⟨rfl, by rw [← h.1]; exact h.2⟩) rfl (fun G' hk hm => join_rows hk hm hol' hol n4 hd' (by omega))
            exact ⟨G', g2, _, g1, rfl⟩
        · cases hK
      · cases hK
    · rename_i id i
      split at hK
      · rename_i e xss hob
        split at hK
        · rename_i ys hys
          obtain ⟨xs, hxs, hK⟩ := obind_some hK
          obtain ⟨hb, hK'⟩ := bif_some hK
          simp only [Bool.and_eq_true, decide_eq_true_eq] at hb
          obtain ⟨hsl', hrow, hlim⟩ := hb
          unfold lim at hlim
          rw [List.length_append] at hlim
          obtain ⟨et, inf, z, hu, hi, hsz, hpos, hby, hz, hzs⟩ := elemT_spec hrow (hsl hsl')
          obtain ⟨hil, hxe⟩ := List.getElem?_eq_some_iff.1 hxs
          refine ⟨_, _, hK', (Fr.killI σ id).trans (Fr.setOb _ _ _), fun fr a w G hR => ?_⟩
          have hsa := hR.ev so
          rw [hs] at hsa
          obtain ⟨gh, hg, he, hv1⟩ := hsa
          have hxa := hR.ev xo
          rw [hx] at hxa
          obtain ⟨A, c, hxe', hxc⟩ := rowOf_src hR.st rfl hys hxa
          have hr := hR.st.obOf (h := σ.h) (fun i p hp => ⟨p, hp, rfl⟩) hg (by rw [show (nth σ.h id (0, .gone)).2 = _ from hob]; simp)
          rw [show (nth σ.h id (0, .gone)).2 = _ from hob] at hr
          obtain ⟨b, cap, cur, ty, hb, hhd, hh, hle, hcm, hcs, hd1, hd2, hel⟩ := hr
          have hri := (hel i hil).1
          rw [hxe] at hri
          by_cases hy0 : ys.length = 0
          · have hye : ys = [] := List.eq_nil_of_length_eq_zero hy0
            subst hye
            have hform : ∃ base cap, gh.ihdr i = .slice base xs.length cap ∧ xs.length ≤ cap := by
              rcases hri with ⟨_, hh, rfl⟩ | ⟨b, cap, cur, ty, _, hh, _, h1, _⟩
              · exact ⟨none, 0, hh, Nat.le_refl _⟩
              · exact ⟨_, cap, hh, h1⟩
            obtain ⟨base, cap', hh', hle'⟩ := hform
            have hrun := append_none (P := P) (w := w) st o.type et inf hu hi base A xs.length cap' c hle'
            refine .value (V := gh.ihdr i) (w' := w) (by rw [hex, Sem.run_bind, he, hxe', hh', List.length_nil, hrun]; rfl) ?_
            obtain ⟨G', g1, g2⟩ := hR.regrowI (gh' := gh) (ob := .tree e (xss.set i (xs ++ [])) (some i)) (B := none) hg (w' := w) ⟨rfl, rfl, rfl, Nat.le_refl _, fun _ _ _ => rfl⟩ (fun b h => nomatch h) (fun b h => .inl h) rfl rfl (fun G' hk hm => by
              have hset : xss.set i (xs ++ []) = xss := by
                rw [List.append_nil]
                apply List.ext_getElem (by simp)
                intro k h1 h2
                rw [List.getElem_set]
                split
                · rename_i h; subst h; exact hxe.symm
                · rfl
              rw [hset]
              exact ⟨b, cap, cur, ty, hb, hhd, hh, hle, hcm, hcs, hd1, hd2, fun k hkl => ⟨(hel k hkl).1.mono hk hm fun _ _ => rfl, fun _ => (hel k hkl).2 (by simp)⟩⟩)
            exact ⟨G', g2, gh, g1, rfl, by rw [← he]; exact hv1⟩
          · obtain ⟨bx, oo, rfl, hcells⟩ := hxc (by omega)
            obtain ⟨news, n1, n2, n3, n4⟩ := slice_cells hcells
            have hhdr : ∃ olds, Hdr w inf.size xs.length (gh.ihdr i) olds (gh.inn i) ∧ ∀ (i : Nat) (h : i < xs.length), ∃ us, e.rp w (imm w0 ok0 w G) us xs[i] ∧ ∀ j u, us[j]? = some u → olds[i * e.sz + j]? = some u := by
              rcases hri with ⟨h1, h2, rfl⟩ | ⟨b, cap, cur, ty, h1, h2, h3, h4, h5, h6, h7⟩
              · exact ⟨[], ⟨by simp, .inl ⟨h2, rfl, h1⟩⟩, fun i hi => absurd hi (by simp)⟩
              · refine ⟨cur.toList.take (xs.length * inf.size), ⟨?_, .inr ⟨b, cap, cur, ty, h2, h1, h3, h4, h5, by rw [hsz]; exact h6, rfl⟩⟩, fun i hi => ?_⟩
                · have h8 : xs.length * inf.size ≤ cur.toList.length := by
                    have : cur.toList.length = cap * e.sz := by simpa using h6
                    rw [this, hsz]
                    exact Nat.mul_le_mul_right _ h4
                  rw [List.length_take]
                  exact Nat.min_eq_left h8
                · obtain ⟨us, hu, hc⟩ := h7 i hi
                  refine ⟨us, hu, fun j u hj => ?_⟩
                  have hjl : j < e.sz := by have := (List.getElem?_eq_some_iff.1 hj).1; have := Ty.rp_len _ hu; omega
                  have : (i + 1) * e.sz ≤ xs.length * e.sz := Nat.mul_le_mul_right _ hi
                  rw [Nat.succ_mul] at this
                  rw [List.getElem?_take, hsz, if_pos (by omega)]
                  simpa using hc j u hj
            obtain ⟨olds, hd, hol⟩ := hhdr
            have hbytes : (xs.length + ys.length) * inf.bytes ≤ 140737488355328 := by
              have : (xs.length + ys.length) * inf.bytes ≤ 4294967296 * 4096 := Nat.mul_le_mul hlim hby
              omega
            obtain ⟨v', w', g', hrun, hd', hgr, hor⟩ := append_some (P := P) st o.type et inf z hu hi hz (by rw [hzs, hsz]) (by omega) hd ⟨bx, oo, none⟩ ys.length c news (by rw [n1, hsz]) (fun j u hj => by rw [addr_add]; exact n2 j u hj) n3 (by omega) (by unfold maxLen; omega) hbytes
            rw [hsz] at hd'
            refine .value (V := v') (w' := w') (by rw [hex, Sem.run_bind, he, hxe', hrun]; rfl) ?_
            have hol' : olds.length = xs.length * e.sz := by rw [hd.len, hsz]
            let gh' : Gh := { gh with inn := fun k => if k = i then some g' else gh.inn k, ihdr := fun k => if k = i then v' else gh.ihdr k }
            have hin : ∀ b', gh.inn i = some b' → gh.has b' := fun b' h => .inr ⟨i, h⟩
            have hgnew : gh.inn i = some g' ∨ (g' = w.heap.size ∧ g' < w'.heap.size) := hor
            have hlow : ∀ b', gh.has b' → b' < w.heap.size := fun b' h => (hR.st.low id gh b' hg h).2
            have hoth : ∀ b', gh.has b' → gh.inn i ≠ some b' → w'.heap[b']? = w.heap[b']? := fun b' h1 h2 => hgr.block b' (hlow b' h1) (fun e => h2 e.symm)
            obtain ⟨G', g1, g2⟩ := hR.regrowI (gh' := gh') (ob := .tree e (xss.set i (xs ++ ys)) (some i)) (B := gh.inn i) hg hgr hin (fun b' h => by
              rcases h with h | ⟨k, h⟩
              · exact .inl (.inl h)
              · replace h : (if k = i then some g' else gh.inn k) = some b' := h
                split at h
                · cases h
                  rcases hgnew with h | ⟨h, h2⟩
                  · exact .inl (hin _ h)
                  · exact .inr ⟨h, by omega⟩
                · exact .inl (.inr ⟨k, h⟩)) rfl rfl (fun G' hk hm => by
              refine ⟨b, cap, cur, ty, hb, by rw [List.length_set]; exact hhd, (hoth b (.inl hb) fun h => hd1 i b h rfl).trans hh, by rw [List.length_set]; exact hle, hcm, hcs, fun k b' h => ?_, fun k l b' h1 h2 => ?_, fun k hkl => ?_⟩
              · replace h : (if k = i then some g' else gh.inn k) = some b' := h
                split at h
                · cases h
                  rcases hgnew with h | ⟨h, _⟩
                  · exact hd1 i _ h
                  · have := hlow b (.inl hb); omega
                · exact hd1 k b' h
              · replace h1 : (if k = i then some g' else gh.inn k) = some b' := h1
                replace h2 : (if l = i then some g' else gh.inn l) = some b' := h2
                split at h1 <;> split at h2
                · rename_i e1 e2; rw [e1, e2]
                · rename_i e1 e2
                  cases h1
                  rcases hgnew with h | ⟨h, _⟩
                  · rw [e1]; exact hd2 i l _ h h2
                  · have := hlow g' (.inr ⟨l, h2⟩); omega
                · rename_i e1 e2
                  cases h2
                  rcases hgnew with h | ⟨h, _⟩
                  · rw [e2]; exact hd2 k i _ h1 h
                  · have := hlow g' (.inr ⟨k, h1⟩); omega
                · exact hd2 k l b' h1 h2
              · rw [List.length_set] at hkl
                show RowR w' _ (if k = i then some g' else gh.inn k) (if k = i then v' else gh.ihdr k) e _ ∧ (some i ≠ some k → cur[k]? = some (if k = i then v' else gh.ihdr k))
                by_cases hki : k = i
                · subst hki
                  rw [if_pos rfl, if_pos rfl, List.getElem_set_self]
                  exact ⟨join_rows hk hm hol' hol n4 hd' (by omega), fun h => absurd rfl h⟩
                · rw [if_neg hki, if_neg hki, List.getElem_set_ne (Ne.symm hki)]
                  exact ⟨(hel k hkl).1.mono hk hm fun b' hb' => hoth b' (.inr ⟨k, hb'⟩) fun h => hki (hd2 k i b' hb' h), fun _ => (hel k hkl).2 (by simp)⟩)
            refine ⟨G', g2, gh', g1, ?_, ?_⟩
            · show v' = if i = i then v' else _
              rw [if_pos rfl]
            · rcases hd'.form with ⟨h, _⟩ | ⟨_, _, _, _, h, _⟩ <;> rw [h] <;> rfl
        · cases hK
      · cases hK
    · split at hK
      · rename_i e he0
        split at hK
        · rename_i ys hys
          obtain ⟨hb, hK'⟩ := bif_some hK
          simp only [Bool.and_eq_true, decide_eq_true_eq] at hb
          obtain ⟨hsl', hrow, hlim⟩ := hb
          unfold lim at hlim
          obtain ⟨et, inf, z, hu, hi, hsz, hpos, hby, hz, hzs⟩ := elemT_spec hrow (hsl hsl')
          refine ⟨_, _, hK', Fr.newObs σ _, fun fr a w G hR => ?_⟩
          have he : a.eval so = .slice none 0 0 := by
            have hsa := hR.ev so
            rw [hs] at hsa
            exact hsa
          have hxa := hR.ev xo
          rw [hx] at hxa
          obtain ⟨A, c, hxe, hxc⟩ := rowOf_src hR.st rfl hys hxa
          have hst1 : St w0 ok0 (σ.h ++ [(0, .row e ys)]) w G := by
            refine ⟨fun id gh hg => ?_, hR.st.inj, hR.st.low, hR.st.ext⟩
            obtain ⟨p, hp, ho⟩ := hR.st.ob id gh hg
            exact ⟨p, by rw [List.getElem?_append_left (List.getElem?_eq_some_iff.1 hp).1]; exact hp, ho⟩
          have hnone : G σ.h.length = none := by
            cases hg : G σ.h.length with
            | none => rfl
            | some gh =>
              obtain ⟨p, hp, _⟩ := hR.st.ob _ gh hg
              have := (List.getElem?_eq_some_iff.1 hp).1
              omega
          by_cases hy0 : ys.length = 0
          · have hye : ys = [] := List.eq_nil_of_length_eq_zero hy0
            subst hye
            have hrun := append_none (P := P) (w := w) st o.type et inf hu hi none A 0 0 c (Nat.le_refl _)
            refine .value (V := .slice none 0 0) (w' := w) (by rw [hex, Sem.run_bind, he, hxe, List.length_nil, hrun]; rfl) ?_
            obtain ⟨G', g1, g2, g3, _⟩ := hst1.make (w' := w) (n := σ.h.length) (p := (0, .row e [])) (by simp) hnone (.mk0 none (.slice none 0 0)) (Ext.refl w) (fun b hb => nomatch Gh.has0.1 hb) (fun G' _ _ => .inl ⟨rfl, rfl, rfl⟩)
            exact ⟨G', ⟨hR.len, fun i p v hp hv => (hR.tmp i p v hp hv).later g3, hR.dfs, g2, (hR.frm.append1 (fun k l h => by cases h)).later g3⟩, _, g1, rfl⟩
          · obtain ⟨b, oo, rfl, hcells⟩ := hxc (by omega)
            obtain ⟨news, n1, n2, n3, n4⟩ := slice_cells hcells
            have hd : Hdr w inf.size 0 (.slice none 0 0) [] none := ⟨by simp, .inl ⟨rfl, rfl, rfl⟩⟩
            have hbytes : (0 + ys.length) * inf.bytes ≤ 140737488355328 := by
              have : (0 + ys.length) * inf.bytes ≤ 4294967296 * 4096 := Nat.mul_le_mul (by omega) hby
              omega
            obtain ⟨v', w', g', hrun, hd', hgr, hor⟩ := append_some (P := P) st o.type et inf z hu hi hz (by rw [hzs, hsz]) (by omega) hd ⟨b, oo, none⟩ ys.length c news (by rw [n1, hsz]) (fun j u hj => by rw [addr_add]; exact n2 j u hj) n3 (by omega) (by unfold maxLen; omega) hbytes
            rw [hsz] at hd'
            obtain ⟨hg1, hg2⟩ : g' = w.heap.size ∧ g' < w'.heap.size := hor.resolve_left (by simp)
            have hext : Ext w w' := Below.grown (Below.refl _ _) hgr (Nat.le_refl _) (fun k hk => by cases hk)
            refine .value (V := v') (w' := w') (by rw [hex, Sem.run_bind, he, hxe, hrun]; rfl) ?_
            obtain ⟨G', g1, g2, g3, _⟩ := hst1.make (w' := w') (n := σ.h.length) (p := (0, .row e ys)) (by simp) hnone (.mk0 (some g') v') hext (fun b hb => by cases Gh.has0.1 hb; exact ⟨by omega, hg2⟩) (fun G' hl _ => by
              have := join_rows (xs := ([] : List e.den)) (olds := []) (fun _ => hl.heap) (fun _ => hl.imm) (by simp) (fun i hi => absurd hi (by simp)) n4 hd' (by omega)
              exact this)
            exact ⟨G', ⟨hR.len, fun i p v hp hv => (hR.tmp i p v hp hv).later g3, hR.dfs, g2, (hR.frm.append1 (fun k l h => by cases h)).later g3⟩, _, g1, rfl⟩
        · cases hK
      · cases hK
    · cases hK
  · cases hK
theorem Rel.reob {a : Act} {w : World} {G : GM} (hR : Rel w0 ok0 fr σ a w G) {id : Nat} {gh : Gh} {ob : Ob} (hg : G id = some gh) (ho : ObR w (imm w0 ok0 w G) G gh ob) (hnf : ∀ k l, ob ≠ .frame k l := by intro k l h; cases h) : Rel w0 ok0 fr (σ.setOb id ob) a w G := by
  refine ⟨hR.len, hR.tmp, hR.dfs, ⟨fun k g hgk => ?_, hR.st.inj, hR.st.low, hR.st.ext⟩, hR.frm.setN hnf⟩
  obtain ⟨p, hp, hob⟩ := hR.st.ob k g hgk
  simp only [Env.setOb, getElem?_setN]
  by_cases hk : k = id
  · subst hk
    rw [hg] at hgk
    cases hgk
    rw [if_pos ⟨rfl, (List.getElem?_eq_some_iff.1 hp).1⟩]
    exact ⟨_, rfl, ho⟩
  · rw [if_neg (fun e => hk e.1)]
    exact ⟨p, hp, hob⟩
/-- Elements are made zero. -/
theorem clear_seq {args : Array Operand} {ts : Array TypeId} (ho : o.op = .call { callee := .builtin .clear, args := args, argTypes := ts }) (hK : opK P C I σ o K = some r) : ∃ v σ', K v σ' = some r ∧ Fr σ σ' ∧ SeqS P w0 ok0 σ σ' o v := by
  simp only [opK, ho] at hK
  split at hK
  · rename_i id e lo st hargs hts
    split at hK
    · rename_i e' xs z hob hz
      split at hK
      · rename_i x hx
        obtain ⟨hb, hK'⟩ := bif_some hK
        simp only [Bool.and_eq_true, decide_eq_true_eq] at hb
        obtain ⟨rfl, hsl, hrow, hgood⟩ := hb
        obtain ⟨so, rfl, hs⟩ : ∃ so, args = #[so] ∧ σ.ev so = .one (.osub id e lo) := by
          match hc : args.toList, hargs with
          | [so], h => simp at h; exact ⟨so, by cases args; simp_all, h⟩
          | [], h => simp at h
          | _ :: _ :: _, h => simp at h
        obtain rfl : ts = #[st] := by cases ts; simp_all
        obtain ⟨et, inf, zv, hu, hi, hsz, hpos, hby, hzv, hzs⟩ := elemT_spec hrow (isSl_spec hsl)
        have hzz : avOf zv = z := by simpa [zeroOf, elemT, hu, hi, hzv] using hz
        subst hzz
        refine ⟨_, _, hK', Fr.setOb _ _ _, fun fr a w G hR => ?_⟩
        have hsa := hR.ev so
        rw [hs] at hsa
        obtain ⟨gh, A, n, c, hg, hhd, hln, hnc, he⟩ := hsa
        have hr := hR.st.obOf (h := σ.h) (fun i p hp => ⟨p, hp, rfl⟩) hg (by rw [show (nth σ.h id (0, .gone)).2 = _ from hob]; simp)
        rw [show (nth σ.h id (0, .gone)).2 = _ from hob] at hr
        have hex : execOp a.eval o = (do pure (.value (← Builtin.clear_ #[st] o.type #[a.eval so])) : Sem Next) := by
          rw [run_call_builtin ho]
          simp [builtin]
        have hzr := zero_rc (w := w) (ok := imm w0 ok0 w G) (G := G) zv (by rw [hzs]; exact hpos)
        have hz1 := hzr.one' hgood hR.st.hdr
        have hzx := Ty.ofAcs_nil hx hzr
        have hxn : xs.length = n := by
          rcases hr with ⟨_, hh, rfl⟩ | ⟨b, cap, cur, ty, _, hh, _⟩
          · rw [hh] at hhd; cases hhd; rfl
          · rw [hh] at hhd; cases hhd; rfl
        by_cases hlo : n = lo
        · have hrun : (Builtin.clear_ #[st] o.type #[a.eval so]).run P w = .ok (.tuple #[]) w := by
            rw [he, hlo, Nat.sub_self]
            generalize (if c = lo then A else A.map _) = A'
            cases A' <;> simp [Builtin.clear_, run_underlying hu]
          refine .value (V := .tuple #[]) (w' := w) (by rw [hex, Sem.run_bind, hrun]; rfl) ⟨G, hR.reob hg ?_, rfl⟩
          rw [hxn, hlo, Nat.sub_self, List.replicate_zero, List.append_nil, ← hlo, ← hxn, List.take_length]
          exact hr
        · rcases hr with ⟨_, hh, rfl⟩ | ⟨b, cap, cur, ty, hb, hh, hc, h4, h5, h6, h7⟩
          · simp at hxn; omega
          · have hA : A = some ⟨b, 0, none⟩ ∧ c = cap := by rw [hh] at hhd; cases hhd; exact ⟨rfl, rfl⟩
            obtain ⟨rfl, rfl⟩ := hA
            obtain ⟨q, hq⟩ : ∃ q, n - lo = q + 1 := ⟨n - lo - 1, by omega⟩
            have hzl : (Builtin.zeroCells zv.cells (n - lo)).toList.length = (n - lo) * e.sz := by
              rw [Array.length_toList, size_zeroCells, hzs]
            have hget : ∀ k, k < (n - lo) * e.sz → (Builtin.zeroCells zv.cells (n - lo)).toList[k]? = zv.cells[k % e.sz]? := fun k hk => by
              have hm : k % e.sz < zv.cells.size := by rw [hzs]; exact Nat.mod_lt _ hpos
              have h1 : (Builtin.zeroCells zv.cells (n - lo))[k]? = some (zv.cells[k % zv.cells.size]!) := by
                unfold Builtin.zeroCells
                rw [Array.getElem?_map, Array.getElem?_range, if_pos (by rw [hzs]; exact hk)]
                rfl
              rw [Array.getElem?_toList, h1, hzs, getElem!_def, Array.getElem?_eq_getElem hm]
            have hone : ∀ u ∈ (Builtin.zeroCells zv.cells (n - lo)).toList, u.oneCell' = true := fun u hu => by
              obtain ⟨k, hk⟩ := List.getElem?_of_mem hu
              have hkl : k < (n - lo) * e.sz := by rw [← hzl]; exact (List.getElem?_eq_some_iff.1 hk).1
              rw [hget k hkl] at hk
              exact hz1 u (List.mem_of_getElem? (i := k % e.sz) (by rw [Array.getElem?_toList]; exact hk))
            have hfit : lo * e.sz + 0 + (Builtin.zeroCells zv.cells (n - lo)).toList.length ≤ cur.size := by
              rw [hzl, h6, Nat.add_zero, ← Nat.add_mul]
              exact Nat.mul_le_mul_right _ (by omega)
            have hst' := run_storeCells_at P b (lo * e.sz) ty _ 0 cur w hc hfit hone
            simp only [Nat.add_zero] at hst' hfit
            rw [← putN_eq _ _ _ (by simpa using hfit)] at hst'
            have hrun : (Builtin.clear_ #[st] o.type #[a.eval so]).run P w = .ok (.tuple #[]) (w.setRow b (putN cur.toList (lo * e.sz) (Builtin.zeroCells zv.cells (n - lo)).toList).toArray) := by
              rw [he, if_neg (by omega)]
              simp only [Option.map_some, addr_add, Nat.zero_add]
              rw [hq] at hst' ⊢
              simp [Builtin.clear_, run_underlying hu, zeroValue, typeInfo, hi, hzv, hst']
            refine .value (V := .tuple #[]) (by rw [hex, Sem.run_bind, hrun]; rfl) ⟨G, ?_, rfl⟩
            refine hR.write hg hb (by simp) (fun k hk => setRow_other w b k _ hk) rfl rfl rfl (fun hrc hk hm => ?_)
            have hlen : (xs.take lo ++ List.replicate (xs.length - lo) x).length = xs.length := by simp; omega
            refine .inr ⟨b, c, _, ty, hb, by rw [hlen]; exact hh, setRow_heap w b _ _ ty _ hc, by rw [hlen]; exact h4, h5, by simp [length_putN, h6], fun k hkl => ?_⟩
            rw [hlen] at hkl
            by_cases hkx : k < lo
            · obtain ⟨us, hu', hcu⟩ := h7 k hkl
              refine ⟨us, ?_, fun j u hj => ?_⟩
              · rw [List.getElem_append_left (by simp; omega), List.getElem_take]
                exact Ty.rp_keep _ hu' hk hm
              · have hul := Ty.rp_len _ hu'
                have hjl : j < e.sz := by have := (List.getElem?_eq_some_iff.1 hj).1; omega
                simp only [List.getElem?_toArray]
                rw [getElem?_putN, if_neg]
                · simpa using hcu j u hj
                · rintro ⟨g1, _, _⟩
                  have : (k + 1) * e.sz ≤ lo * e.sz := Nat.mul_le_mul_right _ hkx
                  rw [Nat.succ_mul] at this
                  omega
            · refine ⟨zv.cells.toList, ?_, fun j u hj => ?_⟩
              · rw [List.getElem_append_right (by simp; omega), List.getElem_replicate]
                exact Ty.rp_keep _ hzx hk hm
              · have hjl : j < e.sz := by have := (List.getElem?_eq_some_iff.1 hj).1; simp at this; omega
                have e1 : (k - lo) * e.sz + lo * e.sz = k * e.sz := by rw [← Nat.add_mul]; congr 1; omega
                have e2 : (k - lo + 1) * e.sz ≤ (n - lo) * e.sz := Nat.mul_le_mul_right _ (by omega)
                have e3 : n * e.sz ≤ c * e.sz := Nat.mul_le_mul_right _ hnc
                have e4 : (n - lo) * e.sz + lo * e.sz = n * e.sz := by rw [← Nat.add_mul]; congr 1; omega
                rw [Nat.succ_mul] at e2
                simp only [List.getElem?_toArray]
                rw [getElem?_putN, if_pos ⟨by omega, by rw [hzl]; omega, by simp; omega⟩, hget _ (by omega)]
                rw [show k * e.sz + j - lo * e.sz = (k - lo) * e.sz + j by omega, Nat.mul_add_mod_self_right, Nat.mod_eq_of_lt hjl]
                simpa using hj
      · cases hK
    · cases hK
  · cases hK
end
end Go.Proofs.YtbdokiecpmhjmaaGreatDoor
