/- Calls by their contracts. No condition of its own. -/
import Derived.Test.YtbdokiecpmhjmaaGreatDoorPvOps3
namespace Go.Proofs.YtbdokiecpmhjmaaGreatDoor
set_option linter.unusedSimpArgs false
set_option linter.unusedVariables false
open Go.RowKit

/-- A function that has a body. -/
def Callable (P : Program) (f : FuncId) : Prop := ∃ fn, P.funcs[f]? = some fn ∧ fn.body.isNone = false ∧ (fn.name == "runtime.NumGoroutine") = false

theorem arg_one {h : List (Nat × Ob)} {w : World} {ok okR : Nat → Prop} {G : GM} (hm : ∀ b, ok b → okR b)
    (Hob : ∀ id gh, G id = some gh → (nth h id (0, .gone)).2 ≠ .gone → ObR w ok G gh (nth h id (0, .gone)).2 ∧ ∀ b, (nth h id (0, .gone)).2.uses gh b → okR b)
    {τ : Ty} {v : AV} {V : Value} {x : τ.den} (hv : RV w ok G v V) (ha : v.isAgg = τ.isAgg) (hp : τ.proper = true) (hx : τ.ofAcs h v.cells = some x) : ∃ cs, V = pack1 τ cs ∧ τ.rp w okR cs x := by
  have bad : v.cells = [.bad] → τ.isAgg = false → False := by
    intro hb hz
    rw [hb] at hx
    cases τ <;> first | (cases hz; done) | (cases hp; done) | (cases hx; done)
  cases v with
  | one c =>
    have hz : τ.isAgg = false := ha.symm
    exact ⟨[V], by simp [pack1, hz], Ty.ofAcs_rp h hm Hob τ _ _ x hx (RCs.cons hv RCs.nil)⟩
  | agg cs =>
    have hz : τ.isAgg = true := ha.symm
    obtain ⟨vs, rfl, hr⟩ := hv
    exact ⟨vs, by simp [pack1, hz], Ty.ofAcs_rp h hm Hob τ _ _ x hx hr⟩
  | tup l => exact (bad rfl ha.symm).elim
theorem args_ok0 {h : List (Nat × Ob)} {w : World} {ok okR : Nat → Prop} {G : GM} (hm : ∀ b, ok b → okR b)
    (Hob : ∀ id gh, G id = some gh → (nth h id (0, .gone)).2 ≠ .gone → ObR w ok G gh (nth h id (0, .gone)).2 ∧ ∀ b, (nth h id (0, .gone)).2.uses gh b → okR b) {σ : Env} :
    ∀ (τ : Ty) (cs : List AC) (us : List Value) (x : τ.den), argAggs σ τ [] cs = true → τ.ofAcs h cs = some x → RCs w ok G cs us → ArgsOk w okR τ us x
  | .pair s t, c :: cs, [], x, _, _, hr => absurd hr.1 (by simp)
  | .pair s t, c :: cs, u :: us, x, hg, hx, hr => by
    simp only [argAggs, Bool.and_eq_true, beq_iff_eq] at hg
    obtain ⟨⟨⟨h1, h2⟩, h3⟩, h4⟩ := hg
    have h2 := Nat.eq_of_beq_eq_true h2
    replace hx : both (s.ofAcs h ((c :: cs).take s.sz)) (t.ofAcs h ((c :: cs).drop s.sz)) = some x := hx
    rw [← h2] at hx
    simp only [List.take_succ_cons, List.take_zero, List.drop_succ_cons, List.drop_zero] at hx
    unfold both at hx
    split at hx
    · rename_i y z hy hz
      cases hx
      exact ⟨arg_one (v := .one c) hm Hob hr.head h1 h3 hy, args_ok0 hm Hob t cs us z h4 hz hr.tail⟩
    · cases hx
  | .pair _ _, [], _, _, hg, _, _ => by cases hg
  | .nil, [], us, _, _, _, hr => by
    have : us = [] := List.eq_nil_of_length_eq_zero hr.1.symm
    subst this
    trivial
  | .nil, _ :: _, _, _, hg, _, _ => by cases hg
  | .int _, _, _, _, hg, _, _ => by cases hg
  | .bool, _, _, _, hg, _, _ => by cases hg
  | .str, _, _, _, hg, _, _ => by cases hg
  | .slice _, _, _, _, hg, _, _ => by cases hg
  | .ptr _, _, _, _, hg, _, _ => by cases hg
  | .agg _, _, _, _, hg, _, _ => by cases hg
  | .clo _ _, _, _, _, hg, _, _ => by cases hg
theorem args_ok {h : List (Nat × Ob)} {w : World} {ok okR : Nat → Prop} {G : GM} (hm : ∀ b, ok b → okR b)
    (Hob : ∀ id gh, G id = some gh → (nth h id (0, .gone)).2 ≠ .gone → ObR w ok G gh (nth h id (0, .gone)).2 ∧ ∀ b, (nth h id (0, .gone)).2.uses gh b → okR b) {σ : Env} {a : Act} {ex : List AC} {us : List Value} (hex : RCs w ok G ex us) :
    ∀ (τ : Ty) (xs : List Operand) (x : τ.den), argAggs σ τ xs ex = true → τ.ofAcs h (argCells σ xs ++ ex) = some x → (∀ y ∈ xs, RV w ok G (σ.ev y) (a.eval y)) → ArgsOk w okR τ (xs.map a.eval ++ us) x
  | τ, [], x, hg, hx, _ => args_ok0 hm Hob τ ex us x hg hx hex
  | .pair s t, y :: ys, x, hg, hx, hr => by
    simp only [argAggs, Bool.and_eq_true, beq_iff_eq] at hg
    obtain ⟨⟨⟨h1, h2⟩, h3⟩, h4⟩ := hg
    have h2 := Nat.eq_of_beq_eq_true h2
    replace hx : both (s.ofAcs h ((argCells σ (y :: ys) ++ ex).take s.sz)) (t.ofAcs h ((argCells σ (y :: ys) ++ ex).drop s.sz)) = some x := hx
    simp only [argCells, List.append_assoc] at hx
    rw [← h2, List.take_left, List.drop_left] at hx
    unfold both at hx
    split at hx
    · rename_i u v hu hv
      cases hx
      exact ⟨arg_one hm Hob (hr y (by simp)) h1 h3 hu, args_ok hm Hob hex t ys v h4 hv (fun z hz => hr z (by simp [hz]))⟩
    · cases hx
  | .nil, _ :: _, _, hg, _, _ => by cases hg
  | .int _, _ :: _, _, hg, _, _ => by cases hg
  | .bool, _ :: _, _, hg, _, _ => by cases hg
  | .str, _ :: _, _, hg, _, _ => by cases hg
  | .slice _, _ :: _, _, hg, _, _ => by cases hg
  | .ptr _, _ :: _, _, hg, _, _ => by cases hg
  | .agg _, _ :: _, _, hg, _, _ => by cases hg
  | .clo _ _, _ :: _, _, hg, _, _ => by cases hg

theorem acs_data : ∀ (τ : Ty) (x : τ.den), ∀ c ∈ τ.acs x, ∀ id, ¬ c.leads id
  | .int _, _, c, hc, id => by simp [Ty.acs] at hc; subst hc; exact fun h => h
  | .bool, _, c, hc, id => by simp [Ty.acs] at hc; subst hc; exact fun h => h
  | .str, _, c, hc, id => by simp [Ty.acs] at hc; subst hc; exact fun h => h
  | .slice _, _, c, hc, id => by simp [Ty.acs] at hc; subst hc; exact fun h => h
  | .ptr _, _, c, hc, id => by simp [Ty.acs] at hc; subst hc; exact fun h => h
  | .agg t, x, c, hc, id => acs_data t x c hc id
  | .nil, _, c, hc, id => by simp [Ty.acs] at hc
  | .pair a b, x, c, hc, id => by
    rcases List.mem_append.1 hc with h | h
    · exact acs_data a x.1 c h id
    · exact acs_data b x.2 c h id
  | .clo _ _, _, c, hc, id => by simp [Ty.acs] at hc; subst hc; exact fun h => h
theorem acs_len : ∀ (τ : Ty) (x : τ.den), (τ.acs x).length = τ.sz
  | .int _, _ => rfl
  | .bool, _ => rfl
  | .str, _ => rfl
  | .slice _, _ => rfl
  | .ptr _, _ => rfl
  | .agg t, x => acs_len t x
  | .nil, _ => rfl
  | .pair a b, x => by simp only [Ty.acs, List.length_append, acs_len a, acs_len b]; rfl
  | .clo _ _, _ => rfl

theorem mkRow_or (d : Bool) (e : Ty) (xs : List e.den) : mkRow d e xs = .row e xs ∨ mkRow d e xs = .drow e xs := by
  unfold mkRow
  cases d && !e.flat
  · exact .inl rfl
  · exact .inr rfl
theorem mkRow_nf {d : Bool} {e : Ty} {xs : List e.den} {k : Nat} {l : List (Nat × AV)} : mkRow d e xs ≠ .frame k l := by
  rcases mkRow_or d e xs with h | h <;> rw [h] <;> intro h <;> cases h
theorem mkRow_slc {w : World} {ok okR : Nat → Prop} {G : GM} {gh : Gh} {d : Bool} {e : Ty} {xs : List e.den} (hm : ∀ b, ok b → okR b) (h : ObR w ok G gh (mkRow d e xs)) (h2 : ∀ b, gh.has b → okR b) : (Ty.slice e).rp w okR [gh.hdr] xs := by
  rcases mkRow_or d e xs with e1 | e1 <;> rw [e1] at h
  · exact row_slc hm h fun b hb => h2 b (.inl hb)
  · exact drow_slc h h2
theorem ownAcs_other {dp : Bool} (fs : List Bool) (b : Bool) (n : Nat) (c : AC) (cs : List AC) (h : b = false ∨ ∀ e xs, c ≠ .slc e xs) : ownAcs dp (b :: fs) n (c :: cs) = (c :: (ownAcs dp fs n cs).1, (ownAcs dp fs n cs).2) := by
  cases b
  · cases c <;> rfl
  · cases c <;> first | rfl | exact absurd rfl ((h.resolve_left (by simp)) _ _)
theorem ownAcs_slc {dp : Bool} (fs : List Bool) (n : Nat) (e : Ty) (xs : List e.den) (cs : List AC) : ownAcs dp (true :: fs) n (.slc e xs :: cs) = (.own n :: (ownAcs dp fs (n + 1) cs).1, (0, mkRow dp e xs) :: (ownAcs dp fs (n + 1) cs).2) := rfl
theorem ownAcs_nil {dp : Bool} (n : Nat) (cs : List AC) : ownAcs dp [] n cs = (cs, []) := by cases cs <;> rfl
theorem ownAcs_nil' {dp : Bool} (fs : List Bool) (n : Nat) : ownAcs dp fs n [] = ([], []) := by
  cases fs with
  | nil => rfl
  | cons b fs => cases b <;> rfl
theorem slc_or (c : AC) : (∃ e xs, c = .slc e xs) ∨ ∀ e xs, c ≠ .slc e xs := by
  cases c <;> first | exact .inl ⟨_, _, rfl⟩ | exact .inr (by intro e xs h; cases h)
theorem ownAcs_len {dp : Bool} : ∀ (fs : List Bool) (n : Nat) (cs : List AC), (ownAcs dp fs n cs).1.length = cs.length
  | [], n, cs => by rw [ownAcs_nil]
  | b :: fs, n, [] => by rw [ownAcs_nil']
  | b :: fs, n, c :: cs => by
    rcases slc_or c with ⟨e, xs, rfl⟩ | hc
    · cases b
      · rw [ownAcs_other _ _ _ _ _ (.inl rfl)]; simp [ownAcs_len fs n cs]
      · rw [ownAcs_slc]; simp [ownAcs_len fs (n + 1) cs]
    · rw [ownAcs_other _ _ _ _ _ (.inr hc)]; simp [ownAcs_len fs n cs]
theorem ownAcs_obs {dp : Bool} : ∀ (fs : List Bool) (n m : Nat) (cs : List AC), (ownAcs dp fs n cs).2 = (ownAcs dp fs m cs).2
  | [], n, m, cs => by rw [ownAcs_nil, ownAcs_nil]
  | b :: fs, n, m, [] => by rw [ownAcs_nil', ownAcs_nil']
  | b :: fs, n, m, c :: cs => by
    rcases slc_or c with ⟨e, xs, rfl⟩ | hc
    · cases b
      · rw [ownAcs_other _ _ _ _ _ (.inl rfl), ownAcs_other _ _ _ _ _ (.inl rfl)]; exact ownAcs_obs fs n m cs
      · rw [ownAcs_slc, ownAcs_slc]; simp [ownAcs_obs fs (n + 1) (m + 1) cs]
    · rw [ownAcs_other _ _ _ _ _ (.inr hc), ownAcs_other _ _ _ _ _ (.inr hc)]; exact ownAcs_obs fs n m cs
theorem ownAcs_rows {dp : Bool} : ∀ (fs : List Bool) (n : Nat) (cs : List AC), ∀ p ∈ (ownAcs dp fs n cs).2, ∃ e xs, p.2 = mkRow dp e xs
  | [], n, cs, p, hp => by rw [ownAcs_nil] at hp; cases hp
  | b :: fs, n, [], p, hp => by rw [ownAcs_nil'] at hp; cases hp
  | b :: fs, n, c :: cs, p, hp => by
    rcases slc_or c with ⟨e, xs, rfl⟩ | hc
    · cases b
      · rw [ownAcs_other _ _ _ _ _ (.inl rfl)] at hp; exact ownAcs_rows fs n cs p hp
      · rw [ownAcs_slc] at hp
        rcases List.mem_cons.1 hp with rfl | hp
        · exact ⟨e, xs, rfl⟩
        · exact ownAcs_rows fs (n + 1) cs p hp
    · rw [ownAcs_other _ _ _ _ _ (.inr hc)] at hp; exact ownAcs_rows fs n cs p hp
theorem own_shift {dp : Bool} {w' : World} {ok1 ok2 : Nat → Prop} {G1 G2 : GM} (n : Nat) :
    ∀ (fs : List Bool) (cs : List AC) (vs : List Value) (m : Nat), (∀ c ∈ cs, ∀ id, ¬ c.leads id) → RCs w' ok1 G1 (ownAcs dp fs m cs).1 vs → (∀ k gh, m ≤ k → G1 k = some gh → G2 (n + k) = some gh) →
      (∀ c ∈ (ownAcs dp fs (n + m) cs).1, (∀ id, ¬ c.leads id) → ∀ v, RC w' ok1 G1 c v → RC w' ok2 G2 c v) → RCs w' ok2 G2 (ownAcs dp fs (n + m) cs).1 vs
  | [], cs, vs, m, hd, hr, hG, hc => by
    rw [ownAcs_nil] at hr hc ⊢
    exact ⟨hr.1, fun i c v h1 h2 => hc c (List.mem_of_getElem? h1) (hd c (List.mem_of_getElem? h1)) v (hr.2 i c v h1 h2)⟩
  | b :: fs, [], vs, m, hd, hr, hG, hc => by
    rw [ownAcs_nil'] at hr ⊢
    exact ⟨hr.1, fun i c v h1 => by simp at h1⟩
  | b :: fs, c :: cs, [], m, hd, hr, hG, hc => by
    have := hr.1
    rw [ownAcs_len] at this
    simp at this
  | b :: fs, c :: cs, v :: vs, m, hd, hr, hG, hc => by
    have other : ∀ h : (b = false ∨ ∀ e xs, c ≠ .slc e xs), RCs w' ok2 G2 (ownAcs dp (b :: fs) (n + m) (c :: cs)).1 (v :: vs) := by
      intro h
      rw [ownAcs_other _ _ _ _ _ h] at hr hc ⊢
      refine RCs.cons (hc c (by simp) (hd c (by simp)) v hr.head) (own_shift n fs cs vs m (fun c hm => hd c (by simp [hm])) hr.tail hG (fun c hm => hc c (by simp [hm])))
    rcases slc_or c with ⟨e, xs, rfl⟩ | hs
    · cases b
      · exact other (.inl rfl)
      · rw [ownAcs_slc] at hr hc ⊢
        obtain ⟨gh, h1, h2⟩ := hr.head
        exact RCs.cons ⟨gh, hG m gh (Nat.le_refl _) h1, h2⟩ (own_shift n fs cs vs (m + 1) (fun c hm => hd c (by simp [hm])) hr.tail (fun k gh hk => hG k gh (by omega)) (fun c hm => hc c (by rw [show n + m + 1 = n + (m + 1) by omega]; simp [hm])))
    · exact other (.inr hs)

theorem res_rv {w : World} {ok : Nat → Prop} {G : GM} : ∀ (τ : Ty) (cs : List AC) (vs : List Value), properL τ = true → cs.length = τ.sz → RCs w ok G cs vs →
    (packs τ vs).length = (τ.resAV cs).length ∧ ∀ (i : Nat) (p : Bool × List AC) (u : Value), (τ.resAV cs)[i]? = some p → (packs τ vs)[i]? = some u →
      (p.1 = true ∧ ∃ us : List Value, u = .agg us.toArray ∧ RCs w ok G p.2 us) ∨ (p.1 = false ∧ ∃ c, p.2 = [c] ∧ RC w ok G c u)
  | .pair a b, cs, vs, hp, hl, hr => by
    simp only [properL, Bool.and_eq_true] at hp
    replace hl : cs.length = a.sz + b.sz := hl
    obtain ⟨h1, h2⟩ := res_rv b (cs.drop a.sz) (vs.drop a.sz) hp.2 (by rw [List.length_drop]; omega) (hr.drop _)
    refine ⟨by simp [packs, Ty.resAV, h1], fun i p u hpi hui => ?_⟩
    cases i with
    | succ i => exact h2 i p u (by simpa [Ty.resAV] using hpi) (by simpa [packs] using hui)
    | zero =>
      simp only [Ty.resAV, List.getElem?_cons_zero, Option.some.injEq] at hpi
      simp only [packs, List.getElem?_cons_zero, Option.some.injEq] at hui
      subst hpi hui
      have ht := hr.take a.sz
      cases ha : a.isAgg with
      | true => exact .inl ⟨rfl, _, by simp [pack1, ha], ht⟩
      | false =>
        have hsz : a.sz = 1 := by cases a <;> first | rfl | (cases ha; done) | (cases hp.1; done)
        rw [hsz] at ht ⊢
        match hcs : cs.take 1, ht with
        | [c], ht =>
          obtain ⟨v, hv, hc⟩ := ht.one
          exact .inr ⟨rfl, c, rfl, by simp [pack1, ha, hv]; exact hc⟩
        | [], _ =>
          have h3 : (cs.take 1).length = 0 := by rw [hcs]; rfl
          rw [List.length_take] at h3
          omega
        | _ :: _ :: _, _ =>
          have h3 : (cs.take 1).length ≤ 1 := List.length_take_le _ _
          rw [hcs] at h3
          simp at h3
  | .nil, _, _, _, _, _ => ⟨rfl, fun i p u h => by simp [Ty.resAV] at h⟩
  | .int _, _, _, hp, _, _ => by cases hp
  | .bool, _, _, hp, _, _ => by cases hp
  | .str, _, _, hp, _, _ => by cases hp
  | .slice _, _, _, hp, _, _ => by cases hp
  | .ptr _, _, _, hp, _, _ => by cases hp
  | .agg _, _, _, hp, _, _ => by cases hp
  | .clo _ _, _, _, hp, _, _ => by cases hp
theorem tup_rv {w : World} {ok : Nat → Prop} {G : GM} {τ : Ty} {cs : List AC} {vs : List Value} (hp : properL τ = true) (hl : cs.length = τ.sz) (hr : RCs w ok G cs vs) : RV w ok G (tupAV (τ.resAV cs)) (packR τ vs) := by
  obtain ⟨h1, h2⟩ := res_rv τ cs vs hp hl hr
  unfold packR
  match hres : τ.resAV cs, hpk : packs τ vs with
  | [], [] => exact ⟨[], rfl, rfl, fun i p u h => by simp at h⟩
  | [p], [u] =>
    have := h2 0 p u (by rw [hres]; rfl) (by rw [hpk]; rfl)
    rcases this with ⟨hp1, us, rfl, hu⟩ | ⟨hp1, c, hc, hu⟩
    · obtain ⟨p1, p2⟩ := p
      cases hp1
      exact ⟨us, rfl, hu⟩
    · obtain ⟨p1, p2⟩ := p
      cases hp1
      cases hc
      exact hu
  | p :: q :: l, u :: v :: us =>
    have he : tupAV (p :: q :: l) = .tup (p :: q :: l) := by rcases p with ⟨_ | _, _ | ⟨_, _ | _⟩⟩ <;> rfl
    rw [he]
    refine ⟨u :: v :: us, rfl, by rw [← hpk, h1, hres], fun i p u hi hu => ?_⟩
    have := h2 i p u (by rw [hres]; exact hi) (by rw [hpk]; exact hu)
    rcases this with ⟨hp1, us, rfl, hu'⟩ | ⟨hp1, c, hc, hu'⟩
    · rw [if_pos hp1]; exact ⟨us, rfl, hu'⟩
    · rw [if_neg (by simp [hp1]), hc]; exact RCs.cons hu' RCs.nil
  | [], _ :: _ => rw [hres, hpk] at h1; simp at h1
  | _ :: _, [] => rw [hres, hpk] at h1; simp at h1
  | [_], _ :: _ :: _ => rw [hres, hpk] at h1; simp at h1
  | _ :: _ :: _, [_] => rw [hres, hpk] at h1; simp at h1

section
variable {ρ : Type} {P : Program} {C : Ctx} {I : Inl ρ} {w0 : World} {ok0 : Nat → Prop} {σ : Env} {o : Oper} {K : AV → Env → Option ρ} {r : ρ}

/-- Behind a call: what the contract says of its results is what is known of them. -/
theorem call_back {S : FnSpec} {x : S.rs.den} {ok : Nat → Prop} {H : List (Nat × Ob)} {w w' : World} {G : GM} {V : Value} (hst : St w0 ok0 H w G) (hpr : properL S.rs = true)
    (hp : Pfx (σ.h ++ (ownAcs S.deep S.own σ.h.length (S.rs.acs x)).2) H) (hfr : ∀ id, σ.h.length ≤ id → id < σ.h.length + (ownAcs S.deep S.own σ.h.length (S.rs.acs x)).2.length → G id = none)
    (hres : ResOk S w ok w' V x)
    (hok : (∀ b, ok b → imm w0 ok0 w G b) ∨ ((ownAcs S.deep S.own σ.h.length (S.rs.acs x)).1.all AC.flatC = true ∧ (ownAcs S.deep S.own σ.h.length (S.rs.acs x)).2.all (fun p => p.2.flatO) = true)) :
    ∃ G', St w0 ok0 H w' G' ∧ Later w G w' G' ∧ (∀ id gh, G' id = some gh → G id = some gh ∨ (σ.h.length ≤ id ∧ id < σ.h.length + (ownAcs S.deep S.own σ.h.length (S.rs.acs x)).2.length)) ∧
      RV w' (imm w0 ok0 w' G') G' (tupAV (S.rs.resAV (ownAcs S.deep S.own σ.h.length (S.rs.acs x)).1)) V := by
  obtain ⟨G1, vs, rfl, hr, h1⟩ := hres
  have hobs : (ownAcs S.deep S.own σ.h.length (S.rs.acs x)).2 = (ownAcs S.deep S.own 0 (S.rs.acs x)).2 := ownAcs_obs _ _ _ _
  have hrows := ownAcs_rows (dp := S.deep) S.own 0 (S.rs.acs x)
  generalize hn : σ.h.length = n at *
  rw [hobs] at hp hfr hok ⊢
  have hdom1 : ∀ k gh, G1 k = some gh → k < (ownAcs S.deep S.own 0 (S.rs.acs x)).2.length := fun k gh hg => by
    obtain ⟨p, hp, _⟩ := h1.ob k gh hg
    exact (List.getElem?_eq_some_iff.1 hp).1
  let G2 : GM := fun id => if n ≤ id ∧ id < n + (ownAcs S.deep S.own 0 (S.rs.acs x)).2.length then G1 (id - n) else G id
  have g2a : ∀ id, (n ≤ id ∧ id < n + (ownAcs S.deep S.own 0 (S.rs.acs x)).2.length) → G2 id = G1 (id - n) := fun id h => if_pos h
  have g2b : ∀ id, ¬ (n ≤ id ∧ id < n + (ownAcs S.deep S.own 0 (S.rs.acs x)).2.length) → G2 id = G id := fun id h => if_neg h
  have g2k : ∀ k gh, G1 k = some gh → G2 (n + k) = some gh := fun k gh hg => by
    rw [g2a _ ⟨by omega, by have := hdom1 k gh hg; omega⟩, Nat.add_sub_cancel_left]; exact hg
  have hlat : Later w G w' G2 := by
    refine ⟨h1.ext, fun id gh hg => ?_, fun id gh b hg hb => ?_⟩
    · by_cases h : n ≤ id ∧ id < n + (ownAcs S.deep S.own 0 (S.rs.acs x)).2.length
      · rw [hfr id h.1 h.2] at hg; cases hg
      · rw [g2b id h]; exact hg
    · by_cases h : n ≤ id ∧ id < n + (ownAcs S.deep S.own 0 (S.rs.acs x)).2.length
      · rw [g2a id h] at hg; exact .inr (h1.low _ gh b hg hb).1
      · rw [g2b id h] at hg; exact .inl hg
  have hmono : (∀ b, ok b → imm w0 ok0 w G b) → ∀ b, imm w ok w' G1 b → imm w0 ok0 w' G2 b := by
    intro hk b hb
    have hsz := hst.ext.size
    refine ⟨?_, hb.2.1, fun id gh hg he => ?_⟩
    · rcases hb.1 with h | h
      · exact (hk b h).1
      · exact .inr (by omega)
    · by_cases h : n ≤ id ∧ id < n + (ownAcs S.deep S.own 0 (S.rs.acs x)).2.length
      · rw [g2a id h] at hg; exact hb.2.2 _ gh hg he
      · rw [g2b id h] at hg
        rcases hb.1 with h' | h'
        · exact (hk b h').2.2 id gh hg he
        · have := (hst.low id gh b hg he).2; omega
  have hrowR : ∀ k gh, G1 k = some gh → ∃ p, H[n + k]? = some p ∧ ObR w' (imm w0 ok0 w' G2) G2 gh p.2 := by
    intro k gh hg
    obtain ⟨p, hpk, ho⟩ := h1.ob k gh hg
    obtain ⟨q, hq, hqe⟩ := hp (n + k) p (by rw [List.getElem?_append_right (by omega), hn, Nat.add_sub_cancel_left]; exact hpk)
    refine ⟨q, hq, ?_⟩
    rw [hqe]
    obtain ⟨e, xs, he⟩ := hrows p (List.mem_of_getElem? hpk)
    rcases mkRow_or S.deep e xs with hk | hk
    case inr => rw [he, hk] at ho ⊢; exact ho
    rw [hk] at he
    rw [he] at ho ⊢
    rcases ho with ho | ⟨b, cap, cur, t, g1, g2, g3, g4, g5, g6, g7⟩
    · exact .inl ho
    · refine .inr ⟨b, cap, cur, t, g1, g2, g3, g4, g5, g6, fun i hi => ?_⟩
      obtain ⟨us, hu, hc⟩ := g7 i hi
      rcases hok with hok | ⟨_, hfl⟩
      · exact ⟨us, Ty.rp_keep _ hu (fun _ _ => rfl) (hmono hok), hc⟩
      · have := List.all_eq_true.1 hfl p (List.mem_of_getElem? hpk)
        rw [he] at this
        exact ⟨us, Ty.rp_flat _ this hu, hc⟩
  refine ⟨G2, hst.later hlat (fun id p gh hp _ => ⟨p, hp, rfl⟩) (fun id gh hg => ?_) (fun id id' gh gh' b e1 e2 e3 e4 e5 => ?_) (fun id gh b hg hb => ?_), hlat, fun id gh hg => ?_, ?_⟩
  · by_cases h : n ≤ id ∧ id < n + (ownAcs S.deep S.own 0 (S.rs.acs x)).2.length
    · rw [g2a id h] at hg
      have := hrowR _ gh hg
      rw [show n + (id - n) = id by omega] at this
      exact .inr this
    · rw [g2b id h] at hg; exact .inl hg
  · have hk : ∀ id gh, G2 id = some gh → gh.has b → (n ≤ id ∧ id < n + (ownAcs S.deep S.own 0 (S.rs.acs x)).2.length) := fun id gh hg hb => by
      by_cases h : n ≤ id ∧ id < n + (ownAcs S.deep S.own 0 (S.rs.acs x)).2.length
      · exact h
      · rw [g2b id h] at hg
        have := (hst.low id gh b hg hb).2
        omega
    have k1 := hk id gh e1 e3
    have k2 := hk id' gh' e2 e4
    rw [g2a _ k1] at e1
    rw [g2a _ k2] at e2
    have := h1.inj _ _ gh gh' b e1 e2 e3 e4
    omega
  · by_cases h : n ≤ id ∧ id < n + (ownAcs S.deep S.own 0 (S.rs.acs x)).2.length
    · rw [g2a id h] at hg; exact (h1.low _ gh b hg hb).2
    · rw [g2b id h] at hg
      exact Nat.lt_of_lt_of_le (hst.low id gh b hg hb).2 h1.ext.size
  · by_cases h : n ≤ id ∧ id < n + (ownAcs S.deep S.own 0 (S.rs.acs x)).2.length
    · exact .inr h
    · rw [g2b id h] at hg; exact .inl hg
  · refine tup_rv hpr (by rw [ownAcs_len, acs_len]) ?_
    have := own_shift (ok2 := imm w0 ok0 w' G2) (G2 := G2) n S.own (S.rs.acs x) vs 0 (acs_data _ _) hr (fun k gh _ => g2k k gh) (fun c hc hd v hv => ?_)
    · exact this
    · rcases hok with hok | ⟨hfl, _⟩
      · exact hv.mono (fun _ _ => rfl) (hmono hok) (fun id gh hl => absurd hl (hd id))
      · have hf := List.all_eq_true.1 hfl c hc
        cases c <;> first | (cases hf; done) | exact hv | exact absurd rfl (hd _)

/-- The flagged rows are data as well. -/
theorem own_raw {dp : Bool} {w' : World} {ok1 ok2 : Nat → Prop} {G G0 : GM} {h : List (Nat × Ob)} (hm : ∀ b, ok1 b → ok2 b)
    (hG : ∀ id gh, G id = some gh → ∃ p, h[id]? = some p ∧ ObR w' ok1 G gh p.2 ∧ ∀ b, gh.has b → ok2 b) :
    ∀ (fs : List Bool) (cs : List AC) (vs : List Value) (m : Nat), (∀ c ∈ cs, ∀ id, ¬ c.leads id) → (∀ (j : Nat) (p : Nat × Ob), (ownAcs dp fs m cs).2[j]? = some p → h[m + j]? = some p) → RCs w' ok1 G (ownAcs dp fs m cs).1 vs → RCs w' ok2 G0 cs vs
  | [], cs, vs, m, hd, _, hr => by
    rw [ownAcs_nil] at hr
    exact ⟨hr.1, fun i c v h1 h2 => (hr.2 i c v h1 h2).mono (fun _ _ => rfl) hm (fun id gh hl => absurd hl (hd c (List.mem_of_getElem? h1) id))⟩
  | b :: fs, [], vs, m, hd, _, hr => by
    rw [ownAcs_nil'] at hr
    exact ⟨hr.1, fun i c v h1 => by simp at h1⟩
  | b :: fs, c :: cs, [], m, hd, _, hr => by
    have := hr.1
    rw [ownAcs_len] at this
    simp at this
  | b :: fs, c :: cs, v :: vs, m, hd, ho, hr => by
    have other : ∀ h : (b = false ∨ ∀ e xs, c ≠ .slc e xs), RCs w' ok2 G0 (c :: cs) (v :: vs) := by
      intro hb
      rw [ownAcs_other _ _ _ _ _ hb] at hr ho
      exact RCs.cons (hr.head.mono (fun _ _ => rfl) hm (fun id gh hl => absurd hl (hd c (by simp) id))) (own_raw hm hG fs cs vs m (fun c hm => hd c (by simp [hm])) ho hr.tail)
    rcases slc_or c with ⟨e, xs, rfl⟩ | hs
    · cases b
      · exact other (.inl rfl)
      · rw [ownAcs_slc] at hr ho
        obtain ⟨gh, h1, h2⟩ := hr.head
        obtain ⟨p, hp, hob, hb⟩ := hG m gh h1
        have := ho 0 (0, mkRow dp e xs) rfl
        rw [Nat.add_zero, hp] at this
        cases this
        refine RCs.cons ?_ (own_raw hm hG fs cs vs (m + 1) (fun c hm => hd c (by simp [hm])) (fun j p hj => by rw [show m + 1 + j = m + (j + 1) by omega]; exact ho (j + 1) p (by simpa using hj)) hr.tail)
        rw [h2]
        exact mkRow_slc hm hob hb
    · exact other (.inr hs)
theorem ResOk.raw {S : FnSpec} {w w' : World} {ok : Nat → Prop} {V : Value} {r : S.rs.den} (h : ResOk S w ok w' V r) : ResOk { S with own := [] } w ok w' V r := by
  obtain ⟨G, vs, rfl, hr, hst⟩ := h
  have hm : ∀ b, imm w ok w' G b → imm w ok w' (fun _ => none) b := fun b hb => ⟨hb.1, hb.2.1, fun id gh hg => by cases hg⟩
  refine ⟨fun _ => none, vs, rfl, ?_, ⟨(fun id gh hg => by cases hg), (fun id id' gh gh' b hg => by cases hg), (fun id gh b hg => by cases hg), hst.ext⟩⟩
  rw [ownAcs_nil]
  refine own_raw (h := (ownAcs S.deep S.own 0 (S.rs.acs r)).2) hm (fun id gh hg => ?_) S.own (S.rs.acs r) vs 0 (acs_data _ _) (fun j p hj => by rw [Nat.zero_add]; exact hj) hr
  obtain ⟨p, hp, ho⟩ := hst.ob id gh hg
  exact ⟨p, hp, ho, fun b hb => ⟨.inr (hst.low id gh b hg hb).1, (hst.low id gh b hg hb).2, fun id gh hg => by cases hg⟩⟩
theorem Sound.raw {Pre : World → Prop} {f : FuncId} {S : FnSpec} (h : Sound P Pre f S) (raw : Bool) : Sound P Pre f { S with own := bif raw then [] else S.own } := by
  cases raw with
  | false => exact h
  | true => exact fun w args x r ok h1 h2 h3 h4 => (h w args x r ok h1 h2 h3 h4).mono fun e w' ⟨V, he, hr⟩ => ⟨V, he, hr.raw⟩

theorem RCap.ac {w : World} {ok : Nat → Prop} {G : GM} {c : Cap} {v : Value} (h : RCap w ok G c v) : RC w ok G c.ac v := by
  cases c with
  | vptr id off => exact h
  | own id => exact h
  | dat τ x =>
    have hr := τ.acs_rc (G := G) (show τ.rp w ok [v] x from h)
    show RC w ok G (match τ.acs x with | [c] => c | _ => .bad) v
    split
    · rename_i c hc
      rw [hc] at hr
      exact hr.head
    · exact trivial
theorem go_call {Pre : World → Prop} (hC : ∀ f k S, C.fns.find f k = some S → Sound P Pre f S ∧ Callable P f) (hpre : ∀ w, Ext w0 w → Pre w) (hlow : ∀ b, ok0 b → b < w0.heap.size)
    {f : Operand} {args : Array Operand} {ts : Array TypeId} (ho : o.op = .call { callee := .value f, args := args, argTypes := ts }) (hK : opK P C I σ o K = some r) : Goes P w0 ok0 σ o K r ∨ ∃ g cs, I g (args.toList.map σ.ev ++ cs.map .one) σ K = some r ∧
      ∀ (w : World) (ok : Nat → Prop) (G : GM) (a : Act), RV w ok G (σ.ev f) (a.eval f) → ∃ us : List Value, a.eval f = .func (.func g) #[] us.toArray ∧ RCs w ok G cs us := by
  simp only [opK, ho] at hK
  split at hK
  case h_2 g cs hf =>
    refine .inr ⟨g, cs.map Cap.ac, by rw [List.map_map]; exact hK, fun w ok G a hr => ?_⟩
    rw [hf] at hr
    obtain ⟨us, h1, h2, h3⟩ := hr
    refine ⟨us, h1, by simp [h2], fun i c v hc hv => ?_⟩
    rw [List.getElem?_map] at hc
    obtain ⟨cp, hcp, rfl⟩ := Option.map_eq_some_iff.1 hc
    exact (h3 i cp v hcp hv).ac
  case h_3 => cases hK
  case h_1 g ct cx hf =>
    unfold callK at hK
    split at hK
    · refine .inr ⟨g, ct.acs cx, hK, fun w ok G a hr => ?_⟩
      rw [hf] at hr
      obtain ⟨us, he, hus⟩ := hr
      exact ⟨us, by simpa using he, ct.acs_rc hus⟩
    · left
      rename_i S0 hS
      obtain ⟨hb, hK'⟩ := bif_some hK
      simp only [Bool.and_eq_true] at hb
      obtain ⟨hag, hpr⟩ := hb
      obtain ⟨hsound0, fn, hfn, hbody, hname⟩ := hC g _ S0 hS
      let S : FnSpec := { S0 with own := bif C.isRaw o.dst then [] else S0.own }
      have hsound : Sound P Pre g S := hsound0.raw (C.isRaw o.dst)
      have hclo : ∀ (w : World) (G : GM) (a : Act), (∀ x ∈ o.op.operands, RV w (imm w0 ok0 w G) G (σ.ev x) (a.eval x)) → ∃ us : List Value, (execOp a.eval o).run P w = .ok (.enter g (args.map a.eval ++ us.toArray)) w ∧ RCs w (imm w0 ok0 w G) G (ct.acs cx) us := by
        intro w G a hops
        have hfa := hops f (by simp [ho, Op.operands, Call.operands])
        rw [hf] at hfa
        obtain ⟨us, he, hus⟩ := hfa
        have he : a.eval f = .func (.func g) #[] us.toArray := by simpa using he
        refine ⟨us, ?_, ct.acs_rc hus⟩
        simp only [execOp, ho, resolve, he, Deferred.ofValue]
        have hname' : fn.name ≠ "runtime.NumGoroutine" := by simpa using hname
        have hbody' : fn.body ≠ none := by intro h; simp [h] at hbody
        simp [invoke, callFunc, hfn, hbody', hname']
      have hargs : ∀ (w : World) (G : GM) (a : Act), (∀ x ∈ o.op.operands, RV w (imm w0 ok0 w G) G (σ.ev x) (a.eval x)) → ∀ y ∈ args.toList, RV w (imm w0 ok0 w G) G (σ.ev y) (a.eval y) := by
        intro w G a hops y hy
        exact hops y (by simp [ho, Op.operands, Call.operands]; right; simpa using hy)
      split at hK'
      · rename_i x hx
        obtain ⟨y, hy, hK''⟩ := obind_some hK'
        refine ⟨_, _, hK'', (fun p hp k l he => by obtain ⟨e, xs, h⟩ := ownAcs_rows _ _ _ p hp; rw [h] at he; exact mkRow_nf he), fun H w G a hp hst hops hfr => ?_⟩
        obtain ⟨us, hrun, hus⟩ := hclo w G a hops
        have hA : ArgsOk w (imm w0 ok0 w G) S.ps (args.map a.eval ++ us.toArray).toList x := by
          rw [Array.toList_append, Array.toList_map]
          exact args_ok (h := []) (fun _ h => h) (fun id gh _ hn => absurd rfl hn) hus S.ps args.toList x hag hx (hargs w G a hops)
        have hc := hsound w _ x y (imm w0 ok0 w G) (hpre w hst.ext) (fun b hb => hb.2.1) hA hy
        refine .enter hrun (hc.mono fun e w' ⟨V, he, hres⟩ => ⟨V, he, ?_⟩)
        exact call_back (S := S) hst hpr hp hfr hres (.inl fun b hb => hb)
      · split at hK'
        · rename_i x hx
          obtain ⟨y, hy, hK''⟩ := obind_some hK'
          obtain ⟨hfl, hK3⟩ := bif_some hK''
          simp only [Bool.and_eq_true] at hfl
          refine ⟨_, _, hK3, (fun p hp k l he => by obtain ⟨e, xs, h⟩ := ownAcs_rows _ _ _ p hp; rw [h] at he; exact mkRow_nf he), fun H w G a hp hst hops hfr => ?_⟩
          obtain ⟨us, hrun, hus⟩ := hclo w G a hops
          have hA : ArgsOk w (fun b => b < w.heap.size) S.ps (args.map a.eval ++ us.toArray).toList x := by
            rw [Array.toList_append, Array.toList_map]
            refine args_ok (h := σ.h) (ok := imm w0 ok0 w G) (G := G) (fun _ h => h.2.1) (fun id gh hg hn => ⟨hst.obOf (fun i p hi => hp i p (by rw [List.getElem?_append_left (List.getElem?_eq_some_iff.1 hi).1]; exact hi)) hg hn, fun b hb => (hst.low id gh b hg (Ob.uses_has hb)).2⟩) hus S.ps args.toList x hag hx (hargs w G a hops)
          have hc := hsound w _ x y (fun b => b < w.heap.size) (hpre w hst.ext) (fun b hb => hb) hA hy
          refine .enter hrun (hc.mono fun e w' ⟨V, he, hres⟩ => ⟨V, he, ?_⟩)
          exact call_back (S := S) hst hpr hp hfr hres (.inr hfl)
        · cases hK'
/-- A function's value with what it captures. -/
theorem data_rc {c : AC} {d : (τ : Ty) × τ.den} (h : c.data = some d) {w : World} {ok : Nat → Prop} {G : GM} {v : Value} (hr : RC w ok G c v) : d.1.rp w ok [v] d.2 := by
  cases c with
  | int k n => cases h; obtain ⟨rfl, hw⟩ := hr; exact ⟨rfl, hw⟩
  | bool b => cases h; obtain rfl : v = _ := hr; rfl
  | str s => cases h; obtain ⟨rfl, hw⟩ := hr; exact ⟨rfl, hw⟩
  | slc e xs => cases h; exact hr
  | ptr e p => cases h; exact hr
  | clo g t x => cases h; exact hr
  | dptr e x off =>
    cases off with
    | succ n => cases h
    | zero =>
      cases h
      obtain ⟨b, o, us, rfl, h1, h2, h3⟩ := hr
      exact ⟨b, o, us, rfl, h1, h2, h3⟩
  | _ => cases h
theorem caps_rc {w : World} {ok : Nat → Prop} {G : GM} {a : Act} : ∀ (xs : List Operand) (d : (τ : Ty) × τ.den), capsOf σ xs = some d → (∀ y ∈ xs, RV w ok G (σ.ev y) (a.eval y)) → d.1.rp w ok (xs.map a.eval) d.2
  | [], d, h, _ => by cases h; exact rfl
  | x :: xs, d, h, hr => by
    simp only [capsOf] at h
    split at h
    · rename_i c hc
      split at h
      · rename_i d1 d2 h1 h2
        cases h
        have hv := hr x (by simp)
        rw [hc] at hv
        exact ⟨[a.eval x], _, rfl, data_rc h1 hv, caps_rc xs d2 h2 (fun y hy => hr y (by simp [hy]))⟩
      · cases h
    · cases h
theorem capsA_rc {w : World} {ok : Nat → Prop} {G : GM} {a : Act} : ∀ (xs : List Operand) (cs : List Cap), capsA σ xs = some cs → (∀ y ∈ xs, RV w ok G (σ.ev y) (a.eval y)) →
    (xs.map a.eval).length = cs.length ∧ ∀ (i : Nat) (c : Cap) (u : Value), cs[i]? = some c → (xs.map a.eval)[i]? = some u → RCap w ok G c u
  | [], cs, h, _ => by cases h; exact ⟨rfl, fun i c u hc => by simp at hc⟩
  | x :: xs, cs, h, hr => by
    have hv := hr x (by simp)
    have fin : ∀ (c : Cap) (cs' : List Cap), capsA σ xs = some cs' → RCap w ok G c (a.eval x) → cs = c :: cs' → ((x :: xs).map a.eval).length = cs.length ∧ ∀ (i : Nat) (c : Cap) (u : Value), cs[i]? = some c → ((x :: xs).map a.eval)[i]? = some u → RCap w ok G c u := by
      rintro c cs' h1 h2 rfl
      obtain ⟨h3, h4⟩ := capsA_rc xs cs' h1 (fun y hy => hr y (by simp [hy]))
      refine ⟨by simpa using h3, fun i d u hd hu => ?_⟩
      cases i with
      | zero => simp at hd hu; subst hd hu; exact h2
      | succ i => exact h4 i d u (by simpa using hd) (by simpa using hu)
    simp only [capsA] at h
    split at h
    · rename_i id off cs' hx hcs
      cases h
      rw [hx] at hv
      exact fin (.vptr id off) _ hcs hv rfl
    · rename_i id cs' hx hcs
      cases h
      rw [hx] at hv
      exact fin (.own id) _ hcs hv rfl
    · rename_i c cs' _ _ hx hcs
      split at h
      · rename_i d hd
        cases h
        rw [hx] at hv
        exact fin (.dat d.1 d.2) _ hcs (data_rc hd hv) rfl
      · cases h
    · cases h
theorem go_makeFunc {fn : Fn} {first caps : Array Operand} (ho : o.op = .makeFunc fn first caps) (hK : opK P C I σ o K = some r) : Goes P w0 ok0 σ o K r := by
  cases fn with
  | func g =>
    simp only [opK, ho] at hK
    obtain ⟨he, hK⟩ := bif_some hK
    split at hK
    · rename_i d hd
      refine goes_same hK fun H w G a _ _ hx => ⟨.func (.func g) #[] (caps.map a.eval), ?_, ?_⟩
      · have : first = #[] := by
          have : first.toList = [] := by simpa using he
          simpa using this
        simp [execOp, ho, this, Instr.makeFunc]
      · refine ⟨caps.toList.map a.eval, by rw [← Array.toList_map], caps_rc caps.toList d hd fun y hy => hx y (by simp [ho, Op.operands]; right; simpa using hy)⟩
    · split at hK
      · rename_i cs hcs
        refine goes_same hK fun H w G a _ _ hx => ⟨.func (.func g) #[] (caps.map a.eval), ?_, ?_⟩
        · have : first = #[] := by
            have : first.toList = [] := by simpa using he
            simpa using this
          simp [execOp, ho, this, Instr.makeFunc]
        · exact ⟨caps.toList.map a.eval, by rw [← Array.toList_map], capsA_rc caps.toList cs hcs fun y hy => hx y (by simp [ho, Op.operands]; right; simpa using hy)⟩
      · cases hK
  | _ => simp [opK, ho] at hK
end
end Go.Proofs.YtbdokiecpmhjmaaGreatDoor
