import PyProof.Rows.All
import Wide.All
import OpenK.AllK
import Flt.Ops
import KE.KIsNot
import Wide.FinOn
import PySem.Challenge.RW_uf030040_12

set_option maxRecDepth 100000
set_option autoImplicit false
set_option Elab.async false
set_option linter.all false
set_option maxHeartbeats 4000000

namespace Fl
open PySem PyProof.Rows

/-- the names of a frame and what they hold, where it is known -/
abbrev Rho := List (Str × Option Value)
inductive Look (x : Str) (v : Value) : Rho → Prop
  | head {r} : Look x v ((x, some v) :: r)
  | tail {p r} : Look x v r → Look x v (p :: r)
inductive Put (x : Str) (v : Value) : Rho → Rho → Prop
  | head {w r} : Put x v ((x, w) :: r) ((x, some v) :: r)
  | tail {p r r'} : Put x v r r' → Put x v (p :: r) (p :: r')
theorem Look.mem {x : Str} {v : Value} {ρ : Rho} (h : Look x v ρ) : x ∈ ρ.map (·.1) := by
  induction h with
  | head => exact List.mem_cons_self ..
  | tail _ ih => exact List.mem_cons_of_mem _ ih
theorem Look.in_ {x : Str} {v : Value} {ρ : Rho} (h : Look x v ρ) : (x, some v) ∈ ρ := by
  induction h with
  | head => exact List.mem_cons_self ..
  | tail _ ih => exact List.mem_cons_of_mem _ ih
theorem Look.of_in {x : Str} {v : Value} : ∀ {ρ : Rho}, (x, some v) ∈ ρ → Look x v ρ
  | _ :: _, h => by
    rcases List.mem_cons.mp h with rfl | h
    · exact .head
    · exact .tail (Look.of_in h)
theorem Put.names {x : Str} {v : Value} {ρ ρ' : Rho} (h : Put x v ρ ρ') : ρ'.map (·.1) = ρ.map (·.1) := by
  induction h with
  | head => rfl
  | tail _ ih => simp only [List.map_cons, ih]
theorem Put.mem {x : Str} {v : Value} {ρ ρ' : Rho} (h : Put x v ρ ρ') : x ∈ ρ.map (·.1) := by
  induction h with
  | head => exact List.mem_cons_self ..
  | tail _ ih => exact List.mem_cons_of_mem _ ih
/-- what is looked up behind a store: the name stored, or another name as before -/
theorem Put.look {x : Str} {v : Value} {ρ ρ' : Rho} (h : Put x v ρ ρ') (nd : (ρ.map (·.1)).Nodup) {y : Str} {u : Value} (hy : Look y u ρ') : (y = x ∧ u = v) ∨ (y ≠ x ∧ Look y u ρ) := by
  induction h with
  | head =>
    cases hy with
    | head => exact .inl ⟨rfl, rfl⟩
    | tail hy =>
      refine .inr ⟨fun e => ?_, .tail hy⟩
      rw [List.map_cons, List.nodup_cons] at nd
      exact nd.1 (e ▸ hy.mem)
  | tail hp ih =>
    rw [List.map_cons, List.nodup_cons] at nd
    cases hy with
    | head => exact .inr ⟨fun e => nd.1 (e ▸ hp.mem), .head⟩
    | tail hy =>
      rcases ih nd.2 hy with h | ⟨h1, h2⟩
      · exact .inl h
      · exact .inr ⟨h1, .tail h2⟩

/-- all that stands in h stands in h' -/
abbrev Sub (h h' : Heap) : Prop := ∀ b o, h.get? b = some o → h'.get? b = some o
theorem Sub.refl (h : Heap) : Sub h h := fun _ _ e => e
theorem Sub.trans {h₁ h₂ h₃ : Heap} (x : Sub h₁ h₂) (y : Sub h₂ h₃) : Sub h₁ h₃ := fun b o e => y b o (x b o e)
theorem Sub.none {h h' : Heap} (x : Sub h h') {a : Addr} (e : h'.get? a = none) : h.get? a = none := by
  cases q : h.get? a with
  | none => rfl
  | some o => rw [x _ _ q] at e; cases e

/-- the state of a frame in its run: b whether it may store; s₀ the state that it was entered in, h₀ a part of the heap that stays, ρ what its names hold, Λ objects that may be changed -/
structure CS (b : Bool) (s₀ : Shared) (h₀ : Heap) (env : Env) (ρ : Rho) (Λ : List (Addr × Obj)) (s : Shared) : Prop where
  kind : env.scope.kind = .function
  same : ∃ h tk, s = { s₀ with heap := h, toks := tk }
  base : Sub h₀ s.heap
  all : b = false → Sub s₀.heap s.heap
  ns : ∃ m, s.heap.Ns env.locals m ∧ ∀ x v, Look x v ρ → env.kindOf x = some .local → m x = some v
  cell : ∀ x v c, Look x v ρ → env.kindOf x = some .cell → env.cells.lookup x = some c → s.heap.IsCell c (some v)
  cells : ∀ n c, env.cells.lookup n = some c → (∃ v, s.heap.IsCell c v) ∧ c ≠ env.locals ∧ (b = true → h₀.get? c = none)
  apart : ∀ n n' c, env.cells.lookup n = some c → env.cells.lookup n' = some c → n = n'
  kinds : ∀ x, x ∈ ρ.map (·.1) → env.kindOf x = some .local ∨ (env.kindOf x = some .cell ∧ ∃ c, env.cells.lookup x = some c)
  locs : b = true → h₀.get? env.locals = none
  nd : (ρ.map (·.1)).Nodup
  led : ∀ p ∈ Λ, s.heap.get? p.1 = some p.2 ∧ p.1 ≠ env.locals ∧ (∀ n, env.cells.lookup n ≠ some p.1) ∧ (b = true → h₀.get? p.1 = none)
  lnd : (Λ.map (·.1)).Nodup

namespace CS
variable {b : Bool} {s₀ s s' : Shared} {h₀ h₁ : Heap} {env : Env} {ρ ρ' : Rho} {Λ Λ' : List (Addr × Obj)}

theorem keeps (S : CS b s₀ h₀ env ρ Λ s) (k : Keeps s s') : CS b s₀ h₀ env ρ Λ s' := by
  obtain ⟨h', tk, rfl, hk⟩ := k
  refine ⟨S.kind, ?_, S.base.trans hk, fun q => (S.all q).trans hk, ?_, fun x v c a b d => (S.cell x v c a b d).keeps hk, fun n c e => ?_, S.apart, S.kinds, S.locs, S.nd, fun p hp => ?_, S.lnd⟩
  · obtain ⟨h, t, rfl⟩ := S.same; exact ⟨h', tk, rfl⟩
  · obtain ⟨m, hn, hm⟩ := S.ns; exact ⟨m, hn.keeps hk, hm⟩
  · obtain ⟨⟨v, hv⟩, r⟩ := S.cells n c e; exact ⟨⟨v, hv.keeps hk⟩, r⟩
  · obtain ⟨a, r⟩ := S.led p hp; exact ⟨hk _ _ a, r⟩
theorem tok (S : CS b s₀ h₀ env ρ Λ s) (tk : Nat) : CS b s₀ h₀ env ρ Λ { s with toks := tk } := S.keeps ⟨s.heap, tk, rfl, fun _ _ e => e⟩
/-- a frame that changes nothing that stood: behind it all stands as before -/
theorem out (S : CS b s₀ s₀.heap env ρ Λ s) : Keeps s₀ s := by
  obtain ⟨h, tk, e⟩ := S.same
  refine ⟨h, tk, e, fun b o q => ?_⟩
  have := S.base b o q
  rw [e] at this; exact this
theorem quiet (S : CS false s₀ h₀ env ρ Λ s) : Keeps s₀ s := by
  obtain ⟨h, tk, e⟩ := S.same
  refine ⟨h, tk, e, fun b o q => ?_⟩
  have := S.all rfl b o q
  rw [e] at this; exact this
/-- a smaller part that stays -/
theorem drop (S : CS b s₀ h₁ env ρ Λ s) (k : Sub h₀ h₁) : CS b s₀ h₀ env ρ Λ s :=
  ⟨S.kind, S.same, k.trans S.base, S.all, S.ns, S.cell, fun n c e => let ⟨a, b, c⟩ := S.cells n c e; ⟨a, b, fun q => k.none (c q)⟩, S.apart, S.kinds, fun q => k.none (S.locs q), S.nd,
    fun p hp => let ⟨a, b, c, d⟩ := S.led p hp; ⟨a, b, c, fun q => k.none (d q)⟩, S.lnd⟩

theorem look {x : Str} {v : Value} {Q : Value → Shared → Prop} {M : Model} {A : Around} {E : Value → Shared → Prop} (S : CS b s₀ h₀ env ρ Λ s) (hx : Look x v ρ) (h : Q v s) : wpAny M A (loadName env x) Q E s := by
  rcases S.kinds x hx.mem with hl | ⟨hc, c, hcl⟩
  · obtain ⟨m, hn, hm⟩ := S.ns
    exact wpAny_loadName_local S.kind hl hn (hm x v hx hl) h
  · exact wpAny_loadName_cell S.kind hc hcl (S.cell x v c hx hc hcl) h

theorem put {x : Str} {v : Value} {Q : Unit → Shared → Prop} {M : Model} {A : Around} {E : Value → Shared → Prop} (S : CS true s₀ h₀ env ρ Λ s) (hx : Put x v ρ ρ')
    (h : ∀ s', CS true s₀ h₀ env ρ' Λ s' → Q () s') : wpAny M A (storeName env x v) Q E s := by
  have nd' : (ρ'.map (·.1)).Nodup := hx.names ▸ S.nd
  have kinds' : ∀ y, y ∈ ρ'.map (·.1) → env.kindOf y = some .local ∨ (env.kindOf y = some .cell ∧ ∃ c, env.cells.lookup y = some c) := fun y hy => S.kinds y (hx.names ▸ hy)
  rcases S.kinds x hx.mem with hl | ⟨hc, c, hcl⟩
  · obtain ⟨m, hn, hm⟩ := S.ns
    refine wpAny_storeName_local hl hn (fun h' hn' hs' => h _ ?_) (by rw [S.kind]; rfl)
    have up : ∀ b o, b ≠ env.locals → s.heap.get? b = some o → h'.get? b = some o := fun b o hb e => hs'.extBut b o hb e
    refine ⟨S.kind, ?_, fun b o e => up b o (fun q => ?_) (S.base b o e), (fun q => nomatch q), ⟨_, hn', fun y u hy hk => ?_⟩, fun y u c hy hk hc => ?_, fun n c e => ?_, S.apart, kinds', S.locs, nd', fun p hp => ?_, S.lnd⟩
    · obtain ⟨h, t, rfl⟩ := S.same; exact ⟨h', _, rfl⟩
    · rw [q, S.locs rfl] at e; cases e
    · rcases hx.look S.nd hy with ⟨rfl, rfl⟩ | ⟨h1, h2⟩
      · exact if_pos rfl
      · exact (if_neg h1).trans (hm y u h2 hk)
    · rcases hx.look S.nd hy with ⟨rfl, rfl⟩ | ⟨h1, h2⟩
      · rw [hl] at hk; cases hk
      · exact (S.cell y u c h2 hk hc).sameBut hs' (S.cells y c hc).2.1
    · obtain ⟨⟨w, hw⟩, r⟩ := S.cells n c e
      exact ⟨⟨w, hw.sameBut hs' r.1⟩, r⟩
    · obtain ⟨a, b, r⟩ := S.led p hp
      exact ⟨up _ _ b a, b, r⟩
  · obtain ⟨⟨v₀, hv₀⟩, hcL, hc0⟩ := S.cells x c hcl
    refine wpAny_storeName_cell S.kind hc hcl hv₀ (fun h' hn' hs' => h _ ?_)
    have up : ∀ b o, b ≠ c → s.heap.get? b = some o → h'.get? b = some o := fun b o hb e => hs'.extBut b o hb e
    obtain ⟨m, hn, hm⟩ := S.ns
    refine ⟨S.kind, ?_, fun b o e => up b o (fun q => ?_) (S.base b o e), (fun q => nomatch q), ⟨m, hn.sameBut hs' hcL.symm, fun y u hy hk => ?_⟩, fun y u c' hy hk hc' => ?_, fun n c' e => ?_, S.apart, kinds', S.locs, nd', fun p hp => ?_, S.lnd⟩
    · obtain ⟨h, t, rfl⟩ := S.same; exact ⟨h', _, rfl⟩
    · rw [q, hc0 rfl] at e; cases e
    · rcases hx.look S.nd hy with ⟨rfl, rfl⟩ | ⟨h1, h2⟩
      · rw [hc] at hk; cases hk
      · exact hm y u h2 hk
    · rcases hx.look S.nd hy with ⟨rfl, rfl⟩ | ⟨h1, h2⟩
      · rw [hcl] at hc'; cases hc'; exact hn'
      · refine (S.cell y u c' h2 hk hc').sameBut hs' fun q => h1 ?_
        subst q; exact S.apart _ _ _ hc' hcl
    · obtain ⟨⟨w, hw⟩, r⟩ := S.cells n c' e
      by_cases q : c' = c
      · exact ⟨⟨_, q ▸ hn'⟩, r⟩
      · exact ⟨⟨w, hw.sameBut hs' q⟩, r⟩
    · obtain ⟨a, b, c', d⟩ := S.led p hp
      exact ⟨up _ _ (fun q => c' x (q ▸ hcl)) a, b, c', d⟩

/-- less said of the names -/
theorem less (S : CS b s₀ h₀ env ρ Λ s) (hn : ρ'.map (·.1) = ρ.map (·.1)) (hl : ∀ x v, Look x v ρ' → Look x v ρ) : CS b s₀ h₀ env ρ' Λ s := by
  refine ⟨S.kind, S.same, S.base, S.all, ?_, fun x v c a b d => S.cell x v c (hl _ _ a) b d, S.cells, S.apart, hn ▸ S.kinds, S.locs, hn ▸ S.nd, S.led, S.lnd⟩
  obtain ⟨m, a, b⟩ := S.ns
  exact ⟨m, a, fun x v hx => b x v (hl _ _ hx)⟩

/-- the objects' addresses of a frame's own -/
def own (env : Env) (Λ : List (Addr × Obj)) (a : Addr) : Prop := a = env.locals ∨ (∃ n, env.cells.lookup n = some a) ∨ a ∈ Λ.map (·.1)
theorem own_at (S : CS b s₀ h₀ env ρ Λ s) {a : Addr} (h : own env Λ a) : ∃ o, s.heap.get? a = some o := by
  rcases h with rfl | ⟨n, e⟩ | h
  · obtain ⟨m, ⟨o, _, _, q, _⟩, _⟩ := S.ns; exact ⟨o, q⟩
  · obtain ⟨⟨v, o, q, _⟩, _⟩ := S.cells n a e; exact ⟨o, q⟩
  · obtain ⟨p, hp, rfl⟩ := List.mem_map.mp h; exact ⟨_, (S.led p hp).1⟩
theorem own_no (S : CS true s₀ h₀ env ρ Λ s) {a : Addr} (h : own env Λ a) : h₀.get? a = none := by
  rcases h with rfl | ⟨n, e⟩ | h
  · exact S.locs rfl
  · exact (S.cells n a e).2.2 rfl
  · obtain ⟨p, hp, rfl⟩ := List.mem_map.mp h; exact (S.led p hp).2.2.2 rfl
/-- another part that stays: any part of the heap that holds none of the frame's own -/
theorem rebase (S : CS b s₀ h₀ env ρ Λ s) (k : Sub h₁ s.heap) (n : ∀ a, own env Λ a → h₁.get? a = none) : CS b s₀ h₁ env ρ Λ s :=
  ⟨S.kind, S.same, k, S.all, S.ns, S.cell, fun x c e => let ⟨a, b, _⟩ := S.cells x c e; ⟨a, b, fun _ => n _ (.inr (.inl ⟨x, e⟩))⟩, S.apart, S.kinds, fun _ => n _ (.inl rfl), S.nd,
    fun p hp => let ⟨a, b, c, _⟩ := S.led p hp; ⟨a, b, c, fun _ => n _ (.inr (.inr (List.mem_map_of_mem hp)))⟩, S.lnd⟩
end CS
end Fl

namespace Fl
open PySem PyProof.Rows

open Classical in
/-- the heap without the objects at some addresses -/
noncomputable def without (h : Heap) (P : Addr → Prop) : Heap := { h with objs := h.objs.mapIdx fun i o => if P i then { o with data := .freed } else o }
theorem without_none {h : Heap} {P : Addr → Prop} {a : Addr} (p : P a) : (without h P).get? a = none := by
  cases q : (without h P).get? a with
  | none => rfl
  | some o =>
    obtain ⟨h1, h2⟩ := Heap.get?_some_iff.mp q
    unfold without at h1
    rw [Array.getElem?_mapIdx] at h1
    cases e : h.objs[a]? with
    | none => rw [e] at h1; cases h1
    | some o' => rw [e] at h1; simp only [Option.map_some, if_pos p, Option.some.injEq] at h1; subst h1; cases h2
theorem without_get {h : Heap} {P : Addr → Prop} {a : Addr} {o : Obj} (p : ¬ P a) (e : h.get? a = some o) : (without h P).get? a = some o := by
  obtain ⟨h1, h2⟩ := Heap.get?_some_iff.mp e
  refine Heap.get?_some_iff.mpr ⟨?_, h2⟩
  unfold without
  rw [Array.getElem?_mapIdx, h1]
  simp only [Option.map_some, if_neg p]
theorem of_without {h : Heap} {P : Addr → Prop} {a : Addr} {o : Obj} (e : (without h P).get? a = some o) : h.get? a = some o ∧ ¬ P a := by
  by_cases p : P a
  · rw [without_none p] at e; cases e
  · refine ⟨?_, p⟩
    obtain ⟨h1, h2⟩ := Heap.get?_some_iff.mp e
    refine Heap.get?_some_iff.mpr ⟨?_, h2⟩
    unfold without at h1
    rw [Array.getElem?_mapIdx] at h1
    cases q : h.objs[a]? with
    | none => rw [q] at h1; cases h1
    | some o' => rw [q] at h1; simp only [Option.map_some, if_neg p] at h1; exact h1
theorem without_sub (h : Heap) (P : Addr → Prop) : Sub (without h P) h := fun _ _ e => (of_without e).1

theorem fresh_none {h : Heap} {a : Addr} (k : h.objs.size ≤ a) : h.get? a = none := by
  cases q : h.get? a with
  | none => rfl
  | some o => exact absurd (Heap.lt_size q) (Nat.not_lt.mpr k)

namespace CS
variable {b : Bool} {s₀ s s' : Shared} {h₀ h₁ : Heap} {env : Env} {ρ ρ' : Rho} {Λ Λ' : List (Addr × Obj)}
/-- all that stands but the frame's own stays from now on -/
theorem wide (S : CS true s₀ h₀ env ρ Λ s) : ∃ h₁, Sub h₀ h₁ ∧ CS true s₀ h₁ env ρ Λ s ∧ ∀ a o, s.heap.get? a = some o → ¬ own env Λ a → h₁.get? a = some o := by
  refine ⟨without s.heap (own env Λ), fun a o e => without_get (fun h => ?_) (S.base a o e), S.rebase (without_sub _ _) fun a h => without_none h, fun a o e h => without_get h e⟩
  rw [S.own_no h] at e; cases e
/-- what a call has made newly (it changed nothing that stood) stays from now on -/
theorem grow (S : CS true s₀ h₀ env ρ Λ s) (k : Keeps s s') : ∃ h₁, Sub h₀ h₁ ∧ CS true s₀ h₁ env ρ Λ s' ∧ ∀ a o, s.heap.get? a = none → s'.heap.get? a = some o → h₁.get? a = some o := by
  obtain ⟨h₁, h1, h2, h3⟩ := (S.keeps k).wide
  refine ⟨h₁, h1, h2, fun a o e q => h3 a o q fun w => ?_⟩
  obtain ⟨o', w⟩ := S.own_at w
  rw [w] at e; cases e
end CS

/-- the names of a def's frame at its start -/
def rho0 (names : List (Str × NameKind)) (binds : List (Str × Value)) : Rho := names.filterMap fun x => if x.2 = .local ∨ x.2 = .cell then some (x.1, binds.lookup x.1) else none

theorem lookup_of_nodup {α : Type} : ∀ {l : List (Str × α)} {x : Str} {v : α}, (l.map (·.1)).Nodup → (x, v) ∈ l → l.lookup x = some v
  | (y, u) :: r, x, v, nd, h => by
    rw [List.map_cons, List.nodup_cons] at nd
    rw [List.lookup_cons]
    rcases List.mem_cons.mp h with e | h'
    · cases e; simp
    · have : (x == y) = false := by
        rw [beq_eq_false_iff_ne]
        intro q
        exact nd.1 (List.mem_map.mpr ⟨(x, v), h', q⟩)
      rw [this]
      exact lookup_of_nodup nd.2 h'

theorem bindL_look {kindOf : Str → Option NameKind} : ∀ {binds : List (Str × Value)} {m : Str → Option Value} {x : Str}, (binds.map (·.1)).Nodup → kindOf x = some .local →
    bindL kindOf binds m x = (match binds.lookup x with | some v => some v | none => m x)
  | [], _, _, _, _ => rfl
  | (n, v) :: r, m, x, nd, hk => by
    rw [List.map_cons, List.nodup_cons] at nd
    simp only [bindL, List.lookup_cons]
    rw [bindL_look nd.2 hk]
    by_cases e : x = n
    · subst e
      have hr : r.lookup x = none := by
        cases q : r.lookup x with
        | none => rfl
        | some u => exact absurd (List.mem_map.mpr ⟨(x, u), mem_of_lookup q, rfl⟩) nd.1
      simp [hr, hk]
    · have hb : (x == n) = false := beq_eq_false_iff_ne.mpr e
      rw [hb]
      cases r.lookup x with
      | some u => rfl
      | none =>
        show (if kindOf n = some .local then fun y => if y = n then some v else m y else m) x = m x
        split
        · exact if_neg e
        · rfl
theorem bindC_look {kindOf : Str → Option NameKind} : ∀ {binds : List (Str × Value)} {m : Str → Option Value} {x : Str}, (binds.map (·.1)).Nodup → kindOf x = some .cell →
    bindC kindOf binds m x = (match binds.lookup x with | some v => some v | none => m x)
  | [], _, _, _, _ => rfl
  | (n, v) :: r, m, x, nd, hk => by
    rw [List.map_cons, List.nodup_cons] at nd
    simp only [bindC, List.lookup_cons]
    rw [bindC_look nd.2 hk]
    by_cases e : x = n
    · subst e
      have hr : r.lookup x = none := by
        cases q : r.lookup x with
        | none => rfl
        | some u => exact absurd (List.mem_map.mpr ⟨(x, u), mem_of_lookup q, rfl⟩) nd.1
      simp [hr, hk]
    · have hb : (x == n) = false := beq_eq_false_iff_ne.mpr e
      rw [hb]
      cases r.lookup x with
      | some u => rfl
      | none =>
        show (if kindOf n = some .local then m else fun y => if y = n then some v else m y) x = m x
        split
        · rfl
        · exact if_neg e

theorem rho0_in {names : List (Str × NameKind)} {binds : List (Str × Value)} {x : Str} {v : Option Value} (h : (x, v) ∈ rho0 names binds) : ∃ k, (x, k) ∈ names ∧ (k = .local ∨ k = .cell) ∧ binds.lookup x = v := by
  obtain ⟨⟨y, k⟩, h1, h2⟩ := List.mem_filterMap.mp h
  split at h2
  · rename_i hk
    cases h2
    exact ⟨k, h1, hk, rfl⟩
  · cases h2
theorem rho0_nodup : ∀ {names : List (Str × NameKind)} {binds : List (Str × Value)}, (names.map (·.1)).Nodup → ((rho0 names binds).map (·.1)).Nodup
  | [], _, _ => List.nodup_nil
  | (y, k) :: r, binds, nd => by
    rw [List.map_cons, List.nodup_cons] at nd
    unfold rho0
    rw [List.filterMap_cons]
    split
    · exact rho0_nodup nd.2
    · rename_i b hb
      split at hb
      · cases hb
        rw [List.map_cons, List.nodup_cons]
        refine ⟨fun h => nd.1 ?_, rho0_nodup nd.2⟩
        obtain ⟨⟨x, v⟩, h1, h2⟩ := List.mem_map.mp h
        obtain ⟨k', h3, _⟩ := rho0_in h1
        exact List.mem_map.mpr ⟨(x, k'), h3, h2⟩
      · cases hb

/-- the frame of a def at its start -/
theorem enterCS {s s₁ : Shared} {fd : FuncData} {a : Addr} {binds : List (Str × Value)} {h₀ : Heap} {Λ : List (Addr × Obj)}
    (x : InCallC s (callEnvC fd s.heap.objs.size a).locals (bindL (callEnvC fd s.heap.objs.size a).kindOf binds fun _ => none) (callEnvC fd s.heap.objs.size a).cells (bindC (callEnvC fd s.heap.objs.size a).kindOf binds fun _ => none) s₁)
    (hk : fd.scope.kind = .function) (hnd : (fd.scope.names.map (·.1)).Nodup) (hbd : (binds.map (·.1)).Nodup) (hcs : ∀ n, fd.scope.names.lookup n = some .cell → ∃ c, (callEnvC fd s.heap.objs.size a).cells.lookup n = some c)
    (hb : Sub h₀ s.heap) (hΛ : ∀ p ∈ Λ, s.heap.get? p.1 = some p.2 ∧ h₀.get? p.1 = none) (hΛn : (Λ.map (·.1)).Nodup) : CS true s h₀ (callEnvC fd s.heap.objs.size a) (rho0 fd.scope.names binds) Λ s₁ := by
  have kin : ∀ {y : Str} {v : Option Value}, (y, v) ∈ rho0 fd.scope.names binds → ((callEnvC fd s.heap.objs.size a).kindOf y = some .local ∨ (callEnvC fd s.heap.objs.size a).kindOf y = some .cell) ∧ binds.lookup y = v := fun h => by
    obtain ⟨k, h1, h2, h3⟩ := rho0_in h
    refine ⟨?_, h3⟩
    show fd.scope.names.lookup _ = _ ∨ fd.scope.names.lookup _ = _
    rw [lookup_of_nodup hnd h1]
    rcases h2 with rfl | rfl
    · exact .inl rfl
    · exact .inr rfl
  have up : ∀ {c : Addr}, s.heap.objs.size ≤ c → h₀.get? c = none := fun h => hb.none (fresh_none h)
  have hL : (callEnvC fd s.heap.objs.size a).locals = s.heap.objs.size := rfl
  refine ⟨hk, x.toInCall.same, hb.trans x.toInCall.keep, (fun q => nomatch q), ⟨_, x.toInCall.ns, fun y v hy hl => ?_⟩, fun y v c hy hl hc => ?_, fun n c e => ⟨⟨_, x.cell n c e⟩, ?_, fun _ => up ?_⟩, fun n n' c e e' => ?_, fun y hy => ?_, fun _ => up (Nat.le_refl _), rho0_nodup hnd,
    fun p hp => ⟨x.toInCall.keep _ _ (hΛ p hp).1, ?_, fun n e => ?_, fun _ => (hΛ p hp).2⟩, hΛn⟩
  · rw [bindL_look hbd hl, (kin hy.in_).2]
  · have := x.cell y c hc
    rw [bindC_look hbd hl, (kin hy.in_).2] at this
    exact this
  · exact Nat.ne_of_gt (x.above n c (mem_of_lookup e))
  · exact Nat.le_of_lt (x.above n c (mem_of_lookup e))
  · exact name_of_addr x.apart (mem_of_lookup e) (mem_of_lookup e')
  · obtain ⟨⟨y', v⟩, h1, rfl⟩ := List.mem_map.mp hy
    rcases (kin h1).1 with h | h
    · exact .inl h
    · exact .inr ⟨h, hcs _ h⟩
  · exact Nat.ne_of_lt (Heap.lt_size (hΛ p hp).1)
  · exact absurd (Heap.lt_size (hΛ p hp).1) (Nat.not_lt.mpr (Nat.le_of_lt (x.above n p.1 (mem_of_lookup e))))

theorem cellsFrom_has {x : Str} : ∀ (names : List (Str × NameKind)) (n : Nat) (acc : List (Str × Addr)), names.lookup x = some .cell ∨ (∃ c, acc.lookup x = some c) → ∃ c, (cellsFrom n names acc).lookup x = some c
  | [], _, _, h => h.elim (fun e => by cases e) id
  | (y, k) :: r, n, acc, h => by
    unfold cellsFrom
    by_cases hk : (k == .cell) = true
    · rw [if_pos hk]
      refine cellsFrom_has r (n + 1) ((y, n) :: acc) ?_
      by_cases hy : (x == y) = true
      · exact .inr ⟨n, by rw [List.lookup_cons, hy]⟩
      · rcases h with h | ⟨c, h⟩
        · rw [List.lookup_cons] at h; simp only [hy] at h; exact .inl h
        · exact .inr ⟨c, by rw [List.lookup_cons]; simp only [hy]; exact h⟩
    · rw [if_neg hk]
      refine cellsFrom_has r n acc ?_
      rcases h with h | h
      · by_cases hy : (x == y) = true
        · rw [List.lookup_cons, hy] at h
          exact absurd (by rw [Option.some.inj h]; rfl) hk
        · rw [List.lookup_cons] at h; simp only [hy] at h; exact .inl h
      · exact .inr h

/-- a def of the text called: its body in a frame of its own -/
theorem call_def {prog : Program} {w : World} {A : Around} {s : Shared} {R : Result → Shared → Prop} {a : Addr} {o : Obj} {fd : FuncData} {body : List Stmt} {vals : List Value} {binds : List (Str × Value)} {ρ : Rho} {h₀ : Heap} {Λ : List (Addr × Obj)}
    (hroom : A.depth < recursionLimit) (ho : s.heap.get? a = some o) (hdata : o.data = .func fd) (hlim : s.heap.NoLimit) (hcd : s.heap.CodeRec fd.code fd.qualname)
    (hbody : fd.body = .stmts body) (hbind : bindArgs fd ⟨vals, []⟩ = pure binds) (hclo : fd.closure = [])
    (hb1 : (binds.all fun y => fd.scope.names.lookup y.1 == some .local || fd.scope.names.lookup y.1 == some .cell) = true) (hb2 : (binds.map (·.1)).Nodup) (hnd : (fd.scope.names.map (·.1)).Nodup) (hρ : rho0 fd.scope.names binds = ρ)
    (hb : Sub h₀ s.heap) (hΛ : ∀ p ∈ Λ, s.heap.get? p.1 = some p.2 ∧ h₀.get? p.1 = none) (hΛn : (Λ.map (·.1)).Nodup)
    (h : ∀ s₁, CS true s h₀ (callEnvC fd s.heap.objs.size a) ρ Λ s₁ →
      wpAny (model prog w) (A.deeper (callEnvC fd s.heap.objs.size a)) (execs body (callEnvC fd s.heap.objs.size a)) (fun f s' => R (.ok (.ret (match f with | .ret v => v | _ => .none))) s')
        (fun e s' => wpAny (model prog w) (A.deeper (callEnvC fd s.heap.objs.size a)) (leaving (callEnvC fd s.heap.objs.size a) e) (fun _ s'' => R (.error e) s'') (fun e' s'' => R (.error e') s'') s') s₁)
    (hco : fd.scope.isCoroutine = false) (hgen : fd.scope.isGenerator = false) (hk : fd.scope.kind = .function) :
    codeAny (model prog w) A (.call (.ref a) ⟨vals, []⟩) R s := by
  have hcs : ∀ n m, fd.scope.names.lookup n = some .cell → ∃ c, (cellsFrom m fd.scope.names []).lookup n = some c := fun n m e => cellsFrom_has _ _ _ (.inl e)
  refine codeAny_call_cells hroom ho hdata hlim hcd hbody hbind hclo (fun x hx => ?_) (fun s₁ x => ?_) hco hgen hk
  · have := List.all_eq_true.mp hb1 x hx
    rcases Bool.or_eq_true_iff.mp this with q | q
    · exact .inl (beq_iff_eq.mp q)
    · refine .inr ⟨beq_iff_eq.mp q, ?_⟩
      obtain ⟨c, e⟩ := hcs x.1 (s.heap.objs.size + 1) (beq_iff_eq.mp q)
      rw [e]; rfl
  · have := enterCS x hk hnd hb2 (fun n e => hcs n _ e) hb hΛ hΛn
    exact h s₁ (hρ ▸ this)
end Fl

namespace Fl
open PySem PyProof.Rows

namespace CS
variable {b : Bool} {s₀ s s' : Shared} {h₀ h₁ : Heap} {env : Env} {ρ ρ' : Rho} {Λ Λ' : List (Addr × Obj)}
/-- some objects are changed that are neither the frame's own nor of the part that stays -/
theorem but (S : CS true s₀ h₀ env ρ Λ s) {wr : List Addr} {h' : Heap} {tk : Nat} (hk : ∀ a o, a ∉ wr → s.heap.get? a = some o → h'.get? a = some o) (h1 : ∀ a ∈ wr, h₀.get? a = none) (h2 : ∀ a ∈ wr, ¬ own env Λ a) :
    CS true s₀ h₀ env ρ Λ { s with heap := h', toks := tk } := by
  have hL : env.locals ∉ wr := fun h => h2 _ h (.inl rfl)
  have hC : ∀ n c, env.cells.lookup n = some c → c ∉ wr := fun n c e h => h2 _ h (.inr (.inl ⟨n, e⟩))
  refine ⟨S.kind, ?_, fun a o e => hk a o (fun h => ?_) (S.base a o e), (fun q => nomatch q), ?_, fun x v c a1 a2 a3 => ?_, fun n c e => ?_, S.apart, S.kinds, S.locs, S.nd, fun p hp => ?_, S.lnd⟩
  · obtain ⟨h, t, rfl⟩ := S.same; exact ⟨h', tk, rfl⟩
  · rw [h1 a h] at e; cases e
  · obtain ⟨m, hn, hm⟩ := S.ns; exact ⟨m, hn.at' fun o e => hk _ o hL e, hm⟩
  · obtain ⟨o, e, r⟩ := S.cell x v c a1 a2 a3; exact ⟨o, hk _ o (hC x c a3) e, r⟩
  · obtain ⟨⟨v, o, e', r'⟩, r⟩ := S.cells n c e; exact ⟨⟨v, o, hk _ o (hC n c e) e', r'⟩, r⟩
  · obtain ⟨a, r⟩ := S.led p hp; exact ⟨hk _ _ (fun h => h2 _ h (.inr (.inr (List.mem_map_of_mem hp)))) a, r⟩
theorem own_adr (e : Λ'.map (·.1) = Λ.map (·.1)) {a : Addr} : own env Λ' a ↔ own env Λ a := by unfold own; rw [e]
end CS

section
variable {prog : Program} {w : World} {A : Around} {s s₀ : Shared} {h₀ : Heap} {env : Env} {ρ : Rho} {Λ : List (Addr × Obj)} {E : Value → Shared → Prop} {Q : Flow → Shared → Prop}

/-- a for loop over what an iterator hands out, by what holds of the names and of the changed objects between the turns -/
theorem loop_inv {body : List Stmt} {x : Str} {px : Pos} {I : Addr} {fp wr : List Addr} {n : Nat} {P : Nat → Value → Prop} {St : Nat → Heap → Prop}
    (J : Nat → Rho → List (Addr × Obj) → Prop) (W : Walks prog w A I fp wr n P St) (S : CS true s₀ h₀ env ρ Λ s) (hst : St 0 s.heap) (hfp : ∀ a ∈ fp, ¬ CS.own env Λ a) (hwr : ∀ a ∈ wr, h₀.get? a = none) (hJ : J 0 ρ Λ)
    (hadr : ∀ i ρ' Λ', J i ρ' Λ' → Λ'.map (·.1) = Λ.map (·.1))
    (turn : ∀ i v ρ₁ Λ₁, i < n → P i v → J i ρ₁ Λ₁ → ∃ ρ₂, Put x v ρ₁ ρ₂ ∧ ∀ h₁ s₁, Sub h₀ h₁ → CS true s₀ h₁ env ρ₂ Λ₁ s₁ →
      wpAny (model prog w) A (execs body env) (fun f s₂ => match f with
        | .next | .cont => ∃ h' ρ' Λ', Sub h₁ h' ∧ CS true s₀ h' env ρ' Λ' s₂ ∧ J (i + 1) ρ' Λ'
        | .brk => Q .next s₂
        | .ret v => Q (.ret v) s₂) (notedBy (model prog w) A env fun e s' => cameBackBy (model prog w) A env E e s') s₁)
    (done : ∀ ρ' Λ' s', J n ρ' Λ' → CS true s₀ h₀ env ρ' Λ' s' → Q .next s') :
    codeAny (model prog w) A (.forLoop (.Name x px) (.ref I) body [] env) (fun r s' => match r with | .ok f => Q f s' | .error e => cameBackBy (model prog w) A env E e s') s := by
  refine codeAny_forLoop_any (fun k s' => ∃ i ρ' Λ', k = n - i ∧ i ≤ n ∧ J i ρ' Λ' ∧ CS true s₀ h₀ env ρ' Λ' s' ∧ St i s'.heap) ?_ n ⟨0, ρ, Λ, rfl, Nat.zero_le _, hJ, S, hst⟩
  rintro k s' ⟨i, ρ', Λ', rfl, hi, hJ', S', st'⟩
  have off : ∀ a ∈ fp, ¬ CS.own env Λ' a := fun a ha h => hfp a ha ((CS.own_adr (hadr _ _ _ hJ')).mp h)
  have off2 : ∀ a ∈ wr, ¬ CS.own env Λ' a := fun a ha => off a (W.sub a ha)
  by_cases hlt : i < n
  · refine W.item i s' _ _ hlt st' fun v h' tk hP st₁ hk => ?_
    have S₁ : CS true s₀ h₀ env ρ' Λ' { s' with heap := h', toks := tk } := S'.but hk hwr off2
    obtain ⟨h₁, k1, S₂, k3⟩ := S₁.wide
    obtain ⟨ρ₂, hput, hbody⟩ := turn i v ρ' Λ' hlt hP hJ'
    refine wpAny_of_eq (rfl : letOwnedTupleGo (.Name x px) (.ref I) v = pure ()) (wpAny_assign_Name (S₂.put hput fun s₁ S₃ => ?_))
    refine wpAny_mono (hbody h₁ s₁ k1 S₃) (fun f s₂ hf => ?_) fun _ _ e => e
    have nx : (∃ h' ρ' Λ', Sub h₁ h' ∧ CS true s₀ h' env ρ' Λ' s₂ ∧ J (i + 1) ρ' Λ') → ∃ m, m < n - i ∧ ∃ i ρ' Λ', m = n - i ∧ i ≤ n ∧ J i ρ' Λ' ∧ CS true s₀ h₀ env ρ' Λ' s₂ ∧ St i s₂.heap := by
      rintro ⟨h2, ρ3, Λ3, k4, S4, hJ4⟩
      refine ⟨n - (i + 1), by omega, i + 1, ρ3, Λ3, rfl, hlt, hJ4, S4.drop (k1.trans k4), W.frame _ _ _ st₁ fun a ha o e => ?_⟩
      exact S4.base _ _ (k4 _ _ (k3 a o e (off a ha)))
    cases f with
    | next => exact nx hf
    | cont => exact nx hf
    | brk => exact hf
    | ret v => exact hf
  · have hin : i = n := by omega
    subst hin
    refine W.done s' _ _ st' fun h' tk hk => ?_
    exact wpAny_execs_nil (done _ _ _ hJ' (S'.but hk hwr off2))

/-- a while loop: between the turns, and what every turn lowers -/
theorem while_inv {test : Expr} {body : List Stmt} (J : Nat → Heap → Rho → List (Addr × Obj) → Prop) (S : CS true s₀ h₀ env ρ Λ s) {n : Nat} (hJ : J n h₀ ρ Λ)
    (turn : ∀ k h₁ ρ₁ Λ₁ s₁, J k h₁ ρ₁ Λ₁ → Sub h₀ h₁ → CS true s₀ h₁ env ρ₁ Λ₁ s₁ →
      wpAny (model prog w) A (isTrue test env (eval test env)) (fun b s₂ =>
        if b then wpAny (model prog w) A (execs body env) (fun f s₃ => match f with
            | .next | .cont => ∃ m h' ρ' Λ', m < k ∧ Sub h₀ h' ∧ CS true s₀ h' env ρ' Λ' s₃ ∧ J m h' ρ' Λ'
            | .brk => Q .next s₃
            | .ret v => Q (.ret v) s₃) (notedBy (model prog w) A env fun e s' => cameBackBy (model prog w) A env E e s') s₂
        else Q .next s₂) (notedBy (model prog w) A env fun e s' => cameBackBy (model prog w) A env E e s') s₁) {pos : Pos} :
    wpAny (model prog w) A (exec (.While test body [] pos) env) Q E s := by
  refine wpAny_While (codeAny_whileLoop (fun k s' => ∃ h' ρ' Λ', Sub h₀ h' ∧ CS true s₀ h' env ρ' Λ' s' ∧ J k h' ρ' Λ') ?_ n ⟨h₀, ρ, Λ, Sub.refl _, S, hJ⟩)
  rintro k s' ⟨h₁, ρ₁, Λ₁, k1, S₁, hJ₁⟩
  refine wpAny_mono (turn k h₁ ρ₁ Λ₁ s' hJ₁ k1 S₁) (fun b s₂ hb => ?_) fun _ _ e => e
  cases b with
  | false => exact wpAny_execs_nil hb
  | true =>
    refine wpAny_mono hb (fun f s₃ hf => ?_) fun _ _ e => e
    cases f with
    | next => obtain ⟨m, h', ρ', Λ', a, b, c, d⟩ := hf; exact ⟨m, a, h', ρ', Λ', b, c, d⟩
    | cont => obtain ⟨m, h', ρ', Λ', a, b, c, d⟩ := hf; exact ⟨m, a, h', ρ', Λ', b, c, d⟩
    | brk => exact hf
    | ret v => exact hf
end
end Fl

namespace Fl
open PySem PyProof.Rows

/-- the cells that a comprehension's block takes over -/
def closGo (env : Env) : List (Str × NameKind) → List (Str × Addr) → List (Str × Addr)
  | [], acc => acc
  | (n, k) :: r, acc => if k == .free then closGo env r ((n, (env.cells.lookup n).getD 0) :: acc) else closGo env r acc
theorem closureFor_go {scope : Scope} {env : Env} (h : ∀ n, (n, NameKind.free) ∈ scope.names → ∃ c, env.cells.lookup n = some c) : closureFor scope env = pure (closGo env scope.names []) := by
  unfold closureFor
  have go : ∀ (names : List (Str × NameKind)) (acc : List (Str × Addr)), (∀ n, (n, NameKind.free) ∈ names → ∃ c, env.cells.lookup n = some c) →
      (forIn names acc fun (x : Str × NameKind) (r : List (Str × Addr)) => (if (x.2 == NameKind.free) = true then do let a ← cellOf env x.1; pure (ForInStep.yield ((x.1, a) :: r)) else pure (ForInStep.yield r) : Sem (ForInStep (List (Str × Addr)))))
        = pure (closGo env names acc) := by
    intro names
    induction names with
    | nil => intro acc _; rfl
    | cons p r ih =>
      obtain ⟨n, k⟩ := p
      intro acc hh
      rw [List.forIn_cons, closGo]
      by_cases hk : (k == NameKind.free) = true
      · have hk' : k = .free := by cases k <;> first | rfl | cases hk
        subst hk'
        obtain ⟨c, e⟩ := hh n (List.mem_cons_self ..)
        have hc : cellOf env n = pure c := by unfold cellOf; rw [e]
        simp only [hk, if_true, hc, pure_bind]
        rw [e]
        exact ih _ fun m hm => hh m (List.mem_cons_of_mem _ hm)
      · simp only [hk, if_false, pure_bind, Bool.false_eq_true]
        exact ih _ fun m hm => hh m (List.mem_cons_of_mem _ hm)
  have := go scope.names [] h
  simp only [bind_pure]
  exact this
theorem closGo_look {env : Env} {n : Str} {c : Addr} : ∀ (names : List (Str × NameKind)) (acc : List (Str × Addr)), (∀ n c, acc.lookup n = some c → env.cells.lookup n = some c) → (∀ n, (n, NameKind.free) ∈ names → ∃ c, env.cells.lookup n = some c) →
    (closGo env names acc).lookup n = some c → env.cells.lookup n = some c
  | [], _, h, _, e => h _ _ e
  | (m, k) :: r, acc, h, hf, e => by
    unfold closGo at e
    by_cases hk : (k == NameKind.free) = true
    · rw [if_pos hk] at e
      have hk' : k = .free := by cases k <;> first | rfl | cases hk
      subst hk'
      obtain ⟨c', e'⟩ := hf m (List.mem_cons_self ..)
      refine closGo_look r _ (fun n' c'' q => ?_) (fun n' hn => hf n' (List.mem_cons_of_mem _ hn)) e
      rw [List.lookup_cons] at q
      split at q
      · rename_i hb
        have := beq_iff_eq.mp hb
        subst this
        rw [e'] at q
        cases q
        exact e'
      · exact h _ _ q
    · rw [if_neg hk] at e
      exact closGo_look r _ h (fun n' hn => hf n' (List.mem_cons_of_mem _ hn)) e
theorem closGo_has {env : Env} {n : Str} : ∀ (names : List (Str × NameKind)) (acc : List (Str × Addr)), ((n, NameKind.free) ∈ names ∨ ∃ c, acc.lookup n = some c) → ∃ c, (closGo env names acc).lookup n = some c
  | [], _, h => h.elim (fun h => nomatch h) id
  | (m, k) :: r, acc, h => by
    unfold closGo
    by_cases hk : (k == NameKind.free) = true
    · rw [if_pos hk]
      refine closGo_has r _ ?_
      by_cases hm : (n == m) = true
      · exact .inr ⟨_, by rw [List.lookup_cons, hm]⟩
      · rcases h with h | ⟨c, h⟩
        · rcases List.mem_cons.mp h with q | q
          · cases q; simp at hm
          · exact .inl q
        · refine .inr ⟨c, ?_⟩
          rw [List.lookup_cons]; simp only [hm]; exact h
    · rw [if_neg hk]
      refine closGo_has r _ ?_
      rcases h with h | h
      · rcases List.mem_cons.mp h with q | q
        · cases q; exact absurd rfl hk
        · exact .inl q
      · exact .inr h

theorem lookup_relabel {env : Env} {y : Str} : ∀ {names : List (Str × NameKind)}, names.lookup y = some .free → env.scope.kind = .function → env.kindOf y = some .cell →
    (names.map fun (n, k) => if (k == NameKind.free && env.scope.kind == .function && env.kindOf n == some .cell) then (n, NameKind.cell) else (n, k)).lookup y = some .cell
  | [], h, _, _ => by cases h
  | (n, k) :: r, h, hk, hc => by
    rw [List.lookup_cons] at h
    rw [List.map_cons]
    by_cases hy : (y == n) = true
    · have := beq_iff_eq.mp hy
      subst this
      simp only [beq_self_eq_true] at h
      cases h
      simp [hk, hc]
    · simp only [hy] at h
      have ih := lookup_relabel h hk hc
      by_cases hq : (k == NameKind.free && env.scope.kind == .function && env.kindOf n == some .cell) = true
      · simp only [hq, if_true, List.lookup_cons, hy]; exact ih
      · simp only [hq, Bool.false_eq_true, if_false, List.lookup_cons, hy]; exact ih

section
variable {prog : Program} {w : World} {A : Around} {s s₀ s₂ s₃ : Shared} {h₀ : Heap} {env : Env} {ρ ρc : Rho} {Λ : List (Addr × Obj)} {E : Value → Shared → Prop}

/-- the block of a comprehension: its own name, and the names of the frame's that it takes over -/
theorem compCS {scope : Scope} {x : Str} {v : Value} {C : Addr} {m : Str → Option Value} {wr : List Addr} (S : CS true s₀ h₀ env ρ Λ s₂) (hC : s₂.heap.objs.size ≤ C) (hns : s₃.heap.Ns C m) (hm : m x = some v)
    (hk : ∀ a o, a ∉ wr → s₂.heap.get? a = some o → s₃.heap.get? a = some o) (h1 : ∀ a ∈ wr, h₀.get? a = none) (h2 : ∀ a ∈ wr, ¬ CS.own env Λ a)
    (hkind : scope.kind = .function) (hx : scope.names.lookup x = some .local) (hfree : ∀ n, (n, NameKind.free) ∈ scope.names → ∃ c, env.cells.lookup n = some c)
    (hc1 : ∀ y, y ∈ ρc.map (·.1) → scope.names.lookup y = some .free ∧ env.kindOf y = some .cell) (hc2 : ∀ y u, Look y u ρc → Look y u ρ) (hnd : ((x :: ρc.map (·.1))).Nodup) :
    CS false s₃ h₀ (compEnvC scope (closGo env scope.names []) C env) ((x, some v) :: ρc) Λ s₃ := by
  have hC' : ∀ n c, env.cells.lookup n = some c → c ∉ wr := fun n c e h => h2 _ h (.inr (.inl ⟨n, e⟩))
  have lk : ∀ {n c}, (closGo env scope.names []).lookup n = some c → env.cells.lookup n = some c := fun e => closGo_look _ _ (fun _ _ q => by cases q) hfree e
  have hcell : ∀ y u c, Look y u ρ → env.kindOf y = some .cell → env.cells.lookup y = some c → s₃.heap.IsCell c (some u) := fun y u c a b e => by
    obtain ⟨o, q, r⟩ := S.cell y u c a b e; exact ⟨o, hk _ o (hC' y c e) q, r⟩
  have kc : ∀ y, y ∈ ρc.map (·.1) → (compEnvC scope (closGo env scope.names []) C env).kindOf y = some .cell := fun y hy => lookup_relabel (hc1 y hy).1 S.kind (hc1 y hy).2
  have kx : (compEnvC scope (closGo env scope.names []) C env).kindOf x = some .local := lookup_relabel_local hx
  rw [List.nodup_cons] at hnd
  refine ⟨hkind, ⟨s₃.heap, s₃.toks, rfl⟩, fun a o e => hk a o (fun h => by rw [h1 a h] at e; cases e) (S.base a o e), fun _ => Sub.refl _, ⟨m, hns, fun y u hy hl => ?_⟩, fun y u c hy hl hc => ?_, fun n c e => ?_, fun n n' c e e' => S.apart _ _ _ (lk e) (lk e'),
    fun y hy => ?_, (fun q => nomatch q), ?_, fun p hp => ?_, S.lnd⟩
  · cases hy with
    | head => exact hm
    | tail hy => rw [kc y hy.mem] at hl; cases hl
  · cases hy with
    | head => rw [kx] at hl; cases hl
    | tail hy => exact hcell y u c (hc2 y u hy) (hc1 y hy.mem).2 (lk hc)
  · obtain ⟨⟨u, o, q, r⟩, _, _⟩ := S.cells n c (lk e)
    refine ⟨⟨u, o, hk _ o (hC' n c (lk e)) q, r⟩, Nat.ne_of_lt (Nat.lt_of_lt_of_le (Heap.lt_size q) hC), (fun q => nomatch q)⟩
  · rcases List.mem_cons.mp hy with rfl | hy
    · exact .inl kx
    · refine .inr ⟨kc y hy, closGo_has _ _ (.inl (mem_of_lookup (hc1 y hy).1))⟩
  · rw [List.map_cons, List.nodup_cons]; exact hnd
  · obtain ⟨a, b, c, _⟩ := S.led p hp
    exact ⟨hk _ _ (fun h => h2 _ h (.inr (.inr (List.mem_map_of_mem hp)))) a, Nat.ne_of_lt (Nat.lt_of_lt_of_le (Heap.lt_size a) hC), fun n e => c n (lk e), (fun q => nomatch q)⟩

abbrev lst (ys : Array Value) (k : Nat) : Obj := { cls := .type "list", data := .seq ys k }
theorem CS.new (S : CS true s₀ h₀ env ρ Λ s) {s' : Shared} {wr : List Addr} {h' : Heap} {tk : Nat} {D : Addr} {o : Obj} (e : s' = { s with heap := h', toks := tk }) (hk : ∀ a o, a ∉ wr → s.heap.get? a = some o → h'.get? a = some o) (h1 : ∀ a ∈ wr, h₀.get? a = none) (h2 : ∀ a ∈ wr, ¬ CS.own env Λ a)
    (hD : s.heap.get? D = none) (ho : h'.get? D = some o) : CS true s₀ h₀ env ρ ((D, o) :: Λ) s' := by
  subst e
  have S' : CS true s₀ h₀ env ρ Λ { s with heap := h', toks := tk } := S.but hk h1 h2
  have hno : ¬ CS.own env Λ D := fun h => by obtain ⟨o', q⟩ := S.own_at h; rw [hD] at q; cases q
  refine ⟨S'.kind, S'.same, S'.base, S'.all, S'.ns, S'.cell, S'.cells, S'.apart, S'.kinds, S'.locs, S'.nd, fun p hp => ?_, ?_⟩
  · rcases List.mem_cons.mp hp with rfl | hp
    · exact ⟨ho, fun q => hno (.inl q), fun n q => hno (.inr (.inl ⟨n, q⟩)), fun _ => S.base.none hD⟩
    · exact S'.led p hp
  · rw [List.map_cons, List.nodup_cons]
    exact ⟨fun h => hno (.inr (.inr h)), S.lnd⟩
/-- an object of the changed ones is changed no more: it is of the part that stays from now on -/
theorem CS.freeze {a : Addr} {o : Obj} (S : CS true s₀ h₀ env ρ ((a, o) :: Λ) s) : ∃ h₁, Sub h₀ h₁ ∧ h₁.get? a = some o ∧ CS true s₀ h₁ env ρ Λ s := by
  obtain ⟨e, h1, h2, h3⟩ := S.led (a, o) (List.mem_cons_self ..)
  have nd := S.lnd
  rw [List.map_cons, List.nodup_cons] at nd
  have S' : CS true s₀ h₀ env ρ Λ s := ⟨S.kind, S.same, S.base, S.all, S.ns, S.cell, S.cells, S.apart, S.kinds, S.locs, S.nd, fun p hp => S.led p (List.mem_cons_of_mem _ hp), nd.2⟩
  obtain ⟨h₁, k1, k2, k3⟩ := S'.wide
  refine ⟨h₁, k1, k3 a o e ?_, k2⟩
  rintro (q | ⟨n, q⟩ | q)
  · exact h1 q
  · exact h2 n q
  · exact nd.1 q

/-- a list comprehension of one clause over what an iterator hands out -/
def CompK (prog : Program) (w : World) (A : Around) (s₀ : Shared) (h₀ : Heap) (env : Env) (ρ ρc : Rho) (Λ : List (Addr × Obj)) (scope : Scope) (x : Str) (ifs : List Expr) (elt : Expr) (p : Value → Bool) (F : Value → Value → Prop) (Fin : Addr → Obj → Prop) (it : Value) (s₂ : Shared) : Prop :=
  ∃ I fp wr n P St, it = .ref I ∧ Walks prog w A I fp wr n P St ∧ n ≤ sizeLine ∧ St 0 s₂.heap ∧ (∀ b ∈ fp, b < s₂.heap.objs.size) ∧ CS true s₀ h₀ env ρ Λ s₂ ∧ (∀ a ∈ wr, h₀.get? a = none) ∧ (∀ a ∈ wr, ¬ CS.own env Λ a) ∧
  (∀ C i v s₃ E', P i v → CS false s₃ h₀ (compEnvC scope (closGo env scope.names []) C env) ((x, some v) :: ρc) Λ s₃ →
    wpAny (model prog w) A (forIn ifs true fun c r => if r = true then do let ok ← isTrue c (compEnvC scope (closGo env scope.names []) C env) (eval c (compEnvC scope (closGo env scope.names []) C env)); pure (ForInStep.yield ok) else pure (ForInStep.yield r))
      (fun ok s₄ => ok = p v ∧ Keeps s₃ s₄) E' s₃) ∧
  (∀ C i v s₃ E', P i v → p v = true → CS false s₃ h₀ (compEnvC scope (closGo env scope.names []) C env) ((x, some v) :: ρc) Λ s₃ →
    wpAny (model prog w) A (eval elt (compEnvC scope (closGo env scope.names []) C env)) (fun y s₄ => F v y ∧ Keeps s₃ s₄) E' s₃) ∧
  (∀ D k ys (vs : List Value), vs.length = n → (∀ j v, vs[j]? = some v → P j v) → Paired F (vs.filter p) ys.toList → s₂.heap.get? D = none → Fin D (lst ys k))

theorem QuietOnC.ofCS {scope : Scope} {x : Str} {ifs : List Expr} {elt : Expr} {wr : List Addr} {P : Nat → Value → Prop} {p : Value → Bool} {F : Value → Value → Prop} (S : CS true s₀ h₀ env ρ Λ s₂) (h1 : ∀ a ∈ wr, h₀.get? a = none) (h2 : ∀ a ∈ wr, ¬ CS.own env Λ a)
    (hkind : scope.kind = .function) (hx : scope.names.lookup x = some .local) (hfree : ∀ n, (n, NameKind.free) ∈ scope.names → ∃ c, env.cells.lookup n = some c)
    (hc1 : ∀ y, y ∈ ρc.map (·.1) → scope.names.lookup y = some .free ∧ env.kindOf y = some .cell) (hc2 : ∀ y u, Look y u ρc → Look y u ρ) (hnd : ((x :: ρc.map (·.1))).Nodup)
    (ht : ∀ C i v s₃ E', P i v → CS false s₃ h₀ (compEnvC scope (closGo env scope.names []) C env) ((x, some v) :: ρc) Λ s₃ →
      wpAny (model prog w) A (forIn ifs true fun c r => if r = true then do let ok ← isTrue c (compEnvC scope (closGo env scope.names []) C env) (eval c (compEnvC scope (closGo env scope.names []) C env)); pure (ForInStep.yield ok) else pure (ForInStep.yield r))
        (fun ok s₄ => ok = p v ∧ Keeps s₃ s₄) E' s₃)
    (he : ∀ C i v s₃ E', P i v → p v = true → CS false s₃ h₀ (compEnvC scope (closGo env scope.names []) C env) ((x, some v) :: ρc) Λ s₃ →
      wpAny (model prog w) A (eval elt (compEnvC scope (closGo env scope.names []) C env)) (fun y s₄ => F v y ∧ Keeps s₃ s₄) E' s₃) :
    QuietOnC prog w A env scope (closGo env scope.names []) x ifs elt wr P p F s₂ where
  tests := fun C i v s₃ _ E' hC hP hns hm hk _ => ht C i v s₃ E' hP (compCS S hC hns hm hk h1 h2 hkind hx hfree hc1 hc2 hnd)
  elt := fun C i v s₃ _ E' hC hP hp hns hm hk _ => he C i v s₃ E' hP hp (compCS S hC hns hm hk h1 h2 hkind hx hfree hc1 hc2 hnd)

theorem ListComp_CS {elt iter : Expr} {x : Str} {px : Pos} {ifs : List Expr} {scope : Scope} {pos : Pos} {Q : Value → Shared → Prop} (ρc : Rho) (p : Value → Bool) (F : Value → Value → Prop)
    (hfree : ∀ n, (n, NameKind.free) ∈ scope.names → ∃ c, env.cells.lookup n = some c) (hcell : ∀ y ∈ scope.names, y.2 ≠ .cell) (hkind : scope.kind = .function)
    (hnames : ∀ y ∈ scope.names, y.2 = .local → scope.names.lookup y.1 = some .local) (hx : scope.names.lookup x = some .local)
    (hc1 : ∀ y, y ∈ ρc.map (·.1) → scope.names.lookup y = some .free ∧ env.kindOf y = some .cell) (hc2 : ∀ y u, Look y u ρc → Look y u ρ) (hnd : ((x :: ρc.map (·.1))).Nodup)
    (h : wpAny (model prog w) A (eval iter env) (fun xv s₁ => wpAny (model prog w) A (pyIter xv) (CompK prog w A s₀ h₀ env ρ ρc Λ scope x ifs elt p F (fun D o => ∀ s', CS true s₀ h₀ env ρ ((D, o) :: Λ) s' → Q (.ref D) s')) E s₁) E s)
    (hs : ∀ x, foldedSetIterable iter env x = pure x) :
    wpAny (model prog w) A (eval (.ListComp elt [⟨.Name x px, iter, ifs, 0⟩] scope pos) env) Q E s := by
  refine wpAny_ListComp_free p F (closureFor_go hfree) hcell hkind hnames hx (wpAny_mono h (fun xv s₁ h₁ => wpAny_mono h₁ (fun it s₂ h₂ => ?_) fun _ _ e => e) fun _ _ e => e) hs
  obtain ⟨I, fp, wr, n, P, St, e, W, hsz, hst, hfp, S, h1, h2, ht, he, hQ⟩ := h₂
  refine ⟨I, fp, wr, n, P, St, e, W, hsz, hst, hfp, QuietOnC.ofCS S h1 h2 hkind hx hfree hc1 hc2 hnd ht he, ?_⟩
  intro D h' tk ys vs hD _ hpl hlen hP hF hk
  obtain ⟨k, hpl⟩ := hpl
  exact hQ D k ys vs hlen hP hF hD _ (S.new rfl hk h1 h2 hD hpl)

/-- the same, stored at once (the comprehension's own names are let go behind the store) -/
theorem Assign_ListComp_CS {elt iter : Expr} {x y : Str} {px py : Pos} {ifs : List Expr} {scope : Scope} {pos spos : Pos} {Q : Flow → Shared → Prop} (ρc : Rho) (p : Value → Bool) (F : Value → Value → Prop)
    (hsw : swapsWith (.ListComp elt [⟨.Name x px, iter, ifs, 0⟩] scope pos) (some (.Name y py)) spos.line env = pure true)
    (hfree : ∀ n, (n, NameKind.free) ∈ scope.names → ∃ c, env.cells.lookup n = some c) (hcell : ∀ y ∈ scope.names, y.2 ≠ .cell) (hkind : scope.kind = .function)
    (hnames : ∀ y ∈ scope.names, y.2 = .local → scope.names.lookup y.1 = some .local) (hx : scope.names.lookup x = some .local) (hy : env.kindOf y = some .local) (hek : env.scope.kind = .function)
    (hc1 : ∀ y, y ∈ ρc.map (·.1) → scope.names.lookup y = some .free ∧ env.kindOf y = some .cell) (hc2 : ∀ y u, Look y u ρc → Look y u ρ) (hnd : ((x :: ρc.map (·.1))).Nodup)
    (h : wpAny (model prog w) A (eval iter env) (fun xv s₁ => wpAny (model prog w) A (pyIter xv) (CompK prog w A s₀ h₀ env ρ ρc Λ scope x ifs elt p F
      (fun D o => ∃ ρ', Put y (.ref D) ρ ρ' ∧ ∀ s', CS true s₀ h₀ env ρ' ((D, o) :: Λ) s' → Q .next s')) E s₁) E s)
    (hs : ∀ x, foldedSetIterable iter env x = pure x) :
    wpAny (model prog w) A (exec (.Assign [.Name y py] (.ListComp elt [⟨.Name x px, iter, ifs, 0⟩] scope pos) spos) env) Q E s := by
  refine wpAny_Assign_ListComp_free p F hsw (closureFor_go hfree) hcell hkind hnames hx hy (by rw [hek]; rfl) (wpAny_mono h (fun xv s₁ h₁ => wpAny_mono h₁ (fun it s₂ h₂ => ?_) fun _ _ e => e) fun _ _ e => e) hs
  obtain ⟨I, fp, wr, n, P, St, e, W, hsz, hst, hfp, S, h1, h2, ht, he, hQ⟩ := h₂
  obtain ⟨m, hm, hm'⟩ := S.ns
  refine ⟨I, fp, wr, n, P, St, m, e, W, hsz, hst, hfp, fun q => h2 _ q (.inl rfl), hm, QuietOnC.ofCS S h1 h2 hkind hx hfree hc1 hc2 hnd ht he, ?_⟩
  intro D h' tk ys vs hD _ hpl hlen hP hF hns hk
  obtain ⟨k, hpl⟩ := hpl
  have hDL : D ≠ env.locals := fun q => by obtain ⟨o, _, _, e, _⟩ := hm; rw [q] at hD; rw [hD] at e; cases e
  -- the heap with the frame's names as they were: only for the facts
  have hno : ¬ CS.own env Λ D := fun h => by obtain ⟨o', q⟩ := S.own_at h; rw [hD] at q; cases q
  have hC' : ∀ n c, env.cells.lookup n = some c → c ∉ wr := fun n c e h => h2 _ h (.inr (.inl ⟨n, e⟩))
  have mk : ∀ ρ', Put y (.ref D) ρ ρ' → CS true s₀ h₀ env ρ' ((D, lst ys k) :: Λ) { s₂ with heap := h', toks := tk } := fun ρ' hput => by
    refine ⟨S.kind, ?_, fun a o e => hk a o (fun q => ?_) (fun q => ?_) (S.base a o e), (fun q => nomatch q), ⟨_, hns, fun z u hz hl => ?_⟩, fun z u c hz hl hc => ?_, fun n c e => ?_, S.apart, fun z hz => S.kinds z (hput.names ▸ hz), S.locs, hput.names ▸ S.nd, fun q hq => ?_, ?_⟩
    · obtain ⟨h, t, rfl⟩ := S.same; exact ⟨h', tk, rfl⟩
    · rw [q, S.locs rfl] at e; cases e
    · rw [h1 a q] at e; cases e
    · rcases hput.look S.nd hz with ⟨rfl, rfl⟩ | ⟨q1, q2⟩
      · exact if_pos rfl
      · exact (if_neg q1).trans (hm' z u q2 hl)
    · rcases hput.look S.nd hz with ⟨rfl, rfl⟩ | ⟨q1, q2⟩
      · rw [hy] at hl; cases hl
      · obtain ⟨o, e, r⟩ := S.cell z u c q2 hl hc
        exact ⟨o, hk _ o (S.cells z c hc).2.1 (hC' z c hc) e, r⟩
    · obtain ⟨⟨u, o, e', r'⟩, r⟩ := S.cells n c e
      exact ⟨⟨u, o, hk _ o r.1 (hC' n c e) e', r'⟩, r⟩
    · rcases List.mem_cons.mp hq with rfl | hq
      · exact ⟨hpl, hDL, fun n q => hno (.inr (.inl ⟨n, q⟩)), fun _ => S.base.none hD⟩
      · obtain ⟨a, b, r⟩ := S.led q hq
        exact ⟨hk _ _ b (fun h => h2 _ h (.inr (.inr (List.mem_map_of_mem hq)))) a, b, r⟩
    · rw [List.map_cons, List.nodup_cons]
      exact ⟨fun h => hno (.inr (.inr h)), S.lnd⟩
  obtain ⟨ρ', hput, hq⟩ := hQ D k ys vs hlen hP hF hD
  exact hq _ (mk ρ' hput)
end
end Fl

namespace Fl
open PySem PySem.W PySem.Calls PyProof.Rows

/-- what of the text's own objects, of its names and of the built-in names stands -/
structure Gr (K : Frag) (h : Heap) : Prop where
  X : K.In h
  g : ∃ mg, h.Ns mainGlobals mg
  b : ∃ mb, h.Ns builtinsNs mb ∧ ∀ x : Str, x ≠ "__name__" → mb x = bootBuiltins x
  lim : h.NoLimit
  tr : ∃ p loose mg mb, TopRead p loose mg mb h
theorem Gr.mono {K : Frag} {h h' : Heap} (G : Gr K h) (k : Sub h h') : Gr K h' :=
  ⟨G.X.keeps k, let ⟨m, a⟩ := G.g; ⟨m, a.keeps k⟩, let ⟨m, a, b⟩ := G.b; ⟨m, a.keeps k, b⟩, G.lim.keeps k, let ⟨p, l, m, n, a⟩ := G.tr; ⟨p, l, m, n, a.keeps k⟩⟩
theorem Gr.of {K : Frag} {h : Heap} {p : Program} {loose : List Str} {mean : ExcName → Option Value} {mg mb : Str → Option Value} (X : K.In h) (T : Top p loose mean mg mb h) : Gr K h :=
  ⟨X, ⟨_, T.g⟩, ⟨_, T.b, T.builtins⟩, T.nolimit, ⟨_, _, _, _, topRead_of T⟩⟩

/-- room for n more frames; nothing is being handled -/
structure Room (A : Around) (n : Nat) : Prop where
  depth : A.depth + n < recursionLimit
  units : A.units + 8 * n + 200 < cLine
  handled : A.handled = none
theorem Room.in_ {A : Around} {n k : Nat} {env : Env} (r : Room A n) (h : k + 1 ≤ n) : Room (A.deeper env) k :=
  ⟨by have := r.depth; show A.depth + 1 + k < _; omega, by have := r.units; show A.units + 3 + 8 * k + 200 < _; omega, r.handled⟩
theorem Room.le {A : Around} {n k : Nat} (r : Room A n) (h : k ≤ n) : Room A k := ⟨by have := r.depth; omega, by have := r.units; omega, r.handled⟩

section
variable {prog : Program} {w : World} {A : Around} {E : Value → Shared → Prop} {s s₀ : Shared} {h₀ : Heap} {env : Env} {ρ ρ' : Rho} {Λ : List (Addr × Obj)} {b : Bool} {K : Frag}

-- names
theorem n_var {x : Str} {pos : Pos} {v : Value} {Q : Value → Shared → Prop} (S : CS b s₀ h₀ env ρ Λ s) (hx : Look x v ρ) (hd : (x == ("__debug__" : Str)) = false) (h : Q v s) : wpAny (model prog w) A (eval (.Name x pos) env) Q E s :=
  wpAny_Name (S.look hx h) hd
theorem n_glob {x : Str} {pos : Pos} {v : Value} {Q : Value → Shared → Prop} (S : CS b s₀ h₀ env ρ Λ s) (G : Gr K h₀) (e : nsIn K mainGlobals x = some (some v)) (hx : env.kindOf x = some .globalImplicit) (hg : env.globals = mainGlobals) (hd : (x == ("__debug__" : Str)) = false) (h : Q v s) :
    wpAny (model prog w) A (eval (.Name x pos) env) Q E s := by
  refine Calls.Name_function_global S.kind hx ?_ hd
  unfold loadGlobal
  refine wpAny_bind ?_
  rw [hg]
  refine looks_nsIn G.X e _ _ _ _ S.base ?_
  exact wpAny_pure h
theorem n_built {x : Str} {pos : Pos} {v : Value} {Q : Value → Shared → Prop} (S : CS b s₀ h₀ env ρ Λ s) (G : Gr K h₀) (e : nsIn K mainGlobals x = some none) (hv : bootBuiltins x = some v) (hn : x ≠ "__name__") (hx : env.kindOf x = some .globalImplicit) (hg : env.globals = mainGlobals)
    (hb : env.builtins = builtinsNs) (hd : (x == ("__debug__" : Str)) = false) (h : Q v s) : wpAny (model prog w) A (eval (.Name x pos) env) Q E s := by
  obtain ⟨mg, hm⟩ := G.g
  obtain ⟨mb, hb1, hb2⟩ := G.b
  exact Calls.Name_function_global S.kind hx (Calls.loadGlobal_builtin (by rw [hg]; exact hm.keeps S.base) (mg_none_of G.X hm e) (by rw [hb]; exact hb1.keeps S.base) ((hb2 x hn).trans hv) h) hd

-- constants
theorem c_int {i : Int} {k : Nat} {pos : Pos} {Q : Value → Shared → Prop} (S : CS b s₀ h₀ env ρ Λ s) (h : ∀ t s', CS b s₀ h₀ env ρ Λ s' → Q (.int i t) s') : wpAny (model prog w) A (eval (.Constant (.int i) k pos) env) Q E s := wpAny_Constant_int (h _ _ (S.tok _))
theorem c_str {x : Str} {k : Nat} {pos : Pos} {Q : Value → Shared → Prop} (S : CS b s₀ h₀ env ρ Λ s) (h : ∀ t s', CS b s₀ h₀ env ρ Λ s' → Q (.str x t) s') : wpAny (model prog w) A (eval (.Constant (.str x) k pos) env) Q E s := wpAny_Constant_str (h _ _ (S.tok _))

-- ints
theorem o_add {x y : Int} {t u : Tok} {Q : Value → Shared → Prop} (S : CS b s₀ h₀ env ρ Λ s) (h : ∀ t s', CS b s₀ h₀ env ρ Λ s' → Q (.int (x + y) t) s') : wpAny (model prog w) A (binaryOp .Add (.int x t) (.int y u)) Q E s := PyProof.Rows.add_int (h _ _ (S.tok _))
theorem o_sub {x y : Int} {t u : Tok} {Q : Value → Shared → Prop} (S : CS b s₀ h₀ env ρ Λ s) (h : ∀ t s', CS b s₀ h₀ env ρ Λ s' → Q (.int (x - y) t) s') : wpAny (model prog w) A (binaryOp .Sub (.int x t) (.int y u)) Q E s := PySem.P.sub_int (h _ _ (S.tok _))
theorem o_mul {x y : Int} {t u : Tok} {Q : Value → Shared → Prop} (S : CS b s₀ h₀ env ρ Λ s) (hm : IntMulOk x y) (h : ∀ t s', CS b s₀ h₀ env ρ Λ s' → Q (.int (x * y) t) s') : wpAny (model prog w) A (binaryOp .Mult (.int x t) (.int y u)) Q E s := PyProof.Rows.mul_int (h _ _ (S.tok _)) hm
theorem o_div {x y : Int} {t u : Tok} {Q : Value → Shared → Prop} (S : CS b s₀ h₀ env ρ Λ s) (hy : 0 < y) (hy2 : y < 1073741824) (h : ∀ t s', CS b s₀ h₀ env ρ Λ s' → Q (.int (x / y) t) s') : wpAny (model prog w) A (binaryOp .FloorDiv (.int x t) (.int y u)) Q E s :=
  PyProof.Rows.floordiv_int (by omega) (by rw [Int.fdiv_eq_ediv_of_nonneg _ (by omega)]; exact h _ _ (S.tok _)) (.inl (PyProof.noPylong_small (by omega)))
theorem o_mod {x y : Int} {t u : Tok} {Q : Value → Shared → Prop} (S : CS b s₀ h₀ env ρ Λ s) (hy : 0 < y) (h : ∀ t s', CS b s₀ h₀ env ρ Λ s' → Q (.int (x % y) t) s') : wpAny (model prog w) A (binaryOp .Mod (.int x t) (.int y u)) Q E s :=
  PyProof.Rows.mod_int (by omega) (by rw [Int.fmod_eq_emod_of_nonneg _ (by omega)]; exact h _ _ (S.tok _))
theorem o_neg {x : Int} {t : Tok} {Q : Value → Shared → Prop} (S : CS b s₀ h₀ env ρ Λ s) (h : ∀ t s', CS b s₀ h₀ env ρ Λ s' → Q (.int (-x) t) s') : wpAny (model prog w) A (unaryOp .USub (.int x t)) Q E s := PySem.P.neg_int (h _ _ (S.tok _))

-- branches
theorem i_dec {c : Prop} [Decidable c] {P Q : Prop} (ht : c → P) (hf : ¬ c → Q) : if decide c = true then P else Q := by
  by_cases h : c
  · rw [if_pos (decide_eq_true h)]; exact ht h
  · rw [if_neg (by rw [decide_eq_false h]; exact Bool.false_ne_true)]; exact hf h
theorem i_eq {α : Type} [BEq α] [LawfulBEq α] {x y : α} {P Q : Prop} (ht : x = y → P) (hf : x ≠ y → Q) : if (x == y) = true then P else Q := by
  by_cases h : (x == y) = true
  · rw [if_pos h]; exact ht (beq_iff_eq.mp h)
  · rw [if_neg h]; exact hf fun q => h (beq_iff_eq.mpr q)
theorem i_ne {α : Type} [BEq α] [LawfulBEq α] {x y : α} {P Q : Prop} (ht : x ≠ y → P) (hf : x = y → Q) : if (x != y) = true then P else Q := by
  by_cases h : x = y
  · rw [if_neg (by rw [h]; simp)]; exact hf h
  · rw [if_pos (by simpa using h)]; exact ht h
theorem i_not {c : Bool} {P Q : Prop} (h : if c = true then Q else P) : if (!c) = true then P else Q := by cases c <;> exact h
theorem i_tt {P Q : Prop} (h : P) : if true = true then P else Q := h
theorem i_ff {P Q : Prop} (h : Q) : if false = true then P else Q := h
theorem i_bool {c : Bool} {P Q : Prop} (ht : c = true → P) (hf : c = false → Q) : if c = true then P else Q := by
  cases c
  · exact hf rfl
  · exact ht rfl

-- an object of a class of the text: what its fields hold
structure ObjAt (h : Heap) (C x : Addr) (flds : List (Str × Value)) : Prop where
  nd : (flds.map (·.1)).Nodup
  at_ : ∃ ox od, W.InstAt h x ox C (some od) ∧ ∀ n, lookIn n od = some (flds.lookup n)
theorem InstAt.mono {h h' : Heap} {x C : Addr} {ox : Obj} {od : Option Obj} (I : W.InstAt h x ox C od) (k : Sub h h') : W.InstAt h' x ox C od := by
  refine ⟨k _ _ I.at_, I.cls, I.no, ?_⟩
  have := I.dict
  revert this
  cases ox.dict <;> cases od <;> first | exact id | exact fun e => k _ _ e
theorem ObjAt.mono {h h' : Heap} {C x : Addr} {flds : List (Str × Value)} (O : ObjAt h C x flds) (k : Sub h h') : ObjAt h' C x flds := by
  obtain ⟨ox, od, I, l⟩ := O.at_
  exact ⟨O.nd, ox, od, InstAt.mono I k, l⟩

/-- a name that is no attribute of the class: it is read from the object alone -/
def fieldIn (K : Frag) (C : Addr) (name : Str) : Bool :=
  findIn K (.ref C) "__getattribute__" == some (some (.builtin "object.__getattribute__")) && findIn K (.ref C) name == some none && (clsIn K C).any (·.hasDict)
theorem a_field {C x : Addr} {flds : List (Str × Value)} {name : Str} {v : Value} {expr : Bool} {Q : Value → Shared → Prop} (S : CS b s₀ h₀ env ρ Λ s) (X : K.In s.heap) (O : ObjAt s.heap C x flds) (hc : fieldIn K C name = true) (hl : flds.lookup name = some v) (hh : handedIn v = true)
    (h : ∀ s', CS b s₀ h₀ env ρ Λ s' → Q v s') : wpAny (model prog w) A (getAttr (.ref x) name expr) Q E s := by
  obtain ⟨ox, od, I, l⟩ := O.at_
  unfold fieldIn at hc
  simp only [Bool.and_eq_true, beq_iff_eq] at hc
  obtain ⟨⟨h1, h2⟩, h3⟩ := hc
  refine get_value X I h1 ?_ hh (h _ (S.tok _))
  cases hcd : clsIn K C with
  | none => rw [hcd] at h3; cases h3
  | some cd =>
    rw [hcd] at h3
    have h3' : cd.hasDict = true := h3
    unfold findObj
    rw [hcd]
    simp only [Option.bind_some, h2, W.ownOf, h3', if_true, l, hl]
theorem a_fld {C x : Addr} {flds : List (Str × Value)} {name : Str} {v : Value} {expr : Bool} {Q : Value → Shared → Prop} (S : CS b s₀ h₀ env ρ Λ s) (G : Gr K h₀) (O : ObjAt s.heap C x flds) (hc : fieldIn K C name = true) (hl : (name, v) ∈ flds) (hh : handedIn v = true)
    (h : ∀ s', CS b s₀ h₀ env ρ Λ s' → Q v s') : wpAny (model prog w) A (getAttr (.ref x) name expr) Q E s := a_field S (G.mono S.base).X O hc (lookup_of_nodup O.nd hl) hh h
def methIn (K : Frag) (C : Addr) (name : Str) (f : Addr) : Bool :=
  findIn K (.ref C) "__getattribute__" == some (some (.builtin "object.__getattribute__")) && findIn K (.ref C) "__getattr__" == some none && findIn K (.ref C) name == some (some (.ref f)) && typeIn K (.ref f) == some (.type "function") && keepIn K (.ref f)
theorem m_get {C x f : Addr} {flds : List (Str × Value)} {name : Str} {pl : Sem Bool} {Q : Value × List Value → Shared → Prop} (X : K.In s.heap) (O : ObjAt s.heap C x flds) (hc : methIn K C name f = true) (hl : flds.lookup name = none)
    (h : Q (.ref f, [.ref x]) s) : wpAny (model prog w) A (getMethod (.ref x) name pl) Q E s := by
  obtain ⟨ox, od, I, l⟩ := O.at_
  unfold methIn at hc
  simp only [Bool.and_eq_true, beq_iff_eq] at hc
  obtain ⟨⟨⟨⟨h1, h2⟩, h3⟩, h4⟩, h5⟩ := hc
  refine method_fn X I h1 h2 h3 h4 ?_ h
  unfold shadowIn
  simp only [l, hl]; rfl
theorem methIn_keep {C f : Addr} {name : Str} (hc : methIn K C name f = true) : keepIn K (.ref f) = true := by
  unfold methIn at hc
  simp only [Bool.and_eq_true] at hc
  exact hc.2

/-- a def or a class of the text, called by its name -/
structure GF (K : Frag) (x : Str) (f : Addr) : Prop where
  ns : nsIn K mainGlobals x = some (some (.ref f))
  keep : keepIn K (.ref f) = true
  nd : (x == ("__debug__" : Str)) = false
/-- a global name that holds a plain value -/
structure GV (K : Frag) (x : Str) (v : Value) : Prop where
  ns : nsIn K mainGlobals x = some (some v)
  nd : (x == ("__debug__" : Str)) = false
/-- a built-in name that the text leaves alone -/
structure GB (K : Frag) (x : Str) (v : Value) : Prop where
  ns : nsIn K mainGlobals x = some none
  boot : bootBuiltins x = some v
  nn : x ≠ "__name__"
  nd : (x == ("__debug__" : Str)) = false
theorem n_gv {x : Str} {pos : Pos} {v : Value} {Q : Value → Shared → Prop} (S : CS b s₀ h₀ env ρ Λ s) (G : Gr K h₀) (g : GV K x v) (hx : env.kindOf x = some .globalImplicit) (hg : env.globals = mainGlobals) (h : Q v s) :
    wpAny (model prog w) A (eval (.Name x pos) env) Q E s := n_glob S G g.ns hx hg g.nd h
theorem n_gf {x : Str} {pos : Pos} {f : Addr} {Q : Value → Shared → Prop} (S : CS b s₀ h₀ env ρ Λ s) (G : Gr K h₀) (g : GF K x f) (hx : env.kindOf x = some .globalImplicit) (hg : env.globals = mainGlobals) (h : Q (.ref f) s) :
    wpAny (model prog w) A (eval (.Name x pos) env) Q E s := n_glob S G g.ns hx hg g.nd h
theorem n_gb {x : Str} {pos : Pos} {v : Value} {Q : Value → Shared → Prop} (S : CS b s₀ h₀ env ρ Λ s) (G : Gr K h₀) (g : GB K x v) (hx : env.kindOf x = some .globalImplicit) (hg : env.globals = mainGlobals) (hb : env.builtins = builtinsNs) (h : Q v s) :
    wpAny (model prog w) A (eval (.Name x pos) env) Q E s := n_built S G g.ns g.boot g.nn hx hg hb g.nd h
theorem callN {x : Str} {f : Addr} {np pos : Pos} {e : Expr} {rest : List Expr} {Q : Value → Shared → Prop} (S : CS b s₀ h₀ env ρ Λ s) (G : Gr K h₀) (g : GF K x f) (hx : env.kindOf x = some .globalImplicit) (hg : env.globals = mainGlobals)
    (h : wpAny (model prog w) A (spliced (backTo pos (starEach (e :: rest) env))) (fun vs s₁ => K.In s₁.heap ∧ wpAny (model prog w) A (call (.ref f) vs) Q E s₁) E s)
    (he : starEach (e :: rest) env = (false, eval e env) :: starEach rest env) (hplain : (backTo pos (starEach rest env)).any (·.1) = false) :
    wpAny (model prog w) A (eval (.Call (.Name x np) (e :: rest) [] pos) env) Q E s :=
  PyProof.Rows.Call_ (n_glob S G g.ns hx hg g.nd (callWith_K G.X g.keep h he hplain))
/-- a built-in function, or a built-in class, called by its name -/
theorem callB {x : Str} {id : String} {np pos : Pos} {e : Expr} {rest : List Expr} {Q : Value → Shared → Prop} (S : CS b s₀ h₀ env ρ Λ s) (G : Gr K h₀) (g : GB K x (.builtin id)) (hx : env.kindOf x = some .globalImplicit) (hg : env.globals = mainGlobals) (hb : env.builtins = builtinsNs)
    (h : wpAny (model prog w) A (spliced (backTo pos (starEach (e :: rest) env))) (fun vs s₁ => wpAny (model prog w) A (call (.builtin id) vs) Q E s₁) E s)
    (he : starEach (e :: rest) env = (false, eval e env) :: starEach rest env) (hplain : (backTo pos (starEach rest env)).any (·.1) = false) :
    wpAny (model prog w) A (eval (.Call (.Name x np) (e :: rest) [] pos) env) Q E s := by
  refine PyProof.Rows.Call_ (n_gb S G g hx hg hb ?_)
  have hb' : backTo pos (starEach (e :: rest) env) = (false, eval e env) :: backTo pos (starEach rest env) := by rw [he]; rfl
  rw [hb'] at h ⊢
  exact Calls.callWith_builtin (by rw [List.any_cons]; exact hplain) (Calls.evalArgs_plain h)
theorem callT {x : Str} {T : String} {np pos : Pos} {e : Expr} {rest : List Expr} {Q : Value → Shared → Prop} (S : CS b s₀ h₀ env ρ Λ s) (G : Gr K h₀) (g : GB K x (.type T)) (hx : env.kindOf x = some .globalImplicit) (hg : env.globals = mainGlobals) (hb : env.builtins = builtinsNs)
    (h : wpAny (model prog w) A (spliced (backTo pos (starEach (e :: rest) env))) (fun vs s₁ => wpAny (model prog w) A (call (.type T) vs) Q E s₁) E s)
    (he : starEach (e :: rest) env = (false, eval e env) :: starEach rest env) (hplain : (backTo pos (starEach rest env)).any (·.1) = false) :
    wpAny (model prog w) A (eval (.Call (.Name x np) (e :: rest) [] pos) env) Q E s := by
  refine PyProof.Rows.Call_ (n_gb S G g hx hg hb ?_)
  have hb' : backTo pos (starEach (e :: rest) env) = (false, eval e env) :: backTo pos (starEach rest env) := by rw [he]; rfl
  rw [hb'] at h ⊢
  exact PySem.callWith_type (by rw [List.any_cons]; exact hplain) (Calls.evalArgs_plain h)
/-- a method of a built-in object -/
theorem cw_meth {id : String} {self : Value} {pos : Pos} {e : Expr} {rest : List Expr} {Q : Value → Shared → Prop}
    (h : wpAny (model prog w) A (spliced (backTo pos (starEach (e :: rest) env))) (fun vs s₁ => wpAny (model prog w) A (call (.builtin id) (self :: vs)) Q E s₁) E s)
    (he : starEach (e :: rest) env = (false, eval e env) :: starEach rest env) (hplain : (backTo pos (starEach rest env)).any (·.1) = false) :
    wpAny (model prog w) A (callWith pos (.builtin id) [self] (backTo pos (starEach (e :: rest) env)) []) Q E s := by
  have hb' : backTo pos (starEach (e :: rest) env) = (false, eval e env) :: backTo pos (starEach rest env) := by rw [he]; rfl
  rw [hb'] at h ⊢
  exact Calls.callWith_builtin (by rw [List.any_cons]; exact hplain) (Calls.evalArgs_plain h)
theorem cw_meth0 {id : String} {self : Value} {pos : Pos} {Q : Value → Shared → Prop} (h : wpAny (model prog w) A (call (.builtin id) [self]) Q E s) :
    wpAny (model prog w) A (callWith pos (.builtin id) [self] (backTo pos (starEach [] env)) []) Q E s :=
  Calls.callWith_builtin rfl (PySem.evalArgs_none h)
/-- a method of the text's own -/
theorem cw_own {f : Addr} {self : Value} {pos : Pos} {e : Expr} {rest : List Expr} {Q : Value → Shared → Prop} (G : Gr K h₀) (hk : keepIn K (.ref f) = true)
    (h : wpAny (model prog w) A (spliced (backTo pos (starEach (e :: rest) env))) (fun vs s₁ => K.In s₁.heap ∧ wpAny (model prog w) A (call (.ref f) (self :: vs)) Q E s₁) E s)
    (he : starEach (e :: rest) env = (false, eval e env) :: starEach rest env) (hplain : (backTo pos (starEach rest env)).any (·.1) = false) :
    wpAny (model prog w) A (callWith pos (.ref f) [self] (backTo pos (starEach (e :: rest) env)) []) Q E s := callWith_K G.X hk h he hplain
theorem cw_own0 {f : Addr} {self : Value} {pos : Pos} {Q : Value → Shared → Prop} (X : K.In s.heap) (hk : keepIn K (.ref f) = true) (h : wpAny (model prog w) A (call (.ref f) [self]) Q E s) :
    wpAny (model prog w) A (callWith pos (.ref f) [self] (backTo pos (starEach [] env)) []) Q E s := callWith_K0 X hk h
end
end Fl

namespace Fl
open PySem PySem.W PySem.Calls PyProof.Rows

/-- an object of the changed ones is changed -/
inductive Chg (a : Addr) (o o' : Obj) : List (Addr × Obj) → List (Addr × Obj) → Prop
  | head {r} : Chg a o o' ((a, o) :: r) ((a, o') :: r)
  | tail {p r r'} : Chg a o o' r r' → Chg a o o' (p :: r) (p :: r')
theorem Chg.adr {a : Addr} {o o' : Obj} {Λ Λ' : List (Addr × Obj)} (h : Chg a o o' Λ Λ') : Λ'.map (·.1) = Λ.map (·.1) := by
  induction h with
  | head => rfl
  | tail _ ih => simp only [List.map_cons, ih]
theorem Chg.mem {a : Addr} {o o' : Obj} {Λ Λ' : List (Addr × Obj)} (h : Chg a o o' Λ Λ') : (a, o) ∈ Λ := by
  induction h with
  | head => exact List.mem_cons_self ..
  | tail _ ih => exact List.mem_cons_of_mem _ ih
theorem Chg.look {a : Addr} {o o' : Obj} {Λ Λ' : List (Addr × Obj)} (h : Chg a o o' Λ Λ') (nd : (Λ.map (·.1)).Nodup) {p : Addr × Obj} (hp : p ∈ Λ') : p = (a, o') ∨ (p.1 ≠ a ∧ p ∈ Λ) := by
  induction h with
  | head =>
    rw [List.map_cons, List.nodup_cons] at nd
    rcases List.mem_cons.mp hp with rfl | hp
    · exact .inl rfl
    · refine .inr ⟨fun q => nd.1 ?_, List.mem_cons_of_mem _ hp⟩
      have := List.mem_map_of_mem (f := (·.1)) hp
      rw [q] at this; exact this
  | tail hc ih =>
    rw [List.map_cons, List.nodup_cons] at nd
    rcases List.mem_cons.mp hp with rfl | hp
    · refine .inr ⟨fun q => nd.1 ?_, List.mem_cons_self ..⟩
      have := List.mem_map_of_mem (f := (·.1)) hc.mem
      rw [q]; exact this
    · rcases ih nd.2 hp with q | ⟨q1, q2⟩
      · exact .inl q
      · exact .inr ⟨q1, List.mem_cons_of_mem _ q2⟩

namespace CS
variable {b : Bool} {s₀ s s' : Shared} {h₀ h₁ : Heap} {env : Env} {ρ ρ' : Rho} {Λ Λ' : List (Addr × Obj)}
theorem chg (S : CS true s₀ h₀ env ρ Λ s) {a : Addr} {o o' : Obj} {h' : Heap} {tk : Nat} (U : Chg a o o' Λ Λ') (hs : ∀ c x, c ≠ a → s.heap.get? c = some x → h'.get? c = some x) (ho : h'.get? a = some o') : CS true s₀ h₀ env ρ Λ' { s with heap := h', toks := tk } := by
  obtain ⟨e, e1, e2, e3⟩ := S.led (a, o) U.mem
  refine ⟨S.kind, ?_, fun c x q => hs c x (fun w => ?_) (S.base c x q), (fun q => nomatch q), ?_, fun x v c a1 a2 a3 => ?_, fun n c q => ?_, S.apart, S.kinds, S.locs, S.nd, fun p hp => ?_, U.adr ▸ S.lnd⟩
  · obtain ⟨h, t, rfl⟩ := S.same; exact ⟨h', tk, rfl⟩
  · rw [w, e3 rfl] at q; cases q
  · obtain ⟨m, hn, hm⟩ := S.ns; exact ⟨m, hn.at' fun o q => hs _ o e1.symm q, hm⟩
  · obtain ⟨o, q, r⟩ := S.cell x v c a1 a2 a3; exact ⟨o, hs _ o (fun w => e2 x (w ▸ a3)) q, r⟩
  · obtain ⟨⟨v, o, q', r'⟩, r⟩ := S.cells n c q; exact ⟨⟨v, o, hs _ o (fun w => e2 n (w ▸ q)) q', r'⟩, r⟩
  · rcases U.look S.lnd hp with rfl | ⟨q1, q2⟩
    · exact ⟨ho, e1, e2, e3⟩
    · obtain ⟨x, r⟩ := S.led p q2; exact ⟨hs _ _ q1 x, r⟩
theorem atLed (S : CS b s₀ h₀ env ρ Λ s) {a : Addr} {o : Obj} (h : (a, o) ∈ Λ) : s.heap.get? a = some o := (S.led _ h).1
theorem atBase (S : CS b s₀ h₀ env ρ Λ s) {a : Addr} {o : Obj} (h : h₀.get? a = some o) : s.heap.get? a = some o := S.base _ _ h
theorem gr {K : Frag} (S : CS b s₀ h₀ env ρ Λ s) (G : Gr K h₀) : Gr K s.heap := G.mono S.base
/-- a new object, among the changed ones -/
theorem push (S : CS true s₀ h₀ env ρ Λ s) (o : Obj) (tk : Nat) (hf : o.isFreed = false) : CS true s₀ h₀ env ρ ((s.heap.objs.size, o) :: Λ) { s with heap := s.heap.push o, toks := tk } :=
  S.new (wr := []) rfl (fun _ _ _ e => Heap.get?_push_of_some _ e) (fun _ h => nomatch h) (fun _ h => nomatch h) (fresh_none (Nat.le_refl _)) (Heap.get?_push_size _ hf)
theorem pushK (S : CS b s₀ h₀ env ρ Λ s) (o : Obj) (tk : Nat) : CS b s₀ h₀ env ρ Λ { s with heap := s.heap.push o, toks := tk } :=
  S.keeps ⟨_, tk, rfl, fun _ _ e => Heap.get?_push_of_some _ e⟩
/-- a changed object that is no longer of interest -/
theorem forget (S : CS true s₀ h₀ env ρ Λ s) (h : ∀ p ∈ Λ', p ∈ Λ) (nd : (Λ'.map (·.1)).Nodup) : CS true s₀ h₀ env ρ Λ' s :=
  ⟨S.kind, S.same, S.base, S.all, S.ns, S.cell, S.cells, S.apart, S.kinds, S.locs, S.nd, fun p hp => S.led p (h p hp), nd⟩
theorem tl (S : CS true s₀ h₀ env ρ Λ s) {p : Addr × Obj} (h : p :: Λ' = Λ) : CS true s₀ h₀ env ρ Λ' s := by
  subst h
  have := S.lnd
  rw [List.map_cons, List.nodup_cons] at this
  exact S.forget (fun p hp => List.mem_cons_of_mem _ hp) this.2
end CS

section
variable {prog : Program} {w : World} {A : Around} {E : Value → Shared → Prop} {s s₀ : Shared} {h₀ : Heap} {env : Env} {ρ ρ' : Rho} {Λ Λ' : List (Addr × Obj)} {b : Bool} {K : Frag}

/-- an iterator just made: it hands out n values, the i-th as P says -/
def It (prog : Program) (w : World) (A : Around) (s₀ : Shared) (h₀ : Heap) (env : Env) (ρ : Rho) (Λ : List (Addr × Obj)) (n : Nat) (P : Nat → Value → Prop) (it : Value) (s : Shared) : Prop :=
  ∃ I fp wr St, it = .ref I ∧ Walks prog w A I fp wr n P St ∧ St 0 s.heap ∧ (∀ a ∈ fp, a < s.heap.objs.size) ∧ (∀ a ∈ wr, h₀.get? a = none) ∧ (∀ a ∈ fp, ¬ CS.own env Λ a) ∧ CS true s₀ h₀ env ρ Λ s

theorem it_list {l : Addr} {ys : Array Value} {o : Obj} {Q : Value → Shared → Prop} (S : CS true s₀ h₀ env ρ Λ s) (hh : A.handled = none) (ho : h₀.get? l = some o) (hl : o.cls = .type "list") (hd : ∃ n, o.data = .seq ys n)
    (h : ∀ it s', It prog w A s₀ h₀ env ρ Λ ys.size (fun i v => ys[i]? = some v) it s' → Q it s') : wpAny (model prog w) A (pyIter (.ref l)) Q E s := by
  have hL : s.heap.IsList l ys := ⟨o, S.atBase ho, hl, hd⟩
  have hlt : l < s.heap.objs.size := Heap.lt_size (S.atBase ho)
  refine wpAny_pyIter_list hL (h _ _ ⟨s.heap.objs.size, _, _, _, rfl, Walks.list hh _ l (Nat.ne_of_lt hlt) ys, ⟨⟨_, Heap.get?_push_size _ rfl, rfl, rfl⟩, hL.at fun o e => Heap.get?_push_of_some _ e⟩, ?_, ?_, ?_, S.pushK _ _⟩)
  · intro a ha
    rw [Heap.size_push]
    rcases List.mem_cons.mp ha with rfl | ha
    · exact Nat.lt_succ_self _
    · rw [List.mem_singleton.mp ha]; exact Nat.lt_succ_of_lt hlt
  · intro a ha
    rw [List.mem_singleton.mp ha]
    exact S.base.none (fresh_none (Nat.le_refl _))
  · intro a ha ho'
    rcases List.mem_cons.mp ha with rfl | ha
    · obtain ⟨o', q⟩ := S.own_at ho'
      exact absurd (Heap.lt_size q) (Nat.lt_irrefl _)
    · rw [List.mem_singleton.mp ha] at ho'
      rw [S.own_no ho'] at ho; cases ho

theorem it_str {x : Str} {t : Tok} {Q : Value → Shared → Prop} (S : CS true s₀ h₀ env ρ Λ s) (hh : A.handled = none)
    (h : ∀ it s', It prog w A s₀ h₀ env ρ Λ x.cps.size (SignAt x) it s' → Q it s') : wpAny (model prog w) A (pyIter (.str x t)) Q E s := by
  refine wpAny_pyIter_str fun o St W hst => h _ _ ⟨s.heap.objs.size, _, _, _, rfl, W A hh, hst, ?_, ?_, ?_, S.pushK _ _⟩
  · intro a ha
    rw [List.mem_singleton.mp ha, Heap.size_push]; exact Nat.lt_succ_self _
  · intro a ha
    rw [List.mem_singleton.mp ha]
    exact S.base.none (fresh_none (Nat.le_refl _))
  · intro a ha ho'
    rw [List.mem_singleton.mp ha] at ho'
    obtain ⟨o', q⟩ := S.own_at ho'
    exact absurd (Heap.lt_size q) (Nat.lt_irrefl _)

theorem range_size {n : Int} : Builtin.Range.rangeSize 0 n 1 = n.toNat := by
  unfold Builtin.Range.rangeSize
  simp only [show (1 : Int) > 0 from by decide, if_true]
  split
  · rw [show n - 0 - 1 = n - 1 by omega, Int.ediv_one]; omega
  · omega
theorem r_range {n : Int} {t : Tok} {Q : Value → Shared → Prop} (S : CS b s₀ h₀ env ρ Λ s) (h : ∀ r t₁ u₁ v₁ s', IsRange s'.heap r 0 n 1 t₁ u₁ v₁ → CS b s₀ h₀ env ρ Λ s' → Q (.ref r) s') : wpAny (model prog w) A (call (.type "range") [.int n t]) Q E s :=
  PySem.call_range_1 (h _ _ _ _ _ (Heap.get?_push_size _ rfl) (S.pushK _ _))
theorem it_range {r : Addr} {n : Int} {t u v : Tok} {Q : Value → Shared → Prop} (S : CS true s₀ h₀ env ρ Λ s) (hh : A.handled = none) (hr : IsRange s.heap r 0 n 1 t u v) (hn : n < 2 ^ 62) (hn' : -(2 ^ 62) ≤ n)
    (h : ∀ it s', It prog w A s₀ h₀ env ρ Λ n.toNat (fun i v => ∃ t, v = .int (i : Int) t) it s' → Q it s') : wpAny (model prog w) A (pyIter (.ref r)) Q E s := by
  have hsm : Builtin.Range.small 0 n 1 = true := small_one (by decide) (by decide) hn' hn
  refine wpAny_pyIter_range hr hsm (h _ _ ⟨s.heap.objs.size, [s.heap.objs.size], [s.heap.objs.size], (fun i h => IsRangeIter h s.heap.objs.size (0 + (i : Nat) * 1) ((n.toNat : Int) - (i : Nat)) 1), rfl, ?W, ?st, ?_, ?_, ?_, S.pushK _ _⟩)
  case W =>
    have := Walks.range (prog := prog) (w := w) hh s.heap.objs.size 0 1 n.toNat
    exact ⟨this.sub, this.frame, fun i s Q E hi st hQ => this.item i s Q E hi st fun v h' tk hP => hQ v h' tk (by obtain ⟨t, e⟩ := hP; exact ⟨t, by rw [e]; congr 1; omega⟩), this.done, this.self⟩
  case st =>
    show IsRangeIter _ _ _ _ _
    have e := range_size (n := n)
    rw [e]
    have : (0 : Int) + ((0 : Nat) : Int) * 1 = 0 := by omega
    rw [this]
    have : ((n.toNat : Nat) : Int) - ((0 : Nat) : Int) = ((n.toNat : Nat) : Int) := by omega
    rw [this]
    exact Heap.get?_push_size _ rfl
  · intro a ha
    rw [List.mem_singleton.mp ha, Heap.size_push]; exact Nat.lt_succ_self _
  · intro a ha
    rw [List.mem_singleton.mp ha]
    exact S.base.none (fresh_none (Nat.le_refl _))
  · intro a ha ho'
    rw [List.mem_singleton.mp ha] at ho'
    obtain ⟨o', q⟩ := S.own_at ho'
    exact absurd (Heap.lt_size q) (Nat.lt_irrefl _)
end
end Fl

namespace Fl
open PySem PySem.W PySem.Calls PyProof.Rows

abbrev envF (qual : Str) (scope : Scope) (L f : Addr) (cdv : Value) : Env :=
  { scope := scope, locals := L, globals := mainGlobals, cells := cellsFrom (L + 1) scope.names [], qual := qual ++ ".<locals>.", func := some f, code := cdv, frame := some L, builtins := builtinsNs }

def bindsOk (scope : Scope) (binds : List (Str × Value)) : Bool := binds.all fun y => scope.names.lookup y.1 == some .local || scope.names.lookup y.1 == some .cell
def nodupS : List Str → Bool
  | [] => true
  | x :: r => !r.contains x && nodupS r
theorem nodupS_nodup : ∀ {l : List Str}, nodupS l = true → l.Nodup
  | [], _ => List.nodup_nil
  | x :: r, h => by
    simp only [nodupS, Bool.and_eq_true, Bool.not_eq_true', List.contains_eq_mem, decide_eq_false_iff_not] at h
    exact List.nodup_cons.mpr ⟨h.1, nodupS_nodup h.2⟩
/-- what is asked of a def to be entered, all of it by evaluation -/
def defOk (scope : Scope) : Bool := nodupS (scope.names.map (·.1)) && !scope.isCoroutine && !scope.isGenerator && (match scope.kind with | .function => true | _ => false)

/-- behind a body: what it hands back -/
def RetQ (Q : Value → Shared → Prop) (f : Flow) (s' : Shared) : Prop := Q (match f with | .ret v => v | _ => .none) s'
/-- an exception that leaves a frame -/
def OutE (M : Model) (A : Around) (env : Env) (E : Value → Shared → Prop) (e : Value) (s' : Shared) : Prop := wpAny M (A.deeper env) (leaving env e) (fun _ s'' => E e s'') (fun e' s'' => E e' s'') s'
/-- behind a statement: the rest, where it goes on -/
def SeqQ (M : Model) (A : Around) (env : Env) (E : Value → Shared → Prop) (rest : List Stmt) (Q : Flow → Shared → Prop) (f : Flow) (s' : Shared) : Prop := match f with | .next => wpAny M A (execs rest env) Q E s' | f => Q f s'
/-- behind a loop's turn -/
def LoopQ (N : Shared → Prop) (Q : Flow → Shared → Prop) (f : Flow) (s₂ : Shared) : Prop := match f with
  | .next | .cont => N s₂
  | .brk => Q .next s₂
  | .ret v => Q (.ret v) s₂
/-- an exception within a loop -/
def NoteE (M : Model) (A : Around) (env : Env) (E : Value → Shared → Prop) : Value → Shared → Prop := notedBy M A env fun e s' => cameBackBy M A env E e s'

theorem ret_ret {Q : Value → Shared → Prop} {v : Value} {s : Shared} (h : Q v s) : RetQ Q (.ret v) s := h
theorem ret_next {Q : Value → Shared → Prop} {s : Shared} (h : Q .none s) : RetQ Q .next s := h
theorem seq_ret {M : Model} {A : Around} {env : Env} {E : Value → Shared → Prop} {rest : List Stmt} {Q : Flow → Shared → Prop} {v : Value} {s : Shared} (h : Q (.ret v) s) : SeqQ M A env E rest Q (.ret v) s := h
theorem seq_next {M : Model} {A : Around} {env : Env} {E : Value → Shared → Prop} {rest : List Stmt} {Q : Flow → Shared → Prop} {s : Shared} (h : wpAny M A (execs rest env) Q E s) : SeqQ M A env E rest Q .next s := h
theorem loop_ret {N : Shared → Prop} {Q : Flow → Shared → Prop} {v : Value} {s : Shared} (h : Q (.ret v) s) : LoopQ N Q (.ret v) s := h
theorem loop_next {N : Shared → Prop} {Q : Flow → Shared → Prop} {s : Shared} (h : N s) : LoopQ N Q .next s := h

section
variable {M : Model} {A : Around} {env : Env} {E : Value → Shared → Prop} {Q : Flow → Shared → Prop} {rest : List Stmt} {s : Shared}
theorem x_nil (h : Q .next s) : wpAny M A (execs [] env) Q E s := wpAny_execs_nil h
theorem x_ret {e : Expr} {pos : Pos} (h : wpAny M A (eval e env) (fun v s' => Q (.ret v) s') E s) : wpAny M A (execs (.Return (some e) pos :: rest) env) Q E s := wpAny_execs_cons (wpAny_Return_some h)
theorem x_assign {x : Str} {pos' pos : Pos} {value : Expr} (h : wpAny M A (eval value env) (fun v s₁ => wpAny M A (storeName env x v) (fun _ s₂ => wpAny M A (execs rest env) Q E s₂) E s₁) E s)
    (hs : swapsWith value (some (.Name x pos')) pos.line env = pure false) : wpAny M A (execs (.Assign [.Name x pos'] value pos :: rest) env) Q E s := wpAny_execs_cons (wpAny_Assign_Name h hs)
theorem x_if {test : Expr} {body orelse : List Stmt} {pos : Pos} (h : wpAny M A (isTrue test env (eval test env)) (fun b s₂ => if b = true then wpAny M A (execs body env) (SeqQ M A env E rest Q) E s₂ else wpAny M A (execs orelse env) (SeqQ M A env E rest Q) E s₂) E s) :
    wpAny M A (execs (.If test body orelse pos :: rest) env) Q E s := wpAny_execs_cons (wpAny_If h)
/-- an expression of no use: a plain value, or an object let go -/
theorem x_expr {e : Expr} {pos : Pos} (h : wpAny M A (eval e env) (fun v s' => match v with | .ref _ => False | _ => wpAny M A (execs rest env) Q E s') E s)
    (hi : interactive env = false) (hs : swapsWith e none pos.line env = pure false) : wpAny M A (execs (.Expr e pos :: rest) env) Q E s := wpAny_execs_cons (wpAny_Expr (wpAny_mono h (fun v s' q => by cases v <;> exact q) fun _ _ q => q) hi hs)
/-- a statement by what holds behind it, where it always goes on -/
theorem x_cut {st : Stmt} (P : Shared → Prop) (h1 : wpAny M A (exec st env) (fun f s' => f = .next ∧ P s') E s) (h2 : ∀ s', P s' → wpAny M A (execs rest env) Q E s') : wpAny M A (execs (st :: rest) env) Q E s := by
  refine wpAny_execs_cons (wpAny_mono h1 (fun f s' h => ?_) fun _ _ e => e)
  obtain ⟨rfl, p⟩ := h
  exact h2 s' p
theorem x_one {st : Stmt} {Q' : Flow → Shared → Prop} (h : wpAny M A (execs [st] env) Q' E s) : wpAny M A (exec st env) Q' E s := by
  have := h
  rw [show execs [st] env = (exec st env >>= fun f => match f with | .next => execs [] env | f => pure f) from rfl] at this
  have e : (exec st env >>= fun f => match f with | .next => execs [] env | f => pure f) = exec st env >>= pure := by
    congr 1; funext f; cases f <;> rfl
  rw [e, bind_pure] at this
  exact this
end

section
variable {prog : Program} {w : World} {A : Around} {s s₀ : Shared} {h₀ : Heap} {env : Env} {ρ : Rho} {Λ : List (Addr × Obj)} {E : Value → Shared → Prop} {Q : Flow → Shared → Prop}
/-- a for loop over a fresh iterator -/
theorem loop_it {body : List Stmt} {x : Str} {px : Pos} {n : Nat} {P : Nat → Value → Prop} {it : Value} (J : Nat → Rho → List (Addr × Obj) → Prop) (I : It prog w A s₀ h₀ env ρ Λ n P it s) (hJ : J 0 ρ Λ)
    (hadr : ∀ i ρ' Λ', J i ρ' Λ' → Λ'.map (·.1) = Λ.map (·.1))
    (turn : ∀ i v ρ₁ Λ₁, i < n → P i v → J i ρ₁ Λ₁ → ∃ ρ₂, Put x v ρ₁ ρ₂ ∧ ∀ h₁ s₁, Sub h₀ h₁ → CS true s₀ h₁ env ρ₂ Λ₁ s₁ → ∀ Q' : Flow → Shared → Prop,
      (∀ h' ρ' Λ' s₂, Sub h₁ h' → CS true s₀ h' env ρ' Λ' s₂ → J (i + 1) ρ' Λ' → Q' .next s₂) → (∀ v s₂, Q (.ret v) s₂ → Q' (.ret v) s₂) → wpAny (model prog w) A (execs body env) Q' (NoteE (model prog w) A env E) s₁)
    (done : ∀ ρ' Λ' s', J n ρ' Λ' → CS true s₀ h₀ env ρ' Λ' s' → Q .next s') :
    codeAny (model prog w) A (.forLoop (.Name x px) it body [] env) (fun r s' => match r with | .ok f => Q f s' | .error e => cameBackBy (model prog w) A env E e s') s := by
  obtain ⟨I, fp, wr, St, rfl, W, hst, _, hwr, hfp, S⟩ := I
  refine loop_inv J W S hst hfp hwr hJ hadr (fun i v ρ₁ Λ₁ a b c => ?_) done
  obtain ⟨ρ₂, p, q⟩ := turn i v ρ₁ Λ₁ a b c
  exact ⟨ρ₂, p, fun h₁ s₁ k S => q h₁ s₁ k S _ (fun h' ρ' Λ' s₂ a b c => ⟨h', ρ', Λ', a, b, c⟩) fun v s₂ z => z⟩
theorem x_for {target iter : Expr} {body rest : List Stmt} {pos : Pos} (hs : ∀ x, foldedSetIterable iter env x = pure x)
    (h : wpAny (model prog w) A (eval iter env) (fun x s₁ => wpAny (model prog w) A (pyIter x) (fun it s₂ =>
      codeAny (model prog w) A (.forLoop target it body [] env) (fun r s' => match r with | .ok f => SeqQ (model prog w) A env E rest Q f s' | .error e => cameBackBy (model prog w) A env E e s') s₂) E s₁) E s) :
    wpAny (model prog w) A (execs (.For target iter body [] pos :: rest) env) Q E s := wpAny_execs_cons (wpAny_For h hs)
end

section
variable {prog : Program} {w : World} {A : Around} {E : Value → Shared → Prop} {s : Shared} {h₀ : Heap} {Λ : List (Addr × Obj)} {K : Frag}
/-- a def of the text is called -/
theorem callK {Q : Value → Shared → Prop} {f : Addr} {name qual : Str} {params : Arguments} {body : List Stmt} {scope : Scope} {dV kV doc pm cdv ct oc : Value} {an od : Option Addr} {osl : Array (Option Value)} {vals : List Value} {binds : List (Str × Value)} (ρ : Rho)
    (G : Gr K s.heap) (hroom : A.depth < recursionLimit)
    (ho : K.lookup f = some ⟨oc, od, .func (fnOf name qual params body scope dV kV doc pm an cdv ct), osl⟩) (hcd : codeIn K cdv qual = true)
    (hbind : bindArgs (fnOf name qual params body scope dV kV doc pm an cdv ct) ⟨vals, []⟩ = pure binds) (hd : defOk scope = true) (hb1 : bindsOk scope binds = true) (hb2 : nodupS (binds.map (·.1)) = true) (hρ : rho0 scope.names binds = ρ)
    (hb : Sub h₀ s.heap) (hΛ : ∀ p ∈ Λ, s.heap.get? p.1 = some p.2 ∧ h₀.get? p.1 = none) (hΛn : (Λ.map (·.1)).Nodup)
    (h : ∀ L s₁, CS true s h₀ (envF qual scope L f cdv) ρ Λ s₁ →
      wpAny (model prog w) (A.deeper (envF qual scope L f cdv)) (execs body (envF qual scope L f cdv)) (RetQ Q) (OutE (model prog w) A (envF qual scope L f cdv) E) s₁) :
    wpAny (model prog w) A (call (.ref f) vals) Q E s := by
  unfold defOk at hd
  simp only [Bool.and_eq_true, Bool.not_eq_true'] at hd
  obtain ⟨⟨⟨h1, h2⟩, h3⟩, h4⟩ := hd
  have h4' : scope.kind = .function := by
    cases hk : scope.kind <;> first | rfl | (rw [hk] at h4; cases h4)
  exact wpAny_call (call_def (fd := fnOf name qual params body scope dV kV doc pm an cdv ct) hroom (G.X _ _ ho) rfl G.lim (codeRec_of G.X hcd) rfl hbind rfl hb1 (nodupS_nodup hb2) (nodupS_nodup h1) hρ hb hΛ hΛn (h _) h2 h3 h4')

/-- a def that changes nothing of what stood -/
theorem callP {Q : Value → Shared → Prop} {f : Addr} {name qual : Str} {params : Arguments} {body : List Stmt} {scope : Scope} {dV kV doc pm cdv ct oc : Value} {an od : Option Addr} {osl : Array (Option Value)} {vals : List Value} {binds : List (Str × Value)} (ρ : Rho)
    (G : Gr K s.heap) (hroom : A.depth < recursionLimit)
    (ho : K.lookup f = some ⟨oc, od, .func (fnOf name qual params body scope dV kV doc pm an cdv ct), osl⟩) (hcd : codeIn K cdv qual = true)
    (hbind : bindArgs (fnOf name qual params body scope dV kV doc pm an cdv ct) ⟨vals, []⟩ = pure binds) (hd : defOk scope = true) (hb1 : bindsOk scope binds = true) (hb2 : nodupS (binds.map (·.1)) = true) (hρ : rho0 scope.names binds = ρ)
    (h : ∀ L s₁, CS true s s.heap (envF qual scope L f cdv) ρ [] s₁ →
      wpAny (model prog w) (A.deeper (envF qual scope L f cdv)) (execs body (envF qual scope L f cdv)) (RetQ Q) (OutE (model prog w) A (envF qual scope L f cdv) E) s₁) :
    wpAny (model prog w) A (call (.ref f) vals) Q E s :=
  callK (Λ := []) ρ G hroom ho hcd hbind hd hb1 hb2 hρ (Sub.refl _) (fun _ h => nomatch h) List.nodup_nil h

-- lists and texts read
variable {b : Bool} {s₀ : Shared} {env : Env} {ρ : Rho}
theorem b_len_list {l : Addr} {ys : Array Value} {Q : Value → Shared → Prop} (S : CS b s₀ h₀ env ρ Λ s) (hl : s.heap.IsList l ys) (hn : ys.size ≤ 16777216) (h : ∀ t s', CS b s₀ h₀ env ρ Λ s' → Q (.int ys.size t) s') : wpAny (model prog w) A (call (.builtin "len") [.ref l]) Q E s :=
  Calls.call_len_list hl (by omega) (h _ _ (S.tok _))
theorem b_len_str {x : Str} {t : Tok} {Q : Value → Shared → Prop} (S : CS b s₀ h₀ env ρ Λ s) (hn : x.length ≤ 16777216) (h : ∀ t s', CS b s₀ h₀ env ρ Λ s' → Q (.int x.length t) s') : wpAny (model prog w) A (call (.builtin "len") [.str x t]) Q E s :=
  PySem.P.len_str (by omega) (h _ _ (S.tok _))
theorem s_list {value slice : Expr} {l : Addr} {ys : Array Value} {k : Int} {u : Tok} {v : Value} {Q : Value → Shared → Prop} (hl : s.heap.IsList l ys) (h0 : 0 ≤ k) (hf : k < 2 ^ 63) (hv : ys[k.toNat]? = some v)
    (hs : subscripted slice false (.ref l) (.int k u) = operate [.ref l, .int k u] (getItem (.ref l) (.int k u))) (h : Q v s) : wpAny (model prog w) A (subscriptTail value slice (.ref l) (.int k u)) Q E s :=
  tail_any hl.typeIs slot_list_getitem.lookup (wpAny_getItem_list hl h0 hf hv h) hs
end
end Fl

namespace Fl
open PySem PySem.W PySem.Calls PyProof.Rows

/-- a dict by names, of k entries at most -/
def NsO (o : Obj) (m : Str → Option Value) (k : Nat) : Prop := ∃ es ep, o = ⟨.type "dict", none, .dict es ep, #[]⟩ ∧ StrKeys es ∧ (∀ n, nsFind es n = m n) ∧ es.size ≤ k
theorem NsO.nil : NsO (dictOf [] 0) (fun _ => none) 0 := ⟨#[], 0, rfl, fun e h => by simp at h, fun n => rfl, Nat.le_refl _⟩
theorem NsO.put {o : Obj} {m : Str → Option Value} {k : Nat} (h : NsO o m k) (name : Str) (hash : Int) (t : Tok) (v : Value) : NsO (o.putName name hash (.str name t) v) (fun y => if y = name then some v else m y) (k + 1) := by
  obtain ⟨es, ep, rfl, hk, hm, hz⟩ := h
  cases hi : es.findIdx? (fun e => e.key.isStr name) with
  | some i =>
    refine ⟨es.modify i fun e => { e with val := v }, ep, by simp only [Obj.putName_eq, Obj.putNameByArray, hi], hk.modify _ _, fun x => ?_, by simpa using Nat.le_succ_of_le hz⟩
    show _ = if x = name then some v else m x
    rw [← hm x]
    exact findBy_modify (fun n v => v.isStr n) Value.isStr_inj es name x v i hi
  | none =>
    refine ⟨es.push ⟨hash, .str name t, v⟩, ep + 1, by simp only [Obj.putName_eq, Obj.putNameByArray, hi], hk.push _ _ _ _, fun x => ?_, by simpa using hz⟩
    show _ = if x = name then some v else m x
    rw [← hm x]
    exact findBy_push (fun n v => v.isStr n) es name x hash (.str name t) v (fun y => by
      show (name == y) = decide (y = name)
      by_cases h : y = name
      · subst h; simp
      · have : ¬ name = y := fun e => h e.symm
        simp [h, this]) hi
theorem NsO.look {o : Obj} {m : Str → Option Value} {k : Nat} (h : NsO o m k) (n : Str) : lookIn n o = some (m n) := by
  obtain ⟨es, ep, rfl, hk, hm, _⟩ := h
  rw [← hm n]
  unfold lookIn nsFind findBy
  dsimp only
  rw [← Array.find?_toList]
  cases hf : es.toList.find? (fun x => x.key.isStr n) with
  | some e => rfl
  | none =>
    have : es.toList.any (·.refKey) = false := by
      rw [List.any_eq_false]
      intro e he
      obtain ⟨x, t, q⟩ := hk e (by simpa using he)
      simp [DictEntry.refKey, q]
    simp [this]

/-- as Chg, for any new object -/
inductive ChgF (a : Addr) (o : Obj) : List (Addr × Obj) → (Obj → List (Addr × Obj)) → Prop
  | head {r} : ChgF a o ((a, o) :: r) (fun o' => (a, o') :: r)
  | tail {p r g} : ChgF a o r g → ChgF a o (p :: r) (fun o' => p :: g o')
theorem ChgF.to {a : Addr} {o : Obj} {Λ : List (Addr × Obj)} {g : Obj → List (Addr × Obj)} (h : ChgF a o Λ g) (o' : Obj) : Chg a o o' Λ (g o') := by
  induction h with
  | head => exact .head
  | tail _ ih => exact .tail ih

/-- a field that is stored into the own dict -/
def storeIn (K : Frag) (C : Addr) (name : Str) : Bool :=
  findIn K (.ref C) "__setattr__" == some (some (.builtin "object.__setattr__")) && plainOver K C && takerIn K C name == some none && (clsIn K C).any (·.hasDict)

section
variable {prog : Program} {w : World} {A : Around} {E : Value → Shared → Prop} {s s₀ : Shared} {h₀ : Heap} {env : Env} {ρ ρ' : Rho} {Λ Λ' : List (Addr × Obj)} {b : Bool} {K : Frag}

theorem a_store {C x dx : Addr} {name : Str} {v : Value} {od : Obj} {m : Str → Option Value} {k : Nat} {g : Obj → List (Addr × Obj)} {Q : Unit → Shared → Prop} (S : CS true s₀ h₀ env ρ Λ s) (X : K.In s.heap) (hx : s.heap.get? x = some (instObj C dx)) (hc : storeIn K C name = true)
    (U : ChgF dx od Λ g) (hn : NsO od m k) (hk : k < 1000)
    (h : ∀ o' s', NsO o' (fun y => if y = name then some v else m y) (k + 1) → CS true s₀ h₀ env ρ (g o') s' → Q () s') : wpAny (model prog w) A (setAttr (.ref x) name v) Q E s := by
  unfold storeIn at hc
  simp only [Bool.and_eq_true, beq_iff_eq] at hc
  obtain ⟨⟨⟨h1, h2⟩, h3⟩, h4⟩ := hc
  have D := S.atLed (U.to od).mem
  have I : W.InstAt s.heap x (instObj C dx) C (some od) := ⟨hx, rfl, rfl, D⟩
  refine set_plain X I h1 ?_
  have S' := S.tok (s.toks + 1)
  refine osa_open (s := { s with toks := s.toks + 1 }) X I h2 h3 fun b => ?_
  obtain ⟨cd, hcd, hd'⟩ := any_some h4
  refine wpAny_bind (wpAny_pure (wpAny_bind (wpAny_bind (wpAny_loadPart hx (wpAny_bind (Looks.here (s := { s with toks := s.toks + 1 }) (looks_clsIn X hcd) ?_))))))
  rw [hd']
  refine wpAny_pure (a := some dx) (wpAny_bind (wpAny_pure (wpAny_bind ?_)))
  unfold nsSet
  refine wpAny_bind (wpAny_bind (wpAny_askSetting (wpAny_pure (wpAny_bind (wpAny_mkText (wpAny_bind (wpAny_loadPart D ?_)))))))
  have hn' := hn.put name (PyData.keyHash w.params name) (s.toks + 1) v
  obtain ⟨es, ep, rfl, hkk, hm, hz⟩ := hn
  dsimp only
  have hany : es.any (·.refKey) = false := by
    rw [Array.any_eq_false']; intro e he; obtain ⟨n, t, h⟩ := hkk e he; simp [DictEntry.refKey, h]
  rw [aRefKeyMayBeTheName_at, hany, Bool.and_false]
  refine wpAny_updatePart D ?_
  have hself : (s.heap.update dx (Obj.putName name (PyData.keyHash w.params name) (.str name (s.toks + 1)) v)).get? dx = some _ := Heap.get?_update_self _ D (by obtain ⟨es', ep', e, _⟩ := hn'; rw [e]; rfl)
  refine wpAny_bind (wpAny_lookBehind hself ?_ ?_)
  · obtain ⟨es', ep', e, _, _, hz'⟩ := hn'
    rw [e]
    exact pastItsLine_dict (by rw [sizeLine_eq]; omega)
  · refine wpAny_pure (h _ _ hn' ?_)
    exact S'.chg (U.to _) (fun c x hc e => (Heap.get?_update_ne _ _ _ _ hc).trans e) hself
end
end Fl

namespace Fl
open PySem PySem.W PySem.Calls PyProof.Rows

/-- a list of ints, a list of texts -/
def IntL (h : Heap) (l : Addr) (ns : List Int) : Prop := ∃ vs, h.IsList l vs.toArray ∧ IntsAre vs ns
def StrL (h : Heap) (l : Addr) (xs : List Str) : Prop := ∃ vs, h.IsList l vs.toArray ∧ StrsAre vs xs
theorem isList_mono {h h' : Heap} {l : Addr} {ys : Array Value} (x : h.IsList l ys) (k : Sub h h') : h'.IsList l ys := x.at fun o e => k _ o e
theorem IntL.mono {h h' : Heap} {l : Addr} {ns : List Int} (x : IntL h l ns) (k : Sub h h') : IntL h' l ns := let ⟨vs, a, b⟩ := x; ⟨vs, isList_mono a k, b⟩
theorem StrL.mono {h h' : Heap} {l : Addr} {ns : List Str} (x : StrL h l ns) (k : Sub h h') : StrL h' l ns := let ⟨vs, a, b⟩ := x; ⟨vs, isList_mono a k, b⟩
theorem IntL.of {h : Heap} {l : Addr} {ys : Array Value} {k : Nat} {ns : List Int} (e : h.get? l = some (lst ys k)) (hi : IntsAre ys.toList ns) : IntL h l ns := ⟨ys.toList, ⟨_, e, rfl, k, by simp⟩, hi⟩
theorem StrL.of {h : Heap} {l : Addr} {ys : Array Value} {k : Nat} {ns : List Str} (e : h.get? l = some (lst ys k)) (hi : StrsAre ys.toList ns) : StrL h l ns := ⟨ys.toList, ⟨_, e, rfl, k, by simp⟩, hi⟩

section
variable {prog : Program} {w : World} {A : Around} {E : Value → Shared → Prop} {s s₀ : Shared} {h₀ : Heap} {env : Env} {ρ ρ' : Rho} {Λ Λ' : List (Addr × Obj)} {b : Bool} {K : Frag}

theorem l_len {l : Addr} {ns : List Int} {Q : Value → Shared → Prop} (S : CS b s₀ h₀ env ρ Λ s) (hl : IntL s.heap l ns) (hn : ns.length ≤ 16777216) (h : ∀ t s', CS b s₀ h₀ env ρ Λ s' → Q (.int ns.length t) s') : wpAny (model prog w) A (call (.builtin "len") [.ref l]) Q E s := by
  obtain ⟨vs, a, hi⟩ := hl
  have := hi.length
  refine b_len_list S a (by simpa [this] using hn) fun t s' S' => ?_
  simpa [this] using h t s' S'
theorem l_lenS {l : Addr} {ns : List Str} {Q : Value → Shared → Prop} (S : CS b s₀ h₀ env ρ Λ s) (hl : StrL s.heap l ns) (hn : ns.length ≤ 16777216) (h : ∀ t s', CS b s₀ h₀ env ρ Λ s' → Q (.int ns.length t) s') : wpAny (model prog w) A (call (.builtin "len") [.ref l]) Q E s := by
  obtain ⟨vs, a, hi⟩ := hl
  have := hi.length
  refine b_len_list S a (by simpa [this] using hn) fun t s' S' => ?_
  simpa [this] using h t s' S'
theorem l_at {value slice : Expr} {l : Addr} {ns : List Int} {k : Int} {u : Tok} {Q : Value → Shared → Prop} (hl : IntL s.heap l ns) (h0 : 0 ≤ k) (h1 : k < ns.length) (hn : ns.length ≤ 16777216)
    (hs : subscripted slice false (.ref l) (.int k u) = operate [.ref l, .int k u] (getItem (.ref l) (.int k u))) (h : ∀ t, Q (.int (ns.getD k.toNat 0) t) s) : wpAny (model prog w) A (subscriptTail value slice (.ref l) (.int k u)) Q E s := by
  obtain ⟨vs, a, hi⟩ := hl
  have hk : k.toNat < ns.length := by omega
  obtain ⟨t, e⟩ := hi.get k.toNat ns[k.toNat] (by simp [hk])
  have : ns.getD k.toNat 0 = ns[k.toNat] := by simp [List.getD, hk]
  exact s_list a h0 (by omega) (by simpa using e) hs (this ▸ h t)
theorem l_atS {value slice : Expr} {l : Addr} {ns : List Str} {k : Int} {u : Tok} {Q : Value → Shared → Prop} (hl : StrL s.heap l ns) (h0 : 0 ≤ k) (h1 : k < ns.length) (hn : ns.length ≤ 16777216)
    (hs : subscripted slice false (.ref l) (.int k u) = operate [.ref l, .int k u] (getItem (.ref l) (.int k u))) (h : ∀ t, Q (.str (ns.getD k.toNat Str.empty) t) s) : wpAny (model prog w) A (subscriptTail value slice (.ref l) (.int k u)) Q E s := by
  obtain ⟨vs, a, hi⟩ := hl
  have hk : k.toNat < ns.length := by omega
  obtain ⟨t, e⟩ := hi.get k.toNat ns[k.toNat] (by simp [hk])
  have : ns.getD k.toNat Str.empty = ns[k.toNat] := by simp [List.getD, hk]
  exact s_list a h0 (by omega) (by simpa using e) hs (this ▸ h t)
/-- a sign of a text -/
theorem t_at {value slice : Expr} {x : Str} {t u : Tok} {k : Int} {Q : Value → Shared → Prop} (S : CS b s₀ h₀ env ρ Λ s) (h0 : 0 ≤ k) (h1 : k < x.length) (hn : x.length ≤ 16777216)
    (hs : subscripted slice false (.str x t) (.int k u) = operate [.str x t, .int k u] (getItem (.str x t) (.int k u)))
    (h : ∀ t s', CS b s₀ h₀ env ρ Λ s' → Q (.str ⟨#[x.cps.getD k.toNat 0]⟩ t) s') : wpAny (model prog w) A (subscriptTail value slice (.str x t) (.int k u)) Q E s := by
  have hk : k.toNat < x.cps.size := by have : (x.length : Int) = x.cps.size := rfl; omega
  refine tail_any (T := "str") (typeIs_str s x t) slot_str_getitem.lookup (PyProof.Rows.getItem_str (c := x.cps.getD k.toNat 0) ?_ ?_ (h _ _ (S.tok _))) hs
  · simp; omega
  · have e : seqIndex? k x.length = some k.toNat := PySem.seqIndex_of h0 h1
    rw [e]
    simp [Array.getD, hk]

theorem t_len {x : Str} {t : Tok} {Q : Value → Shared → Prop} (S : CS b s₀ h₀ env ρ Λ s) (hn : x.length ≤ 16777216) (h : ∀ t s', CS b s₀ h₀ env ρ Λ s' → Q (.int x.length t) s') : wpAny (model prog w) A (call (.builtin "len") [.str x t]) Q E s := b_len_str S hn h
theorem t_in {x : Str} {c : Nat} {t u : Tok} {Q : Value → Shared → Prop} (h : Q (.bool (decide (c ∈ x.cps.toList))) s) : wpAny (model prog w) A (compareOp .In (.str ⟨#[c]⟩ u) (.str x t)) Q E s := PyProof.Rows.in_str (by rw [StrLaws.found_one]; exact h)
theorem t_notin {x : Str} {c : Nat} {t u : Tok} {Q : Value → Shared → Prop} (h : Q (.bool (!decide (c ∈ x.cps.toList))) s) : wpAny (model prog w) A (compareOp .NotIn (.str ⟨#[c]⟩ u) (.str x t)) Q E s := PyProof.Rows.notIn_str (by rw [StrLaws.found_one]; exact h)
theorem t_eq {x y : Str} {t u : Tok} {Q : Value → Shared → Prop} (h : Q (.bool (x == y)) s) : wpAny (model prog w) A (compareOp .Eq (.str x t) (.str y u)) Q E s := PyProof.Rows.eq_str h
theorem t_ne {x y : Str} {t u : Tok} {Q : Value → Shared → Prop} (h : Q (.bool (x != y)) s) : wpAny (model prog w) A (compareOp .NotEq (.str x t) (.str y u)) Q E s := PyProof.Rows.ne_str h
theorem t_join {D : Addr} {ys : List Str} {x : Str} {t : Tok} {Q : Value → Shared → Prop} (S : CS b s₀ h₀ env ρ Λ s) (hl : StrL s.heap D ys) (hok : (ys.map (·.length)).sum + ys.length * x.length ≤ 16777216)
    (h : ∀ t s', CS b s₀ h₀ env ρ Λ s' → Q (.str (Txt.join x ys) t) s') : wpAny (model prog w) A (call (.builtin "str.join") [.str x t, .ref D]) Q E s := by
  obtain ⟨vs, a, hi⟩ := hl
  exact PyProof.Rows.join_list a (by simpa using hi) hok fun t' k => h _ _ (S.tok _)

theorem l_in {l : Addr} {ns : List Int} {k : Int} {t : Tok} {Q : Value → Shared → Prop} (hl : IntL s.heap l ns) (h : Q (.bool (decide (k ∈ ns))) s) : wpAny (model prog w) A (compareOp .In (.int k t) (.ref l)) Q E s := by
  obtain ⟨vs, a, hi⟩ := hl
  have e : ns.any (· == k) = decide (k ∈ ns) := by rw [Bool.eq_iff_iff]; simp [List.any_eq_true]
  exact PyProof.Rows.in_list_ints a hi (e ▸ h)
theorem l_notin {l : Addr} {ns : List Int} {k : Int} {t : Tok} {Q : Value → Shared → Prop} (hl : IntL s.heap l ns) (h : Q (.bool (!decide (k ∈ ns))) s) : wpAny (model prog w) A (compareOp .NotIn (.int k t) (.ref l)) Q E s := by
  obtain ⟨vs, a, hi⟩ := hl
  have e : ns.any (· == k) = decide (k ∈ ns) := by rw [Bool.eq_iff_iff]; simp [List.any_eq_true]
  exact PyProof.Rows.notin_list_ints a hi (e ▸ h)
theorem l_eq {l l' : Addr} {ns ms : List Int} {Q : Value → Shared → Prop} (hl : IntL s.heap l ns) (hl' : IntL s.heap l' ms) (hu : A.units + 64 < cLine) (h : Q (.bool (decide (ns = ms))) s) : wpAny (model prog w) A (compareOp .Eq (.ref l) (.ref l')) Q E s := by
  obtain ⟨vs, a, hi⟩ := hl
  obtain ⟨vs', a', hi'⟩ := hl'
  exact W.eq_intsK a hi a' hi' hu h
theorem l_ne {l l' : Addr} {ns ms : List Int} {Q : Value → Shared → Prop} (hl : IntL s.heap l ns) (hl' : IntL s.heap l' ms) (hu : A.units + 64 < cLine) (h : Q (.bool (!decide (ns = ms))) s) : wpAny (model prog w) A (compareOp .NotEq (.ref l) (.ref l')) Q E s := by
  obtain ⟨vs, a, hi⟩ := hl
  obtain ⟨vs', a', hi'⟩ := hl'
  exact W.ne_intsK a hi a' hi' hu h

/-- a new list, among the changed objects -/
theorem CS.pushL (S : CS b s₀ h₀ env ρ Λ s) (o : Obj) (tk : Nat) (hf : o.isFreed = false) : CS b s₀ h₀ env ρ ((s.heap.objs.size, o) :: Λ) { s with heap := s.heap.push o, toks := tk } := by
  have S' := S.pushK o tk
  have hno : ¬ CS.own env Λ s.heap.objs.size := fun h => by obtain ⟨o', q⟩ := S.own_at h; exact absurd (Heap.lt_size q) (Nat.lt_irrefl _)
  refine ⟨S'.kind, S'.same, S'.base, S'.all, S'.ns, S'.cell, S'.cells, S'.apart, S'.kinds, S'.locs, S'.nd, fun p hp => ?_, ?_⟩
  · rcases List.mem_cons.mp hp with rfl | hp
    · exact ⟨Heap.get?_push_size _ hf, fun q => hno (.inl q), fun n q => hno (.inr (.inl ⟨n, q⟩)), fun _ => S.base.none (fresh_none (Nat.le_refl _))⟩
    · exact S'.led p hp
  · rw [List.map_cons, List.nodup_cons]
    exact ⟨fun h => hno (.inr (.inr h)), S.lnd⟩
theorem l_new {vs : List Value} {Q : Value → Shared → Prop} (S : CS b s₀ h₀ env ρ Λ s) (hn : vs.length ≤ 16777216) (h : ∀ l s', CS b s₀ h₀ env ρ ((l, lst vs.toArray 0) :: Λ) s' → s.heap.get? l = none → Q (.ref l) s') : wpAny (model prog w) A (newList vs) Q E s :=
  wpAny_newList (h _ _ (S.pushL _ _ rfl) (fresh_none (Nat.le_refl _))) (by rw [sizeLine_eq]; exact hn)
abbrev tup (ys : Array Value) : Obj := { cls := .type "tuple", data := .seq ys }
theorem u_new {vs : List Value} {Q : Value → Shared → Prop} (S : CS b s₀ h₀ env ρ Λ s) (hn : vs.length ≤ 16777216) (h : ∀ l s', CS b s₀ h₀ env ρ ((l, tup vs.toArray) :: Λ) s' → s.heap.get? l = none → Q (.ref l) s') : wpAny (model prog w) A (newTuple vs) Q E s :=
  wpAny_newObj_type (h _ _ (S.pushL _ _ rfl) (fresh_none (Nat.le_refl _))) (by show vs.toArray.size ≤ sizeLine; rw [sizeLine_eq, List.size_toArray]; exact hn)
/-- list(xs) -/
theorem l_copy {l : Addr} {o : Obj} {items : Array Value} {n : Nat} {Q : Value → Shared → Prop} (S : CS true s₀ h₀ env ρ Λ s) (ho : s.heap.get? l = some o) (hc : o.cls = .type "list") (hd : o.data = .seq items n) (hn : items.size ≤ 16777216)
    (h : ∀ D c s', CS true s₀ h₀ env ρ ((D, lst items c) :: Λ) s' → s.heap.get? D = none → Q (.ref D) s') : wpAny (model prog w) A (call (.type "list") [.ref l]) Q E s :=
  PySem.call_list_seq (hsz := by rw [sizeLine_eq]; exact hn) l (.inl rfl) ho hc hd fun h' c' hk hD => h _ c' _ (S.new (wr := []) (tk := s.toks) rfl (fun a o _ e => hk a o e) (fun _ h => nomatch h) (fun _ h => nomatch h) (fresh_none (Nat.le_refl _)) hD) (fresh_none (Nat.le_refl _))
theorem l_append {l : Addr} {ys : Array Value} {k : Nat} {x : Value} {g : Obj → List (Addr × Obj)} {Q : Value → Shared → Prop} (S : CS true s₀ h₀ env ρ Λ s) (U : ChgF l (lst ys k) Λ g) (hn : ys.size ≤ 16777215)
    (h : ∀ k' s', CS true s₀ h₀ env ρ (g (lst (ys.push x) k')) s' → Q .none s') : wpAny (model prog w) A (call (.builtin "list.append") [.ref l, x]) Q E s := by
  refine wpAny_list_append_plain ⟨k, S.atLed (U.to (lst ys k)).mem⟩ (fun h' hp hs => ?_) (by rw [sizeLine_eq]; omega)
  obtain ⟨k', e⟩ := hp
  have := S.chg (h' := h') (tk := s.toks) (U.to _) (fun c x hc q => hs.extBut c x hc q) e
  exact h k' _ this
/-- a, b = t -/
theorem x_unpack {elts : List Expr} {k : Nat} {tpos pos : Pos} {value : Expr} {rest : List Stmt} {Q : Flow → Shared → Prop}
    (h : wpAny (model prog w) A (eval value env) (fun v s₁ => wpAny (model prog w) A (assign (.Tuple elts k tpos) env v) (fun _ s₂ => wpAny (model prog w) A (execs rest env) Q E s₂) E s₁) E s)
    (hs : swapsWithSole [.Tuple elts k tpos] value pos.line env = pure false) (hw : swappedStores [.Tuple elts k tpos] value env = pure none) :
    wpAny (model prog w) A (execs (.Assign [.Tuple elts k tpos] value pos :: rest) env) Q E s := wpAny_execs_cons (Assign_Tuple h hs hw)
end
end Fl

namespace Fl
open PySem PySem.W PySem.Calls PyProof.Rows

theorem CS.since {s₀ s₁ s : Shared} {h₀ : Heap} {env : Env} {ρ : Rho} {Λ : List (Addr × Obj)} (S : CS true s₁ h₀ env ρ Λ s) (e : ∃ h tk, s₁ = { s₀ with heap := h, toks := tk }) : CS true s₀ h₀ env ρ Λ s := by
  refine ⟨S.kind, ?_, S.base, (fun q => nomatch q), S.ns, S.cell, S.cells, S.apart, S.kinds, S.locs, S.nd, S.led, S.lnd⟩
  obtain ⟨h, tk, rfl⟩ := e
  obtain ⟨h', tk', rfl⟩ := S.same
  exact ⟨h', tk', rfl⟩

section
variable {prog : Program} {w : World} {A : Around} {E : Value → Shared → Prop} {s s₀ : Shared} {h₀ : Heap} {env : Env} {ρ ρ' : Rho} {Λ Λ' : List (Addr × Obj)} {b : Bool} {K : Frag}

theorem u_two {x y : Str} {px py tpos : Pos} {k : Nat} {t : Addr} {v1 v2 : Value} {ρ1 ρ2 : Rho} {Q : Unit → Shared → Prop} (S : CS true s₀ h₀ env ρ Λ s) (hh : A.handled = none) (ho : s.heap.get? t = some (tup [v1, v2].toArray)) (hx : Put x v1 ρ ρ1) (hy : Put y v2 ρ1 ρ2)
    (h : ∀ s', CS true s₀ h₀ env ρ2 Λ s' → Q () s') : wpAny (model prog w) A (assign (.Tuple [.Name x px, .Name y py] k tpos) env (.ref t)) Q E s := by
  refine wpAny_assign_Tuple hh (items := #[v1, v2]) ⟨_, ho, rfl, _, rfl⟩ rfl rfl fun h' hk => ?_
  have S' : CS true s₀ h₀ env ρ Λ { s with heap := h' } := S.keeps ⟨h', s.toks, rfl, fun a o e => hk a o (Nat.ne_of_lt (Heap.lt_size e)) e⟩
  refine wpAny_assignInOrder_more (wpAny_assign_Name (S'.put hx fun s₁ S₁ => ?_))
  refine wpAny_assignInOrder_more (wpAny_assign_Name (S₁.put hy fun s₂ S₂ => ?_))
  exact wpAny_assignInOrder_none (h _ S₂)

/-- an object of a class of the text is made: its __init__ in a frame of its own -/
theorem makeK {Q : Value → Shared → Prop} {C f : Addr} {name qual : Str} {params : Arguments} {body : List Stmt} {scope : Scope} {dV kV doc pm cdv ct oc : Value} {an od : Option Addr} {osl : Array (Option Value)} {vals : List Value} (bnd : Value → List (Str × Value)) (ρ : Value → Rho)
    (G : Gr K s.heap) (hroom : A.depth + 1 < recursionLimit) (hm : makesIn K C = true) (hi : findIn K (.ref C) "__init__" = some (some (.ref f))) (hf : typeIn K (.ref f) = some (.type "function"))
    (ho : K.lookup f = some ⟨oc, od, .func (fnOf name qual params body scope dV kV doc pm an cdv ct), osl⟩) (hcd : codeIn K cdv qual = true)
    (hbind : ∀ v, bindArgs (fnOf name qual params body scope dV kV doc pm an cdv ct) ⟨v :: vals, []⟩ = pure (bnd v)) (hd : defOk scope = true) (hb1 : ∀ v, bindsOk scope (bnd v) = true) (hb2 : ∀ v, nodupS ((bnd v).map (·.1)) = true) (hρ : ∀ v, rho0 scope.names (bnd v) = ρ v)
    (h : ∀ x dx L s₁, s.heap.get? x = none → s.heap.get? dx = none → CS true s s.heap (envF qual scope L f cdv) (ρ (.ref x)) [(x, instObj C dx), (dx, dictOf [] 0)] s₁ →
      wpAny (model prog w) ((A.under (.builtin "type.__call__" ⟨.ref C :: vals, []⟩)).deeper (envF qual scope L f cdv)) (execs body (envF qual scope L f cdv)) (RetQ (fun v s' => v = .none ∧ Q (.ref x) s')) (OutE (model prog w) (A.under (.builtin "type.__call__" ⟨.ref C :: vals, []⟩)) (envF qual scope L f cdv) E) s₁) :
    wpAny (model prog w) A (call (.ref C) vals) Q E s := by
  unfold defOk at hd
  simp only [Bool.and_eq_true, Bool.not_eq_true'] at hd
  obtain ⟨⟨⟨h1, h2⟩, h3⟩, h4⟩ := hd
  have h4' : scope.kind = .function := by
    cases hk : scope.kind <;> first | rfl | (rw [hk] at h4; cases h4)
  have G' := G
  obtain ⟨hp, g, d, t, os⟩ := s
  have hX : K.In hp := G.X
  refine wpAny_call (make_core (makes_of hX hm) (looks_findIn hX hi) (fun self => bind_fn hX self hf) (.inl (by rfl)) ?_)
  have k1 : Sub hp ((hp.push emptyDict).push (instObj C hp.objs.size)) := fun a o e => Heap.get?_push_of_some _ (Heap.get?_push_of_some _ e)
  have sz : (hp.push emptyDict).objs.size = hp.objs.size + 1 := Heap.size_push _ _
  have n1 : hp.get? hp.objs.size = none := fresh_none (Nat.le_refl _)
  have n2 : hp.get? (hp.objs.size + 1) = none := fresh_none (Nat.le_succ _)
  have g1 : ((hp.push emptyDict).push (instObj C hp.objs.size)).get? (hp.objs.size + 1) = some (instObj C hp.objs.size) := by
    have := Heap.get?_push_size (hp.push emptyDict) (o := instObj C hp.objs.size) rfl
    rw [sz] at this; exact this
  have g2 : ((hp.push emptyDict).push (instObj C hp.objs.size)).get? hp.objs.size = some (dictOf [] 0) := Heap.get?_push_of_some _ (Heap.get?_push_size _ rfl)
  have GG : Gr K ((hp.push emptyDict).push (instObj C hp.objs.size)) := Gr.mono G' k1
  refine call_def (h₀ := hp) (Λ := [(hp.objs.size + 1, instObj C hp.objs.size), (hp.objs.size, dictOf [] 0)]) (fd := fnOf name qual params body scope dV kV doc pm an cdv ct) ?_ (GG.X _ _ ho) rfl GG.lim (codeRec_of GG.X hcd) rfl (hbind _) rfl (hb1 _) (nodupS_nodup (hb2 _)) (nodupS_nodup h1) (hρ _) k1 ?_ ?_ ?_ h2 h3 h4'
  · exact hroom
  · intro p hp'
    rcases List.mem_cons.mp hp' with rfl | hp'
    · exact ⟨g1, n2⟩
    · rw [List.mem_singleton.mp hp']; exact ⟨g2, n1⟩
  · simp
  · intro s₁ S
    have := h (hp.objs.size + 1) hp.objs.size _ s₁ n2 n1 (S.since ⟨_, t, rfl⟩)
    refine wpAny_mono this (fun fl s' q => ?_) fun e s' q => ?_
    · exact q
    · exact q
end
end Fl

namespace Fl
open PySem PySem.W PySem.Calls PyProof.Rows

/-- rows of a floor: at most twelve, of one length, at most twelve, of the four signs -/
structure Grid (rows : List Str) (wd : Nat) : Prop where
  high : rows.length ≤ 12
  wide : wd ≤ 12
  len : ∀ r ∈ rows, r.length = wd
  none : rows = [] → wd = 0
  sign : ∀ r ∈ rows, ∀ c ∈ r.cps.toList, c = 46 ∨ c = 45 ∨ c = 124 ∨ c = 35
/-- the sign at a place -/
def sg (rows : List Str) (wd : Nat) (p : Int) : Nat := (rows.getD (p / wd).toNat Str.empty).cps.getD (p % wd).toNat 0
def inB (rows : List Str) (wd : Nat) (p : Int) : Bool := decide (0 ≤ p) && decide (p < rows.length * wd)
def hasB (rows : List Str) (wd : Nat) (p : Int) : Bool := inB rows wd p && sg rows wd p != 35
def alongB (c : Nat) : Bool := c == 46 || c == 45
def acrossB (c : Nat) : Bool := c == 46 || c == 124
/-- what Floor.may reckons -/
def mayB (rows : List Str) (wd : Nat) (a c : Int) : Bool :=
  hasB rows wd a && hasB rows wd c &&
    (if max a c - min a c = 1 ∧ min a c / wd = max a c / wd then alongB (sg rows wd (min a c)) && alongB (sg rows wd (max a c))
     else if max a c - min a c = wd then acrossB (sg rows wd (min a c)) && acrossB (sg rows wd (max a c)) else false)
/-- what the laws reckon -/
def mayL (rows : List Str) (wd : Nat) (a c : Int) : Bool :=
  inB rows wd a && inB rows wd c &&
    (if a / wd = c / wd ∧ (a - c).natAbs = 1 then alongB (sg rows wd a) && alongB (sg rows wd c)
     else if a % wd = c % wd ∧ (a / wd - c / wd).natAbs = 1 then acrossB (sg rows wd a) && acrossB (sg rows wd c) else false)
def cellsL (rows : List Str) (wd : Nat) : List Int := ((List.range (rows.length * wd)).map fun (i : Nat) => (i : Int)).filter (hasB rows wd)

theorem Grid.at_ {rows : List Str} {wd : Nat} (g : Grid rows wd) {p : Int} (h0 : 0 ≤ p) (h1 : p < rows.length * wd) : 0 < wd ∧ 0 ≤ p / wd ∧ p / wd < rows.length ∧ 0 ≤ p % wd ∧ p % wd < wd := by
  have hw : 0 < (wd : Int) := by
    rcases Nat.eq_zero_or_pos wd with h | h
    · subst h; simp at h1; omega
    · omega
  refine ⟨by omega, Int.ediv_nonneg h0 (by omega), ?_, Int.emod_nonneg _ (by omega), Int.emod_lt_of_pos _ hw⟩
  exact Int.ediv_lt_of_lt_mul hw h1

/-- a floor of the program's own -/
structure FloorAt (C : Addr) (h : Heap) (fl l : Addr) (rows : List Str) (wd : Nat) (t1 t2 : Tok) : Prop where
  obj : ObjAt h C fl [(Str.ofString "rows", .ref l), (Str.ofString "high", .int rows.length t1), (Str.ofString "wide", .int wd t2)]
  texts : StrL h l rows
  grid : Grid rows wd
theorem FloorAt.mono {C : Addr} {h h' : Heap} {fl l : Addr} {rows : List Str} {wd : Nat} {t1 t2 : Tok} (F : FloorAt C h fl l rows wd t1 t2) (k : Sub h h') : FloorAt C h' fl l rows wd t1 t2 := ⟨F.obj.mono k, F.texts.mono k, F.grid⟩

theorem row_len {rows : List Str} {wd : Nat} (g : Grid rows wd) {k : Nat} (h : k < rows.length) : (rows.getD k Str.empty).length = wd := by
  have : rows.getD k Str.empty = rows[k] := by simp [List.getD, h]
  rw [this]; exact g.len _ (List.getElem_mem h)
end Fl
namespace Fl
open PySem
theorem one_eq (c d : Nat) : ((⟨#[c]⟩ : Str) == ⟨#[d]⟩) = (c == d) := by rw [Bool.eq_iff_iff]; simp
theorem one_ne (c d : Nat) : ((⟨#[c]⟩ : Str) != ⟨#[d]⟩) = (c != d) := by simp only [bne, one_eq]
end Fl

namespace Fl
open PySem PySem.W PySem.Calls PyProof.Rows PyProof.V PySem.Spec PySem.SeqAt

def nsStr (K : Frag) (x : Str) : Option Str := match nsIn K mainGlobals x with | some (some (.str y _)) => some y | _ => none
def nsInt (K : Frag) (x : Str) : Option Int := match nsIn K mainGlobals x with | some (some (.int y _)) => some y | _ => none
/-- a global name that holds a text, an int -/
structure GS (K : Frag) (x y : Str) : Prop where
  ns : nsStr K x = some y
  nd : (x == ("__debug__" : Str)) = false
structure GI (K : Frag) (x : Str) (y : Int) : Prop where
  ns : nsInt K x = some y
  nd : (x == ("__debug__" : Str)) = false
theorem GS.get {K : Frag} {x y : Str} (g : GS K x y) : ∃ t, nsIn K mainGlobals x = some (some (.str y t)) := by
  have := g.ns
  unfold nsStr at this
  split at this
  · rename_i a b e; cases this; exact ⟨_, e⟩
  · cases this
theorem GI.get {K : Frag} {x : Str} {y : Int} (g : GI K x y) : ∃ t, nsIn K mainGlobals x = some (some (.int y t)) := by
  have := g.ns
  unfold nsInt at this
  split at this
  · rename_i a b e; cases this; exact ⟨_, e⟩
  · cases this

theorem readsAll_strs {h : Heap} : ∀ {vs : List Value} {xs : List Str}, StrsAre vs xs → ReadsAll h vs (xs.map PyData.str) []
  | _, _, .nil => .nil
  | _, _, .cons k t r => by
    have := ReadsAll.cons (Reads.str (h := h) k t) (readsAll_strs (h := h) r)
    simpa using this
theorem reads_strs {h : Heap} {a : Addr} {xs : List Str} (hl : StrL h a xs) : Reads h (.ref a) (.list (xs.map PyData.str)) [a] := by
  obtain ⟨vs, ⟨o, ho, hc, n, hd⟩, hi⟩ := hl
  exact Reads.list ho hc hd (by simpa using readsAll_strs hi)
def okS (x : Str) : Prop := PyData.strOk x = true
theorem canLayAll0_strs : ∀ xs : List Str, (∀ x ∈ xs, okS x) → PyData.canLayAll0 (xs.map PyData.str) = true
  | [], _ => by simp [PyData.canLayAll0]
  | n :: r, h => by
    have h1 : PyData.strOk n = true := h n (List.mem_cons_self ..)
    simp [PyData.canLayAll0, PyData.canLay0, h1, canLayAll0_strs r fun x hx => h x (List.mem_cons_of_mem _ hx)]
theorem depthAll_strs : ∀ xs : List Str, PyData.depthAll (xs.map PyData.str) ≤ 1
  | [] => by simp [PyData.depthAll]
  | n :: r => by
    have := depthAll_strs r
    simp only [List.map_cons, PyData.depthAll, PyData.depth]
    omega
theorem shaped_strs (xs : List Str) (h : ∀ x ∈ xs, okS x) : shaped (.list (xs.map PyData.str)) = true := by
  have h1 := depthAll_strs xs
  have h2 : PyData.depth (.list (xs.map PyData.str)) ≤ 64 := by simp only [PyData.depth]; omega
  show (PyData.canLay0 (.list (xs.map PyData.str)) && decide (PyData.depth (.list (xs.map PyData.str)) ≤ 64)) = true
  rw [Bool.and_eq_true]
  exact ⟨by simp only [PyData.canLay0]; exact canLayAll0_strs xs h, decide_eq_true h2⟩
theorem noMix_strs : ∀ ns ms : List Str, noMixAll (ns.map PyData.str) (ms.map PyData.str) = true
  | [], [] => by simp [noMixAll]
  | [], _ :: _ => by simp [noMixAll]
  | _ :: _, [] => by simp [noMixAll]
  | _ :: r, _ :: q => by simp [noMixAll, noMix, noMix_strs r q]
theorem same_strs : ∀ ns ms : List Str, PySem.Spec.sameAll (ns.map PyData.str) (ms.map PyData.str) = decide (ns = ms)
  | [], [] => by simp [PySem.Spec.sameAll]
  | [], _ :: _ => by simp [PySem.Spec.sameAll]
  | _ :: _, [] => by simp [PySem.Spec.sameAll]
  | n :: r, k :: q => by
    simp only [List.map_cons, PySem.Spec.sameAll, PySem.Spec.same, same_strs r q]
    by_cases h : n = k <;> simp [h]

section
variable {prog : Program} {w : World} {A : Around} {E : Value → Shared → Prop} {s s₀ : Shared} {h₀ : Heap} {env : Env} {ρ ρ' : Rho} {Λ Λ' : List (Addr × Obj)} {b : Bool} {K : Frag}
theorem n_gs {x y : Str} {pos : Pos} {Q : Value → Shared → Prop} (S : CS b s₀ h₀ env ρ Λ s) (G : Gr K h₀) (g : GS K x y) (hx : env.kindOf x = some .globalImplicit) (hg : env.globals = mainGlobals) (h : ∀ t, Q (.str y t) s) :
    wpAny (model prog w) A (eval (.Name x pos) env) Q E s := by
  obtain ⟨t, e⟩ := g.get
  exact n_glob S G e hx hg g.nd (h t)
theorem n_gi {x : Str} {y : Int} {pos : Pos} {Q : Value → Shared → Prop} (S : CS b s₀ h₀ env ρ Λ s) (G : Gr K h₀) (g : GI K x y) (hx : env.kindOf x = some .globalImplicit) (hg : env.globals = mainGlobals) (h : ∀ t, Q (.int y t) s) :
    wpAny (model prog w) A (eval (.Name x pos) env) Q E s := by
  obtain ⟨t, e⟩ := g.get
  exact n_glob S G e hx hg g.nd (h t)
theorem b_min {x y : Int} {t u : Tok} {Q : Value → Shared → Prop} (S : CS b s₀ h₀ env ρ Λ s) (hh : A.handled = none) (h : ∀ t s', CS b s₀ h₀ env ρ Λ s' → Q (.int (min x y) t) s') : wpAny (model prog w) A (call (.builtin "min") [.int x t, .int y u]) Q E s := by
  refine PySem.Flt.min_two_num hh (.int _ _) (.int _ _) fun h' tk hk => ?_
  have S' : CS b s₀ h₀ env ρ Λ { s with heap := h', toks := tk } := S.keeps ⟨_, _, rfl, hk⟩
  show Q (if decide (y < x) = true then _ else _) _
  by_cases q : y < x
  · rw [if_pos (decide_eq_true q), ← show min x y = y by omega]; exact h _ _ S'
  · rw [if_neg (by simpa using q), ← show min x y = x by omega]; exact h _ _ S'
theorem b_max {x y : Int} {t u : Tok} {Q : Value → Shared → Prop} (S : CS b s₀ h₀ env ρ Λ s) (hh : A.handled = none) (h : ∀ t s', CS b s₀ h₀ env ρ Λ s' → Q (.int (max x y) t) s') : wpAny (model prog w) A (call (.builtin "max") [.int x t, .int y u]) Q E s := by
  refine PySem.Flt.max_two_num hh (.int _ _) (.int _ _) fun h' tk hk => ?_
  have S' : CS b s₀ h₀ env ρ Λ { s with heap := h', toks := tk } := S.keeps ⟨_, _, rfl, hk⟩
  show Q (if decide (x < y) = true then _ else _) _
  by_cases q : x < y
  · rw [if_pos (decide_eq_true q), ← show max x y = y by omega]; exact h _ _ S'
  · rw [if_neg (by simpa using q), ← show max x y = x by omega]; exact h _ _ S'
theorem b_abs {x : Int} {t : Tok} {Q : Value → Shared → Prop} (S : CS b s₀ h₀ env ρ Λ s) (h : ∀ t s', CS b s₀ h₀ env ρ Λ s' → Q (.int x.natAbs t) s') : wpAny (model prog w) A (call (.builtin "abs") [.int x t]) Q E s := by
  refine PyProof.Rows.call_abs_int fun u tk => ?_
  have e : (if x < 0 then -x else x) = (x.natAbs : Int) := by omega
  rw [e]
  exact h _ _ (S.tok _)
theorem y_int_int {x : Int} {t : Tok} {Q : Value → Shared → Prop} (h : Q (.bool true) s) : wpAny (model prog w) A (call (.builtin "isinstance") [.int x t, .type "int"]) Q E s := PySem.IsiPair.int_int h
theorem y_int_bool {x : Int} {t : Tok} {Q : Value → Shared → Prop} (S : CS b s₀ h₀ env ρ Λ s) (h : ∀ s', CS b s₀ h₀ env ρ Λ s' → Q (.bool false) s') : wpAny (model prog w) A (call (.builtin "isinstance") [.int x t, .type "bool"]) Q E s := PySem.IsiPair.int_bool (h _ (S.tok _))
theorem y_list_list {l : Addr} {ys : Array Value} {Q : Value → Shared → Prop} (hl : s.heap.IsList l ys) (h : Q (.bool true) s) : wpAny (model prog w) A (call (.builtin "isinstance") [.ref l, .type "list"]) Q E s := by
  obtain ⟨o, a, b, _⟩ := hl
  exact PySem.IsiPair.list_list a b h
theorem w_is {x y : Bool} {Q : Value → Shared → Prop} (h : Q (.bool (x == y)) s) : wpAny (model prog w) A (compareOp .Is (.bool x) (.bool y)) Q E s := by
  refine wpAny_is_plain rfl ?_
  have : (Value.bool x == Value.bool y) = (x == y) := by cases x <;> cases y <;> rfl
  rw [this]; exact h
theorem l_eqS {l l' : Addr} {ns ms : List Str} {Q : Value → Shared → Prop} (hl : StrL s.heap l ns) (hl' : StrL s.heap l' ms) (h1 : ∀ x ∈ ns, okS x) (h2 : ∀ x ∈ ms, okS x) (hu : A.units + 64 < cLine) (h : Q (.bool (decide (ns = ms))) s) :
    wpAny (model prog w) A (compareOp .Eq (.ref l) (.ref l')) Q E s :=
  eq_dataH_same (reads_strs hl) (reads_strs hl') (shaped_strs ns h1) (shaped_strs ms h2) hu (by simp only [noMix]; exact noMix_strs ns ms) (by simp only [PySem.Spec.same]; rw [same_strs]; exact h)
theorem l_neS {l l' : Addr} {ns ms : List Str} {Q : Value → Shared → Prop} (hl : StrL s.heap l ns) (hl' : StrL s.heap l' ms) (h1 : ∀ x ∈ ns, okS x) (h2 : ∀ x ∈ ms, okS x) (hu : A.units + 64 < cLine) (h : Q (.bool (!decide (ns = ms))) s) :
    wpAny (model prog w) A (compareOp .NotEq (.ref l) (.ref l')) Q E s :=
  ne_dataH_same (reads_strs hl) (reads_strs hl') (shaped_strs ns h1) (shaped_strs ms h2) hu (by simp only [noMix]; exact noMix_strs ns ms) (by simp only [PySem.Spec.same]; rw [same_strs]; exact h)
/-- a method of a list -/
theorem m_list {l : Addr} {ys : Array Value} {k : Nat} {name : Str} {id : String} {pl : Sem Bool} {Q : Value × List Value → Shared → Prop} (hl : s.heap.get? l = some (lst ys k)) (slot : Slot "list" name id) (hty : typeOf (.builtin id) = pure (.type "method_descriptor"))
    (h : Q (.builtin id, [.ref l]) s) : wpAny (model prog w) A (getMethod (.ref l) name pl) Q E s :=
  getMethod_builtin ⟨_, hl, rfl⟩ PySem.F.plainAttrs_list slot hty (fun a e => by cases e; exact ⟨_, hl, rfl⟩) h
theorem type_list_clear : typeOf (.builtin "list.clear") = pure (.type "method_descriptor") := by show builtinType _ = _; rw [builtinType_eq_fast]; kernel_rfl
theorem l_clear {l : Addr} {ys : Array Value} {k : Nat} {Q : Value → Shared → Prop} (S : CS true s₀ h₀ env ρ ((l, lst ys k) :: Λ) s) (hn : ys.size ≤ 16777216)
    (h : ∀ s', CS true s₀ h₀ env ρ Λ s' → Q .none s') : wpAny (model prog w) A (call (.builtin "list.clear") [.ref l]) Q E s := by
  have z := S.atLed (List.mem_cons_self ..)
  refine call_meets PySem.F.slot_list_clear ⟨_, z, rfl⟩ PySem.F.entry_list_clear (PySem.F.args_list_clear_1 _) (PySem.AutoSeq1.list_clear_list_0 l ys k (by rw [sizeLine_eq]; exact hn)) ⟨z, h _ ?_⟩
  have := S.chg (tk := s.toks) (h' := s.heap.update l (Obj.mapSeq fun _ => #[])) (Chg.head (o' := Obj.mapSeq (fun _ => #[]) (lst ys k))) (fun c x hc e => (Heap.get?_update_ne _ _ _ _ hc).trans e) (Heap.get?_update_self _ z (by rfl))
  exact this.tl rfl
theorem rep_size (a : Array Nat) : ∀ (n : Nat) (acc : Array Nat), ((List.replicate n a).foldl (· ++ ·) acc).size = acc.size + n * a.size
  | 0, acc => by simp
  | n + 1, acc => by
    rw [List.replicate_succ, List.foldl_cons, rep_size a n, Array.size_append, Nat.succ_mul]; omega
theorem o_mulS {x : Str} {t u : Tok} {n : Int} {Q : Value → Shared → Prop} (S : CS b s₀ h₀ env ρ Λ s) (h0 : 0 ≤ n) (h1 : n * x.length ≤ 1000) (h2 : n ≤ 1000) (h : ∀ y t s', CS b s₀ h₀ env ρ Λ s' → Q (.str y t) s') : wpAny (model prog w) A (binaryOp .Mult (.str x t) (.int n u)) Q E s := by
  have hm : (x.length * n.toNat : Nat) ≤ 1000 := by
    have : ((x.length * n.toNat : Nat) : Int) = n * x.length := by rw [Int.natCast_mul, Int.toNat_of_nonneg h0, Int.mul_comm]
    omega
  refine PySem.P.mul_str ?_ ?_ ?_ ?_
  · simp; omega
  · intro q _ q2
    have h3 : 1 ≤ n := by omega
    have : (x.length : Int) ≤ 1000 := by
      have : x.length ≤ x.length * n.toNat := Nat.le_mul_of_pos_right _ (by omega)
      omega
    have h4 : (2 ^ 63 - 1 : Int) / 1000 ≤ (2 ^ 63 - 1 : Int) / n := by
      apply Int.le_ediv_of_mul_le (by omega)
      have := Int.mul_le_mul_of_nonneg_left h2 (show (0:Int) ≤ (2 ^ 63 - 1 : Int) / 1000 by decide)
      omega
    omega
  · intro _ _
    show decide (_ > _) = false
    rw [decide_eq_false_iff_not]
    have : (1000 : Nat) < 2 ^ 63 - 1 := by decide
    first | omega | (rw [sizeLine_eq]; omega) | skip
  · split
    · exact ⟨by decide +kernel, h Str.empty _ _ (S.tok _)⟩
    · split
      · exact h x _ _ S
      · refine ⟨?_, h _ s.toks { s with toks := s.toks + 1 } (S.tok _)⟩
        show Array.size _ ≤ _
        rw [rep_size, sizeLine_eq]
        have : x.cps.size = x.length := rfl
        rw [this, Nat.mul_comm]
        simp; omega
end
end Fl

namespace Fl
open PySem PySem.W PySem.Calls PyProof.Rows

def upTo (n : Nat) : List Int := (List.range n).map fun (i : Nat) => (i : Int)
theorem upTo_len (n : Nat) : (upTo n).length = n := by simp [upTo]
def onI (q : Int → Bool) : Value → Bool
  | .int i _ => q i
  | _ => false
def onS (q : Str → Bool) : Value → Bool
  | .str i _ => q i
  | _ => false
theorem ints_of_gets : ∀ (vs : List Value) (k : Nat), (∀ (j : Nat) (v : Value), vs[j]? = some v → ∃ t, v = .int ((k + j : Nat) : Int) t) → IntsAre vs ((List.range' k vs.length).map fun (i : Nat) => (i : Int))
  | [], _, _ => .nil
  | v :: r, k, h => by
    obtain ⟨t, rfl⟩ := h 0 v rfl
    refine .cons _ t (ints_of_gets r (k + 1) fun j v hv => ?_)
    obtain ⟨t, e⟩ := h (j + 1) v hv
    exact ⟨t, by rw [e]; congr 2; omega⟩
theorem vs_range {vs : List Value} {n : Nat} (h : vs.length = n) (h2 : ∀ (j : Nat) (v : Value), vs[j]? = some v → ∃ t, v = .int (j : Int) t) : IntsAre vs (upTo n) := by
  have := ints_of_gets vs 0 fun j v hv => by obtain ⟨t, e⟩ := h2 j v hv; exact ⟨t, by rw [e]; congr 2; omega⟩
  rw [h] at this
  rw [upTo, List.range_eq_range']; exact this
theorem vs_list {vs : List Value} {ys : Array Value} (h : vs.length = ys.size) (h2 : ∀ (j : Nat) (v : Value), vs[j]? = some v → ys[j]? = some v) : vs = ys.toList := by
  apply List.ext_getElem? 
  intro j
  cases e : vs[j]? with
  | some v => rw [Array.getElem?_toList]; exact (h2 j v e).symm
  | none =>
    rw [List.getElem?_eq_none_iff] at e
    symm
    rw [List.getElem?_eq_none_iff, Array.length_toList]; omega
theorem filtI {q : Int → Bool} : ∀ {vs : List Value} {ns : List Int}, IntsAre vs ns → IntsAre (vs.filter (onI q)) (ns.filter q)
  | _, _, .nil => .nil
  | _, _, .cons n t r => by
    rw [List.filter_cons, List.filter_cons]
    show IntsAre (if q n = true then _ else _) _
    split
    · exact .cons n t (filtI r)
    · exact filtI r
theorem filtS {q : Str → Bool} : ∀ {vs : List Value} {ns : List Str}, StrsAre vs ns → StrsAre (vs.filter (onS q)) (ns.filter q)
  | _, _, .nil => .nil
  | _, _, .cons n t r => by
    rw [List.filter_cons, List.filter_cons]
    show StrsAre (if q n = true then _ else _) _
    split
    · exact .cons n t (filtS r)
    · exact filtS r
theorem filt_true (vs : List Value) : vs.filter (fun _ => true) = vs := by simp
/-- what a comprehension's element is -/
def FII (f : Int → Int) (v y : Value) : Prop := ∃ i t u, v = .int i t ∧ y = .int (f i) u
def FIS (f : Int → Str) (v y : Value) : Prop := ∃ i t u, v = .int i t ∧ y = .str (f i) u
def FS (P : Str → Prop) (_ y : Value) : Prop := ∃ x u, y = .str x u ∧ P x
theorem pairII {f : Int → Int} : ∀ {vs ys : List Value} {ns : List Int}, IntsAre vs ns → Paired (FII f) vs ys → IntsAre ys (ns.map f)
  | _, _, _, .nil, .nil => .nil
  | _, _, _, .cons n t r, .cons h p => by
    obtain ⟨i, t', u, e1, rfl⟩ := h
    cases e1
    exact .cons _ u (pairII r p)
theorem pairIS {f : Int → Str} : ∀ {vs ys : List Value} {ns : List Int}, IntsAre vs ns → Paired (FIS f) vs ys → StrsAre ys (ns.map f)
  | _, _, _, .nil, .nil => .nil
  | _, _, _, .cons n t r, .cons h p => by
    obtain ⟨i, t', u, e1, rfl⟩ := h
    cases e1
    exact .cons _ u (pairIS r p)
theorem pairS {P : Str → Prop} : ∀ {vs ys : List Value}, Paired (FS P) vs ys → ∃ xs, StrsAre ys xs ∧ xs.length = vs.length ∧ ∀ x ∈ xs, P x
  | _, _, .nil => ⟨[], .nil, rfl, fun _ h => nomatch h⟩
  | _, _, .cons h p => by
    obtain ⟨x, u, rfl, hx⟩ := h
    obtain ⟨xs, a, b, c⟩ := pairS p
    refine ⟨x :: xs, .cons x u a, by simp [b], fun y hy => ?_⟩
    rcases List.mem_cons.mp hy with rfl | hy
    · exact hx
    · exact c y hy

/-- what is asked of a comprehension's block, by evaluation -/
def compOk (scope : Scope) (env : Env) (x : Str) (ys : List Str) : Bool :=
  scope.names.all (fun y => (decide (y.2 ≠ .free) || (env.cells.lookup y.1).isSome) && decide (y.2 ≠ .cell) && (decide (y.2 ≠ .local) || decide (scope.names.lookup y.1 = some .local))) && decide (scope.names.lookup x = some .local) &&
    (match scope.kind with | .function => true | _ => false) && ys.all (fun y => decide (scope.names.lookup y = some .free) && decide (env.kindOf y = some .cell)) && nodupS (x :: ys)
def Sel (ρc ρ : Rho) : Prop := ∀ y u, Look y u ρc → Look y u ρ
theorem Sel.nil {ρ : Rho} : Sel [] ρ := fun _ _ h => by cases h
theorem Sel.cons {x : Str} {v : Value} {ρc ρ : Rho} (h : Look x v ρ) (r : Sel ρc ρ) : Sel ((x, some v) :: ρc) ρ := fun y u q => by
  cases q with
  | head => exact h
  | tail q => exact r y u q
section
variable {prog : Program} {w : World} {A : Around} {E : Value → Shared → Prop} {s s₀ : Shared} {h₀ : Heap} {env : Env} {ρ ρ' ρc : Rho} {Λ Λ' : List (Addr × Obj)} {K : Frag}
theorem compOk_of {scope : Scope} {x : Str} {ys : List Str} (h : compOk scope env x ys = true) : (∀ n, (n, NameKind.free) ∈ scope.names → ∃ c, env.cells.lookup n = some c) ∧ (∀ y ∈ scope.names, y.2 ≠ .cell) ∧ scope.kind = .function ∧
    (∀ y ∈ scope.names, y.2 = .local → scope.names.lookup y.1 = some .local) ∧ scope.names.lookup x = some .local ∧ (∀ y ∈ ys, scope.names.lookup y = some .free ∧ env.kindOf y = some .cell) ∧ (x :: ys).Nodup := by
  unfold compOk at h
  simp only [Bool.and_eq_true, List.all_eq_true, Bool.or_eq_true, decide_eq_true_eq] at h
  obtain ⟨⟨⟨⟨h1, h2⟩, h3⟩, h4⟩, h5⟩ := h
  refine ⟨fun n hn => ?_, fun y hy => (h1 y hy).1.2, ?_, fun y hy q => ?_, h2, h4, nodupS_nodup h5⟩
  · rcases (h1 _ hn).1.1 with q | q
    · exact absurd rfl q
    · exact Option.isSome_iff_exists.mp q
  · cases hk : scope.kind <;> first | rfl | (rw [hk] at h3; cases h3)
  · rcases (h1 y hy).2 with e | e
    · exact absurd q e
    · exact e
theorem lc {elt iter : Expr} {x : Str} {px : Pos} {ifs : List Expr} {scope : Scope} {pos : Pos} {Q : Value → Shared → Prop} (ρc : Rho) (p : Value → Bool) (F : Value → Value → Prop)
    (_ : CS true s₀ h₀ env ρ Λ s) (hok : compOk scope env x (ρc.map (·.1)) = true) (hc2 : Sel ρc ρ)
    (h : wpAny (model prog w) A (eval iter env) (fun xv s₁ => wpAny (model prog w) A (pyIter xv) (CompK prog w A s₀ h₀ env ρ ρc Λ scope x ifs elt p F (fun D o => ∀ s', CS true s₀ h₀ env ρ ((D, o) :: Λ) s' → Q (.ref D) s')) E s₁) E s)
    (hs : ∀ x, foldedSetIterable iter env x = pure x) :
    wpAny (model prog w) A (eval (.ListComp elt [⟨.Name x px, iter, ifs, 0⟩] scope pos) env) Q E s := by
  obtain ⟨h1, h2, h3, h4, h5, h6, h7⟩ := compOk_of hok
  exact ListComp_CS ρc p F h1 h2 h3 h4 h5 h6 hc2 h7 h hs
theorem x_lc {elt iter : Expr} {x y : Str} {px py : Pos} {ifs : List Expr} {scope : Scope} {pos spos : Pos} {rest : List Stmt} {Q : Flow → Shared → Prop} (ρc : Rho) (p : Value → Bool) (F : Value → Value → Prop)
    (hsw : swapsWith (.ListComp elt [⟨.Name x px, iter, ifs, 0⟩] scope pos) (some (.Name y py)) spos.line env = pure true)
    (_ : CS true s₀ h₀ env ρ Λ s) (hok : compOk scope env x (ρc.map (·.1)) = true) (hy : env.kindOf y = some .local) (hek : env.scope.kind = .function) (hc2 : Sel ρc ρ)
    (h : wpAny (model prog w) A (eval iter env) (fun xv s₁ => wpAny (model prog w) A (pyIter xv) (CompK prog w A s₀ h₀ env ρ ρc Λ scope x ifs elt p F
      (fun D o => ∃ ρ', Put y (.ref D) ρ ρ' ∧ ∀ s', CS true s₀ h₀ env ρ' ((D, o) :: Λ) s' → wpAny (model prog w) A (execs rest env) Q E s')) E s₁) E s)
    (hs : ∀ x, foldedSetIterable iter env x = pure x) :
    wpAny (model prog w) A (execs (.Assign [.Name y py] (.ListComp elt [⟨.Name x px, iter, ifs, 0⟩] scope pos) spos :: rest) env) Q E s := by
  obtain ⟨h1, h2, h3, h4, h5, h6, h7⟩ := compOk_of hok
  exact wpAny_execs_cons (Assign_ListComp_CS ρc p F hsw h1 h2 h3 h4 h5 hy hek h6 hc2 h7 h hs)
theorem comp_it {scope : Scope} {x : Str} {ifs : List Expr} {elt : Expr} {p : Value → Bool} {F : Value → Value → Prop} {Fin : Addr → Obj → Prop} {it : Value} {n : Nat} {P : Nat → Value → Prop} (I : It prog w A s₀ h₀ env ρ Λ n P it s) (hn : n ≤ 16777216)
    (ht : ∀ C i v s₃ E', i < n → P i v → CS false s₃ h₀ (compEnvC scope (closGo env scope.names []) C env) ((x, some v) :: ρc) Λ s₃ →
      wpAny (model prog w) A (forIn ifs true fun c r => if r = true then do let ok ← isTrue c (compEnvC scope (closGo env scope.names []) C env) (eval c (compEnvC scope (closGo env scope.names []) C env)); pure (ForInStep.yield ok) else pure (ForInStep.yield r))
        (fun ok s₄ => ok = p v ∧ Keeps s₃ s₄) E' s₃)
    (he : ∀ C i v s₃ E', i < n → P i v → p v = true → CS false s₃ h₀ (compEnvC scope (closGo env scope.names []) C env) ((x, some v) :: ρc) Λ s₃ →
      wpAny (model prog w) A (eval elt (compEnvC scope (closGo env scope.names []) C env)) (fun y s₄ => F v y ∧ Keeps s₃ s₄) E' s₃)
    (fin : ∀ D k ys (vs : List Value), vs.length = n → (∀ j v, vs[j]? = some v → P j v) → Paired F (vs.filter p) ys.toList → s.heap.get? D = none → Fin D (lst ys k)) :
    CompK prog w A s₀ h₀ env ρ ρc Λ scope x ifs elt p F Fin it s := by
  obtain ⟨I, fp, wr, St, rfl, W, hst, hfp, hwr, hown, S⟩ := I
  have W' : Walks prog w A I fp wr n (fun i v => i < n ∧ P i v) St := ⟨W.sub, W.frame, fun i s Q E hi st hQ => W.item i s Q E hi st fun v h' tk hP => hQ v h' tk ⟨hi, hP⟩, W.done, W.self⟩
  exact ⟨I, fp, wr, n, (fun i v => i < n ∧ P i v), St, rfl, W', by rw [sizeLine_eq]; exact hn, hst, hfp, S, hwr, fun a ha => hown a (W.sub a ha), fun C i v s₃ E' h => ht C i v s₃ E' h.1 h.2, fun C i v s₃ E' h => he C i v s₃ E' h.1 h.2,
    fun D k ys vs h1 h2 => fin D k ys vs h1 fun j v hv => (h2 j v hv).2⟩
theorem tests0 {M : Model} {e : Env} {Q : Bool → Shared → Prop} (h : Q true s) :
    wpAny M A (forIn ([] : List Expr) true fun c r => if r = true then do let ok ← isTrue c e (eval c e); pure (ForInStep.yield ok) else pure (ForInStep.yield r)) Q E s := by
  rw [List.forIn_nil]; exact wpAny_pure h
theorem tests1 {M : Model} {c : Expr} {e : Env} {Q : Bool → Shared → Prop} (h : wpAny M A (isTrue c e (eval c e)) Q E s) :
    wpAny M A (forIn [c] true fun c r => if r = true then do let ok ← isTrue c e (eval c e); pure (ForInStep.yield ok) else pure (ForInStep.yield r)) Q E s := by
  rw [List.forIn_cons, if_pos rfl]
  refine wpAny_bind (wpAny_bind (wpAny_mono h (fun v s' q => wpAny_pure ?_) fun _ _ q => q))
  show wpAny _ _ (forIn ([] : List Expr) _ _) _ _ _
  rw [List.forIn_nil]; exact wpAny_pure q
theorem x_attr {o value : Expr} {attr : Str} {pos' pos : Pos} {rest : List Stmt} {M : Model} {Q : Flow → Shared → Prop}
    (h : wpAny M A (eval value env) (fun v s₁ => wpAny M A (eval o env) (fun ov s₂ => wpAny M A (setAttr ov attr v) (fun _ s₃ => wpAny M A (execs rest env) Q E s₃) E s₂) E s₁) E s)
    (hs : swapsWith value (some (.Attribute o attr pos')) pos.line env = pure false) : wpAny M A (execs (.Assign [.Attribute o attr pos'] value pos :: rest) env) Q E s :=
  wpAny_execs_cons (plainObj_wpAny_Assign_Attribute h hs)
end
theorem join_toList : ∀ (l : List Str), (Str.join (Str.ofString "") l).cps.toList = l.flatMap fun x => x.cps.toList
  | [] => rfl
  | [x] => by simp [Str.join]
  | x :: y :: r => by
    have h := join_toList (y :: r)
    rw [List.flatMap_cons, ← h]
    show (x.cps ++ (Str.ofString "").cps ++ (Str.join (Str.ofString "") (y :: r)).cps).toList = _
    rw [show (Str.ofString "").cps = #[] from rfl]
    simp
theorem joined_toList (l : List Str) : (Txt.join (Str.ofString "") l).cps.toList = l.flatMap fun x => x.cps.toList := by
  rw [← join_toList]
  show (Builtin.Str.glued (Str.ofString "") l).cps.toList = _
  rw [StrLaws.glued_eq_join]
end Fl

namespace Fl
open PySem PySem.W PySem.Calls PyProof.Rows

/-- what a call has made newly stands in h₁ -/
def Newer (s s' : Shared) (h₁ : Heap) : Prop := ∀ a o, s.heap.get? a = none → s'.heap.get? a = some o → h₁.get? a = some o
section
variable {prog : Program} {w : World} {A : Around} {E : Value → Shared → Prop} {s s' s₀ : Shared} {h₀ h₁ : Heap} {env : Env} {ρ ρ' ρc : Rho} {Λ Λ' : List (Addr × Obj)} {K : Frag}
theorem Newer.self (s s' : Shared) : Newer s s' s'.heap := fun _ _ _ e => e
theorem It.cs {n : Nat} {P : Nat → Value → Prop} {it : Value} (I : It prog w A s₀ h₀ env ρ Λ n P it s) : CS true s₀ h₀ env ρ Λ s := by
  obtain ⟨_, _, _, _, _, _, _, _, _, _, S⟩ := I; exact S
theorem CS.newAt (S : CS true s₀ h₀ env ρ Λ s) (k : Sub s₀.heap h₀) {a : Addr} {o : Obj} (hm : (a, o) ∈ Λ) (hn : Newer s₀ s h₁) : h₁.get? a = some o := hn _ _ (k.none ((S.led _ hm).2.2.2 rfl)) (S.led _ hm).1
theorem CS.adopt {D : Addr} {o : Obj} (S : CS true s₀ h₀ env ρ Λ s) (hk : Keeps s s') (hD : s.heap.get? D = none) (hD' : s'.heap.get? D = some o) : CS true s₀ h₀ env ρ ((D, o) :: Λ) s' := by
  obtain ⟨h', tk, rfl, k⟩ := hk
  exact S.new (wr := []) rfl (fun a o _ e => k a o e) (fun _ h => nomatch h) (fun _ h => nomatch h) hD hD'
theorem CS.gnew (S : CS true s₀ h₀ env ρ Λ s) (k : Keeps s s') : ∃ h₁, Sub h₀ h₁ ∧ CS true s₀ h₁ env ρ Λ s' ∧ Newer s s' h₁ := S.grow k
/-- behind a call: all that it left stands -/
theorem CS.outs (S : CS true s₀ h₀ env ρ Λ s) (k : Sub s₀.heap h₀) : Keeps s₀ s := (S.drop k).out
theorem Room.under {n k : Nat} {C : Addr} {vals : List Value} (r : Room A n) (h : k + 2 ≤ n) : Room (A.under (.builtin "type.__call__" ⟨.ref C :: vals, []⟩)) k := by
  have hd := depth_under_make A C vals
  have hd' : (Code.builtin "type.__call__" ⟨.ref C :: vals, []⟩).frames ≤ 1 := by
    first | exact Nat.le_of_eq (show _ = 1 from rfl) | (have h0 : (Code.builtin "type.__call__" ⟨.ref C :: vals, []⟩).frames = 0 := rfl; omega) | (have h0 : (Code.builtin "type.__call__" ⟨.ref C :: vals, []⟩).frames = 0 := (by simp [Code.frames]); omega)
  have hu : (A.under (.builtin "type.__call__" ⟨.ref C :: vals, []⟩)).units ≤ A.units + 10 := by
    show A.units + Code.cUnits (.builtin "type.__call__" ⟨.ref C :: vals, []⟩) ≤ _
    have : Code.cUnits (.builtin "type.__call__" ⟨.ref C :: vals, []⟩) = 1 + 3 * (Code.builtin "type.__call__" ⟨.ref C :: vals, []⟩).frames := rfl
    omega
  refine ⟨?_, ?_, r.handled⟩
  · have := r.depth; omega
  · have := r.units; omega
theorem x_e {e : Expr} {pos : Pos} {rest : List Stmt} {Q : Flow → Shared → Prop} (h : wpAny (model prog w) A (eval e env) (fun _ s' => wpAny (model prog w) A (execs rest env) Q E s') E s)
    (hi : interactive env = false) (hs : swapsWith e none pos.line env = pure false) : wpAny (model prog w) A (execs (.Expr e pos :: rest) env) Q E s := wpAny_execs_cons (wpAny_Expr_any h hi hs)
end
end Fl

namespace Fl
open PySem PySem.W PySem.Calls PyProof.Rows

section
variable {prog : Program} {w : World} {A : Around} {E : Value → Shared → Prop} {s s₀ : Shared} {h₀ : Heap} {env : Env} {ρ : Rho} {Λ : List (Addr × Obj)}
/-- a statement that always goes on, by what holds behind it -/
theorem x_cutS {st : Stmt} {rest : List Stmt} {Q : Flow → Shared → Prop} (_ : CS true s₀ h₀ env ρ Λ s) (P : Rho → List (Addr × Obj) → Prop)
    (h1 : ∀ Q' : Flow → Shared → Prop, (∀ ρ' Λ' s', P ρ' Λ' → CS true s₀ h₀ env ρ' Λ' s' → Q' .next s') → wpAny (model prog w) A (execs [st] env) Q' E s)
    (h2 : ∀ ρ' Λ' s', P ρ' Λ' → CS true s₀ h₀ env ρ' Λ' s' → wpAny (model prog w) A (execs rest env) Q E s') : wpAny (model prog w) A (execs (st :: rest) env) Q E s :=
  x_cut (fun s' => ∃ ρ' Λ', P ρ' Λ' ∧ CS true s₀ h₀ env ρ' Λ' s') (x_one (h1 _ fun ρ' Λ' s' a b => ⟨rfl, ρ', Λ', a, b⟩)) fun s' ⟨ρ', Λ', a, b⟩ => h2 ρ' Λ' s' a b
end

theorem test_lastE {M : Model} {A : Around} {E : Value → Shared → Prop} {s : Shared} {env : Env} {pos : Pos} {a : Value} {op : CmpOp} {r : Sem Value} {Q : Bool → Shared → Prop}
    (h : wpAny M A r (fun b s₁ => wpAny M A (compareOp op a b) (fun c s₂ => wpAny M A (truthy c) Q E s₂) E s₁) E s) : wpAny M A (testChain pos a [op] (r :: evalEach [] env)) Q E s := test_last h
/-- as callP, for the code of a call -/
theorem callC {prog : Program} {w : World} {A : Around} {s : Shared} {K : Frag} {R : Result → Shared → Prop} {f : Addr} {name qual : Str} {params : Arguments} {body : List Stmt} {scope : Scope} {dV kV doc pm cdv ct oc : Value} {an od : Option Addr} {osl : Array (Option Value)} {vals : List Value} {binds : List (Str × Value)} (ρ : Rho)
    (G : Gr K s.heap) (hroom : A.depth < recursionLimit)
    (ho : K.lookup f = some ⟨oc, od, .func (fnOf name qual params body scope dV kV doc pm an cdv ct), osl⟩) (hcd : codeIn K cdv qual = true)
    (hbind : bindArgs (fnOf name qual params body scope dV kV doc pm an cdv ct) ⟨vals, []⟩ = pure binds) (hd : defOk scope = true) (hb1 : bindsOk scope binds = true) (hb2 : nodupS (binds.map (·.1)) = true) (hρ : rho0 scope.names binds = ρ)
    (h : ∀ L s₁, CS true s s.heap (envF qual scope L f cdv) ρ [] s₁ →
      wpAny (model prog w) (A.deeper (envF qual scope L f cdv)) (execs body (envF qual scope L f cdv)) (RetQ fun v s' => R (.ok (.ret v)) s') (OutE (model prog w) A (envF qual scope L f cdv) fun e s' => R (.error e) s') s₁) :
    codeAny (model prog w) A (.call (.ref f) ⟨vals, []⟩) R s := by
  unfold defOk at hd
  simp only [Bool.and_eq_true, Bool.not_eq_true'] at hd
  obtain ⟨⟨⟨h1, h2⟩, h3⟩, h4⟩ := hd
  have h4' : scope.kind = .function := by
    cases hk : scope.kind <;> first | rfl | (rw [hk] at h4; cases h4)
  exact call_def (Λ := []) (fd := fnOf name qual params body scope dV kV doc pm an cdv ct) hroom (G.X _ _ ho) rfl G.lim (codeRec_of G.X hcd) rfl hbind rfl hb1 (nodupS_nodup hb2) (nodupS_nodup h1) hρ (Sub.refl _) (fun _ h => nomatch h) List.nodup_nil (h _) h2 h3 h4'
def four (c : Nat) : Prop := c = 46 ∨ c = 45 ∨ c = 124 ∨ c = 35
theorem join_signs (xs : List Str) (h : ∀ x ∈ xs, ∃ c, x = ⟨#[c]⟩ ∧ four c) : (Txt.join (Str.ofString "") xs).length = xs.length ∧ ∀ c ∈ (Txt.join (Str.ofString "") xs).cps.toList, four c := by
  have e := joined_toList xs
  have h1 : (xs.flatMap fun x => x.cps.toList).length = xs.length ∧ ∀ c ∈ (xs.flatMap fun x => x.cps.toList), four c := by
    clear e
    induction xs with
    | nil => exact ⟨rfl, fun _ h => nomatch h⟩
    | cons x r ih =>
      obtain ⟨c, rfl, hc⟩ := h x (List.mem_cons_self ..)
      obtain ⟨i1, i2⟩ := ih fun y hy => h y (List.mem_cons_of_mem _ hy)
      rw [List.flatMap_cons]
      refine ⟨by simp [i1] , fun d hd => ?_⟩
      rcases List.mem_append.mp hd with q | q
      · rw [show d = c by simpa using q]; exact hc
      · exact i2 d q
  rw [← e] at h1
  refine ⟨?_, h1.2⟩
  rw [← h1.1]
  exact Array.length_toList.symm

/-- a place in the rows joined -/
theorem flat_get {wd : Nat} : ∀ (rows : List (List Nat)) (p : Nat), (∀ r ∈ rows, r.length = wd) → 0 < wd → (rows.flatMap id)[p]?.getD 0 = ((rows[p / wd]?).getD [])[p % wd]?.getD 0
  | [], p, _, _ => by simp
  | r :: rs, p, h, hw => by
    have hr := h r (List.mem_cons_self ..)
    rw [List.flatMap_cons, id, List.getElem?_append]
    by_cases hp : p < wd
    · rw [if_pos (by omega), Nat.div_eq_of_lt hp, Nat.mod_eq_of_lt hp]; rfl
    · rw [if_neg (by omega), hr, flat_get rs (p - wd) (fun x hx => h x (List.mem_cons_of_mem _ hx)) hw]
      have e1 : p / wd = (p - wd) / wd + 1 := by
        rw [Nat.div_eq p wd, if_pos ⟨hw, by omega⟩]
      have e2 : p % wd = (p - wd) % wd := by rw [Nat.mod_eq_sub_mod (by omega)]
      rw [e1, e2]; simp
theorem joined_get {rows : List Str} {wd : Nat} (g : Grid rows wd) (p : Nat) (hw : 0 < wd) : (Txt.join (Str.ofString "") rows).cps.getD p 0 = sg rows wd p := by
  have e := joined_toList rows
  have e' : (rows.flatMap fun x => x.cps.toList) = (rows.map fun x => x.cps.toList).flatMap id := by rw [List.flatMap_map]; rfl
  have : (Txt.join (Str.ofString "") rows).cps.getD p 0 = (Txt.join (Str.ofString "") rows).cps.toList[p]?.getD 0 := by
    simp [Array.getD_eq_getD_getElem?]
  rw [this, e, e', flat_get _ _ (wd := wd) (fun r hr => ?_) hw]
  · unfold sg
    have h1 : ((p : Int) / (wd : Int)).toNat = p / wd := by rw [← Int.natCast_ediv, Int.toNat_natCast]
    have h2 : ((p : Int) % (wd : Int)).toNat = p % wd := by rw [← Int.natCast_emod, Int.toNat_natCast]
    rw [h1, h2, List.getElem?_map]
    cases q : rows[p / wd]? with
    | none => simp [List.getD, q, Str.empty]
    | some r => simp [List.getD, q, Array.getD_eq_getD_getElem?]
  · obtain ⟨x, hx, rfl⟩ := List.mem_map.mp hr
    rw [Array.length_toList]; exact g.len x hx
theorem joined_len {rows : List Str} {wd : Nat} (g : Grid rows wd) : (Txt.join (Str.ofString "") rows).length = rows.length * wd := by
  have e := joined_toList rows
  have hl := g.len
  have : (rows.flatMap fun x => x.cps.toList).length = rows.length * wd := by
    clear e g
    induction rows with
    | nil => simp
    | cons x r ih =>
      have := hl x (List.mem_cons_self ..)
      have h2 : x.cps.toList.length = wd := by rw [Array.length_toList]; exact this
      rw [List.flatMap_cons, List.length_append, ih fun y hy => hl y (List.mem_cons_of_mem _ hy), h2, List.length_cons, Nat.succ_mul]; omega
  rw [← e, Array.length_toList] at this
  exact this
theorem cells_mem {rows : List Str} {wd : Nat} (p : Int) : decide (p ∈ cellsL rows wd) = hasB rows wd p := by
  rw [Bool.eq_iff_iff, decide_eq_true_iff]
  unfold cellsL
  rw [List.mem_filter]
  refine ⟨fun h => h.2, fun h => ⟨?_, h⟩⟩
  have : 0 ≤ p ∧ p < rows.length * wd := by
    simp [hasB, inB] at h; exact h.1
  have e : ((rows.length : Int) * wd) = ((rows.length * wd : Nat) : Int) := by rw [Int.natCast_mul]
  exact List.mem_map.mpr ⟨p.toNat, List.mem_range.mpr (by omega), by omega⟩

theorem div_step {a c w : Int} (hw : 0 < w) : c - a = w ↔ (a % w = c % w ∧ c / w - a / w = 1) := by
  have e1 := Int.emod_add_mul_ediv a w
  have e2 := Int.emod_add_mul_ediv c w
  constructor
  · intro h
    have : c = a + 1 * w := by omega
    subst this
    rw [Int.add_mul_emod_self_right, Int.add_mul_ediv_right a 1 (by omega)]
    exact ⟨rfl, by omega⟩
  · rintro ⟨h1, h2⟩
    have h3 : c / w = a / w + 1 := by omega
    rw [h3, Int.mul_add, Int.mul_one] at e2
    omega
theorem may_eq {rows : List Str} {wd : Nat} (g : Grid rows wd) (a c : Int) : mayB rows wd a c = mayL rows wd a c := by
  unfold mayB mayL
  by_cases h1 : inB rows wd a = true
  · by_cases h2 : inB rows wd c = true
    · have g1 : 0 ≤ a ∧ a < rows.length * wd := by simpa [inB] using h1
      have g2 : 0 ≤ c ∧ c < rows.length * wd := by simpa [inB] using h2
      obtain ⟨hw, _⟩ := g.at_ g1.1 g1.2
      have hw2 := g.wide
      simp only [hasB, h1, h2, Bool.true_and]
      have k1 : (max a c - min a c = 1 ∧ min a c / wd = max a c / wd) ↔ (a / wd = c / wd ∧ (a - c).natAbs = 1) := by
        rcases Int.le_total a c with q | q
        · rw [Int.max_eq_right q, Int.min_eq_left q]; omega
        · rw [Int.max_eq_left q, Int.min_eq_right q]; omega
      have k2 : (max a c - min a c = wd) ↔ (a % wd = c % wd ∧ (a / wd - c / wd).natAbs = 1) := by
        have d1 := div_step (a := a) (c := c) (w := wd) (by omega)
        have d2 := div_step (a := c) (c := a) (w := wd) (by omega)
        have e : (a / (wd : Int) - c / (wd : Int)).natAbs = 1 ↔ (c / (wd : Int) - a / (wd : Int) = 1 ∨ a / (wd : Int) - c / (wd : Int) = 1) := by omega
        rw [e]
        have m : max a c - min a c = wd ↔ (c - a = wd ∨ a - c = wd) := by omega
        rw [m, d1, d2]
        exact ⟨fun h => h.elim (fun h => ⟨h.1, .inl h.2⟩) (fun h => ⟨h.1.symm, .inr h.2⟩), fun h => h.2.elim (fun q => .inl ⟨h.1, q⟩) (fun q => .inr ⟨h.1.symm, q⟩)⟩
      have sw : ∀ f : Nat → Bool, (f (sg rows wd (min a c)) && f (sg rows wd (max a c))) = (f (sg rows wd a) && f (sg rows wd c)) := fun f => by
        rcases Int.le_total a c with q | q
        · rw [Int.max_eq_right q, Int.min_eq_left q]
        · rw [Int.max_eq_left q, Int.min_eq_right q, Bool.and_comm]
      have al : ∀ c, alongB c = true → (c != 35) = true := fun c h => by simp [alongB] at h; simp; omega
      have ac : ∀ c, acrossB c = true → (c != 35) = true := fun c h => by simp [acrossB] at h; simp; omega
      rw [sw alongB, sw acrossB]
      by_cases q1 : (a / wd = c / wd ∧ (a - c).natAbs = 1)
      · rw [if_pos q1, if_pos (k1.mpr q1)]
        cases e1 : alongB (sg rows wd a) <;> cases e2 : alongB (sg rows wd c) <;> simp_all
      · rw [if_neg q1, if_neg (fun q => q1 (k1.mp q))]
        by_cases q2 : (a % wd = c % wd ∧ (a / wd - c / wd).natAbs = 1)
        · rw [if_pos q2, if_pos (k2.mpr q2)]
          cases e1 : acrossB (sg rows wd a) <;> cases e2 : acrossB (sg rows wd c) <;> simp_all
        · rw [if_neg q2, if_neg (fun q => q2 (k2.mp q))]; simp
    · have h2' : inB rows wd c = false := by simpa using h2
      simp [hasB, h2']
  · have h1' : inB rows wd a = false := by simpa using h1
    simp [hasB, h1']
end Fl

namespace Fl
open PySem PySem.W PySem.Calls PyProof.Rows PyProof.V PySem.Spec Builtin Builtin.ObjectAttr Builtin.Getset_descriptor

abbrev vmro : List Value := [.type "ValueError", .type "Exception", .type "BaseException", .type "object"]
/-- what is asked of an exception class of the text, by evaluation -/
structure ExcK (K : Frag) (C : Addr) : Prop where
  is : excIn K C vmro "ValueError.__new__" = true
  ga : findIn K (.ref C) "__getattribute__" = some (some (.builtin "BaseException.__getattribute__"))
  gh : findIn K (.ref C) "__getattr__" = some none
  cl : findIn K (.ref C) "__class__" = some (some (.builtin "object.__class__"))
  sp : specialIn K (.builtin "object.__class__") "__get__" = some (some (.builtin "getset_descriptor.__get__"))
  tk : takesIn K (.builtin "object.__class__") = some true
  mr : mroIn K C (.type "object") = some true
  bs : subIn K (.ref C) (.type "BaseException") = some true
  cs : (clsIn K C).isSome = true

/-- an exception object of a class of the text -/
def ExcAt (h : Heap) (e C : Addr) : Prop := ∃ oe, h.get? e = some oe ∧ oe.cls = .ref C
theorem ExcAt.mono {h h' : Heap} {e C : Addr} (x : ExcAt h e C) (k : Sub h h') : ExcAt h' e C := let ⟨o, a, b⟩ := x; ⟨o, k _ _ a, b⟩
theorem ExcAt.type {h : Heap} {e C : Addr} (x : ExcAt h e C) (M : Model) : Looks M h (typeOf (.ref e)) (.ref C) := by
  obtain ⟨o, a, b⟩ := x
  exact b ▸ (Looks.ld a).andThen .now

section
variable {prog : Program} {w : World} {A : Around} {E : Value → Shared → Prop} {s : Shared} {K : Frag} {e C D : Addr}
theorem exc_find {M : Model} {h : Heap} (X : K.In h) (k : ExcK K C) : Looks M h (Builtin.ObjectAttr.find (.ref e) (.ref C) "__class__") (.bind (.builtin "getset_descriptor.__get__") (.builtin "object.__class__")) := by
  have L1 := looks_findIn (M := M) X k.cl
  have L2 : Looks M h (Builtin.ObjectAttr.getOf (some (.builtin "object.__class__"))) (some (.builtin "getset_descriptor.__get__")) := looks_specialIn X k.sp
  unfold Builtin.ObjectAttr.find
  refine L1.andThen (L2.andThen ?_)
  unfold Builtin.ObjectAttr.dataDescriptor?
  have L3 := looks_takesIn (M := M) X k.tk
  refine Looks.andThen (a := some (.builtin "getset_descriptor.__get__", .builtin "object.__class__")) (L3.andThen .now) ?_
  exact Looks.tag .now
theorem exc_class_get {R : Result → Shared → Prop} {tp : Value} (X : K.In s.heap) (x : ExcAt s.heap e C) (hm : mroIn K C (.type "object") = some true)
    (h : R (.ok (.ret (.ref C))) s) : codeAny (model prog w) A (.call (.builtin "getset_descriptor.__get__") ⟨[.builtin "object.__class__", .ref e, tp], []⟩) R s := by
  obtain ⟨hh, g, dr, t, os⟩ := s
  have L0 := x.type (model prog w)
  have L1 := looks_mroIn (M := model prog w) X hm
  refine codeAny_call_builtin KF.slot_gs.plain KF.entry_gs (KF.slot_gs.check _ _ _ _ _ _ _ _ KF.type_class (KF.args_gs _ _ _) ?_)
  unfold Builtin.«getset_descriptor.__get__» descrGet
  rw [dga_obj]
  refine wpAny_bind (wpAny_pure ?_)
  unfold descrGetter descrCheckInstance descrNameAndClass isInstance
  simp only [KF.owner_class]
  repeat lk
  refine ⟨Code.quiet_builtin _ (by decide +kernel), codeAny_builtin KF.entry_class ?_⟩
  unfold Builtin.«object.__class__» shownTypeOf
  repeat lk
  exact h

theorem exc_check {M : Model} {nameV : Value} {Q : Unit → Shared → Prop} (X : K.In s.heap) (x : ExcAt s.heap e C) (k : ExcK K C) (hq : Q () s) : wpAny M A (checkBuiltinCall "BaseException.__getattribute__" ⟨[.ref e, nameV], []⟩) Q E s := by
  have hk : builtinKind "BaseException.__getattribute__" = some .slot := by decide +kernel
  have hsplit : splitId "BaseException.__getattribute__" = some ("BaseException", "__getattribute__") := by decide +kernel
  have ha := F.args_bexc_ga (.ref e) nameV
  obtain ⟨hh, g, d, t, os⟩ := s
  have L0 := x.type M
  have LI : Looks M hh (isInstance (.ref e) (.type "BaseException")) true := L0.andThen (looks_subIn X k.bs)
  simp only [checkBuiltinCall, hk, hsplit]
  refine wpAny_bind (LI.at ?_)
  repeat (first | assumption | wp_step)
theorem exc_class {Q : Option Value → Shared → Prop} (X : K.In s.heap) (x : ExcAt s.heap e C) (k : ExcK K C) (h : Q (some (.ref C)) { s with toks := s.toks + 1 }) : wpAny (model prog w) A (getAttr? (.ref e) "__class__") Q E s := by
  obtain ⟨hh, g, d, t, os⟩ := s
  have L0 := x.type (model prog w)
  have L1 := looks_findIn (M := model prog w) X k.ga
  have L2 := looks_findIn (M := model prog w) X k.gh
  have LF := exc_find (e := e) (M := model prog w) X k
  unfold getAttr? getAttrBy? getAttrBy
  refine wpAny_bind (wpAny_mkText (wpAny_bind (wpAny_attempt (wpAny_holding (wpAny_bind (L0.at (wpAny_bind (L1.at ?_))))))))
  have hx2 : (Value.builtin "BaseException.__getattribute__" == Value.builtin "object.__getattribute__") = false := by decide +kernel
  have hx1 : (onTheHeap (Value.ref C) && Value.builtin "BaseException.__getattribute__" == Value.builtin "object.__getattribute__") = false := by rw [hx2]; rfl
  simp only [hx1, Bool.false_eq_true, if_false]
  unfold getAttrByItsOwn
  refine wpAny_bind (L2.at ?_)
  refine wpAny_bind (wpAny_attempt (wpAny_holding ?_))
  unfold callGetattribute boundAndCalled
  simp only [Bool.false_and, Bool.false_eq_true, if_false]
  rw [F.excAttr_ValueError.ga.bind (.ref e)]
  refine wpAny_bind (wpAny_pure ?_)
  refine wpAny_call (codeAny_call_builtin F.excAttr_ValueError.ga.plain F.entry_bexc_ga (exc_check (K := K) X x k ?_))
  unfold Builtin.«object.__getattribute__»
  refine wpAny_bind (wpAny_pure (a := (Value.ref e, [Value.str (Str.ofString "__class__") t])) ?_)
  refine wpAny_bind (wpAny_pure (a := Str.ofString "__class__") ?_)
  refine wpAny_bind (L0.at (wpAny_bind (LF.at ?_)))
  show wpAny _ _ (holding [Value.builtin "object.__class__"] (call (.builtin "getset_descriptor.__get__") [.builtin "object.__class__", .ref e, .ref C]) >>= ret) _ _ _
  refine wpAny_bind (wpAny_holding (wpAny_call (exc_class_get (K := K) X x k.mr ?_)))
  refine wpAny_pure ?_
  refine handed_on rfl ?_
  exact wpAny_pure h
theorem exc_nested {c : Value} {dep : Int} {tk : Tok} {Q : Fin → Shared → Prop} (X : K.In s.heap) (x : ExcAt s.heap e C) (k : ExcK K C) (hty : Looks (model prog w) s.heap (typeOf c) (.type "type")) (his : Looks (model prog w) s.heap (isType c) true)
    (hne : (Value.ref C == c) = false) (hsub : Looks (model prog w) s.heap (isSubtype (.ref C) c) false) (h : Q (.done (.ret (.bool false))) { s with toks := s.toks + 1 }) :
    wpAny (model prog w) A (Builtin.«isinstance.nested» ⟨[.ref e, c, .int dep tk], []⟩) Q E s := by
  obtain ⟨cdD, hcD⟩ := Option.isSome_iff_exists.mp k.cs
  have hisD : Looks (model prog w) s.heap (isType (.ref C)) true := by
    unfold clsIn at hcD
    split at hcD
    · rename_i c' d' cd' sl' ho
      intro A' Q' E' s' k q
      unfold isType loadHead
      exact wpAny_bind (wpAny_loadPart (k _ _ (X _ _ ho)) (wpAny_pure q))
    · cases hcD
  obtain ⟨h0, g, d, tt, os⟩ := s
  have L0 := x.type (model prog w)
  have LI : Looks (model prog w) h0 (isInstance (.ref e) c) false := L0.andThen hsub
  unfold Builtin.«isinstance.nested»
  refine wpAny_bind (L0.at ?_)
  rw [if_neg (fun q => by rw [hne] at q; exact Bool.noConfusion q)]
  refine wpAny_bind (hty.at ?_)
  rw [if_pos (by decide)]
  k_delta "plainIsInstance"
  refine wpAny_bind (wpAny_bind (his.at ?_))
  simp only [Bool.not_true, Bool.false_eq_true, if_false]
  refine wpAny_bind (LI.at ?_)
  simp only [Bool.false_eq_true, if_false]
  refine wpAny_bind (exc_class (K := K) X x k ?_)
  refine wpAny_bind (hisD.at ?_)
  simp only [Bool.not_true, Bool.false_eq_true, if_false]
  refine wpAny_bind (wpAny_rule ?_)
  refine hsub.at ?_
  first
    | exact wpAny_pure h
    | exact wpAny_pure (wpAny_pure h)
    | exact wpAny_bind (wpAny_pure (wpAny_pure h))
theorem y_exc_no {Q : Value → Shared → Prop} (X : K.In s.heap) (x : ExcAt s.heap e C) (k : ExcK K C) (hn : kin_not K C D = true) (h : Q (.bool false) { s with toks := s.toks + 1 }) :
    wpAny (model prog w) A (call (.builtin "isinstance") [.ref e, .ref D]) Q E s := by
  unfold kin_not at hn
  rw [Bool.and_eq_true, Bool.and_eq_true, Bool.and_eq_true] at hn
  obtain ⟨⟨⟨e0, e1⟩, e2⟩, e3⟩ := hn
  have ty : ∀ (M : Model) h', K.In h' → Looks M h' (typeOf (.ref D)) (.type "type") := fun _ h' X' => looks_typeIn X' (beq_iff_eq.mp e2)
  have it : ∀ (M : Model) h', K.In h' → Looks M h' (isType (.ref D)) true := fun _ h' X' => by
    unfold clsIn at e1
    split at e1
    · rename_i c' d' cd' sl' ho
      intro A' Q' E' s' k q
      unfold isType loadHead
      exact wpAny_bind (wpAny_loadPart (k _ _ (X' _ _ ho)) (wpAny_pure q))
    · cases e1
  have ne : (Value.ref C == Value.ref D) = false := Bool.eq_false_iff.mpr fun q => of_decide_eq_true e0 (Value.ref.inj (beq_iff_eq.mp q))
  have sb : ∀ (M : Model) h', K.In h' → Looks M h' (isSubtype (.ref C) (.ref D)) false := fun _ h' X' => looks_subIn X' (beq_iff_eq.mp e3)
  exact call_isinstance (S := fun _ R s => (K.In s.heap ∧ ExcAt s.heap e C) ∧ R (.ok (.ret (.bool false))) { s with toks := s.toks + 1 })
    (fun _ _ _ _ _ hs => isinstance_outer (exc_nested hs.1.1 hs.1.2 k (ty _ _ hs.1.1) (it _ _ hs.1.1) ne (sb _ _ hs.1.1) hs.2) (by intro q; cases q)) ⟨⟨X, x⟩, h⟩
theorem y_exc_yes {Q : Value → Shared → Prop} (X : K.In s.heap) (x : ExcAt s.heap e C) (hy : isIn K (.ref C) D = true) (h : Q (.bool true) s) : wpAny (model prog w) A (call (.builtin "isinstance") [.ref e, .ref D]) Q E s :=
  isi_call X (fun M => x.type M) hy (by intro q; cases q) h
end
end Fl

namespace Fl
open PySem PySem.W PySem.Calls PyProof.Rows

/-- the frames that stand around: B is a part of the heap that holds none of their names' objects -/
structure Stk (A : Around) (B : Heap) (outer : List Env) (h : Heap) : Prop where
  frames : A.frames = some outer
  funs : h.FunFrames B outer
  stays : Sub B h
theorem Stk.go {A : Around} {B : Heap} {outer : List Env} {h h' : Heap} (k : Stk A B outer h) (u : h.UpToSlots h') (st : Sub B h') : Stk A B outer h' :=
  ⟨k.frames, Heap.FunFrames.of_keeps (fun b o e hn => let ⟨sl, q⟩ := u b o e hn; ⟨_, q, rfl⟩) k.funs, st⟩
theorem Stk.mono {A : Around} {B : Heap} {outer : List Env} {h h' : Heap} (k : Stk A B outer h) (s : Sub h h') : Stk A B outer h' := k.go (Heap.UpToSlots.of_keeps s) (k.stays.trans s)

/-- an exception of the class C that has come out of a call -/
structure Fly (B : Heap) (outer : List Env) (e C : Addr) (s s' : Shared) : Prop where
  same : ∃ h tk, s' = { s with heap := h, toks := tk }
  fly : ∃ a0, Heap.FlyingW B outer e (.ref C) a0 s'.heap
  up : s.heap.UpToSlots s'.heap

section
variable {M : Model} {prog : Program} {w : World} {A : Around} {E : Value → Shared → Prop} {s s' s₀ : Shared} {h₀ B : Heap} {env : Env} {ρ : Rho} {Λ : List (Addr × Obj)} {outer : List Env} {e C : Addr} {K : Frag}
theorem Stk.deeper (k : Stk A B outer s.heap) (S : CS true s₀ h₀ env ρ Λ s) (hB : Sub B h₀) (hf : env.frame = some env.locals) : Stk (A.deeper env) B (env :: outer) s.heap := by
  obtain ⟨m, hn, _⟩ := S.ns
  exact ⟨Around.frames_deeper k.frames, Heap.FunFrames.cons (by rw [S.kind]; intro q; cases q) hf hn (hB.none (S.locs rfl)) k.funs, hB.trans S.base⟩
theorem out_first {h' : Heap} {args : List Value} (k : Stk A B outer s₀.heap) (S : CS true s₀ h₀ env ρ Λ s) (hB : Sub B h₀) (hf : env.frame = some env.locals) (u : s₀.heap.UpToSlots s.heap) (hx : Heap.MadeExcOf s.heap h' e (.ref C) args)
    (hE : ∀ s', Fly B outer e C s₀ s' → E (.ref e) s') : OutE M A env E (.ref e) { s with heap := h' } := by
  have kd : Sub s.heap h' := hx.keeps
  have ks : Stk A B outer s.heap := k.go u (hB.trans S.base)
  have k2 : Stk (A.deeper env) B (env :: outer) h' := (ks.deeper S hB hf).mono kd
  obtain ⟨t, ho, _⟩ := hx.there
  have hen : B.get? e = none := by
    refine (hB.trans S.base).none ?_
    exact hx.new
  refine wpAny_leaving_firstW (base := B) k2.frames k2.funs hf ho k2.stays hen rfl rfl rfl fun h'' L => hE _ ?_
  obtain ⟨l1, l2, l3, l4⟩ := L
  obtain ⟨hs, tks, rfl⟩ := S.same
  exact ⟨⟨h'', _, rfl⟩, ⟨_, l1, hen, l2.2.2, l3⟩, u.trans ((Heap.UpToSlots.of_keeps kd).trans l4)⟩
theorem out_next (k : Stk A B outer s₀.heap) (S : CS true s₀ h₀ env ρ Λ s) (hB : Sub B h₀) (hf : env.frame = some env.locals) (u : s₀.heap.UpToSlots s.heap) (fl : Fly B (env :: outer) e C s s')
    (hE : ∀ s', Fly B outer e C s₀ s' → E (.ref e) s') : OutE M A env E (.ref e) s' := by
  obtain ⟨⟨h', tk, rfl⟩, ⟨a0, f1, f2, f3, f4⟩, up⟩ := fl
  refine wpAny_leaving_nextW (base := B) (Around.frames_deeper k.frames) f3 hf f4 f1 f2 fun h'' L => hE _ ?_
  obtain ⟨l1, l2, l3, l4⟩ := L
  obtain ⟨hs, tks, rfl⟩ := S.same
  exact ⟨⟨h'', _, rfl⟩, ⟨_, l1, f2, l2.2.2, l3⟩, u.trans (up.trans l4)⟩
theorem note_out {v : Value} (h : OutE M A env E v s) : NoteE M (A.deeper env) env (OutE M A env E) v s := PassesOwn.leaving v s h
theorem note_note {A' : Around} {E' : Value → Shared → Prop} {v : Value} (h : NoteE M A' env E' v s) : NoteE M A' env (NoteE M A' env E') v s := PassesOwn.looking (K := fun e s' => cameBackBy M A' env E' e s') v s h

theorem x_raise {x m : Str} {np cpos pos cp : Pos} {ck : Nat} {rest : List Stmt} {Q : Flow → Shared → Prop} (S : CS true s₀ h₀ env ρ Λ s) (G : Gr K h₀) (g : GF K x C) (k : ExcK K C) (hh : A.handled = none)
    (hx : env.kindOf x = some .globalImplicit) (hg : env.globals = mainGlobals)
    (h : ∀ h' e args s', CS true s₀ h₀ env ρ Λ s' → Heap.MadeExcOf s'.heap h' e (.ref C) args → E (.ref e) { s' with heap := h' }) :
    wpAny (model prog w) A (execs (.Raise (some (.Call (.Name x np) [.Constant (.str m) ck cp] [] cpos)) none pos :: rest) env) Q E s := by
  obtain ⟨p, l, mg, mb, T⟩ := G.tr
  obtain ⟨bm, N, nm, q, bs, hdct, sn, sub, ab, col, dd, k0, k1, k2, k3, k5, mN, hC, hN, hni, TL⟩ := (own_of_in G.X T g.ns k.is).obj
  refine wpAny_execs_cons (wpAny_Raise_call_subT (nm := nm) (q := q) (N := N) (bs := bs) (hdct := hdct) (sn := sn) (sub := sub) (ab := ab) (col := col) (dd := dd) (k0 := k0) (k1 := k1) (k2 := k2) (k3 := k3) (k5 := k5) F.excBase_ValueError (TL.hasType rfl) hh rfl hni (n_glob S G g.ns hx hg g.nd ⟨rfl, ?_⟩))
  refine Calls.evalArgs_plain (args_cons (c_str S fun t s' S' => args_nil ?_) rfl)
  exact ⟨rfl, by show 1 ≤ sizeLine; rw [sizeLine_eq]; decide, S'.base _ _ hC, hN.keeps S'.base, TL.keeps S'.base, fun h' e hx => h h' e _ s' S' hx⟩

/-- objects that are the same but for their slots -/
inductive Slk : List (Addr × Obj) → List (Addr × Obj) → Prop
  | nil : Slk [] []
  | cons {a o sl r r'} : Slk r r' → Slk ((a, o) :: r) ((a, { o with slots := sl }) :: r')
theorem Slk.refl : ∀ Λ : List (Addr × Obj), Slk Λ Λ
  | [] => .nil
  | (a, o) :: r => Slk.cons (sl := o.slots) (Slk.refl r)
theorem Slk.trans {Λ₁ Λ₂ Λ₃ : List (Addr × Obj)} (x : Slk Λ₁ Λ₂) (y : Slk Λ₂ Λ₃) : Slk Λ₁ Λ₃ := by
  induction x generalizing Λ₃ with
  | nil => exact y
  | cons _ ih => cases y with | cons y => exact .cons (ih y)
theorem Slk.adr {Λ Λ' : List (Addr × Obj)} (x : Slk Λ Λ') : Λ'.map (·.1) = Λ.map (·.1) := by
  induction x with
  | nil => rfl
  | cons _ ih => simp only [List.map_cons, ih]
theorem slk_of {h : Heap} : ∀ {Λ : List (Addr × Obj)}, (∀ p ∈ Λ, ∃ sl, h.get? p.1 = some { p.2 with slots := sl }) → ∃ Λ', Slk Λ Λ' ∧ ∀ p ∈ Λ', h.get? p.1 = some p.2
  | [], _ => ⟨[], .nil, fun _ h => nomatch h⟩
  | (a, o) :: r, k => by
    obtain ⟨sl, e⟩ := k (a, o) (List.mem_cons_self ..)
    obtain ⟨Λ', x, y⟩ := slk_of (Λ := r) fun p hp => k p (List.mem_cons_of_mem _ hp)
    refine ⟨(a, { o with slots := sl }) :: Λ', .cons x, fun p hp => ?_⟩
    rcases List.mem_cons.mp hp with rfl | hp
    · exact e
    · exact y p hp
theorem CS.fly (S : CS true s₀ B env ρ Λ s) (hd : ∀ p ∈ Λ, ∀ vs, p.2.data ≠ .fields vs) (same : ∃ h tk, s' = { s with heap := h, toks := tk }) (st : Sub B s'.heap) (u : s.heap.UpToSlots s'.heap) : ∃ Λ', Slk Λ Λ' ∧ CS true s₀ B env ρ Λ' s' := by
  obtain ⟨Λ', x, y⟩ := slk_of (h := s'.heap) (Λ := Λ) fun p hp => u p.1 p.2 (S.led p hp).1 (hd p hp)
  have hadr : ∀ p ∈ Λ', ∃ q ∈ Λ, q.1 = p.1 := fun p hp => by
    have : p.1 ∈ Λ'.map (·.1) := List.mem_map_of_mem hp
    rw [x.adr] at this
    obtain ⟨q, a, b⟩ := List.mem_map.mp this
    exact ⟨q, a, b⟩
  have cel : ∀ {c : Addr} {v : Option Value}, s.heap.IsCell c v → s'.heap.IsCell c v := fun {c v} ⟨o, a, b⟩ => by
    obtain ⟨sl, q⟩ := u c o a (fun vs z => by rw [b] at z; cases z)
    exact ⟨_, q, b⟩
  refine ⟨Λ', x, S.kind, ?_, st, (fun q => nomatch q), ?_, fun y v c a b d => cel (S.cell y v c a b d), fun n c e => ?_, S.apart, S.kinds, S.locs, S.nd, fun p hp => ?_, ?_⟩
  · obtain ⟨h, tk, rfl⟩ := same; obtain ⟨h0, t0, rfl⟩ := S.same; exact ⟨h, tk, rfl⟩
  · obtain ⟨m, hn, hm⟩ := S.ns; exact ⟨m, u.ns hn, hm⟩
  · obtain ⟨⟨v, a⟩, r⟩ := S.cells n c e; exact ⟨⟨v, cel a⟩, r⟩
  · obtain ⟨q, hq, e⟩ := hadr p hp
    obtain ⟨_, r⟩ := S.led q hq
    rw [e] at r
    exact ⟨y p hp, r⟩
  · rw [x.adr]; exact S.lnd
/-- an object with fields, among the changed ones -/
theorem CS.take {oe : Obj} {vs : Array Value} (S : CS true s₀ B env ρ Λ s) (hd : ∀ p ∈ Λ, ∀ vs, p.2.data ≠ .fields vs) (he : s.heap.get? e = some oe) (hv : oe.data = .fields vs) (hB : B.get? e = none) : CS true s₀ B env ρ ((e, oe) :: Λ) s := by
  refine ⟨S.kind, S.same, S.base, S.all, S.ns, S.cell, S.cells, S.apart, S.kinds, S.locs, S.nd, fun p hp => ?_, ?_⟩
  · rcases List.mem_cons.mp hp with rfl | hp
    · refine ⟨he, fun q => ?_, fun n q => ?_, fun _ => hB⟩
      · obtain ⟨m, ⟨o, es, ep, a, b, _⟩, _⟩ := S.ns
        have q' : e = env.locals := q
        rw [q', a] at he
        cases he
        rw [b] at hv; cases hv
      · obtain ⟨⟨v, o, a, b⟩, _⟩ := S.cells n e q
        rw [a] at he; cases he
        rw [b] at hv; cases hv
    · exact S.led p hp
  · rw [List.map_cons, List.nodup_cons]
    refine ⟨fun h => ?_, S.lnd⟩
    obtain ⟨p, hp, q⟩ := List.mem_map.mp h
    have a := (S.led p hp).1
    rw [q, he] at a
    cases a
    exact hd p hp _ hv

theorem caught {hs : List ExceptHandler} {Q : Flow → Shared → Prop} (hfr : A.frames = some (env :: outer)) (S : CS true s₀ B env ρ Λ s) (hd : ∀ p ∈ Λ, ∀ vs, p.2.data ≠ .fields vs) (hf : env.frame = some env.locals) (fl : Fly B (env :: outer) e C s s')
    (h : ∀ Λ' s₃, Slk Λ Λ' → CS true s₀ B env ρ Λ' s₃ → (∃ a0, Heap.FlyingW B (env :: outer) e (.ref C) a0 s₃.heap) → wpAny M A (handleBy (.ref e) env hs) Q E s₃) :
    wpAny M A (noteFrame (.ref e) env) (fun _ s₂ => wpAny M A (setFlight (.ref e) none) (fun _ s₃ => wpAny M A (handleBy (.ref e) env hs) Q E s₃) E s₂) E s' := by
  obtain ⟨⟨h', tk, rfl⟩, ⟨a0, f⟩, up⟩ := fl
  refine wpAny_looks_onW hfr hf f fun h₄ g₄ u₄ => ?_
  refine wpAny_landsW g₄ fun h₅ g₅ u₅ => ?_
  obtain ⟨Λ', x, S'⟩ := S.fly hd ⟨h₅, tk, rfl⟩ g₅.1 (up.trans (u₄.trans u₅))
  exact h Λ' _ x S' ⟨a0, g₅⟩
end
end Fl

namespace Fl
open PySem PySem.W PySem.Calls PyProof.Rows

/-- whether an exception of the class C falls to a clause for the class D -/
structure MatchK (K : Frag) (C D : Addr) (b : Bool) : Prop where
  ty : typeIn K (.ref D) = some (.type "type")
  cs : (clsIn K D).isSome = true
  bs : subIn K (.ref D) (.type "BaseException") = some true
  su : subIn K (.ref C) (.ref D) = some b
section
variable {M : Model} {prog : Program} {w : World} {A : Around} {E : Value → Shared → Prop} {s s' s₀ : Shared} {h₀ B : Heap} {env : Env} {ρ : Rho} {Λ : List (Addr × Obj)} {outer : List Env} {e C D : Addr} {K : Frag}
theorem exc_match {b : Bool} {Q : Bool → Shared → Prop} (X : K.In s.heap) (x : ExcAt s.heap e C) (m : MatchK K C D b) (hq : Q b s) : wpAny M A (excMatches (.ref e) (.ref D)) Q E s := by
  obtain ⟨cdD, hcD⟩ := Option.isSome_iff_exists.mp m.cs
  obtain ⟨h, g, d, t, os⟩ := s
  have hisD : Looks M h (isType (.ref D)) true := by
    unfold clsIn at hcD
    split at hcD
    · rename_i c' d' cd' sl' ho
      intro A' Q' E' s' k q
      unfold isType loadHead
      exact wpAny_bind (wpAny_loadPart (k _ _ (X _ _ ho)) (wpAny_pure q))
    · cases hcD
  have LE := x.type M
  have LT : Looks M h (isInstance (.ref D) (.type "tuple")) false := (looks_typeIn (M := M) X m.ty).andThen (Looks.of_pure tc_notTuple)
  have L1 : Looks M h (isExcClass (.ref D)) true := by
    unfold isExcClass
    exact hisD.andThen (looks_subIn X m.bs)
  have L2 := looks_subIn (M := M) X m.su
  unfold excMatches
  refine wpAny_bind (LT.at ?_)
  simp only [Bool.false_eq_true, if_false]
  refine wpAny_bind (wpAny_pure ?_)
  simp only [List.forIn_cons, List.forIn_nil]
  refine wpAny_bind (wpAny_bind (wpAny_bind (L1.at ?_)))
  simp only [Bool.not_true, Bool.false_eq_true, if_false]
  refine wpAny_pure (wpAny_pure ?_)
  refine wpAny_bind (LE.at (wpAny_bind (wpAny_bind (wpAny_bind (L2.at ?_)))))
  cases b
  · simp only [Bool.false_eq_true, if_false]
    exact wpAny_pure (wpAny_pure (wpAny_pure hq))
  · simp only [if_true]
    exact wpAny_pure (wpAny_pure (wpAny_pure hq))

theorem h_miss {x : Str} {np pos : Pos} {nm : Option Str} {body : List Stmt} {rest : List ExceptHandler} {Q : Flow → Shared → Prop} (S : CS true s₀ B env ρ Λ s) (G : Gr K B) (g : GF K x D) (m : MatchK K C D false) (y : ExcAt s.heap e C)
    (hx : env.kindOf x = some .globalImplicit) (hg : env.globals = mainGlobals) (h : wpAny (model prog w) A (handleBy (.ref e) env rest) Q E s) :
    wpAny (model prog w) A (handleBy (.ref e) env (.ExceptHandler (some (.Name x np)) nm body pos :: rest)) Q E s :=
  wpAny_handleBy_cons (codeAny_handlers_test (n_glob S G g.ns hx hg g.nd (exc_match (S.gr G).X y m h))) (by intro q; cases q)
theorem h_hit {x n : Str} {np pos : Pos} {b₀ : Stmt} {suite : List Stmt} {rest : List ExceptHandler} {l : List Env} {ρ' : Rho} {Q : Flow → Shared → Prop} (S : CS true s₀ B env ρ Λ s) (hd : ∀ p ∈ Λ, ∀ vs, p.2.data ≠ .fields vs) (G : Gr K B) (g : GF K x D) (m : MatchK K C D true)
    (fl : ∃ a0, Heap.FlyingW B l e (.ref C) a0 s.heap) (hx : env.kindOf x = some .globalImplicit) (hg : env.globals = mainGlobals) (hp : Put n (.ref e) ρ ρ')
    (h : ∀ Λ' oe s' E'', Slk Λ Λ' → oe.cls = .ref C → CS true s₀ B env ρ' ((e, oe) :: Λ') s' →
      wpAny (model prog w) (A.mark (some (.ref e))) (execs (b₀ :: suite) env) (fun f s₄ => wpAny (model prog w) A (do bindName env n .none; unbindBehindTheSuite env n pos) (fun _ s₅ => Q f s₅) E s₄) E'' s') :
    wpAny (model prog w) A (handleBy (.ref e) env (.ExceptHandler (some (.Name x np)) (some n) (b₀ :: suite) pos :: rest)) Q E s := by
  obtain ⟨a0, f⟩ := fl
  have y : ExcAt s.heap e C := f.there
  refine wpAny_handleBy_cons (codeAny_handlers_test (n_glob S G g.ns hx hg g.nd (exc_match (S.gr G).X y m ?_))) (by intro q; cases q)
  refine codeAny_handlers_suite_as ?_
  refine lands_againW f fun h₆ f₆ u₆ => ?_
  obtain ⟨Λ', x', S'⟩ := S.fly (s' := { s with heap := h₆ }) hd ⟨h₆, s.toks, rfl⟩ f₆.1 u₆
  obtain ⟨oe, vs, T, oT, ts, e1, ⟨e2, e3⟩, e4, _⟩ := f₆.2.2.2
  have hd' : ∀ p ∈ Λ', ∀ vs, p.2.data ≠ .fields vs := by
    clear S S' h
    induction x' with
    | nil => exact fun _ h => nomatch h
    | cons _ ih =>
      intro p hp
      rcases List.mem_cons.mp hp with rfl | hp
      · exact fun vs z => hd (_, _) (List.mem_cons_self ..) vs z
      · exact ih (fun q hq => hd q (List.mem_cons_of_mem _ hq)) p hp
  have S'' := S'.take hd' e1 e4 f₆.2.1
  exact S''.put hp fun s' S3 => h Λ' oe s' _ x' e2 S3

/-- a name that is let go -/
def unset (n : Str) (ρ : Rho) : Rho := ρ.map fun p => if p.1 = n then (p.1, none) else p
theorem unset_names (n : Str) : ∀ ρ : Rho, (unset n ρ).map (·.1) = ρ.map (·.1)
  | [] => rfl
  | p :: r => by
    have := unset_names n r
    unfold unset at this ⊢
    simp only [List.map_cons, this]
    split <;> rfl
theorem unset_look {n y : Str} {v : Value} : ∀ {ρ : Rho}, Look y v (unset n ρ) → y ≠ n ∧ Look y v ρ
  | [], h => by cases h
  | (z, u) :: r, h => by
    unfold unset at h
    rw [List.map_cons] at h
    by_cases q : z = n
    · simp only [q, if_true] at h
      cases h with
      | tail h => have := unset_look (ρ := r) h; exact ⟨this.1, .tail this.2⟩
    · simp only [q, if_false] at h
      cases h with
      | head => exact ⟨q, .head⟩
      | tail h => have := unset_look (ρ := r) h; exact ⟨this.1, .tail this.2⟩
theorem x_unbind {n : Str} {pos : Pos} {ρ1 : Rho} {Q : Unit → Shared → Prop} (S : CS true s₀ h₀ env ρ Λ s) (hp : Put n .none ρ ρ1) (hl : env.kindOf n = some .local) (h : ∀ s', CS true s₀ h₀ env (unset n ρ1) Λ s' → Q () s') :
    wpAny M A (do bindName env n .none; unbindBehindTheSuite env n pos) Q E s := by
  unfold bindName unbindBehindTheSuite
  refine wpAny_bind (wpAny_bind (wpAny_holding (wpAny_point (wpAny_bind (S.put hp fun s₁ S₁ => wpAny_point ?_)))))
  refine wpAny_onRaise ?_
  obtain ⟨m, hn, hm⟩ := S₁.ns
  have hv : Look n .none ρ1 := by
    clear h S S₁ hm
    induction hp with
    | head => exact .head
    | tail _ ih => exact .tail ih
  refine wpAny_unbindName_local hl hn (hm n .none hv hl) (by rw [S.kind]; rfl) fun h' u hn' hs' => h _ ?_
  have up : ∀ b o, b ≠ env.locals → s₁.heap.get? b = some o → h'.get? b = some o := fun b o hb e => hs'.extBut b o hb e
  refine ⟨S₁.kind, ?_, fun b o e => up b o (fun q => ?_) (S₁.base b o e), (fun q => nomatch q), ⟨_, hn', fun y u hy hk => ?_⟩, fun y u c hy hk hc => ?_, fun n c e => ?_, S₁.apart, fun x hx => S₁.kinds x (unset_names n ρ1 ▸ hx), S₁.locs, unset_names n ρ1 ▸ S₁.nd, fun p hp => ?_, S₁.lnd⟩
  · obtain ⟨h, t, rfl⟩ := S₁.same; exact ⟨h', _, rfl⟩
  · rw [q, S₁.locs rfl] at e; cases e
  · obtain ⟨a, b⟩ := unset_look hy
    exact (if_neg a).trans (hm y u b hk)
  · obtain ⟨a, b⟩ := unset_look hy
    exact (S₁.cell y u c b hk hc).sameBut hs' (S₁.cells y c hc).2.1
  · obtain ⟨⟨w, hw⟩, r⟩ := S₁.cells n c e
    exact ⟨⟨w, hw.sameBut hs' r.1⟩, r⟩
  · obtain ⟨a, b, r⟩ := S₁.led p hp
    exact ⟨up _ _ b a, b, r⟩
end
end Fl

namespace Fl
open PySem PySem.W PySem.Calls PyProof.Rows

/-- as Room, where something may be being handled -/
structure RoomH (A : Around) (n : Nat) : Prop where
  depth : A.depth + n < recursionLimit
  units : A.units + 8 * n + 200 < cLine
theorem Room.h {A : Around} {n : Nat} {v : Option Value} (r : Room A n) : RoomH (A.mark v) n := ⟨r.depth, r.units⟩
theorem Room.toH {A : Around} {n : Nat} (r : Room A n) : RoomH A n := ⟨r.depth, r.units⟩
theorem RoomH.in_ {A : Around} {n k : Nat} {env : Env} (r : RoomH A n) (h : k + 1 ≤ n) : RoomH (A.deeper env) k :=
  ⟨by have := r.depth; show A.depth + 1 + k < _; omega, by have := r.units; show A.units + 3 + 8 * k + 200 < _; omega⟩

/-- whether an exception of the class C is one of the class D -/
def isB (K : Frag) (C D : Addr) (b : Bool) : Prop := (if b then isIn K (.ref C) D else kin_not K C D) = true

def boolsV (bs : List Bool) : List Value := bs.map .bool
theorem readsAll_bools {h : Heap} : ∀ bs : List Bool, ReadsAll h (boolsV bs) (bs.map PyData.bool) []
  | [] => .nil
  | b :: r => by
    have := ReadsAll.cons (Reads.bool (h := h) b) (readsAll_bools (h := h) r)
    simpa [boolsV] using this
theorem all_bools : ∀ bs : List Bool, (bs.map PyData.bool).all Spec.Shape.bool.has = true
  | [] => rfl
  | b :: r => by rw [List.map_cons, List.all_cons, all_bools r, Bool.and_true]; simp [Spec.Shape.has]
theorem count_bools (k : Bool) : ∀ bs : List Bool, PySem.Spec.countIn (.bool k) (bs.map PyData.bool) = (bs.count k : Nat)
  | [] => rfl
  | b :: r => by
    rw [List.map_cons, PySem.Spec.countIn, count_bools k r, List.count_cons]
    have : PySem.Spec.same (.bool b) (.bool k) = (b == k) := by simp [PySem.Spec.same]
    rw [this]
    cases h : (b == k) <;> simp <;> omega

section
variable {prog : Program} {w : World} {A : Around} {E : Value → Shared → Prop} {s s₀ : Shared} {h₀ : Heap} {env : Env} {ρ ρ' : Rho} {Λ Λ' : List (Addr × Obj)} {b : Bool} {K : Frag} {e C D : Addr}
theorem y_exc {c : Bool} {Q : Value → Shared → Prop} (S : CS b s₀ h₀ env ρ Λ s) (G : Gr K h₀) (x : ExcAt s.heap e C) (k : ExcK K C) (hb : isB K C D c) (h : ∀ s', CS b s₀ h₀ env ρ Λ s' → Q (.bool c) s') : wpAny (model prog w) A (call (.builtin "isinstance") [.ref e, .ref D]) Q E s := by
  cases c
  · exact y_exc_no (S.gr G).X x k hb (h _ (S.tok _))
  · exact y_exc_yes (S.gr G).X x hb (h _ S)
theorem y_excT {T : String} {Q : Value → Shared → Prop} (S : CS b s₀ h₀ env ρ Λ s) (G : Gr K h₀) (x : ExcAt s.heap e C) (hs : subIn K (.ref C) (.type T) = some true) (hty : typeOf (.type T) = pure (.type "type"))
    (h : ∀ s', CS b s₀ h₀ env ρ Λ s' → Q (.bool true) s') : wpAny (model prog w) A (call (.builtin "isinstance") [.ref e, .type T]) Q E s := by
  refine call_isinstance (S := fun _ R s => (K.In s.heap ∧ ExcAt s.heap e C) ∧ R (.ok (.ret (.bool true))) s) (fun prog w A R s hs' => isinstance_outer ?_ (by intro q; cases q)) ⟨⟨(S.gr G).X, x⟩, h _ S⟩
  obtain ⟨⟨X, y⟩, hq⟩ := hs'
  obtain ⟨hh, g, d, tt, os⟩ := s
  have L0 := y.type (model prog w)
  have L3 : Looks (model prog w) hh (isInstance (.ref e) (.type T)) true := L0.andThen (looks_subIn X hs)
  unfold Builtin.«isinstance.nested»
  refine wpAny_bind (L0.at ?_)
  rw [if_neg (by intro q; cases q)]
  rw [hty]
  refine wpAny_bind (wpAny_pure ?_)
  rw [if_pos (by decide)]
  k_delta "plainIsInstance"
  refine wpAny_bind (wpAny_bind (wpAny_pure (a := true) ?_))
  simp only [Bool.not_true, Bool.false_eq_true, if_false]
  refine wpAny_bind (L3.at ?_)
  simp only [if_true]
  exact wpAny_pure (wpAny_pure hq)
theorem l_addL {l l' : Addr} {xs ys : Array Value} {k k' : Nat} {Q : Value → Shared → Prop} (S : CS b s₀ h₀ env ρ Λ s) (hl : s.heap.get? l = some (lst xs k)) (hl' : s.heap.get? l' = some (lst ys k')) (hn : xs.size + ys.size ≤ 16777216)
    (h : ∀ D s', CS b s₀ h₀ env ρ ((D, lst (xs ++ ys) 0) :: Λ) s' → s.heap.get? D = none → Q (.ref D) s') : wpAny (model prog w) A (binaryOp .Add (.ref l) (.ref l')) Q E s :=
  PySem.P.add_list hl hl' (h _ _ (S.pushL _ _ rfl) (fresh_none (Nat.le_refl _))) (by rw [sizeLine_eq]; exact hn)
theorem l_countB {l : Addr} {bs : List Bool} {k : Bool} {n : Nat} {Q : Value → Shared → Prop} (S : CS b s₀ h₀ env ρ Λ s) (hl : s.heap.get? l = some (lst (boolsV bs).toArray n)) (h : ∀ t s', CS b s₀ h₀ env ρ Λ s' → Q (.int (bs.count k : Nat) t) s') :
    wpAny (model prog w) A (call (.builtin "list.count") [.ref l, .bool k]) Q E s := by
  refine PyProof.Rows.count_list_bools ⟨_, hl, rfl, _, rfl⟩ (readsAll_bools (h := s.heap) bs) (all_bools bs) ?_
  rw [count_bools]
  exact h _ _ (S.tok _)
end
theorem type_list_count : typeOf (.builtin "list.count") = pure (.type "method_descriptor") := by show builtinType _ = _; rw [builtinType_eq_fast]; kernel_rfl
end Fl

namespace Fl
open PySem PySem.W PySem.Calls PyProof.Rows

theorem hasB_in {rows : List Str} {wd : Nat} {p : Int} (h : hasB rows wd p = true) : 0 ≤ p ∧ p < rows.length * wd := by
  simp [hasB, inB] at h
  exact h.1
def shadeN (wd : Nat) (p : Int) : Int := if wd = 0 then 0 else (p / wd + p % wd) % 2
/-- the candidates beside a cell, and what Floor.beside gathers of them -/
def nearL (wd : Nat) (p : Int) : List Int := [p - wd, p - 1, p + 1, p + wd]
def gath (m : Int → Bool) (xs : List Int) : List Int := xs.foldl (fun acc y => if y ∉ acc ∧ m y = true then acc ++ [y] else acc) []
theorem gath_snoc (m : Int → Bool) (xs : List Int) (y : Int) : gath m (xs ++ [y]) = if y ∉ gath m xs ∧ m y = true then gath m xs ++ [y] else gath m xs := by
  unfold gath; rw [List.foldl_append]; rfl
def besideL (rows : List Str) (wd : Nat) (p : Int) : List Int := gath (mayB rows wd p) (nearL wd p)
def lnearL (wd : Nat) (p : Int) : List Int := if wd > 1 then nearL wd p else [p - 1, p + 1]
theorem beside_eq {rows : List Str} {wd : Nat} (g : Grid rows wd) {p : Int} (h : hasB rows wd p = true) : besideL rows wd p = (lnearL wd p).filter (mayL rows wd p) := by
  obtain ⟨h0, h1⟩ := hasB_in h
  obtain ⟨hw, _⟩ := g.at_ h0 h1
  have hm : mayL rows wd p = mayB rows wd p := funext fun c => (may_eq g p c).symm
  rw [hm]
  unfold besideL gath lnearL nearL
  by_cases h2 : wd > 1
  · rw [if_pos h2]
    have n1 : ¬ (p - 1 = p - (wd : Int)) := by omega
    have n2 : ¬ (p + 1 = p - (wd : Int)) := by omega
    have n3 : ¬ (p + 1 = p - 1) := by omega
    have n4 : ¬ (p + (wd : Int) = p - (wd : Int)) := by omega
    have n5 : ¬ (p + (wd : Int) = p - 1) := by omega
    have n6 : ¬ (p + (wd : Int) = p + 1) := by omega
    simp only [List.foldl_cons, List.foldl_nil, List.filter_cons, List.filter_nil]
    generalize mayB rows wd p (p - wd) = b1
    generalize mayB rows wd p (p - 1) = b2
    generalize mayB rows wd p (p + 1) = b3
    generalize mayB rows wd p (p + wd) = b4
    generalize p - (wd : Int) = x1 at *
    generalize p + (wd : Int) = x4 at *
    generalize p - 1 = x2 at *
    generalize p + 1 = x3 at *
    cases b1 <;> cases b2 <;> cases b3 <;> cases b4 <;> simp [n1, n2, n3, n4, n5, n6]
  · have e : wd = 1 := by omega
    subst e
    rw [if_neg (by omega)]
    simp only [List.foldl_cons, List.foldl_nil, List.filter_cons, List.filter_nil, Int.natCast_one]
    have n3 : ¬ (p + 1 = p - 1) := by omega
    generalize mayB rows 1 p (p - 1) = b2
    generalize mayB rows 1 p (p + 1) = b3
    generalize p - 1 = x2 at *
    generalize p + 1 = x3 at *
    cases b2 <;> cases b3 <;> simp [n3]
theorem mayB_symm (rows : List Str) (wd : Nat) (a c : Int) : mayB rows wd a c = mayB rows wd c a := by
  rw [mayB, mayB, Int.max_comm, Int.min_comm, Bool.and_comm (hasB rows wd c)]
theorem mayB_has {rows : List Str} {wd : Nat} {a c : Int} (h : mayB rows wd a c = true) : hasB rows wd a = true ∧ hasB rows wd c = true := by
  unfold mayB at h
  simp only [Bool.and_eq_true] at h
  exact h.1
/-- two places of a slab are one apart, or a row -/
theorem mayB_near {rows : List Str} {wd : Nat} {a c : Int} (h : mayB rows wd a c = true) : (max a c - min a c = 1 ∧ min a c / wd = max a c / wd) ∨ max a c - min a c = wd := by
  unfold mayB at h
  simp only [Bool.and_eq_true] at h
  obtain ⟨_, h⟩ := h
  split at h
  · rename_i q; exact .inl q
  · split at h
    · rename_i q; exact .inr q
    · cases h
theorem mem_gath {m : Int → Bool} {c : Int} : ∀ (xs : List Int), c ∈ gath m xs ↔ (c ∈ xs ∧ m c = true) := by
  intro xs
  suffices h : ∀ (acc : List Int), c ∈ xs.foldl (fun acc y => if y ∉ acc ∧ m y = true then acc ++ [y] else acc) acc ↔ c ∈ acc ∨ (c ∈ xs ∧ m c = true) by
    have := h []; simpa [gath] using this
  induction xs with
  | nil => intro acc; simp
  | cons x r ih =>
    intro acc
    rw [List.foldl_cons, ih]
    by_cases q : x ∉ acc ∧ m x = true
    · rw [if_pos q]
      constructor
      · rintro (h | h)
        · rcases List.mem_append.mp h with h | h
          · exact .inl h
          · rw [List.mem_singleton] at h; subst h; exact .inr ⟨List.mem_cons_self .., q.2⟩
        · exact .inr ⟨List.mem_cons_of_mem _ h.1, h.2⟩
      · rintro (h | ⟨h, h2⟩)
        · exact .inl (List.mem_append.mpr (.inl h))
        · rcases List.mem_cons.mp h with rfl | h
          · exact .inl (List.mem_append.mpr (.inr (List.mem_singleton.mpr rfl)))
          · exact .inr ⟨h, h2⟩
    · rw [if_neg q]
      constructor
      · rintro (h | h)
        · exact .inl h
        · exact .inr ⟨List.mem_cons_of_mem _ h.1, h.2⟩
      · rintro (h | ⟨h, h2⟩)
        · exact .inl h
        · rcases List.mem_cons.mp h with rfl | h
          · refine .inl ?_
            by_cases z : c ∈ acc
            · exact z
            · exact absurd ⟨z, h2⟩ q
          · exact .inr ⟨h, h2⟩
theorem mem_beside {rows : List Str} {wd : Nat} {a c : Int} : c ∈ besideL rows wd a ↔ mayB rows wd a c = true := by
  unfold besideL
  rw [mem_gath]
  refine ⟨fun h => h.2, fun h => ⟨?_, h⟩⟩
  have := mayB_near h
  unfold nearL
  simp only [List.mem_cons, List.mem_nil_iff, or_false]
  rcases Int.le_total a c with q | q
  · rw [Int.max_eq_right q, Int.min_eq_left q] at this; omega
  · rw [Int.max_eq_left q, Int.min_eq_right q] at this; omega
theorem beside_symm {rows : List Str} {wd : Nat} {a c : Int} : c ∈ besideL rows wd a ↔ a ∈ besideL rows wd c := by rw [mem_beside, mem_beside, mayB_symm]
theorem gath_len (m : Int → Bool) (xs : List Int) : (gath m xs).length ≤ xs.length := by
  suffices h : ∀ (acc : List Int), (xs.foldl (fun acc y => if y ∉ acc ∧ m y = true then acc ++ [y] else acc) acc).length ≤ acc.length + xs.length by
    have := h []; simpa [gath] using this
  induction xs with
  | nil => intro acc; simp
  | cons x r ih =>
    intro acc
    rw [List.foldl_cons]
    refine Nat.le_trans (ih _) ?_
    split
    · simp <;> omega
    · simp <;> omega
theorem beside_len (rows : List Str) (wd : Nat) (p : Int) : (besideL rows wd p).length ≤ 4 := gath_len _ _
theorem shade_ne {rows : List Str} {wd : Nat} (g : Grid rows wd) {a c : Int} (h : mayB rows wd a c = true) : shadeN wd a ≠ shadeN wd c := by
  have h1 := hasB_in (mayB_has h).1
  have h2 := hasB_in (mayB_has h).2
  obtain ⟨hw, _⟩ := g.at_ h1.1 h1.2
  have hw2 := g.wide
  have n := mayB_near h
  unfold shadeN
  rw [if_neg (by omega), if_neg (by omega)]
  have key : ∀ x y : Int, ((y - x = 1 ∧ x / wd = y / wd) ∨ y - x = wd) → (x / wd + x % wd) % 2 ≠ (y / wd + y % wd) % 2 := by
    intro x y h
    rcases h with ⟨h1, h2⟩ | h
    · have e1 := Int.emod_add_mul_ediv x wd
      have e2 := Int.emod_add_mul_ediv y wd
      rw [h2] at e1 ⊢
      omega
    · obtain ⟨h1, h2⟩ := (div_step (by omega)).mp h
      omega
  rcases Int.le_total a c with q | q
  · rw [Int.max_eq_right q, Int.min_eq_left q] at n
    exact key a c n
  · rw [Int.max_eq_left q, Int.min_eq_right q] at n
    exact fun e => key c a n e.symm

theorem Stk.nil {A : Around} {B h : Heap} (hf : A.frames = some []) (k : Sub B h) : Stk A B [] h := ⟨hf, trivial, k⟩

/-- all that stands is of B, or of the list -/
structure Cov (B : Heap) (Λ : List (Addr × Obj)) (h : Heap) : Prop where
  sub : Sub B h
  led : ∀ p ∈ Λ, h.get? p.1 = some p.2 ∧ B.get? p.1 = none
  nd : (Λ.map (·.1)).Nodup
  nf : ∀ p ∈ Λ, ∀ vs, p.2.data ≠ .fields vs
  all : ∀ b o, h.get? b = some o → B.get? b = some o ∨ (b, o) ∈ Λ
/-- behind a call that has caught an exception: B stands, the rest but for its slots -/
structure Land (B : Heap) (s s' : Shared) : Prop where
  same : ∃ h tk, s' = { s with heap := h, toks := tk }
  sub : Sub B s'.heap
  up : s.heap.UpToSlots s'.heap
theorem Land.of_keeps {B : Heap} {s s' : Shared} (hB : Sub B s.heap) (k : Keeps s s') : Land B s s' := by
  obtain ⟨h', tk, rfl, hk⟩ := k
  exact ⟨⟨h', tk, rfl⟩, hB.trans hk, Heap.UpToSlots.of_keeps hk⟩
theorem Slk.mem {Λ Λ' : List (Addr × Obj)} (x : Slk Λ Λ') {a : Addr} {o : Obj} (h : (a, o) ∈ Λ) : ∃ sl, (a, { o with slots := sl }) ∈ Λ' := by
  induction x with
  | nil => cases h
  | cons _ ih =>
    rcases List.mem_cons.mp h with e | h
    · cases e; exact ⟨_, List.mem_cons_self ..⟩
    · obtain ⟨sl, q⟩ := ih h; exact ⟨sl, List.mem_cons_of_mem _ q⟩
theorem led_of {h : Heap} : ∀ as : List Addr, (∀ a ∈ as, ∃ o, h.get? a = some o) → ∃ Λ : List (Addr × Obj), (Λ.map (·.1)).Nodup ∧ (∀ p ∈ Λ, h.get? p.1 = some p.2 ∧ p.1 ∈ as) ∧ ∀ a ∈ as, ∃ o, (a, o) ∈ Λ
  | [], _ => ⟨[], List.nodup_nil, (fun _ h => nomatch h), (fun _ h => nomatch h)⟩
  | a :: r, k => by
    obtain ⟨Λ, h1, h2, h3⟩ := led_of r fun b hb => k b (List.mem_cons_of_mem _ hb)
    by_cases q : a ∈ r
    · refine ⟨Λ, h1, fun p hp => ⟨(h2 p hp).1, List.mem_cons_of_mem _ (h2 p hp).2⟩, fun b hb => ?_⟩
      rcases List.mem_cons.mp hb with rfl | hb
      · exact h3 _ q
      · exact h3 b hb
    · obtain ⟨o, e⟩ := k a (List.mem_cons_self ..)
      refine ⟨(a, o) :: Λ, ?_, fun p hp => ?_, fun b hb => ?_⟩
      · rw [List.map_cons, List.nodup_cons]
        refine ⟨fun z => q ?_, h1⟩
        obtain ⟨p, hp, e'⟩ := List.mem_map.mp z
        have e2 : p.1 = a := e'
        rw [← e2]; exact (h2 p hp).2
      · rcases List.mem_cons.mp hp with rfl | hp
        · exact ⟨e, List.mem_cons_self ..⟩
        · exact ⟨(h2 p hp).1, List.mem_cons_of_mem _ (h2 p hp).2⟩
      · rcases List.mem_cons.mp hb with rfl | hb
        · exact ⟨o, List.mem_cons_self ..⟩
        · obtain ⟨o', z⟩ := h3 b hb; exact ⟨o', List.mem_cons_of_mem _ z⟩
section
variable {M : Model} {prog : Program} {w : World} {A : Around} {E : Value → Shared → Prop} {s s' s₀ : Shared} {h₀ B : Heap} {env : Env} {ρ : Rho} {Λ Λ₀ Λ' Λ₂ : List (Addr × Obj)} {outer : List Env} {e C : Addr} {K : Frag}
/-- what stands around a call that may catch: all but the frame's own stays -/
theorem CS.cov (S : CS true s₀ h₀ env ρ Λ s) (hd : ∀ p ∈ Λ, ∀ vs, p.2.data ≠ .fields vs) : ∃ B Λ₀, Sub h₀ B ∧ CS true s₀ B env ρ Λ s ∧ Cov B Λ₀ s.heap := by
  obtain ⟨B, k1, S1, k3⟩ := S.wide
  have hmem : ∀ a, CS.own env Λ a ↔ a ∈ env.locals :: (env.cells.filterMap (fun p => env.cells.lookup p.1) ++ Λ.map (·.1)) := fun a => by
    unfold CS.own
    rw [List.mem_cons, List.mem_append]
    refine or_congr Iff.rfl (or_congr ?_ Iff.rfl)
    rw [List.mem_filterMap]
    exact ⟨fun ⟨n, q⟩ => ⟨(n, a), mem_of_lookup q, q⟩, fun ⟨p, _, q⟩ => ⟨p.1, q⟩⟩
  obtain ⟨Λ₀, h1, h2, h3⟩ := led_of (h := s.heap) _ fun a ha => S.own_at ((hmem a).mpr ha)
  refine ⟨B, Λ₀, k1, S1, S1.base, fun p hp => ⟨(h2 p hp).1, S1.own_no ((hmem _).mpr (h2 p hp).2)⟩, h1, fun p hp vs z => ?_, fun b o q => ?_⟩
  · have ha := (h2 p hp).1
    rcases (hmem _).mpr (h2 p hp).2 with q | ⟨n, q⟩ | q
    · obtain ⟨m, ⟨o, es, ep, a, b, _⟩, _⟩ := S.ns
      rw [q, a] at ha
      cases ha; rw [b] at z; cases z
    · obtain ⟨⟨v, o, a, b⟩, _⟩ := S.cells n _ q
      rw [a] at ha; cases ha
      rw [b] at z; cases z
    · obtain ⟨p', hp', e'⟩ := List.mem_map.mp q
      have := (S.led p' hp').1
      rw [e', ha] at this
      have e2 := Option.some.inj this
      rw [e2] at z
      exact hd p' hp' vs z
  · by_cases z : CS.own env Λ b
    · right
      obtain ⟨o', q'⟩ := h3 b ((hmem b).mp z)
      have := (h2 _ q').1
      rw [q] at this; cases this
      exact q'
    · exact .inl (k3 b o q z)
theorem Cov.land (c : Cov B Λ₀ s.heap) (x : Slk Λ₀ Λ') (hm : ∀ p ∈ Λ', p ∈ Λ₂) (S : CS true s h₀ env ρ Λ₂ s') (k : Sub B h₀) : Land B s s' := by
  refine ⟨S.same, k.trans S.base, fun b o q nf => ?_⟩
  rcases c.all b o q with z | z
  · exact ⟨o.slots, S.base _ _ (k _ _ z)⟩
  · obtain ⟨sl, z'⟩ := x.mem z
    exact ⟨sl, S.atLed (hm _ z')⟩
theorem CS.land (S : CS true s₀ B env ρ Λ s) (hd : ∀ p ∈ Λ, ∀ vs, p.2.data ≠ .fields vs) (l : Land B s s') : ∃ Λ', Slk Λ Λ' ∧ CS true s₀ B env ρ Λ' s' := S.fly hd l.same l.sub l.up
theorem Land.keeps_trans {s₁ s₂ : Shared} (l : Land B s s₁) (k : Keeps s₁ s₂) : Land B s s₂ := by
  obtain ⟨h1, t1, rfl⟩ := l.same
  obtain ⟨h2, t2, rfl, hk⟩ := k
  exact ⟨⟨h2, t2, rfl⟩, l.sub.trans hk, l.up.trans (Heap.UpToSlots.of_keeps hk)⟩

/-- behind a suite that is tried -/
def ElseQ (M : Model) (A : Around) (env : Env) (E : Value → Shared → Prop) (orelse : List Stmt) (Q : Flow → Shared → Prop) (f : Flow) (s' : Shared) : Prop := match f with | .next => wpAny M A (execs orelse env) Q E s' | f => Q f s'
/-- an exception out of a suite that is tried -/
def TryE (M : Model) (A : Around) (env : Env) (hs : List ExceptHandler) (Q : Flow → Shared → Prop) (E : Value → Shared → Prop) (e : Value) (s₁ : Shared) : Prop :=
  wpAny M A (noteFrame e env) (fun _ s₂ => wpAny M A (setFlight e none) (fun _ s₃ => wpAny M A (handleBy e env hs) Q E s₃) E s₂) E s₁
theorem else_next {orelse : List Stmt} {Q : Flow → Shared → Prop} (h : wpAny M A (execs orelse env) Q E s) : ElseQ M A env E orelse Q .next s := h
theorem else_ret {orelse : List Stmt} {Q : Flow → Shared → Prop} {v : Value} (h : Q (.ret v) s) : ElseQ M A env E orelse Q (.ret v) s := h
theorem x_try {body orelse rest : List Stmt} {h₁ : ExceptHandler} {hs : List ExceptHandler} {pos : Pos} {Q : Flow → Shared → Prop}
    (h : wpAny (model prog w) A (execs body env) (ElseQ (model prog w) A env E orelse (SeqQ (model prog w) A env E rest Q)) (TryE (model prog w) A env (h₁ :: hs) (SeqQ (model prog w) A env E rest Q) E) s) :
    wpAny (model prog w) A (execs (.Try body (h₁ :: hs) orelse [] pos :: rest) env) Q E s :=
  wpAny_execs_cons (wpAny_Try_except (wpAny_mono h (fun f s₁ q => by cases f <;> exact q) fun _ _ q => q))
theorem ints_arr {vs : List Value} {ns : List Int} {i : Nat} {v : Value} (hv : vs.toArray[i]? = some v) (hi : IntsAre vs ns) : ∃ n t, v = .int n t ∧ ns[i]? = some n := hi.at i v (by simpa using hv)
theorem CS.one {p q : Addr × Obj} (S : CS true s₀ h₀ env ρ (p :: q :: Λ) s) : CS true s₀ h₀ env ρ (p :: Λ) s := by
  have := S.lnd
  rw [List.map_cons, List.map_cons, List.nodup_cons, List.nodup_cons] at this
  refine S.forget (fun x hx => ?_) ?_
  · rcases List.mem_cons.mp hx with rfl | hx
    · exact List.mem_cons_self ..
    · exact List.mem_cons_of_mem _ (List.mem_cons_of_mem _ hx)
  · rw [List.map_cons, List.nodup_cons]
    exact ⟨fun z => this.1 (List.mem_cons_of_mem _ z), this.2.2⟩
theorem Slk.nf {Λ Λ' : List (Addr × Obj)} (x : Slk Λ Λ') (hd : ∀ p ∈ Λ, ∀ vs, p.2.data ≠ .fields vs) : ∀ p ∈ Λ', ∀ vs, p.2.data ≠ .fields vs := by
  induction x with
  | nil => exact fun _ h => nomatch h
  | cons _ ih =>
    intro p hp
    rcases List.mem_cons.mp hp with rfl | hp
    · exact fun vs z => hd (_, _) (List.mem_cons_self ..) vs z
    · exact ih (fun q hq => hd q (List.mem_cons_of_mem _ hq)) p hp
theorem o_pow {b : Bool} {x y : Int} {t u : Tok} {Q : Value → Shared → Prop} (S : CS b s₀ h₀ env ρ Λ s) (hc0 : y ≥ 0) (hc1 : ¬(y == 0) = true) (hc2 : ¬(x == 0 || x == 1) = true) (hc3 : ¬(x == -1) = true) (hc4 : ¬Builtin.Int.intTooBig (((Builtin.Int.intBits x : Nat) : Int) * y) = true)
    (h : ∀ t s', CS b s₀ h₀ env ρ Λ s' → Q (.int (x ^ y.toNat) t) s') : wpAny (model prog w) A (binaryOp .Pow (.int x t) (.int y u)) Q E s := PySem.AutoIntOps.pow_4 hc0 hc1 hc2 hc3 hc4 (h _ _ (S.tok _))
end
end Fl

namespace Fl
open PySem PySem.W PySem.Calls PyProof.Rows

theorem Stk.under {A : Around} {B h : Heap} {outer : List Env} {id : String} {a : Args} (k : Stk A B outer h) : Stk (A.under (.builtin id a)) B outer h := ⟨k.frames, k.funs, k.stays⟩

section
variable {prog : Program} {w : World} {A : Around} {E : Value → Shared → Prop} {s s₀ : Shared} {h₀ : Heap} {env : Env} {ρ ρ' : Rho} {Λ Λ' : List (Addr × Obj)} {b : Bool} {K : Frag}

/-- an iterator just made, whose objects stand throughout -/
def ItX (prog : Program) (w : World) (A : Around) (s₀ : Shared) (h₀ : Heap) (env : Env) (ρ : Rho) (Λ : List (Addr × Obj)) (n : Nat) (P : Nat → Value → Prop) (it : Value) (s : Shared) : Prop :=
  ∃ I fp wr St, it = .ref I ∧ Walks prog w A I fp wr n P St ∧ St 0 s.heap ∧ (∀ a ∈ wr, h₀.get? a = none) ∧ (∀ a ∈ fp, ¬ CS.own env Λ a) ∧ (∀ i h, St i h → ∀ a ∈ fp, ∃ o, h.get? a = some o) ∧ CS true s₀ h₀ env ρ Λ s
theorem itx_list {l : Addr} {ys : Array Value} {o : Obj} {Q : Value → Shared → Prop} (S : CS true s₀ h₀ env ρ Λ s) (hh : A.handled = none) (ho : h₀.get? l = some o) (hl : o.cls = .type "list") (hd : ∃ n, o.data = .seq ys n)
    (h : ∀ it s', ItX prog w A s₀ h₀ env ρ Λ ys.size (fun i v => ys[i]? = some v) it s' → Q it s') : wpAny (model prog w) A (pyIter (.ref l)) Q E s := by
  have hL : s.heap.IsList l ys := ⟨o, S.atBase ho, hl, hd⟩
  have hlt : l < s.heap.objs.size := Heap.lt_size (S.atBase ho)
  refine wpAny_pyIter_list hL (h _ _ ⟨s.heap.objs.size, _, _, _, rfl, Walks.list hh _ l (Nat.ne_of_lt hlt) ys, ⟨⟨_, Heap.get?_push_size _ rfl, rfl, rfl⟩, hL.at fun o e => Heap.get?_push_of_some _ e⟩, ?_, ?_, ?_, S.pushK _ _⟩)
  · intro a ha
    rw [List.mem_singleton.mp ha]
    exact S.base.none (fresh_none (Nat.le_refl _))
  · intro a ha ho'
    rcases List.mem_cons.mp ha with rfl | ha
    · obtain ⟨o', q⟩ := S.own_at ho'
      exact absurd (Heap.lt_size q) (Nat.lt_irrefl _)
    · rw [List.mem_singleton.mp ha] at ho'
      rw [S.own_no ho'] at ho; cases ho
  · rintro i h' ⟨⟨o1, e1, _⟩, ⟨o2, e2, _⟩⟩ a ha
    rcases List.mem_cons.mp ha with rfl | ha
    · exact ⟨o1, e1⟩
    · rw [List.mem_singleton.mp ha]; exact ⟨o2, e2⟩
theorem itx_range {r : Addr} {n : Int} {t u v : Tok} {Q : Value → Shared → Prop} (S : CS true s₀ h₀ env ρ Λ s) (hh : A.handled = none) (hr : IsRange s.heap r 0 n 1 t u v) (hn : n < 2 ^ 62) (hn' : -(2 ^ 62) ≤ n)
    (h : ∀ it s', ItX prog w A s₀ h₀ env ρ Λ n.toNat (fun i v => ∃ t, v = .int (i : Int) t) it s' → Q it s') : wpAny (model prog w) A (pyIter (.ref r)) Q E s := by
  have hsm : Builtin.Range.small 0 n 1 = true := small_one (by decide) (by decide) hn' hn
  refine wpAny_pyIter_range hr hsm (h _ _ ⟨s.heap.objs.size, [s.heap.objs.size], [s.heap.objs.size], (fun i h => IsRangeIter h s.heap.objs.size (0 + (i : Nat) * 1) ((n.toNat : Int) - (i : Nat)) 1), rfl, ?W, ?st, ?_, ?_, ?_, S.pushK _ _⟩)
  case W =>
    have := Walks.range (prog := prog) (w := w) hh s.heap.objs.size 0 1 n.toNat
    exact ⟨this.sub, this.frame, fun i s Q E hi st hQ => this.item i s Q E hi st fun v h' tk hP => hQ v h' tk (by obtain ⟨t, e⟩ := hP; exact ⟨t, by rw [e]; congr 1; omega⟩), this.done, this.self⟩
  case st =>
    show IsRangeIter _ _ _ _ _
    have e := range_size (n := n)
    rw [e]
    have : (0 : Int) + ((0 : Nat) : Int) * 1 = 0 := by omega
    rw [this]
    have : ((n.toNat : Nat) : Int) - ((0 : Nat) : Int) = ((n.toNat : Nat) : Int) := by omega
    rw [this]
    exact Heap.get?_push_size _ rfl
  · intro a ha
    rw [List.mem_singleton.mp ha]
    exact S.base.none (fresh_none (Nat.le_refl _))
  · intro a ha ho'
    rw [List.mem_singleton.mp ha] at ho'
    obtain ⟨o', q⟩ := S.own_at ho'
    exact absurd (Heap.lt_size q) (Nat.lt_irrefl _)
  · intro i h' e a ha
    rw [List.mem_singleton.mp ha]
    exact ⟨_, e⟩
/-- a for loop between whose turns the changed objects may become others -/
theorem loop_itx {body : List Stmt} {x : Str} {px : Pos} {n : Nat} {P : Nat → Value → Prop} {it : Value} {Q : Flow → Shared → Prop} (J : Nat → Rho → List (Addr × Obj) → Prop) (I : ItX prog w A s₀ h₀ env ρ Λ n P it s) (hJ : J 0 ρ Λ)
    (turn : ∀ i v ρ₁ Λ₁, i < n → P i v → J i ρ₁ Λ₁ → ∃ ρ₂, Put x v ρ₁ ρ₂ ∧ ∀ h₁ s₁, Sub h₀ h₁ → CS true s₀ h₁ env ρ₂ Λ₁ s₁ → ∀ Q' : Flow → Shared → Prop,
      (∀ h' ρ' Λ' s₂, Sub h₁ h' → CS true s₀ h' env ρ' Λ' s₂ → J (i + 1) ρ' Λ' → Q' .next s₂) → (∀ v s₂, Q (.ret v) s₂ → Q' (.ret v) s₂) → wpAny (model prog w) A (execs body env) Q' (NoteE (model prog w) A env E) s₁)
    (done : ∀ ρ' Λ' s', J n ρ' Λ' → CS true s₀ h₀ env ρ' Λ' s' → Q .next s') :
    codeAny (model prog w) A (.forLoop (.Name x px) it body [] env) (fun r s' => match r with | .ok f => Q f s' | .error e => cameBackBy (model prog w) A env E e s') s := by
  obtain ⟨I, fp, wr, St, rfl, W, hst, hwr, hfp, hex, S⟩ := I
  refine codeAny_forLoop_any (fun k s' => ∃ i ρ' Λ', k = n - i ∧ i ≤ n ∧ J i ρ' Λ' ∧ CS true s₀ h₀ env ρ' Λ' s' ∧ St i s'.heap ∧ ∀ a ∈ fp, ¬ CS.own env Λ' a) ?_ n ⟨0, ρ, Λ, rfl, Nat.zero_le _, hJ, S, hst, hfp⟩
  rintro k s' ⟨i, ρ', Λ', rfl, hi, hJ', S', st', off⟩
  have off2 : ∀ a ∈ wr, ¬ CS.own env Λ' a := fun a ha => off a (W.sub a ha)
  by_cases hlt : i < n
  · refine W.item i s' _ _ hlt st' fun v h' tk hP st₁ hk => ?_
    have S₁ : CS true s₀ h₀ env ρ' Λ' { s' with heap := h', toks := tk } := S'.but hk hwr off2
    obtain ⟨h₁, k1, S₂, k3⟩ := S₁.wide
    obtain ⟨ρ₂, hput, hbody⟩ := turn i v ρ' Λ' hlt hP hJ'
    refine wpAny_of_eq (rfl : letOwnedTupleGo (.Name x px) (.ref I) v = pure ()) (wpAny_assign_Name (S₂.put hput fun s₁ S₃ => ?_))
    have nx : ∀ s₂, (∃ h' ρ' Λ', Sub h₁ h' ∧ CS true s₀ h' env ρ' Λ' s₂ ∧ J (i + 1) ρ' Λ') → ∃ m, m < n - i ∧ ∃ i ρ' Λ', m = n - i ∧ i ≤ n ∧ J i ρ' Λ' ∧ CS true s₀ h₀ env ρ' Λ' s₂ ∧ St i s₂.heap ∧ ∀ a ∈ fp, ¬ CS.own env Λ' a := by
      rintro s₂ ⟨h2, ρ3, Λ3, k4, S4, hJ4⟩
      refine ⟨n - (i + 1), by omega, i + 1, ρ3, Λ3, rfl, hlt, hJ4, S4.drop (k1.trans k4), W.frame _ _ _ st₁ fun a ha o e => ?_, fun a ha q => ?_⟩
      · exact S4.base _ _ (k4 _ _ (k3 a o e (off a ha)))
      · obtain ⟨o, e⟩ := hex _ _ st₁ a ha
        have := k4 _ _ (k3 a o e (off a ha))
        rw [S4.own_no q] at this; cases this
    exact hbody h₁ s₁ k1 S₃ _ (fun h' ρ' Λ' s₂ a b c => nx s₂ ⟨h', ρ', Λ', a, b, c⟩) fun v s₂ z => z
  · have hin : i = n := by omega
    subst hin
    refine W.done s' _ _ st' fun h' tk hk => ?_
    exact wpAny_execs_nil (done _ _ _ hJ' (S'.but hk hwr off2))

-- slices
def SliceQ (prog : Program) (w : World) (A : Around) (E : Value → Shared → Prop) (o l u : Value) (Q : Value → Shared → Prop) (s₃ : Shared) : Prop :=
  ItemOn (model prog w) A E o (.ref s₃.heap.objs.size) Q { s₃ with heap := s₃.heap.push { cls := .type "slice", data := .fields #[l, u, .none] } }
theorem sl_ {value : Expr} {lower upper : Option Expr} {p pos : Pos} {Q : Value → Shared → Prop}
    (h : wpAny (model prog w) A (eval value env) (fun o s₁ => wpAny (model prog w) A (evalPart lower env) (fun l s₂ => wpAny (model prog w) A (evalPart upper env) (fun u s₃ => SliceQ prog w A E o l u Q s₃) E s₂) E s₁) E s)
    (ht : ∀ o r, letTemporaryGo value o r = pure ()) : wpAny (model prog w) A (eval (.Subscript value (.Slice lower upper none p) pos) env) Q E s :=
  Subscript_Slice (wpAny_mono h (fun o s₁ h₁ => wpAny_Slice (wpAny_mono h₁ (fun l s₂ h₂ => wpAny_mono h₂ (fun u s₃ h₃ => by rw [evalPart_none]; exact wpAny_pure h₃) fun _ _ e => e) fun _ _ e => e)) fun _ _ e => e) ht
theorem part_none {M : Model} {Q : Value → Shared → Prop} (h : Q .none s) : wpAny M A (evalPart none env) Q E s := wpAny_pure h
theorem part_some {M : Model} {e : Expr} {Q : Value → Shared → Prop} (h : wpAny M A (eval e env) Q E s) : wpAny M A (evalPart (some e) env) Q E s := h
theorem sl_str {x : Str} {t : Tok} {l u : Value} {lo hi : Option Int} {Q : Value → Shared → Prop} (S : CS b s₀ h₀ env ρ Λ s) (pl : IsPart l lo) (pu : IsPart u hi) (hn : x.length ≤ 16777216)
    (h : ∀ t s', CS b s₀ h₀ env ρ Λ s' → Q (.str (PySem.Txt.slice x lo hi) t) s') : SliceQ prog w A E (.str x t) l u Q s := by
  have hz : (PySem.Txt.slice x lo hi).length ≤ sizeLine := Nat.le_trans (PySem.Txt.slice_le x _ _) (by rw [sizeLine_eq]; exact hn)
  refine ⟨"str", _, F.slot_str_getitem.lookup, typeIs_str _ _ _, ?_⟩
  cases pl with
  | none => cases pu with
    | none => exact wpAny_getItem_str_slice (l := none) (u := none) (st := none) ⟨_, Heap.get?_push_size _ rfl, rfl, rfl⟩ rfl (post_val_or_str ⟨hz, fun t' k => h t' _ (S.pushK _ k)⟩)
    | int j uj => exact wpAny_getItem_str_slice (l := none) (u := some (j, uj)) (st := none) ⟨_, Heap.get?_push_size _ rfl, rfl, rfl⟩ rfl (post_val_or_str ⟨hz, fun t' k => h t' _ (S.pushK _ k)⟩)
  | int i ui => cases pu with
    | none => exact wpAny_getItem_str_slice (l := some (i, ui)) (u := none) (st := none) ⟨_, Heap.get?_push_size _ rfl, rfl, rfl⟩ rfl (post_val_or_str ⟨hz, fun t' k => h t' _ (S.pushK _ k)⟩)
    | int j uj => exact wpAny_getItem_str_slice (l := some (i, ui)) (u := some (j, uj)) (st := none) ⟨_, Heap.get?_push_size _ rfl, rfl, rfl⟩ rfl (post_val_or_str ⟨hz, fun t' k => h t' _ (S.pushK _ k)⟩)
theorem sl_list {a : Addr} {items : Array Value} {k : Nat} {l u : Value} {lo hi : Option Int} {Q : Value → Shared → Prop} (S : CS b s₀ h₀ env ρ Λ s) (hl : s.heap.get? a = some (lst items k)) (pl : IsPart l lo) (pu : IsPart u hi) (hn : items.size ≤ 16777216)
    (h : ∀ D s', CS b s₀ h₀ env ρ ((D, lst (slicePick items lo hi none) 0) :: Λ) s' → s.heap.get? D = none → Q (.ref D) s') : SliceQ prog w A E (.ref a) l u Q s := by
  have hL : s.heap.IsList a items := ⟨_, hl, rfl, _, rfl⟩
  have S1 := S.pushK { cls := .type "slice", data := .fields #[l, u, .none] } s.toks
  refine ⟨"list", _, list_getitem_lookup, Heap.IsList.typeIs (s := { s with heap := s.heap.push { cls := .type "slice", data := .fields #[l, u, .none] } }) (hL.push _), wpAny_getItem_list_slice (hL.push _) (Heap.IsSliceOf.new ..) pl pu .none (by simp) (h _ _ (S1.pushL _ _ rfl) (fresh_none ?_)) (by rw [sizeLine_eq]; exact hn)⟩
  show s.heap.objs.size ≤ (s.heap.push _).objs.size
  rw [Heap.size_push]; exact Nat.le_succ _
theorem o_addS {x y : Str} {t u : Tok} {Q : Value → Shared → Prop} (S : CS b s₀ h₀ env ρ Λ s) (hn : x.length + y.length ≤ 16777216) (h : ∀ t s', CS b s₀ h₀ env ρ Λ s' → Q (.str (x ++ y) t) s') : wpAny (model prog w) A (binaryOp .Add (.str x t) (.str y u)) Q E s :=
  PyProof.Rows.add_str (fun t' k => h t' _ (S.tok k)) (by rw [sizeLine_eq]; exact hn)
end
theorem okS_iff {x : Str} : okS x ↔ ∀ c ∈ x.cps.toList, c < 0x110000 := by
  show x.cps.all (· < 0x110000) = true ↔ _
  rw [Array.all_eq_true']
  constructor
  · intro h c hc; simpa using h c (by simpa using hc)
  · intro h c hc; simpa using h c (by simpa using hc)
theorem okS_append {x y : Str} (hx : okS x) (hy : okS y) : okS (x ++ y) := by
  rw [okS_iff] at *
  intro c hc
  have : (x ++ y).cps = x.cps ++ y.cps := rfl
  rw [this, Array.toList_append] at hc
  rcases List.mem_append.mp hc with q | q
  · exact hx c q
  · exact hy c q
theorem slice_mem {x : Str} {lo hi : Option Int} {c : Nat} (h : c ∈ (PySem.Txt.slice x lo hi).cps.toList) : c ∈ x.cps.toList := by
  unfold PySem.Txt.slice at h
  split at h
  · exact h
  · simp only [List.mem_filterMap] at h
    obtain ⟨i, _, e⟩ := h
    have := Array.mem_of_getElem? e
    simpa using this
theorem okS_slice {x : Str} {lo hi : Option Int} (hx : okS x) : okS (PySem.Txt.slice x lo hi) := by
  rw [okS_iff] at *
  exact fun c hc => hx c (slice_mem hc)
theorem rep_mem {c : Nat} (a : Array Nat) : ∀ (n : Nat) (acc : Array Nat), c ∈ ((List.replicate n a).foldl (· ++ ·) acc).toList → c ∈ acc.toList ∨ c ∈ a.toList
  | 0, acc, h => .inl (by simpa using h)
  | n + 1, acc, h => by
    rw [List.replicate_succ, List.foldl_cons] at h
    rcases rep_mem a n _ h with q | q
    · rw [Array.toList_append] at q
      exact List.mem_append.mp q
    · exact .inr q
theorem rep_list (v : Value) : ∀ (n : Nat) (acc : Array Value), ((List.replicate n #[v]).foldl (fun x1 x2 => x1 ++ x2) acc).toList = acc.toList ++ List.replicate n v
  | 0, acc => by simp
  | n + 1, acc => by
    rw [List.replicate_succ, List.foldl_cons, rep_list v n, Array.toList_append, List.append_assoc]
    rfl
theorem strs_rep (x : Str) (t : Tok) : ∀ n : Nat, StrsAre (List.replicate n (.str x t)) (List.replicate n x)
  | 0 => .nil
  | n + 1 => .cons x t (strs_rep x t n)
theorem paired_eq : ∀ {vs ys : List Value}, Paired (fun v y => y = v) vs ys → ys = vs
  | _, _, .nil => rfl
  | _, _, .cons h p => by rw [h, paired_eq p]
/-- texts of a list: how many, how long, of true signs -/
def RowsOk (xs : List Str) (n m : Nat) : Prop := xs.length ≤ n ∧ ∀ x ∈ xs, x.length ≤ m ∧ okS x

section
variable {prog : Program} {w : World} {A : Around} {E : Value → Shared → Prop} {s s₀ : Shared} {h₀ : Heap} {env : Env} {ρ ρ' : Rho} {Λ Λ' : List (Addr × Obj)} {b : Bool} {K : Frag}
theorem l_mul {l : Addr} {items : Array Value} {k : Nat} {x : Int} {u : Tok} {Q : Value → Shared → Prop} (S : CS b s₀ h₀ env ρ Λ s) (hl : s.heap.get? l = some (lst items k)) (hlo : -(2 ^ 63 : Int) ≤ x) (hhi : x < 2 ^ 63) (hsz : items.size * x.toNat ≤ 2 ^ 24)
    (h : ∀ D s', CS b s₀ h₀ env ρ ((D, lst (List.foldl (fun x1 x2 => x1 ++ x2) #[] (List.replicate (if items.isEmpty = true then 0 else x.toNat) items)) 0) :: Λ) s' → s.heap.get? D = none → Q (.ref D) s') : wpAny (model prog w) A (binaryOp .Mult (.ref l) (.int x u)) Q E s := by
  refine wpAny_binaryOp_repeat_ref (T := "list") (U := "int") (by decide) ⟨_, hl, rfl⟩ (fun s' => typeIs_int s' x u) noFill_list_mul F.fills_int_mul F.slot_int_rmul repeat_list F.slot_int_index.lookup ?_
  refine call_meets F.slot_int_rmul (typeIs_int s x u) F.entry_int_rmul (F.args_int_rmul_2 _ _) (int___rmul___int_list x u l items k) ⟨hl, rfl, ⟨_, hl, rfl⟩, ?_⟩
  refine call_meets F.slot_list_mul ⟨_, hl, rfl⟩ F.entry_list_mul (F.args_list_mul_2 _ _) (AutoListH.list___mul___list_int_3 l items k x u ?_ ?_ ?_) ⟨hl, h _ _ (S.pushL _ s.toks rfl) (fresh_none (Nat.le_refl _))⟩
  · simp [Builtin.List.listFitsIndex]; omega
  · omega
  · simp [Builtin.List.listTooLong, sizeLine]; omega
theorem o_mulT {x : Str} {t u : Tok} {n : Int} {Q : Value → Shared → Prop} (S : CS b s₀ h₀ env ρ Λ s) (h0 : 0 ≤ n) (h1 : n * x.length ≤ 1000) (h2 : n ≤ 1000) (hx : okS x) (h : ∀ y t s', y.length ≤ x.length * n.toNat → okS y → CS b s₀ h₀ env ρ Λ s' → Q (.str y t) s') : wpAny (model prog w) A (binaryOp .Mult (.str x t) (.int n u)) Q E s := by
  have hm : (x.length * n.toNat : Nat) ≤ 1000 := by
    have : ((x.length * n.toNat : Nat) : Int) = n * x.length := by rw [Int.natCast_mul, Int.toNat_of_nonneg h0, Int.mul_comm]
    omega
  refine PySem.P.mul_str ?_ ?_ ?_ ?_
  · simp; omega
  · intro q _ q2
    have h3 : 1 ≤ n := by omega
    have : (x.length : Int) ≤ 1000 := by
      have : x.length ≤ x.length * n.toNat := Nat.le_mul_of_pos_right _ (by omega)
      omega
    have h4 : (2 ^ 63 - 1 : Int) / 1000 ≤ (2 ^ 63 - 1 : Int) / n := by
      apply Int.le_ediv_of_mul_le (by omega)
      have := Int.mul_le_mul_of_nonneg_left h2 (show (0:Int) ≤ (2 ^ 63 - 1 : Int) / 1000 by decide)
      omega
    omega
  · intro _ _
    show decide (_ > _) = false
    rw [decide_eq_false_iff_not]
    have : (1000 : Nat) < 2 ^ 63 - 1 := by decide
    first | omega | (rw [sizeLine_eq]; omega) | skip
  · split
    · exact ⟨by decide +kernel, h Str.empty _ _ (Nat.zero_le _) (show PyData.strOk Str.empty = true by decide +kernel) (S.tok _)⟩
    · rename_i q
      split
      · rename_i q2
        refine h x _ _ ?_ hx S
        have : n = 1 ∨ x.length = 0 := by simpa using q2
        rcases this with e | e
        · rw [e]; simp
        · rw [e]; simp
      · have e : ∀ m : Nat, (⟨List.foldl (fun x1 x2 => x1 ++ x2) #[] (List.replicate m x.cps)⟩ : Str).length = m * x.length := fun m => by
          show Array.size _ = _
          rw [rep_size]; simp [Str.length]
        refine ⟨?_, h _ s.toks { s with toks := s.toks + 1 } ?_ ?_ (S.tok _)⟩
        · show Array.size _ ≤ _
          rw [rep_size, sizeLine_eq]
          have : x.cps.size = x.length := rfl
          rw [this, Nat.mul_comm]
          simp; omega
        · show Array.size _ ≤ _
          rw [rep_size]
          have : x.cps.size = x.length := rfl
          rw [this, Nat.mul_comm]
          simp
        · rw [okS_iff] at *
          intro c hc
          rcases rep_mem _ _ _ hc with q | q
          · simp at q
          · exact hx c q
end
end Fl

namespace Fl
open PySem PySem.W PySem.Calls PyProof.Rows

/-- a dict by ints, as a list of pairs -/
abbrev Mp (α : Type) := List (Int × α)
def mget {α : Type} (m : Mp α) (k : Int) : Option α := (m.find? fun p => p.1 = k).map (·.2)
def mput {α : Type} (m : Mp α) (k : Int) (a : α) : Mp α := if m.any (fun p => p.1 = k) then m.map (fun p => if p.1 = k then (p.1, a) else p) else m ++ [(k, a)]
def mdel {α : Type} (m : Mp α) (k : Int) : Mp α := m.filter fun p => decide (p.1 ≠ k)
inductive Prs {α : Type} (Rv : α → Value → Prop) : List (Int × Value) → Mp α → Prop
  | nil : Prs Rv [] []
  | cons {k a x r m} : Rv a x → Prs Rv r m → Prs Rv ((k, x) :: r) ((k, a) :: m)
section
variable {α : Type} {Rv : α → Value → Prop} {kvs : List (Int × Value)} {m : Mp α}
theorem Prs.keys (h : Prs Rv kvs m) : kvs.map (·.1) = m.map (·.1) := by
  induction h with
  | nil => rfl
  | cons _ _ ih => simp only [List.map_cons, ih]
theorem Prs.length (h : Prs Rv kvs m) : kvs.length = m.length := by
  induction h with
  | nil => rfl
  | cons _ _ ih => simp only [List.length_cons, ih]
theorem Prs.get (h : Prs Rv kvs m) (k : Int) : (∃ x a, valueAt kvs k = some x ∧ mget m k = some a ∧ Rv a x) ∨ (valueAt kvs k = none ∧ mget m k = none) := by
  induction h with
  | nil => exact .inr ⟨rfl, rfl⟩
  | @cons k' a x r m' hx _ ih =>
    by_cases q : k' = k
    · exact .inl ⟨x, a, by simp [valueAt, q], by simp [mget, q], hx⟩
    · simpa [valueAt, mget, q] using ih
theorem Prs.isSome (h : Prs Rv kvs m) (k : Int) : (valueAt kvs k).isSome = (mget m k).isSome := by
  rcases h.get k with ⟨x, a, e1, e2, _⟩ | ⟨e1, e2⟩ <;> rw [e1, e2] <;> rfl
theorem Prs.any (h : Prs Rv kvs m) (k : Int) : (kvs.any fun p => p.1 = k) = (m.any fun p => p.1 = k) := by
  induction h with
  | nil => rfl
  | cons _ _ ih => simp only [List.any_cons, ih]
theorem Prs.append {kvs' : List (Int × Value)} {m' : Mp α} (h : Prs Rv kvs m) (h' : Prs Rv kvs' m') : Prs Rv (kvs ++ kvs') (m ++ m') := by
  induction h with
  | nil => exact h'
  | cons hx _ ih => exact .cons hx ih
theorem Prs.put (h : Prs Rv kvs m) (k : Int) {a : α} {x : Value} (hx : Rv a x) : Prs Rv (stored kvs k x) (mput m k a) := by
  unfold stored mput
  rw [h.any k]
  split
  · rename_i hq
    clear hq
    induction h with
    | nil => exact .nil
    | cons hy _ ih =>
      simp only [List.map_cons]
      split
      · exact .cons hx ih
      · exact .cons hy ih
  · exact h.append (.cons hx .nil)
theorem Prs.del (h : Prs Rv kvs m) (k : Int) : Prs Rv (PySem.without kvs k) (mdel m k) := by
  unfold PySem.without mdel
  induction h with
  | nil => exact .nil
  | @cons k' _ _ _ _ hy _ ih =>
    by_cases q : k' = k
    · simpa [List.filter_cons, q] using ih
    · simp only [List.filter_cons, ne_eq, q, not_false_eq_true, decide_true, if_true]
      exact .cons hy ih
end

/-- a dict object by ints -/
def DG (prog : Program) (w : World) {α : Type} (Rv : α → Value → Prop) (o : Obj) (m : Mp α) : Prop := ∃ kvs, o.IsDictOf (intKind prog w) kvs ∧ Prs Rv kvs m
def RInt (a : Int) (x : Value) : Prop := ∃ t, x = .int a t
theorem DG.nodup {prog : Program} {w : World} {α : Type} {Rv : α → Value → Prop} {o : Obj} {m : Mp α} (h : DG prog w Rv o m) : (m.map (·.1)).Nodup := by
  obtain ⟨kvs, ⟨_, _, _, _, _, _, nd⟩, p⟩ := h
  rw [← p.keys]; exact nd
theorem DG.nofields {prog : Program} {w : World} {α : Type} {Rv : α → Value → Prop} {o : Obj} {m : Mp α} (h : DG prog w Rv o m) : ∀ vs, o.data ≠ .fields vs := by
  obtain ⟨kvs, ⟨_, _, _, hd, _⟩, _⟩ := h
  intro vs q; rw [hd] at q; cases q
section
variable {prog : Program} {w : World} {A : Around} {E : Value → Shared → Prop} {s s₀ : Shared} {h₀ : Heap} {env : Env} {ρ ρ' : Rho} {Λ Λ' : List (Addr × Obj)} {b : Bool} {K : Frag} {α : Type} {Rv : α → Value → Prop} {m : Mp α} {d : Addr} {od : Obj} {k : Int} {tk : Tok}
theorem DG.at (h : DG prog w Rv od m) (e : s.heap.get? d = some od) : ∃ kvs, s.heap.DictOf (intKind prog w) d kvs ∧ Prs Rv kvs m := by
  obtain ⟨kvs, a, b⟩ := h
  exact ⟨kvs, Heap.dictOf_iff.mpr ⟨od, e, a⟩, b⟩
theorem d_new {pos : Pos} {Q : Value → Shared → Prop} (S : CS b s₀ h₀ env ρ Λ s) (h : ∀ D od s', (∀ (α : Type) (Rv : α → Value → Prop), DG prog w Rv od []) → CS b s₀ h₀ env ρ ((D, od) :: Λ) s' → s.heap.get? D = none → D = s.heap.objs.size → Q (.ref D) s') : wpAny (model prog w) A (eval (.Dict [] [] pos) env) Q E s := by
  refine wpAny_Dict_empty (h _ _ _ (fun α Rv => ⟨[], ?_, .nil⟩) (S.pushL _ s.toks rfl) (fresh_none (Nat.le_refl _)) rfl)
  obtain ⟨o, ho, hd⟩ := Heap.dictOf_iff.mp (Heap.DictOf.new (knd := intKind prog w) s.heap)
  rw [Heap.get?_push_size _ rfl] at ho
  cases ho
  exact hd
theorem d_in {Q : Value → Shared → Prop} (S : CS b s₀ h₀ env ρ Λ s) (e : s.heap.get? d = some od) (D : DG prog w Rv od m) (hd : (d == sysModules) = false) (h : ∀ s', CS b s₀ h₀ env ρ Λ s' → Q (.bool (mget m k).isSome) s') : wpAny (model prog w) A (compareOp .In (.int k tk) (.ref d)) Q E s := by
  obtain ⟨kvs, x, p⟩ := D.at e
  refine wpAny_in_of (knd := intKind prog w) (intKind_is ..) hd x.mapOf ?_
  rw [p.isSome]
  exact h _ (S.tok _)
theorem d_notin {Q : Value → Shared → Prop} (S : CS b s₀ h₀ env ρ Λ s) (e : s.heap.get? d = some od) (D : DG prog w Rv od m) (hd : (d == sysModules) = false) (h : ∀ s', CS b s₀ h₀ env ρ Λ s' → Q (.bool (!(mget m k).isSome)) s') : wpAny (model prog w) A (compareOp .NotIn (.int k tk) (.ref d)) Q E s := by
  obtain ⟨kvs, x, p⟩ := D.at e
  refine wpAny_notIn_of (knd := intKind prog w) (intKind_is ..) hd x.mapOf ?_
  rw [p.isSome]
  exact h _ (S.tok _)
theorem d_at {value slice : Expr} {a : α} {Q : Value → Shared → Prop} (S : CS b s₀ h₀ env ρ Λ s) (e : s.heap.get? d = some od) (D : DG prog w Rv od m) (hk : mget m k = some a)
    (hs : subscripted slice false (.ref d) (.int k tk) = operate [.ref d, .int k tk] (getItem (.ref d) (.int k tk))) (h : ∀ x s', Rv a x → CS b s₀ h₀ env ρ Λ s' → Q x s') : wpAny (model prog w) A (subscriptTail value slice (.ref d) (.int k tk)) Q E s := by
  obtain ⟨kvs, x, p⟩ := D.at e
  rcases p.get k with ⟨y, a', e1, e2, r⟩ | ⟨_, e2⟩
  · rw [hk] at e2; cases e2
    exact tail_any x.typeIs slot_dict_getitem.lookup (wpAny_getItem_of (knd := intKind prog w) (intKind_is ..) x.mapOf e1 (h y _ r (S.tok _))) hs
  · rw [hk] at e2; cases e2
theorem x_setitem {o i value : Expr} {pos' pos : Pos} {rest : List Stmt} {M : Model} {Q : Flow → Shared → Prop}
    (h : wpAny M A (eval value env) (fun v s₁ => wpAny M A (eval o env) (fun ov s₂ => wpAny M A (eval i env) (fun iv s₃ => wpAny M A (setItem ov iv v) (fun _ s₄ => wpAny M A (execs rest env) Q E s₄) E s₃) E s₂) E s₁) E s)
    (hs : swapsWith value (some (.Subscript o i pos')) pos.line env = pure false) : wpAny M A (execs (.Assign [.Subscript o i pos'] value pos :: rest) env) Q E s :=
  wpAny_execs_cons (wpAny_Assign_Subscript h hs)
theorem CS.chgD {g : Obj → List (Addr × Obj)} {h' : Heap} {tk' : Nat} (S : CS true s₀ h₀ env ρ Λ s) (U : ChgF d od Λ g) (hs : Heap.SameBut d s.heap h') {od' : Obj} (ho : h'.get? d = some od') : CS true s₀ h₀ env ρ (g od') { s with heap := h', toks := tk' } :=
  S.chg (U.to _) (fun c x hc q => hs.extBut c x hc q) ho
theorem d_set {g : Obj → List (Addr × Obj)} {a : α} {x : Value} {Q : Unit → Shared → Prop} (S : CS true s₀ h₀ env ρ Λ s) (U : ChgF d od Λ g) (D : DG prog w Rv od m) (hx : Rv a x) (hn : m.length ≤ 16777216)
    (h : ∀ od' s', DG prog w Rv od' (mput m k a) → CS true s₀ h₀ env ρ (g od') s' → Q () s') : wpAny (model prog w) A (setItem (.ref d) (.int k tk) x) Q E s := by
  obtain ⟨kvs, y, p⟩ := D.at (S.atLed (U.to od).mem)
  refine wpAny_setItem_pairs (knd := intKind prog w) (intKind_is ..) y (fun h' y' hs => ?_) (by rw [p.length, sizeLine_eq]; exact hn)
  obtain ⟨o', ho', hd'⟩ := Heap.dictOf_iff.mp y'
  exact h o' _ ⟨_, hd', p.put k hx⟩ (S.chgD U hs ho')
theorem d_pop {g : Obj → List (Addr × Obj)} {a : α} {Q : Value → Shared → Prop} (S : CS true s₀ h₀ env ρ Λ s) (U : ChgF d od Λ g) (D : DG prog w Rv od m) (hk : mget m k = some a) (hn : m.length ≤ 16777216)
    (h : ∀ x od' s', Rv a x → DG prog w Rv od' (mdel m k) → CS true s₀ h₀ env ρ (g od') s' → Q x s') : wpAny (model prog w) A (call (.builtin "dict.pop") [.ref d, .int k tk]) Q E s := by
  obtain ⟨kvs, y, p⟩ := D.at (S.atLed (U.to od).mem)
  rcases p.get k with ⟨x, a', e1, e2, r⟩ | ⟨_, e2⟩
  · rw [hk] at e2; cases e2
    refine call_meetsIn F.slot_dict_pop y.typeIs F.entry_dict_pop (F.args_dict_pop_2 _ _) (meets_dict_pop_there (intKind prog w) d (intKind_is ..) [] (.inl rfl) rfl) ⟨kvs, x, y, by rw [p.length, sizeLine_eq]; exact hn, e1, fun h' y' hs => ?_⟩
    obtain ⟨o', ho', hd'⟩ := Heap.dictOf_iff.mp y'
    exact h x o' _ r ⟨_, hd', p.del k⟩ (S.chgD U hs ho')
  · rw [hk] at e2; cases e2
theorem d_len {Q : Value → Shared → Prop} (S : CS b s₀ h₀ env ρ Λ s) (e : s.heap.get? d = some od) (D : DG prog w Rv od m) (hd : (d == sysModules) = false) (hn : m.length ≤ 16777216) (h : ∀ t s', CS b s₀ h₀ env ρ Λ s' → Q (.int m.length t) s') : wpAny (model prog w) A (call (.builtin "len") [.ref d]) Q E s := by
  obtain ⟨kvs, x, p⟩ := D.at e
  refine call_len_dict hd x (by rw [p.length]; omega) ?_
  rw [p.length]
  exact h _ _ (S.tok _)
/-- a method of a dict -/
theorem m_dict {name : Str} {id : String} {pl : Sem Bool} {Q : Value × List Value → Shared → Prop} (e : s.heap.get? d = some od) (D : DG prog w Rv od m) (slot : Slot "dict" name id) (hty : typeOf (.builtin id) = pure (.type "method_descriptor"))
    (h : Q (.builtin id, [.ref d]) s) : wpAny (model prog w) A (getMethod (.ref d) name pl) Q E s := by
  obtain ⟨kvs, x, p⟩ := D.at e
  exact getMethod_builtin x.typeIs PySem.F.plainAttrs_dict slot hty x.mapOf.noDict h
/-- dict(d) -/
theorem d_copy {Q : Value → Shared → Prop} (S : CS true s₀ h₀ env ρ Λ s) (e : s.heap.get? d = some od) (D : DG prog w Rv od m) (hd : (d == sysModules) = false) (hn : m.length ≤ 16777216)
    (h : ∀ D' od' s', DG prog w Rv od' m → CS true s₀ h₀ env ρ ((D', od') :: Λ) s' → s.heap.get? D' = none → D' = s.heap.objs.size → Q (.ref D') s') : wpAny (model prog w) A (call (.type "dict") [.ref d]) Q E s := by
  obtain ⟨kvs, x, p⟩ := D.at e
  refine kt_call_dict hd x (by rw [p.length, sizeLine_eq]; exact hn) fun h' y hs => ?_
  obtain ⟨o', ho', hd'⟩ := Heap.dictOf_iff.mp y
  refine h _ o' _ ⟨_, hd', p⟩ (S.new (wr := []) (tk := s.toks) rfl (fun c o _ q => ?_) (fun _ h => nomatch h) (fun _ h => nomatch h) (fresh_none (Nat.le_refl _)) ho') (fresh_none (Nat.le_refl _)) rfl
  exact hs.extBut c o (Nat.ne_of_lt (Heap.lt_size q)) (Heap.get?_push_of_some _ q)
end
end Fl

namespace Fl
open PySem
-- layings, and how few cells stay bare: no program here
theorem mget_append {α : Type} (m n : Mp α) (k : Int) : mget (m ++ n) k = (mget m k).or (mget n k) := by
  unfold mget
  rw [List.find?_append]
  cases m.find? (fun p => decide (p.1 = k)) <;> rfl
theorem mget_isSome {α : Type} {m : Mp α} {k : Int} : (mget m k).isSome = m.any (fun p => p.1 = k) := by
  unfold mget
  rw [Option.isSome_map, List.isSome_find?]
theorem mget_mem {α : Type} {m : Mp α} {k : Int} {a : α} (h : mget m k = some a) : (k, a) ∈ m := by
  unfold mget at h
  rw [Option.map_eq_some_iff] at h
  obtain ⟨p, hp, rfl⟩ := h
  have h1 := List.mem_of_find?_eq_some hp
  have h2 : p.1 = k := by have := List.find?_some hp; simpa using this
  rw [← h2]; exact h1
theorem mget_none_iff {α : Type} {m : Mp α} {k : Int} : mget m k = none ↔ k ∉ m.map (·.1) := by
  unfold mget
  rw [Option.map_eq_none_iff, List.find?_eq_none]
  simp only [decide_eq_true_eq, List.mem_map, not_exists, not_and]
theorem mget_of_mem {α : Type} : ∀ {m : Mp α} {k : Int} {a : α}, (m.map (·.1)).Nodup → (k, a) ∈ m → mget m k = some a
  | (k', a') :: r, k, a, nd, h => by
    rw [List.map_cons, List.nodup_cons] at nd
    rcases List.mem_cons.mp h with e | h
    · cases e; simp [mget]
    · have : k' ≠ k := fun q => nd.1 (List.mem_map.mpr ⟨(k, a), h, q.symm⟩)
      have ih := mget_of_mem nd.2 h
      unfold mget at ih ⊢
      rw [List.find?_cons]
      simp only [this, decide_false]
      exact ih
theorem mget_mput {α : Type} (m : Mp α) (k x : Int) (a : α) : mget (mput m k a) x = if x = k then some a else mget m x := by
  unfold mput
  split
  · rename_i h
    induction m with
    | nil => cases h
    | cons p r ih =>
      by_cases q : p.1 = k
      · by_cases z : x = k
        · simp [mget, q, z]
        · have zq : ¬ p.1 = x := fun e => z (e ▸ q)
          have zk : ¬ k = x := fun e => z e.symm
          by_cases hr : r.any (fun p => decide (p.1 = k)) = true
          · have := ih hr
            simp only [mget, List.map_cons, q, if_true, List.find?_cons, zk, decide_false, if_neg z] at this ⊢
            exact this
          · have : r.map (fun p => if p.1 = k then (p.1, a) else p) = r := by
              refine (List.map_congr_left (g := id) fun p hp => ?_).trans (List.map_id r)
              have : ¬ p.1 = k := fun e => hr (List.any_eq_true.mpr ⟨p, hp, decide_eq_true e⟩)
              simp [this]
            rw [List.map_cons, this]
            simp [mget, q, zk, z]
      · have hr : r.any (fun p => decide (p.1 = k)) = true := by
          rw [List.any_cons] at h
          simpa [q] using h
        have := ih hr
        by_cases z : p.1 = x
        · have : ¬ x = k := fun e => q (z.trans e)
          simp [mget, q, z, this]
        · simp only [mget, List.map_cons, q, if_false, List.find?_cons, z, decide_false] at this ⊢
          exact this
  · rename_i h
    rw [mget_append]
    have hk : mget m k = none := by
      cases e : mget m k with
      | none => rfl
      | some b => exact absurd (by rw [← mget_isSome, e]; rfl) h
    by_cases z : x = k
    · rw [if_pos z, z, hk]; simp [mget]
    · have zk : ¬ k = x := fun e => z e.symm
      rw [if_neg z]
      cases mget m x <;> simp [mget, zk]
theorem mget_mdel {α : Type} (m : Mp α) (k x : Int) : mget (mdel m k) x = if x = k then none else mget m x := by
  unfold mdel
  induction m with
  | nil => simp [mget]
  | cons p r ih =>
    by_cases q : p.1 = k
    · rw [List.filter_cons]
      simp only [ne_eq, q, not_true, decide_false, Bool.false_eq_true, if_false]
      rw [ih]
      by_cases z : x = k
      · rw [if_pos z, if_pos z]
      · rw [if_neg z, if_neg z]
        have zq : ¬ p.1 = x := fun e => z (e.symm.trans q)
        simp [mget, zq]
    · rw [List.filter_cons]
      simp only [ne_eq, q, not_false_eq_true, decide_true, if_true]
      by_cases z : p.1 = x
      · have : ¬ x = k := fun e => q (z.trans e)
        simp [mget, z, this]
      · have e1 : mget (p :: r.filter fun p => decide (p.1 ≠ k)) x = mget (r.filter fun p => decide (p.1 ≠ k)) x := by simp [mget, z]
        have e2 : mget (p :: r) x = mget r x := by simp [mget, z]
        rw [e1, e2]; exact ih
theorem mput_keys {α : Type} {m : Mp α} (nd : (m.map (·.1)).Nodup) (k : Int) (a : α) : ((mput m k a).map (·.1)).Nodup := by
  unfold mput
  split
  · have : (m.map (fun p => if p.1 = k then (p.1, a) else p)).map (·.1) = m.map (·.1) := by
      rw [List.map_map]
      apply List.map_congr_left
      intro p _
      show (if p.1 = k then (p.1, a) else p).1 = p.1
      split <;> rfl
    rw [this]; exact nd
  · rename_i h
    rw [List.map_append, List.nodup_append]
    refine ⟨nd, by simp, fun x hx y hy e => ?_⟩
    simp at hy
    subst hy; subst e
    obtain ⟨p, hp, q⟩ := List.mem_map.mp hx
    exact h (List.any_eq_true.mpr ⟨p, hp, decide_eq_true q⟩)
theorem mdel_keys {α : Type} {m : Mp α} (nd : (m.map (·.1)).Nodup) (k : Int) : ((mdel m k).map (·.1)).Nodup := by
  unfold mdel
  exact nd.sublist (List.Sublist.map _ List.filter_sublist)

/-- which two cells a slab may cover, and the shades -/
structure Gph (may : Int → Int → Bool) (sh : Int → Int) : Prop where
  symm : ∀ a c, may a c = may c a
  shade : ∀ a c, may a c = true → sh a ≠ sh c
  two : ∀ a, sh a = 0 ∨ sh a = 1
/-- a laying: every covered cell with the other cell of its slab -/
structure LayM (may : Int → Int → Bool) (m : Mp Int) : Prop where
  nd : (m.map (·.1)).Nodup
  inv : ∀ k v, mget m k = some v → mget m v = some k ∧ may k v = true
theorem LayM.nil (may : Int → Int → Bool) : LayM may [] := ⟨List.nodup_nil, fun _ _ h => by simp [mget] at h⟩
theorem Gph.ne {may : Int → Int → Bool} {sh : Int → Int} (g : Gph may sh) {a c : Int} (h : may a c = true) : a ≠ c := fun e => g.shade a c h (by rw [e])
theorem LayM.put {may : Int → Int → Bool} {sh : Int → Int} {m : Mp Int} (g : Gph may sh) (L : LayM may m) {a c : Int} (h : may a c = true) (ha : mget m a = none) (hc : mget m c = none) : LayM may (mput (mput m a c) c a) := by
  have hne := g.ne h
  refine ⟨mput_keys (mput_keys L.nd _ _) _ _, fun k v q => ?_⟩
  rw [mget_mput, mget_mput] at q
  by_cases k1 : k = c
  · rw [if_pos k1] at q
    cases q
    subst k1
    refine ⟨?_, by rw [g.symm]; exact h⟩
    rw [mget_mput, mget_mput, if_neg hne, if_pos rfl]
  · rw [if_neg k1] at q
    by_cases k2 : k = a
    · rw [if_pos k2] at q
      cases q
      subst k2
      refine ⟨?_, h⟩
      rw [mget_mput, if_pos rfl]
    · rw [if_neg k2] at q
      obtain ⟨r1, r2⟩ := L.inv k v q
      refine ⟨?_, r2⟩
      have v1 : v ≠ c := fun e => by rw [e, hc] at r1; cases r1
      have v2 : v ≠ a := fun e => by rw [e, ha] at r1; cases r1
      rw [mget_mput, mget_mput, if_neg v1, if_neg v2]; exact r1
theorem LayM.lift {may : Int → Int → Bool} {m : Mp Int} (L : LayM may m) {a c : Int} (h : mget m a = some c) : LayM may (mdel (mdel m a) c) := by
  obtain ⟨h1, _⟩ := L.inv a c h
  refine ⟨mdel_keys (mdel_keys L.nd _) _, fun k v q => ?_⟩
  rw [mget_mdel, mget_mdel] at q
  by_cases k1 : k = c
  · rw [if_pos k1] at q; cases q
  · rw [if_neg k1] at q
    by_cases k2 : k = a
    · rw [if_pos k2] at q; cases q
    · rw [if_neg k2] at q
      obtain ⟨r1, r2⟩ := L.inv k v q
      refine ⟨?_, r2⟩
      have v1 : v ≠ c := fun e => by rw [e, h1] at r1; cases r1; exact k2 rfl
      have v2 : v ≠ a := fun e => by rw [e, h] at r1; cases r1; exact k1 rfl
      rw [mget_mdel, mget_mdel, if_neg v1, if_neg v2]; exact r1

/-- the fewest bare cells, over all layings, as the law reckons -/
def few (may : Int → Int → Bool) : Nat → List Int → Int
  | 0, _ => 0
  | _ + 1, [] => 0
  | n + 1, a :: r => (r.filter (may a)).foldl (fun b c => min b (few may n (r.filter (fun x => x != c)))) (1 + few may n r)
theorem foldl_min_le {α : Type} (f : α → Int) : ∀ (xs : List α) (x : Int), xs.foldl (fun b c => min b (f c)) x ≤ x ∧ ∀ c ∈ xs, xs.foldl (fun b c => min b (f c)) x ≤ f c
  | [], x => ⟨Int.le_refl _, fun _ h => nomatch h⟩
  | y :: r, x => by
    obtain ⟨h1, h2⟩ := foldl_min_le f r (min x (f y))
    rw [List.foldl_cons]
    refine ⟨by omega, fun c hc => ?_⟩
    rcases List.mem_cons.mp hc with rfl | hc
    · omega
    · exact h2 c hc
theorem le_foldl_min {α : Type} (f : α → Int) {z : Int} : ∀ (xs : List α) (x : Int), z ≤ x → (∀ c ∈ xs, z ≤ f c) → z ≤ xs.foldl (fun b c => min b (f c)) x
  | [], x, h, _ => h
  | y :: r, x, h, h2 => by
    rw [List.foldl_cons]
    refine le_foldl_min f r _ ?_ fun c hc => h2 c (List.mem_cons_of_mem _ hc)
    have := h2 y (List.mem_cons_self ..)
    omega
def bareL (m : Mp Int) (L : List Int) : List Int := L.filter fun c => (mget m c).isNone
def wsum (w : Int → Int) (L : List Int) : Int := (L.map w).sum
theorem filter_out {w : Int → Int} {b : Int} : ∀ {r : List Int}, r.Nodup → b ∈ r → wsum w r = w b + wsum w (r.filter fun x => x != b)
  | y :: r, nd, h => by
    rw [List.nodup_cons] at nd
    by_cases q : y = b
    · subst q
      have : (y :: r).filter (fun x => x != y) = r := by
        rw [List.filter_cons]
        simp only [bne_self_eq_false, Bool.false_eq_true, if_false]
        apply List.filter_eq_self.mpr
        intro x hx
        have : x ≠ y := fun e => nd.1 (e ▸ hx)
        simpa using this
      rw [this]; simp [wsum]
    · have hb : b ∈ r := by
        rcases List.mem_cons.mp h with e | h
        · exact absurd e.symm q
        · exact h
      have ih := filter_out (w := w) nd.2 hb
      rw [List.filter_cons]
      have : (y != b) = true := by simpa using q
      rw [if_pos this]
      simp only [wsum, List.map_cons, List.sum_cons] at ih ⊢
      omega
theorem filter_len {b : Int} {r : List Int} (h : b ∈ r) : (r.filter fun x => x != b).length < r.length := by
  apply List.length_filter_lt_length_iff_exists.mpr
  exact ⟨b, h, by simp⟩
/-- no laying beats it -/
theorem few_le {may : Int → Int → Bool} {sh : Int → Int} {m : Mp Int} (g : Gph may sh) (L : LayM may m) : ∀ (n : Nat) (l : List Int), l.length ≤ n → l.Nodup → (∀ k ∈ l, ∀ v, mget m k = some v → v ∈ l) → few may n l ≤ ((bareL m l).length : Int)
  | 0, l, _, _, _ => by simp [few]
  | n + 1, [], _, _, _ => by simp [few]
  | n + 1, a :: r, hn, nd, cl => by
    rw [List.nodup_cons] at nd
    rw [List.length_cons] at hn
    obtain ⟨f1, f2⟩ := foldl_min_le (fun c => few may n (r.filter (fun x => x != c))) (r.filter (may a)) (1 + few may n r)
    unfold few
    cases e : mget m a with
    | none =>
      have ih := few_le g L n r (by omega) nd.2 fun k hk v hv => by
        rcases List.mem_cons.mp (cl k (List.mem_cons_of_mem _ hk) v hv) with q | q
        · rw [q] at hv; rw [(L.inv k a hv).1] at e; cases e
        · exact q
      have : bareL m (a :: r) = a :: bareL m r := by simp [bareL, List.filter_cons, e]
      rw [this, List.length_cons]
      omega
    | some b =>
      obtain ⟨i1, i2⟩ := L.inv a b e
      have hab := g.ne i2
      have hb : b ∈ r := by
        rcases List.mem_cons.mp (cl a (List.mem_cons_self ..) b e) with q | q
        · exact absurd q.symm hab
        · exact q
      have hlt := filter_len hb
      have ih := few_le g L n (r.filter fun x => x != b) (by omega) (nd.2.sublist List.filter_sublist) fun k hk v hv => by
        obtain ⟨k1, k2⟩ := List.mem_filter.mp hk
        have k2' : k ≠ b := by simpa using k2
        have hvr := (L.inv k v hv).1
        refine List.mem_filter.mpr ⟨?_, ?_⟩
        · rcases List.mem_cons.mp (cl k (List.mem_cons_of_mem _ k1) v hv) with q | q
          · rw [q, e] at hvr; cases hvr; exact absurd rfl k2'
          · exact q
        · have : v ≠ b := fun q => by
            rw [q, i1] at hvr; cases hvr
            exact nd.1 k1
          simpa using this
      have hle := f2 b (List.mem_filter.mpr ⟨hb, i2⟩)
      have hlen : (bareL m (a :: r)).length = (bareL m (r.filter fun x => x != b)).length := by
        have e1 : bareL m (a :: r) = bareL m r := by simp [bareL, List.filter_cons, e]
        rw [e1]
        unfold bareL
        rw [List.filter_filter]
        congr 1
        apply List.filter_congr
        intro x hx
        by_cases q : x = b
        · subst q; simp [i1]
        · have : (x != b) = true := by simpa using q
          rw [this, Bool.and_true]
      rw [hlen]
      omega
/-- light cells that no slab joins: so many more than the others stay bare at least -/
theorem le_few {may : Int → Int → Bool} {w : Int → Int} (hw : ∀ c, w c = 1 ∨ w c = -1) (hind : ∀ a c, may a c = true → ¬ (w a = 1 ∧ w c = 1)) : ∀ (n : Nat) (l : List Int), l.length ≤ n → l.Nodup → wsum w l ≤ few may n l
  | 0, l, h, _ => by
    have : l = [] := List.length_eq_zero_iff.mp (by omega)
    subst this; simp [few, wsum]
  | n + 1, [], _, _ => by simp [few, wsum]
  | n + 1, a :: r, hn, nd => by
    rw [List.nodup_cons] at nd
    rw [List.length_cons] at hn
    unfold few
    have e : wsum w (a :: r) = w a + wsum w r := by simp [wsum]
    refine le_foldl_min _ _ _ ?_ fun c hc => ?_
    · have := le_few hw hind n r (by omega) nd.2
      rcases hw a with q | q <;> omega
    · obtain ⟨c1, c2⟩ := List.mem_filter.mp hc
      have hlt := filter_len c1
      have ih := le_few hw hind n (r.filter fun x => x != c) (by omega) (nd.2.sublist List.filter_sublist)
      have e2 := filter_out (w := w) nd.2 c1
      have := hind a c c2
      rcases hw a with q | q <;> rcases hw c with z | z <;> first | omega | exact absurd ⟨q, z⟩ this
theorem bare_sum {may : Int → Int → Bool} {sh w : Int → Int} {m : Mp Int} (g : Gph may sh) (L : LayM may m) (h1 : ∀ c, mget m c = none → w c = 1 ∨ True) (hc : ∀ k v, mget m k = some v → w k + w v = 0) : ∀ (n : Nat) (l : List Int), l.length ≤ n → l.Nodup → (∀ k ∈ l, ∀ v, mget m k = some v → v ∈ l) → (∀ c ∈ l, mget m c = none → w c = 1) →
    wsum w l = ((bareL m l).length : Int)
  | 0, l, h, _, _, _ => by
    have : l = [] := List.length_eq_zero_iff.mp (by omega)
    subst this; rfl
  | n + 1, [], _, _, _, _ => rfl
  | n + 1, a :: r, hn, nd, cl, hb1 => by
    rw [List.nodup_cons] at nd
    rw [List.length_cons] at hn
    have e0 : wsum w (a :: r) = w a + wsum w r := by simp [wsum]
    cases e : mget m a with
    | none =>
      have ih := bare_sum g L h1 hc n r (by omega) nd.2 (fun k hk v hv => by
        rcases List.mem_cons.mp (cl k (List.mem_cons_of_mem _ hk) v hv) with q | q
        · rw [q] at hv; rw [(L.inv k a hv).1] at e; cases e
        · exact q) (fun c hc => hb1 c (List.mem_cons_of_mem _ hc))
      have : bareL m (a :: r) = a :: bareL m r := by simp [bareL, List.filter_cons, e]
      rw [this, List.length_cons, e0, hb1 a (List.mem_cons_self ..) e]
      omega
    | some b =>
      obtain ⟨i1, i2⟩ := L.inv a b e
      have hab := g.ne i2
      have hb : b ∈ r := by
        rcases List.mem_cons.mp (cl a (List.mem_cons_self ..) b e) with q | q
        · exact absurd q.symm hab
        · exact q
      have hlt := filter_len hb
      have ih := bare_sum g L h1 hc n (r.filter fun x => x != b) (by omega) (nd.2.sublist List.filter_sublist) (fun k hk v hv => by
        obtain ⟨k1, k2⟩ := List.mem_filter.mp hk
        have k2' : k ≠ b := by simpa using k2
        have hvr := (L.inv k v hv).1
        refine List.mem_filter.mpr ⟨?_, ?_⟩
        · rcases List.mem_cons.mp (cl k (List.mem_cons_of_mem _ k1) v hv) with q | q
          · rw [q, e] at hvr; cases hvr; exact absurd rfl k2'
          · exact q
        · have : v ≠ b := fun q => by
            rw [q, i1] at hvr; cases hvr
            exact nd.1 k1
          simpa using this) (fun c hc => hb1 c (List.mem_cons_of_mem _ (List.mem_filter.mp hc).1))
      have hlen : (bareL m (a :: r)).length = (bareL m (r.filter fun x => x != b)).length := by
        have e1 : bareL m (a :: r) = bareL m r := by simp [bareL, List.filter_cons, e]
        rw [e1]
        unfold bareL
        rw [List.filter_filter]
        congr 1
        apply List.filter_congr
        intro x hx
        by_cases q : x = b
        · subst q; simp [i1]
        · have : (x != b) = true := by simpa using q
          rw [this, Bool.and_true]
      have e2 := filter_out (w := w) nd.2 hb
      have e3 := hc a b e
      rw [hlen, e0, e2, ← ih]
      omega
/-- a laying whose reached cells hold no bare cell of the other shade: none has fewer bare cells -/
theorem fewest_of {may : Int → Int → Bool} {sh : Int → Int} {m : Mp Int} {C : List Int} {R : Int → Bool} (g : Gph may sh) (L : LayM may m) (nd : C.Nodup) (hC : ∀ k v, mget m k = some v → k ∈ C) (p1 : ∀ c ∈ C, mget m c = none → sh c = 0 → R c = true) (p2 : ∀ a b, R a = true → sh a = 0 → may a b = true → R b = true)
    (p3 : ∀ b v, mget m b = some v → R b = R v) (p4 : ∀ c ∈ C, mget m c = none → sh c = 1 → R c = false) : ((bareL m C).length : Int) = few may C.length C := by
  have cl : ∀ k ∈ C, ∀ v, mget m k = some v → v ∈ C := fun k _ v hv => hC v k (L.inv k v hv).1
  let w : Int → Int := fun c => if (decide (sh c = 0) == R c) = true then 1 else -1
  have hw : ∀ c, w c = 1 ∨ w c = -1 := fun c => by
    show (if (decide (sh c = 0) == R c) = true then (1 : Int) else -1) = 1 ∨ (if (decide (sh c = 0) == R c) = true then (1 : Int) else -1) = -1
    split
    · exact .inl rfl
    · exact .inr rfl
  have wl : ∀ c, w c = 1 → decide (sh c = 0) = R c := fun c h => by
    have h' : (if (decide (sh c = 0) == R c) = true then (1 : Int) else -1) = 1 := h
    split at h'
    · rename_i q; simpa using q
    · cases h'
  have hind : ∀ a c, may a c = true → ¬ (w a = 1 ∧ w c = 1) := by
    rintro a c hm ⟨h1, h2⟩
    have e1 := wl a h1
    have e2 := wl c h2
    have hne := g.shade a c hm
    rcases g.two a with q | q
    · rw [decide_eq_true q] at e1
      have z := p2 a c e1.symm q hm
      rw [z] at e2
      have := of_decide_eq_true e2
      omega
    · have hc0 : sh c = 0 := by rcases g.two c with z | z <;> omega
      rw [decide_eq_true hc0] at e2
      have z := p2 c a e2.symm hc0 (by rw [g.symm]; exact hm)
      rw [z] at e1
      have := of_decide_eq_true e1
      omega
  have hsum := bare_sum (w := w) g L (fun _ _ => .inr trivial) (fun k v hk => by
    have hne := g.shade k v (L.inv k v hk).2
    have hR := p3 k v hk
    show (if (decide (sh k = 0) == R k) = true then (1 : Int) else -1) + (if (decide (sh v = 0) == R v) = true then (1 : Int) else -1) = 0
    rw [← hR]
    rcases g.two k with q | q <;> rcases g.two v with z | z
    · omega
    · cases R k <;> simp [q, z]
    · cases R k <;> simp [q, z]
    · omega) C.length C (Nat.le_refl _) nd cl (fun c hc hn => by
      show (if (decide (sh c = 0) == R c) = true then (1 : Int) else -1) = 1
      rcases g.two c with q | q
      · rw [p1 c hc hn q]; simp [q]
      · rw [p4 c hc hn q]; simp [q])
  have h1 := le_few hw hind C.length C (Nat.le_refl _) nd
  have h2 := few_le g L C.length C (Nat.le_refl _) nd cl
  omega
-- what is reached, and the way back
inductive WF (may : Int → Int → Bool) (sh : Int → Int) (z : Int) (m : Mp Int) : Mp (Option Int) → Prop
  | nil : WF may sh z m []
  | root {F c} : WF may sh z m F → mget F c = none → sh c = z → mget m c = none → WF may sh z m (F ++ [(c, none)])
  | leaf {F a b} : WF may sh z m F → (mget F a).isSome = true → sh a = z → may a b = true → mget F b = none → mget m b = none → WF may sh z m (F ++ [(b, some a)])
  | pair {F a b v} : WF may sh z m F → (mget F a).isSome = true → sh a = z → may a b = true → mget F b = none → mget m b = some v → WF may sh z m (F ++ [(b, some a), (v, some b)])
section
variable {may : Int → Int → Bool} {sh : Int → Int} {z : Int} {m : Mp Int} {F : Mp (Option Int)}
theorem mget_one {α : Type} (k x : Int) (a : α) : mget [(k, a)] x = if x = k then some a else none := by
  by_cases h : x = k
  · simp [mget, h]
  · have : ¬ k = x := fun e => h e.symm
    simp [mget, h, this]
theorem mget_two {α : Type} (k k' x : Int) (a a' : α) : mget [(k, a), (k', a')] x = if x = k then some a else if x = k' then some a' else none := by
  by_cases h : x = k
  · simp [mget, h]
  · have : ¬ k = x := fun e => h e.symm
    by_cases h' : x = k'
    · subst h'; simp [mget, h, this]
    · have h2 : ¬ k' = x := fun e => h' e.symm
      simp [mget, h, this, h', h2]
/-- a covered cell is met with the other cell of its slab -/
theorem WF.mates (g : Gph may sh) (L : LayM may m) (h : WF may sh z m F) : ∀ b v, mget m b = some v → (mget F b).isSome = (mget F v).isSome := by
  induction h with
  | nil => intro b v _; rfl
  | @root F c _ hn hs hb ih =>
    intro b v hv
    have b1 : b ≠ c := fun e => by rw [e, hb] at hv; cases hv
    have v1 : v ≠ c := fun e => by have := (L.inv b v hv).1; rw [e, hb] at this; cases this
    rw [mget_append, mget_append, mget_one, mget_one, if_neg b1, if_neg v1, Option.or_none, Option.or_none]
    exact ih b v hv
  | @leaf F a c _ ha hs hm hn hb ih =>
    intro b v hv
    have b1 : b ≠ c := fun e => by rw [e, hb] at hv; cases hv
    have v1 : v ≠ c := fun e => by have := (L.inv b v hv).1; rw [e, hb] at this; cases this
    rw [mget_append, mget_append, mget_one, mget_one, if_neg b1, if_neg v1, Option.or_none, Option.or_none]
    exact ih b v hv
  | @pair F a c u _ ha hs hm hn hb ih =>
    intro b v hv
    rw [mget_append, mget_append, mget_two, mget_two, Option.isSome_or, Option.isSome_or, ih b v hv]
    congr 1
    have hu := (L.inv c u hb).1
    have hvb := (L.inv b v hv).1
    by_cases b1 : b = c
    · rw [if_pos b1]
      rw [b1, hb] at hv; cases hv
      by_cases v1 : u = c
      · rw [if_pos v1]
      · rw [if_neg v1, if_pos rfl]; rfl
    · rw [if_neg b1]
      by_cases b2 : b = u
      · rw [if_pos b2]
        rw [b2, hu] at hv; cases hv
        rw [if_pos rfl]; rfl
      · rw [if_neg b2]
        have v1 : v ≠ c := fun e => by rw [e, hb] at hvb; cases hvb; exact b2 rfl
        have v2 : v ≠ u := fun e => by rw [e, hu] at hvb; cases hvb; exact b1 rfl
        rw [if_neg v1, if_neg v2]
theorem WF.pairNew (g : Gph may sh) (L : LayM may m) (h : WF may sh z m F) {b v : Int} (hb : mget F b = none) (hv : mget m b = some v) : mget F v = none := by
  have := h.mates g L b v hv
  rw [hb] at this
  cases e : mget F v with
  | none => rfl
  | some _ => rw [e] at this; cases this
/-- only cells are met: of the first shade bare or covered, of the other too -/
theorem WF.cells (g : Gph may sh) (L : LayM may m) {C : Int → Prop} (hm : ∀ a c, may a c = true → C c) (hr : ∀ c x, mget F c = some x → x = none → C c) (h : WF may sh z m F) : ∀ c x, mget F c = some x → C c := by
  induction h with
  | nil => intro c x q; simp [mget] at q
  | @root F c _ hn hs hb ih =>
    intro k x q
    by_cases e : k = c
    · refine hr k x q ?_
      rw [mget_append, mget_one, e, hn] at q
      simp at q; exact q.symm
    · refine ih (fun k' x' q' e' => hr k' x' ?_ e') k x ?_
      · rw [mget_append, q']; rfl
      · rw [mget_append, mget_one, if_neg e, Option.or_none] at q; exact q
  | @leaf F a c _ ha hs hmm hn hb ih =>
    intro k x q
    by_cases e : k = c
    · subst e; exact hm _ _ hmm
    · refine ih (fun k' x' q' e' => hr k' x' ?_ e') k x ?_
      · rw [mget_append, q']; rfl
      · rw [mget_append, mget_one, if_neg e, Option.or_none] at q; exact q
  | @pair F a c u _ ha hs hmm hn hb ih =>
    intro k x q
    by_cases e : k = c
    · subst e; exact hm _ _ hmm
    · by_cases e2 : k = u
      · subst e2
        exact hm c k (L.inv c k hb).2
      · refine ih (fun k' x' q' e' => hr k' x' ?_ e') k x ?_
        · rw [mget_append, q']; rfl
        · rw [mget_append, mget_two, if_neg e, if_neg e2, Option.or_none] at q; exact q
/-- the way from a cell that is met back to its root -/
inductive Pth (may : Int → Int → Bool) (sh : Int → Int) (z : Int) (m : Mp Int) (F : Mp (Option Int)) : Int → List Int → Prop
  | root {c} : mget F c = some none → sh c = z → mget m c = none → Pth may sh z m F c [c]
  | leaf {a b P} : mget F b = some (some a) → sh a = z → may a b = true → b ∉ P → Pth may sh z m F a P → Pth may sh z m F b (b :: P)
  | mate {b v P} : mget F v = some (some b) → mget m b = some v → sh v = z → v ∉ P → Pth may sh z m F b P → Pth may sh z m F v (v :: P)
theorem Pth.in_ {c : Int} {P : List Int} (h : Pth may sh z m F c P) : ∀ x ∈ P, (mget F x).isSome = true := by
  induction h with
  | root e _ _ => intro x hx; rw [List.mem_singleton.mp hx, e]; rfl
  | leaf e _ _ _ _ ih => intro x hx; rcases List.mem_cons.mp hx with rfl | hx; · rw [e]; rfl
                         · exact ih x hx
  | mate e _ _ _ _ ih => intro x hx; rcases List.mem_cons.mp hx with rfl | hx; · rw [e]; rfl
                         · exact ih x hx
theorem mget_left {α : Type} {m n : Mp α} {k : Int} {a : α} (h : mget m k = some a) : mget (m ++ n) k = some a := by rw [mget_append, h]; rfl
theorem Pth.grow {c : Int} {P : List Int} {N : Mp (Option Int)} (h : Pth may sh z m F c P) : Pth may sh z m (F ++ N) c P := by
  induction h with
  | root e a b => exact .root (mget_left e) a b
  | leaf e a b d _ ih => exact .leaf (mget_left e) a b d ih
  | mate e a b d _ ih => exact .mate (mget_left e) a b d ih
theorem WF.path (g : Gph may sh) (L : LayM may m) (h : WF may sh z m F) : ∀ c x, mget F c = some x → ∃ P, Pth may sh z m F c P := by
  have key : ∀ {c : Int} {F : Mp (Option Int)} {P : List Int}, mget F c = none → Pth may sh z m F c P → False := fun hn p => by
    cases p with
    | root e _ _ => rw [hn] at e; cases e
    | leaf e _ _ _ _ => rw [hn] at e; cases e
    | mate e _ _ _ _ => rw [hn] at e; cases e
  induction h with
  | nil => intro c x q; simp [mget] at q
  | @root F c _ hn hs hb ih =>
    intro k x q
    by_cases e : k = c
    · subst e
      refine ⟨[k], .root ?_ hs hb⟩
      rw [mget_append, mget_one, hn, if_pos rfl]; rfl
    · rw [mget_append, mget_one, if_neg e, Option.or_none] at q
      obtain ⟨P, p⟩ := ih k x q
      exact ⟨P, p.grow⟩
  | @leaf F a c _ ha hs hmm hn hb ih =>
    intro k x q
    by_cases e : k = c
    · subst e
      obtain ⟨xa, ea⟩ := Option.isSome_iff_exists.mp ha
      obtain ⟨P, p⟩ := ih a xa ea
      refine ⟨k :: P, .leaf ?_ hs hmm (fun q => ?_) p.grow⟩
      · rw [mget_append, mget_one, hn, if_pos rfl]; rfl
      · have := p.in_ k q; rw [hn] at this; cases this
    · rw [mget_append, mget_one, if_neg e, Option.or_none] at q
      obtain ⟨P, p⟩ := ih k x q
      exact ⟨P, p.grow⟩
  | @pair F a c u wf ha hs hmm hn hb ih =>
    intro k x q
    have hcu := g.ne (L.inv c u hb).2
    have hun := wf.pairNew g L hn hb
    obtain ⟨xa, ea⟩ := Option.isSome_iff_exists.mp ha
    obtain ⟨P, p⟩ := ih a xa ea
    have pc : Pth may sh z m (F ++ [(c, some a), (u, some c)]) c (c :: P) := by
      refine .leaf ?_ hs hmm (fun q => ?_) p.grow
      · rw [mget_append, mget_two, hn, if_pos rfl]; rfl
      · have := p.in_ c q; rw [hn] at this; cases this
    by_cases e : k = c
    · subst e; exact ⟨_, pc⟩
    · by_cases e2 : k = u
      · subst e2
        refine ⟨_, .mate ?_ hb ?_ (fun q => ?_) pc⟩
        · rw [mget_append, mget_two, hun, if_neg e, if_pos rfl]; rfl
        · have h1 := g.shade a c hmm
          have h2 := g.shade c k (L.inv c k hb).2
          rcases g.two a with t1 | t1 <;> rcases g.two c with t2 | t2 <;> rcases g.two k with t3 | t3 <;> omega
        · rcases List.mem_cons.mp q with q | q
          · exact e q
          · have := p.in_ k q; rw [hun] at this; cases this
      · rw [mget_append, mget_two, if_neg e, if_neg e2, Option.or_none] at q
        obtain ⟨P', p'⟩ := ih k x q
        exact ⟨P', p'.grow⟩
/-- a way that ends at bare cells: its cells two by two -/
inductive Zig (may : Int → Int → Bool) (m : Mp Int) : List Int → Prop
  | base {a b} : may a b = true → mget m a = none → Zig may m [b, a]
  | step {a b c P} : may a b = true → mget m c = some a → Zig may m (c :: P) → Zig may m (b :: a :: c :: P)
theorem Pth.zig (g : Gph may sh) (L : LayM may m) : ∀ {P : List Int} {b : Int}, Pth may sh z m F b P → sh b ≠ z → Zig may m P ∧ P.Nodup := by
  suffices h : ∀ (n : Nat) {P : List Int} {b : Int}, P.length ≤ n → Pth may sh z m F b P → sh b ≠ z → Zig may m P ∧ P.Nodup from fun {P b} p q => h P.length (Nat.le_refl _) p q
  intro n
  induction n with
  | zero => intro P b hn p _; cases p <;> simp at hn
  | succ n ih =>
    intro P b hn p hb
    cases p with
    | root e hs _ => exact absurd hs hb
    | mate e _ hs _ _ => exact absurd hs hb
    | @leaf a _ P' e hs hm hni p' =>
      cases p' with
      | root e' hs' hb' => exact ⟨.base hm hb', List.nodup_cons.mpr ⟨hni, by simp⟩⟩
      | @leaf a2 _ P2 e' hs' hm' hni' p2 => exact absurd (hs'.trans hs.symm) (g.shade a2 a hm')
      | @mate c _ P2 e' hmc hs' hni' p2 =>
        have hc : sh c ≠ z := fun q => g.shade c a (L.inv c a hmc).2 (q.trans hs.symm)
        have hl : P2.length ≤ n := by simp at hn; omega
        obtain ⟨i1, i2⟩ := ih hl p2 hc
        refine ⟨?_, List.nodup_cons.mpr ⟨hni, List.nodup_cons.mpr ⟨hni', i2⟩⟩⟩
        cases p2 with
        | root e2 _ _ => exact .step hm hmc i1
        | leaf e2 _ _ _ _ => exact .step hm hmc i1
        | mate e2 _ _ _ _ => exact .step hm hmc i1
end
-- a laying turned along a way
section
variable {may : Int → Int → Bool} {sh : Int → Int} {m : Mp Int} {P : List Int}
theorem Zig.even (h : Zig may m P) : ∃ k, P.length = 2 * k ∧ 1 ≤ k := by
  induction h with
  | base _ _ => exact ⟨1, rfl, Nat.le_refl _⟩
  | step _ _ _ ih => obtain ⟨k, e, _⟩ := ih; exact ⟨k + 1, by simp at e ⊢; omega, by omega⟩
theorem Zig.two (h : Zig may m P) : ∀ j a b, P[2 * j]? = some b → P[2 * j + 1]? = some a → may a b = true := by
  induction h with
  | base hm _ =>
    intro j a b h1 h2
    cases j with
    | zero => simp at h1 h2; subst h1; subst h2; exact hm
    | succ j => simp [Nat.mul_succ] at h1
  | step hm _ _ ih =>
    intro j a b h1 h2
    cases j with
    | zero => simp at h1 h2; subst h1; subst h2; exact hm
    | succ j =>
      refine ih j a b ?_ ?_
      · simpa [Nat.mul_succ] using h1
      · have : 2 * (j + 1) + 1 = (2 * j + 1) + 1 + 1 := by omega
        rw [this] at h2
        simpa using h2
theorem Zig.closed (L : LayM may m) (h : Zig may m P) : ∀ x ∈ P.tail, ∀ v, mget m x = some v → v ∈ P.tail := by
  induction h with
  | base _ hn => intro x hx v hv; rw [List.tail_cons, List.mem_singleton] at hx; rw [hx, hn] at hv; cases hv
  | @step a b c P' _ hc _ ih =>
    intro x hx v hv
    rw [List.tail_cons] at hx ⊢
    rcases List.mem_cons.mp hx with rfl | hx
    · rw [(L.inv c x hc).1] at hv; cases hv
      exact List.mem_cons_of_mem _ (List.mem_cons_self ..)
    · rcases List.mem_cons.mp hx with rfl | hx
      · rw [hc] at hv; cases hv; exact List.mem_cons_self ..
      · exact List.mem_cons_of_mem _ (List.mem_cons_of_mem _ (ih x hx v hv))
theorem Zig.closed' (L : LayM may m) (h : Zig may m P) (hb : ∀ x, P.head? = some x → mget m x = none) : ∀ x ∈ P, ∀ v, mget m x = some v → v ∈ P := by
  intro x hx v hv
  have ht := h.closed L
  cases P with
  | nil => cases hx
  | cons y r =>
    rcases List.mem_cons.mp hx with rfl | hx
    · rw [hb x rfl] at hv; cases hv
    · exact List.mem_cons_of_mem _ (ht x hx v hv)
theorem Zig.last (h : Zig may m P) : ∃ a, P.getLast? = some a ∧ mget m a = none := by
  induction h with
  | base _ hn => exact ⟨_, rfl, hn⟩
  | step _ _ _ ih => obtain ⟨a, e, q⟩ := ih; exact ⟨a, by simpa using e, q⟩
/-- the way's cells let go, up to the i-th -/
structure Off (may : Int → Int → Bool) (m : Mp Int) (P W : List Int) (i : Nat) (m' : Mp Int) : Prop where
  lay : LayM may m'
  out : ∀ x, x ∉ P → mget m' x = mget m x
  off : ∀ x ∈ W.take i, mget m' x = none
theorem Off.next {W : List Int} {i : Nat} {m' : Mp Int} {x : Int} (o : Off may m P W i m') (hx : W[i]? = some x) (hn : mget m' x = none) : Off may m P W (i + 1) m' := by
  refine ⟨o.lay, o.out, fun y hy => ?_⟩
  rw [List.take_add_one, hx] at hy
  rcases List.mem_append.mp hy with q | q
  · exact o.off y q
  · simp at q; rw [q]; exact hn
theorem Off.lift {W : List Int} {i : Nat} {m' : Mp Int} {x v : Int} (L : LayM may m) (cl : ∀ x ∈ P, ∀ v, mget m x = some v → v ∈ P) (hW : ∀ x ∈ W, x ∈ P) (o : Off may m P W i m') (hx : W[i]? = some x) (hv : mget m' x = some v) : Off may m P W (i + 1) (mdel (mdel m' x) v) := by
  have hxP := hW x (List.mem_of_getElem? hx)
  have hvP : v ∈ P := by
    cases Classical.em (v ∈ P) with
    | inl q => exact q
    | inr q =>
      have h1 := (o.lay.inv x v hv).1
      rw [o.out v q] at h1
      exact absurd (cl x hxP v (L.inv v x h1).1) q
  refine ⟨o.lay.lift hv, fun y hy => ?_, fun y hy => ?_⟩
  · have y1 : y ≠ v := fun e => hy (e ▸ hvP)
    have y2 : y ≠ x := fun e => hy (e ▸ hxP)
    rw [mget_mdel, mget_mdel, if_neg y1, if_neg y2]; exact o.out y hy
  · rw [mget_mdel, mget_mdel]
    rw [List.take_add_one, hx] at hy
    rcases List.mem_append.mp hy with q | q
    · rw [o.off y q]; split <;> (try split) <;> rfl
    · simp at q; subst q; simp
/-- the way's cells covered anew, two by two -/
structure On (may : Int → Int → Bool) (m : Mp Int) (P W : List Int) (i : Nat) (m' : Mp Int) : Prop where
  lay : LayM may m'
  out : ∀ x, x ∉ P → mget m' x = mget m x
  off : ∀ j x, 2 * i ≤ j → W[j]? = some x → mget m' x = none
  on : ∀ x ∈ W.take (2 * i), (mget m' x).isSome = true
theorem Off.on {W : List Int} {m' : Mp Int} (o : Off may m P W W.length m') : On may m P W 0 m' :=
  ⟨o.lay, o.out, fun j x _ h => o.off x (by rw [List.take_length]; exact List.mem_of_getElem? h), fun x h => by simp at h⟩
theorem nodup_inj : ∀ {W : List Int}, W.Nodup → ∀ (i j : Nat) (x : Int), W[i]? = some x → W[j]? = some x → i = j
  | [], _, i, _, _, h, _ => by simp at h
  | y :: r, nd, i, j, x, h1, h2 => by
    rw [List.nodup_cons] at nd
    cases i with
    | zero =>
      cases j with
      | zero => rfl
      | succ j => simp at h1 h2; subst h1; exact absurd (List.mem_of_getElem? h2) nd.1
    | succ i =>
      cases j with
      | zero => simp at h1 h2; subst h2; exact absurd (List.mem_of_getElem? h1) nd.1
      | succ j => simp at h1 h2; rw [nodup_inj nd.2 i j x h1 h2]
theorem nodup_get {W : List Int} (nd : W.Nodup) {i j : Nat} {x : Int} (h1 : W[i]? = some x) (h2 : W[j]? = some x) : i = j := by
  exact nodup_inj nd i j x h1 h2
theorem On.put {W : List Int} {i : Nat} {m' : Mp Int} {a b : Int} (g : Gph may sh) (nd : W.Nodup) (hW : ∀ x ∈ W, x ∈ P) (o : On may m P W i m') (ha : W[2 * i]? = some a) (hb : W[2 * i + 1]? = some b) (hm : may a b = true) :
    On may m P W (i + 1) (mput (mput m' a b) b a) := by
  have na := o.off (2 * i) a (Nat.le_refl _) ha
  have nb := o.off (2 * i + 1) b (by omega) hb
  refine ⟨o.lay.put g hm na nb, fun x hx => ?_, fun j x hj hx => ?_, fun x hx => ?_⟩
  · have x1 : x ≠ b := fun e => hx (e ▸ hW b (List.mem_of_getElem? hb))
    have x2 : x ≠ a := fun e => hx (e ▸ hW a (List.mem_of_getElem? ha))
    rw [mget_mput, mget_mput, if_neg x1, if_neg x2]; exact o.out x hx
  · have x1 : x ≠ b := fun e => by have := nodup_get nd hx (e ▸ hb); omega
    have x2 : x ≠ a := fun e => by have := nodup_get nd hx (e ▸ ha); omega
    rw [mget_mput, mget_mput, if_neg x1, if_neg x2]; exact o.off j x (by omega) hx
  · rw [mget_mput, mget_mput]
    have e : 2 * (i + 1) = 2 * i + 1 + 1 := by omega
    rw [e, List.take_add_one, hb, List.take_add_one, ha] at hx
    by_cases x1 : x = b
    · rw [if_pos x1]; rfl
    · rw [if_neg x1]
      by_cases x2 : x = a
      · rw [if_pos x2]; rfl
      · rw [if_neg x2]
        rcases List.mem_append.mp hx with q | q
        · rcases List.mem_append.mp q with q | q
          · exact o.on x q
          · simp at q; exact absurd q x2
        · simp at q; exact absurd q x1
theorem filter_lt {α : Type} {p q : α → Bool} : ∀ {l : List α}, (∀ x ∈ l, p x = true → q x = true) → (∃ a ∈ l, q a = true ∧ p a = false) → (l.filter p).length < (l.filter q).length
  | [], _, h => by obtain ⟨a, h, _⟩ := h; cases h
  | y :: r, h1, h2 => by
    have hle : (r.filter p).length ≤ (r.filter q).length := by
      clear h2
      have h1' := fun x hx => h1 x (List.mem_cons_of_mem _ hx)
      clear h1
      induction r with
      | nil => simp
      | cons z r ih =>
        have ih' := ih fun x hx => h1' x (List.mem_cons_of_mem _ hx)
        rw [List.filter_cons, List.filter_cons]
        by_cases pz : p z = true
        · rw [if_pos pz, if_pos (h1' z (List.mem_cons_self ..) pz)]; simp; omega
        · rw [if_neg pz]; split <;> simp <;> omega
    rw [List.filter_cons, List.filter_cons]
    obtain ⟨a, ha, qa, pa⟩ := h2
    rcases List.mem_cons.mp ha with rfl | ha
    · rw [if_neg (by rw [pa]; decide), if_pos qa]; simp; omega
    · have ih := filter_lt (l := r) (fun x hx => h1 x (List.mem_cons_of_mem _ hx)) ⟨a, ha, qa, pa⟩
      by_cases py : p y = true
      · rw [if_pos py, if_pos (h1 y (List.mem_cons_self ..) py)]; simp; omega
      · rw [if_neg py]; split <;> simp <;> omega
theorem On.less {W C : List Int} {k : Nat} {m' : Mp Int} (o : On may m P W k m') (hk : W.length = 2 * k) (hP : ∀ x ∈ P, x ∈ W) (hr : ∃ a ∈ C, a ∈ P ∧ mget m a = none) : (bareL m' C).length < (bareL m C).length := by
  have cov : ∀ x ∈ P, (mget m' x).isSome = true := fun x hx => o.on x (by rw [← hk, List.take_length]; exact hP x hx)
  refine filter_lt (fun x _ hx => ?_) ?_
  · have : x ∉ P := fun q => by have := cov x q; cases e : mget m' x <;> rw [e] at this hx <;> simp at this hx
    rw [← o.out x this]; exact hx
  · obtain ⟨a, h1, h2, h3⟩ := hr
    refine ⟨a, h1, by rw [h3]; rfl, ?_⟩
    have := cov a h2
    cases e : mget m' a <;> rw [e] at this <;> simp at this ⊢
end
end Fl

namespace Fl
open PySem PySem.W PySem.Calls PyProof.Rows

section
variable {prog : Program} {w : World} {A : Around} {E : Value → Shared → Prop} {s s' s₀ : Shared} {h₀ h₁ : Heap} {env : Env} {ρ ρ' : Rho} {Λ Λ' : List (Addr × Obj)} {b : Bool} {K : Frag} {α : Type} {Rv : α → Value → Prop} {m : Mp α} {d : Addr} {od : Obj}
theorem l_sorted {l : Addr} {ns : List Int} {Q : Value → Shared → Prop} (S : CS true s₀ h₀ env ρ Λ s) (hl : IntL s.heap l ns) (h64 : ns.length < 64)
    (h : ∀ D out e ns' s', IntsAre out.toList ns' → ns'.Perm ns → ns'.Pairwise (· ≤ ·) → CS true s₀ h₀ env ρ ((D, lst out e) :: Λ) s' → s.heap.get? D = none → Q (.ref D) s') : wpAny (model prog w) A (call (.builtin "sorted") [.ref l]) Q E s := by
  obtain ⟨vs, a, hi⟩ := hl
  refine sorted_ints a hi (by rw [hi.length]; exact h64) fun out ns' a1 a2 a3 => ?_
  obtain ⟨e, he⟩ := sortedAll_at s.heap vs out
  exact h _ out e ns' _ a1 a2 a3 (S.new (wr := []) (tk := s.toks) rfl (fun _ _ _ q => sortedAll_old q) (fun _ h => nomatch h) (fun _ h => nomatch h) (fresh_none (Nat.le_succ _)) he) (fresh_none (Nat.le_succ _))
theorem ints_keys {kvs : List (Int × Value)} {m : Mp α} (p : Prs Rv kvs m) : ∀ (vs : List Value), vs.length = kvs.length → (∀ (j : Nat) v, vs[j]? = some v → ∃ k x, kvs[j]? = some (k, x) ∧ (intKind prog w).is k v = true) → IntsAre vs (m.map (·.1)) := by
  induction p with
  | nil => intro vs hl _; rw [List.length_eq_zero_iff.mp hl]; exact .nil
  | @cons k a x r m' _ _ ih =>
    intro vs hl h
    cases vs with
    | nil => simp at hl
    | cons v vs =>
      obtain ⟨k', x', e, hk⟩ := h 0 v rfl
      simp at e
      obtain ⟨t, rfl⟩ := Value.isInt_shape hk
      rw [← e.1]
      exact .cons _ t (ih vs (by simpa using hl) fun j u hu => by simpa using h (j + 1) u (by simpa using hu))
theorem d_list {Q : Value → Shared → Prop} (S : CS true s₀ h₀ env ρ Λ s) (hh : A.handled = none) (e : s.heap.get? d = some od) (D : DG prog w Rv od m) (hd : (d == sysModules) = false) (hn : m.length ≤ 16777216)
    (h : ∀ l ys k s', IntsAre ys.toList (m.map (·.1)) → CS true s₀ h₀ env ρ ((l, lst ys k) :: Λ) s' → s.heap.get? l = none → Q (.ref l) s') : wpAny (model prog w) A (call (.type "list") [.ref d]) Q E s := by
  obtain ⟨kvs, x, p⟩ := D.at e
  obtain ⟨ep, hat⟩ := x.dictAt
  refine kdl_call (kdl_dict (knd := intKind prog w) (kvs := kvs) (ep := ep) hd) hh hat (by rw [p.length, sizeLine_eq]; exact hn) fun h' tk acc' c' hk hD hacc => ?_
  refine h _ acc' c' _ (ints_keys p acc'.toList (by rw [Array.length_toList]; exact hacc.1) fun j v q => hacc.2 j v (by rw [← Array.getElem?_toList]; exact q)) (S.new (wr := []) rfl (fun a o _ q => hk a o q) (fun _ h => nomatch h) (fun _ h => nomatch h) (fresh_none (Nat.le_refl _)) hD) (fresh_none (Nat.le_refl _))
theorem rev_nolen : typeLookup (.type "list_reverseiterator") "__len__" = pure none := by rw [typeLookup_type, builtinLookup_eq_fast]; kernel_rfl
theorem rev_hint : typeLookup (.type "list_reverseiterator") "__length_hint__" = pure (some (.builtin "list_reverseiterator.__length_hint__")) := by rw [typeLookup_type, builtinLookup_eq_fast]; kernel_rfl
theorem hint_rev {r : Addr} {Q : Bool → Shared → Prop} (hT : s.TypeIs (.ref r) "list_reverseiterator") (h : Q false s) : wpAny (model prog w) A (Builtin.List.listLengthHint (.ref r)) Q E s := by
  unfold Builtin.List.listLengthHint
  refine wpAny_bind (wpAny_specialOf hT rev_nolen ?_)
  dsimp only
  refine wpAny_ite_split (fun hab => absurd hab (by decide +kernel)) (fun _ => ?_)
  refine wpAny_ite_split (fun hab => absurd hab (by decide)) (fun _ => ?_)
  refine wpAny_bind (wpAny_specialOf hT rev_hint ?_)
  generalize hid : ("list_reverseiterator.__length_hint__" : String) = id0
  wp_delta
  rw [show splitId id0 = some ("list_reverseiterator", "__length_hint__") from by subst hid; decide +kernel]
  subst hid
  refine wpAny_bind (wpAny_isInstance (T := "list_reverseiterator") (b := true) hT (by rw [isSubtype_type]; kernel_rfl) ?_)
  refine wpAny_ite_split (fun hab => absurd hab (by decide)) (fun _ => ?_)
  refine wpAny_ite_split (fun _ => ?_) (fun hab => absurd (by decide +kernel) hab)
  refine wpAny_ite_split (fun hab => absurd hab (by decide +kernel)) (fun _ => ?_)
  exact wpAny_pure h
theorem rl_extend {R : Result → Shared → Prop} {r l S : Addr} {items : Array Value} (hh : A.handled = none) (hit : s.heap.IsRevIter r l ((items.size : Int) - 1)) (hl : s.heap.IsList l items) (hne : l ≠ r) (hSr : S ≠ r) (hSl : S ≠ l) (res : Value) (c₀ : Nat) (hS : s.heap.get? S = some { cls := .type "list", data := .seq #[] c₀ })
    (hR : ∀ h' tk acc' c', (∀ b o, b ≠ S → b ≠ r → s.heap.get? b = some o → h'.get? b = some o) → h'.get? S = some (lst acc' c') → ItemsOf (fun i v => items[items.size - 1 - i]? = some v) acc' items.size → R (.ok (.ret res)) { s with heap := h', toks := tk }) (hn : items.size ≤ sizeLine) :
    wpAny (model prog w) A.in1 (Builtin.List.listExtendWith (.ref S) (.ref r) res)
      (fun fin s' => match fin with | .done f => R (.ok f) s' | .again c' => c'.quiet = true ∧ codeAny (model prog w) A c' R s') (fun e s' => R (.error e) s') s := by
  have hSf : S ∉ [r, l] := by simp only [List.mem_cons, List.not_mem_nil, or_false, not_or]; exact ⟨hSr, hSl⟩
  have W := Walks.listRev (prog := prog) (w := w) (A := A.in1) hh r l hne items
  unfold Builtin.List.listExtendWith
  refine wpAny_bind (wpAny_typeOf (T := "list_reverseiterator") hit.typeIs ?_)
  have h1 : Builtin.List.listSameRef (.ref S) (.ref r) = false := by simp [Builtin.List.listSameRef, hSr]
  have h2 : (Value.type "list_reverseiterator" == Value.type "list") = false := by decide
  have h3 : (Value.type "list_reverseiterator" == Value.type "tuple") = false := by decide
  simp only [h1, h2, h3, Bool.or_false, Bool.false_eq_true, if_false]
  refine wpAny_bind (wpAny_pyIter_revIter hit ?_)
  refine wpAny_bind (wpAny_holding (hint_rev hit.typeIs ?_))
  refine wpAny_ite_split (fun hab => absurd hab (by decide +kernel)) (fun _ => wpAny_pure ⟨plainId_quiet PySem.F.plain_extend_loop _, ?_⟩)
  refine codeAny_extend_loopS W.toS hn S hSf res items.size 0 _ #[] c₀ rfl (Nat.zero_le _) ⟨Nat.zero_le _, by simpa using hit, hl⟩ hS (ItemsOf.nil _) fun s' acc' c' hm hS' hacc => ?_
  rw [Moved.eq_with hm]
  exact hR s'.heap s'.toks acc' c' (fun b o hb hb2 e => hm.heap b o (fun hmem => by
    rcases List.mem_cons.mp hmem with e' | hmem
    · exact hb e'
    · exact hb2 (List.mem_singleton.mp hmem)) e) hS' hacc
theorem rev_list {vs : List Value} {acc : Array Value} {ns : List Int} (hi : IntsAre vs ns) (h : ItemsOf (fun i v => vs.toArray[vs.toArray.size - 1 - i]? = some v) acc vs.toArray.size) : IntsAre acc.toList ns.reverse := by
  have : acc.toList = vs.reverse := by
    apply List.ext_getElem?
    intro j
    rw [Array.getElem?_toList]
    cases e : acc[j]? with
    | some v =>
      have h2 := h.2 j v e
      have hj : j < acc.size := by
        have := Array.getElem?_eq_some_iff.mp e; exact this.1
      have h1 := h.1
      simp at h1 h2
      rw [List.getElem?_reverse (by omega)]
      exact h2.symm
    | none =>
      have hj : acc.size ≤ j := by simpa using e
      have h1 := h.1
      simp at h1
      symm
      rw [List.getElem?_eq_none_iff, List.length_reverse]; omega
  rw [this]; exact IntsAre.reverse hi
/-- list(reversed(xs)) -/
theorem r_list {l r : Addr} {ns : List Int} {vs : List Value} {Q : Value → Shared → Prop} (S : CS true s₀ h₀ env ρ Λ s) (hh : A.handled = none) (hit : s.heap.IsRevIter r l ((vs.length : Int) - 1)) (hl : s.heap.IsList l vs.toArray) (hi : IntsAre vs ns) (hne : l ≠ r) (hr : ¬ CS.own env Λ r) (hr0 : h₀.get? r = none) (hn : vs.length ≤ 16777216)
    (h : ∀ D ys k s', IntsAre ys.toList ns.reverse → CS true s₀ h₀ env ρ ((D, lst ys k) :: Λ) s' → s.heap.get? D = none → Q (.ref D) s') : wpAny (model prog w) A (call (.type "list") [.ref r]) Q E s := by
  have hrl : r < s.heap.objs.size := by obtain ⟨o, e, _⟩ := hit; exact Heap.lt_size e
  have hll : l < s.heap.objs.size := by obtain ⟨o, e, _⟩ := hl; exact Heap.lt_size e
  refine callType_codes (Q₁ := fun obj s₁ => obj = .ref s.heap.objs.size ∧ s₁ = { s with heap := s.heap.push { cls := .type "list", data := .seq #[] } }) PySem.F.called_list (PySem.F.typeCall_list_1 _) PySem.F.entry_list_init
    (code_list_new _ ⟨rfl, rfl⟩) fun obj s₁ h₁ => ?_
  obtain ⟨rfl, rfl⟩ := h₁
  have hS : (s.heap.push { cls := .type "list", data := .seq #[] }).get? s.heap.objs.size = some { cls := .type "list", data := .seq #[] } := Heap.get?_push_size _ rfl
  refine ⟨⟨_, hS, rfl⟩, PySem.F.args_list_init_2 _ _, ?_⟩
  show wpAny _ _ (do let old ← Builtin.List.listItems (.ref s.heap.objs.size); Builtin.List.listUpdate (.ref s.heap.objs.size) (fun _ => #[]); letGo old.toList.reverse; Builtin.List.listExtendWith (.ref s.heap.objs.size) (.ref r) .none) _ _ _
  refine wpAny_bind ?_
  unfold Builtin.List.listItems
  refine wpAny_bind (wpAny_seqItems hS rfl (wpAny_pure ?_))
  show wpAny _ _ (updateSeq s.heap.objs.size (fun _ => #[]) >>= fun _ => letGo (#[] : Array Value).toList.reverse >>= fun _ => Builtin.List.listExtendWith (.ref s.heap.objs.size) (.ref r) .none) _ _ _
  refine wpAny_bind (wpAny_updateSeq hS rfl ?_)
  have hS₂ := Heap.get?_update_self (Obj.mapSeq (fun _ => (#[] : Array Value))) hS rfl
  have up : ∀ b o, s.heap.get? b = some o → ((s.heap.push { cls := .type "list", data := .seq #[] }).update s.heap.objs.size (Obj.mapSeq (fun _ => (#[] : Array Value)))).get? b = some o := fun b o e =>
    (Heap.get?_update_other _ _ (Nat.ne_of_gt (Heap.lt_size e))).trans (Heap.get?_push_of_some _ e)
  refine wpAny_bind (wpAny_letGo ?_)
  refine rl_extend (A := A.in1) hh (l := l) (items := vs.toArray) (by simpa using hit.at fun o e => up _ o e) (hl.at fun o e => up _ o e) hne (Nat.ne_of_gt hrl) (Nat.ne_of_gt hll) .none _ hS₂ (fun h' tk acc' c' hk hD hacc => ?_) (by rw [sizeLine_eq]; simpa using hn)
  refine ⟨rfl, h _ acc' c' _ (rev_list hi hacc) (S.new (wr := [r]) rfl (fun a o ha e => hk a o (Nat.ne_of_lt (Heap.lt_size e)) (fun q => ha (List.mem_singleton.mpr q)) (up a o e)) (fun a ha => by rw [List.mem_singleton.mp ha]; exact hr0) (fun a ha => by rw [List.mem_singleton.mp ha]; exact hr) (fresh_none (Nat.le_refl _)) hD) (fresh_none (Nat.le_refl _))⟩
theorem r_rev {l : Addr} {vs : List Value} {Q : Value → Shared → Prop} (S : CS true s₀ h₀ env ρ Λ s) (hl : s.heap.IsList l vs.toArray)
    (h : ∀ r s', s'.heap.IsRevIter r l ((vs.length : Int) - 1) → s'.heap.IsList l vs.toArray → l ≠ r → ¬ CS.own env Λ r → h₀.get? r = none → CS true s₀ h₀ env ρ Λ s' → Q (.ref r) s') : wpAny (model prog w) A (call (.type "reversed") [.ref l]) Q E s := by
  have hll : l < s.heap.objs.size := by obtain ⟨o, e, _⟩ := hl; exact Heap.lt_size e
  refine call_reversed_list hl (h _ _ ⟨_, Heap.get?_push_size _ rfl, rfl, by simp [revObj]⟩ (hl.at fun o e => Heap.get?_push_of_some _ e) (Nat.ne_of_lt hll) (fun q => ?_) (S.base.none (fresh_none (Nat.le_refl _))) (S.pushK _ s.toks))
  obtain ⟨o, e⟩ := S.own_at q
  exact absurd (Heap.lt_size e) (Nat.lt_irrefl _)
/-- the last of a list -/
theorem l_last {value slice : Expr} {l : Addr} {ns : List Int} {u : Tok} {Q : Value → Shared → Prop} (hl : IntL s.heap l ns) (h0 : 0 < ns.length) (hn : ns.length ≤ 16777216)
    (hs : subscripted slice false (.ref l) (.int (-1) u) = operate [.ref l, .int (-1) u] (getItem (.ref l) (.int (-1) u))) (h : ∀ t, Q (.int (ns.getD (ns.length - 1) 0) t) s) : wpAny (model prog w) A (subscriptTail value slice (.ref l) (.int (-1) u)) Q E s := by
  obtain ⟨vs, a, hi⟩ := hl
  have hlen := hi.length
  have hk : ns.length - 1 < ns.length := by omega
  obtain ⟨t, e⟩ := hi.get (ns.length - 1) ns[ns.length - 1] (by simp [hk])
  have : ns.getD (ns.length - 1) 0 = ns[ns.length - 1] := by simp [List.getD, hk]
  refine tail_any a.typeIs slot_list_getitem.lookup (wpAny_getItem_list_neg a (by decide) (by simp; omega) (by decide) ?_ (this ▸ h t)) hs
  have : ((-1 : Int) + (vs.toArray.size : Int)).toNat = ns.length - 1 := by simp; omega
  rw [this]
  simpa using e
theorem w_isnot {v : Value} {M : Model} {Q : Value → Shared → Prop} (hv : v ≠ .none) (h : Q (.bool true) s) : wpAny M A (compareOp .IsNot v .none) Q E s := isnot_none_ne hv h
theorem w_isnone {M : Model} {Q : Value → Shared → Prop} (h : Q (.bool false) s) : wpAny M A (compareOp .IsNot .none .none) Q E s := wpAny_isNot_self rfl h
/-- an int of a pair -/
theorem u_at {value slice : Expr} {x : Addr} {v1 v2 v : Value} {k : Int} {u : Tok} {Q : Value → Shared → Prop} (hx : s.heap.get? x = some (tup #[v1, v2])) (hk : (k = 0 ∧ v = v1) ∨ (k = 1 ∧ v = v2))
    (hs : subscripted slice false (.ref x) (.int k u) = operate [.ref x, .int k u] (getItem (.ref x) (.int k u))) (h : Q v s) : wpAny (model prog w) A (subscriptTail value slice (.ref x) (.int k u)) Q E s := by
  have ht : IsTup s.heap x #[v1, v2] := ⟨_, hx, rfl, _, rfl⟩
  rcases hk with ⟨rfl, rfl⟩ | ⟨rfl, rfl⟩
  · exact tail_any ht.typeIs slot_tuple_getitem.lookup (getItem_tuple (j := 0) ht (by decide) (by decide) rfl rfl h) hs
  · exact tail_any ht.typeIs slot_tuple_getitem.lookup (getItem_tuple (j := 1) ht (by decide) (by decide) rfl rfl h) hs
/-- a while loop, by what holds between its turns and what every turn lowers -/
theorem x_while {test : Expr} {body rest : List Stmt} {pos : Pos} {Q : Flow → Shared → Prop} (J : Nat → Heap → Rho → List (Addr × Obj) → Prop) (S : CS true s₀ h₀ env ρ Λ s) {n : Nat} (hJ : J n h₀ ρ Λ)
    (turn : ∀ k h₁ ρ₁ Λ₁ s₁, J k h₁ ρ₁ Λ₁ → Sub h₀ h₁ → CS true s₀ h₁ env ρ₁ Λ₁ s₁ →
      wpAny (model prog w) A (isTrue test env (eval test env)) (fun c s₂ =>
        if c = true then wpAny (model prog w) A (execs body env) (LoopQ (fun s₃ => ∃ m h' ρ' Λ', m < k ∧ Sub h₀ h' ∧ CS true s₀ h' env ρ' Λ' s₃ ∧ J m h' ρ' Λ') (SeqQ (model prog w) A env E rest Q)) (NoteE (model prog w) A env E) s₂
        else SeqQ (model prog w) A env E rest Q .next s₂) (NoteE (model prog w) A env E) s₁) :
    wpAny (model prog w) A (execs (.While test body [] pos :: rest) env) Q E s := by
  refine wpAny_execs_cons (while_inv J S hJ fun k h₁ ρ₁ Λ₁ s₁ a b c => ?_)
  refine wpAny_mono (turn k h₁ ρ₁ Λ₁ s₁ a b c) (fun c s₂ z => ?_) fun _ _ z => z
  cases c with
  | false => exact z
  | true => exact wpAny_mono z (fun f s₃ y => by cases f <;> exact y) fun _ _ y => y

/-- an object changed by a call, all else kept -/
structure Upd (d : Addr) (od' : Obj) (s s' : Shared) : Prop where
  same : ∃ h tk, s' = { s with heap := h, toks := tk }
  keep : ∀ a o, a ≠ d → s.heap.get? a = some o → s'.heap.get? a = some o
  at_ : s'.heap.get? d = some od'
theorem CS.upd {g : Obj → List (Addr × Obj)} {od' : Obj} (S : CS true s₀ h₀ env ρ Λ s) (U : ChgF d od Λ g) (u : Upd d od' s s') : CS true s₀ h₀ env ρ (g od') s' := by
  obtain ⟨h, tk, rfl⟩ := u.same
  exact S.chg (U.to _) u.keep u.at_
theorem Upd.of {od' : Obj} (S : CS true s (without s.heap (· = d)) env ρ Λ s') (hm : (d, od') ∈ Λ) : Upd d od' s s' := ⟨S.same, fun a o ha e => S.base _ _ (without_get ha e), S.atLed hm⟩
theorem sub_without {B : Heap} (hB : Sub B s.heap) (hd : B.get? d = none) : Sub B (without s.heap (· = d)) := fun a o e => without_get (fun q => by rw [q, hd] at e; cases e) (hB a o e)
/-- the heap but for one object -/
theorem but_one (s : Shared) (d : Addr) : ∃ W : Heap, Sub W s.heap ∧ W.get? d = none ∧ ∀ a o, a ≠ d → s.heap.get? a = some o → W.get? a = some o :=
  ⟨without s.heap (· = d), without_sub _ _, without_none rfl, fun _ _ ha e => without_get ha e⟩
/-- a new object taken among the changed ones, all else that is new stays -/
theorem CS.adoptW {D : Addr} {o : Obj} (S : CS true s₀ h₀ env ρ Λ s) (hk : Keeps s s') (hD : s.heap.get? D = none) (hD' : s'.heap.get? D = some o) :
    ∃ h₁, Sub h₀ h₁ ∧ CS true s₀ h₁ env ρ ((D, o) :: Λ) s' ∧ ∀ a x, s.heap.get? a = none → a ≠ D → s'.heap.get? a = some x → h₁.get? a = some x := by
  obtain ⟨h₁, k1, S1, k3⟩ := (S.adopt hk hD hD').wide
  refine ⟨h₁, k1, S1, fun a x hn hne he => k3 a x he fun q => ?_⟩
  rcases q with q | ⟨n, q⟩ | q
  · obtain ⟨o', e⟩ := S.own_at (.inl q); rw [hn] at e; cases e
  · obtain ⟨o', e⟩ := S.own_at (.inr (.inl ⟨n, q⟩)); rw [hn] at e; cases e
  · rw [List.map_cons] at q
    rcases List.mem_cons.mp q with q | q
    · exact hne q
    · obtain ⟨o', e⟩ := S.own_at (.inr (.inr q)); rw [hn] at e; cases e
end
/-- what a dict may hold where something is reached from: nothing, or a cell -/
def ROpt (a : Option Int) (x : Value) : Prop := match a with
  | none => x = .none
  | some i => ∃ t, x = .int i t
theorem gph {rows : List Str} {wd : Nat} (g : Grid rows wd) : Gph (mayB rows wd) (shadeN wd) := by
  refine ⟨fun a c => mayB_symm rows wd a c, fun a c h => shade_ne g h, fun a => ?_⟩
  unfold shadeN
  split
  · exact .inl rfl
  · omega
end Fl

namespace Fl
open PySem

theorem mput_new {α : Type} {m : Mp α} {k : Int} (a : α) (h : mget m k = none) : mput m k a = m ++ [(k, a)] := by
  unfold mput
  rw [if_neg]
  intro q
  rw [← mget_isSome, h] at q
  cases q
theorem nodup_len : ∀ {W C : List Int}, W.Nodup → (∀ c ∈ W, c ∈ C) → W.length ≤ C.length
  | [], _, _, _ => Nat.zero_le _
  | c :: r, C, nd, h => by
    rw [List.nodup_cons] at nd
    have hc := h c (List.mem_cons_self ..)
    have := nodup_len (C := C.filter fun x => x != c) nd.2 fun x hx => List.mem_filter.mpr ⟨h x (List.mem_cons_of_mem _ hx), by
      have : x ≠ c := fun e => nd.1 (e ▸ hx)
      simpa using this⟩
    have := filter_len hc
    rw [List.length_cons]
    omega
/-- what holds between the turns: what is met, what waits, how many of them are worked off -/
structure Bfs (may : Int → Int → Bool) (sh : Int → Int) (z : Int) (m : Mp Int) (C : List Int) (F : Mp (Option Int)) (W : List Int) (p : Nat) : Prop where
  wf : WF may sh z m F
  wk : ∀ c, c ∈ W ↔ ((mget F c).isSome = true ∧ sh c = z)
  wn : W.Nodup
  done : ∀ (i : Nat) a, i < p → W[i]? = some a → ∀ b, may a b = true → (mget F b).isSome = true
  r1 : ∀ c ∈ C, mget m c = none → sh c = z → (mget F c).isSome = true
  sub : ∀ c ∈ W, c ∈ C
  rt : ∀ c, mget F c = some none → c ∈ C
section
variable {may : Int → Int → Bool} {sh : Int → Int} {z : Int} {m : Mp Int} {C W : List Int} {F : Mp (Option Int)} {p : Nat}
theorem wf_roots : ∀ (L : List Int) (F : Mp (Option Int)), WF may sh z m F → (∀ c ∈ L, mget F c = none) → L.Nodup → (∀ c ∈ L, sh c = z ∧ mget m c = none) → WF may sh z m (F ++ L.map fun c => (c, none))
  | [], F, w, _, _, _ => by simpa using w
  | c :: r, F, w, h1, nd, h2 => by
    rw [List.nodup_cons] at nd
    have hc := h2 c (List.mem_cons_self ..)
    have := wf_roots r (F ++ [(c, none)]) (w.root (h1 c (List.mem_cons_self ..)) hc.1 hc.2) (fun x hx => by
      have hne : x ≠ c := fun e => nd.1 (e ▸ hx)
      rw [mget_append, mget_one, if_neg hne, h1 x (List.mem_cons_of_mem _ hx)]; rfl) nd.2 (fun x hx => h2 x (List.mem_cons_of_mem _ hx))
    rw [List.append_assoc] at this
    exact this
theorem mget_roots (L : List Int) (c : Int) : mget (L.map fun c => (c, (none : Option Int))) c = if c ∈ L then some none else none := by
  induction L with
  | nil => rfl
  | cons x r ih =>
    rw [List.map_cons, ← List.singleton_append, mget_append, mget_one, ih]
    by_cases h : c = x
    · have hm : c ∈ x :: r := by rw [h]; exact List.mem_cons_self ..
      rw [if_pos h, if_pos hm]; rfl
    · rw [if_neg h]
      by_cases h2 : c ∈ r
      · rw [if_pos h2, if_pos (List.mem_cons_of_mem _ h2)]; rfl
      · rw [if_neg h2, if_neg (fun q => by rcases List.mem_cons.mp q with q | q; exact h q; exact h2 q)]; rfl
theorem Bfs.start (nd : C.Nodup) : Bfs may sh z m C (((bareL m C).filter fun c => decide (sh c = z)).map fun c => (c, none)) ((bareL m C).filter fun c => decide (sh c = z)) 0 := by
  have hm : ∀ c, c ∈ (bareL m C).filter (fun c => decide (sh c = z)) ↔ c ∈ C ∧ mget m c = none ∧ sh c = z := fun c => by
    unfold bareL
    rw [List.mem_filter, List.mem_filter]
    simp [and_assoc]
  have hn : ((bareL m C).filter fun c => decide (sh c = z)).Nodup := (nd.sublist List.filter_sublist).sublist List.filter_sublist
  refine ⟨?_, fun c => ?_, hn, fun i a h => by omega, fun c hc h1 h2 => ?_, fun c hc => ((hm c).mp hc).1, fun c hc => ?_⟩
  · have := wf_roots (may := may) (sh := sh) (z := z) (m := m) _ [] .nil (fun _ _ => rfl) hn (fun c hc => ⟨((hm c).mp hc).2.2, ((hm c).mp hc).2.1⟩)
    simpa using this
  · rw [mget_roots]
    by_cases h : c ∈ (bareL m C).filter fun c => decide (sh c = z)
    · rw [if_pos h]; exact ⟨fun _ => ⟨rfl, ((hm c).mp h).2.2⟩, fun _ => h⟩
    · rw [if_neg h]; exact ⟨fun q => absurd q h, fun q => by cases q.1⟩
  · rw [mget_roots, if_pos ((hm c).mpr ⟨hc, h1, h2⟩)]; rfl
  · rw [mget_roots] at hc
    split at hc
    · rename_i q; exact ((hm c).mp q).1
    · cases hc
/-- the same within a turn, for the cell a and the first j cells beside it -/
structure Mid (may : Int → Int → Bool) (sh : Int → Int) (z : Int) (m : Mp Int) (C : List Int) (a : Int) (bs : List Int) (p : Nat) (j : Nat) (F : Mp (Option Int)) (W : List Int) : Prop where
  wf : WF may sh z m F
  wk : ∀ c, c ∈ W ↔ ((mget F c).isSome = true ∧ sh c = z)
  wn : W.Nodup
  at_ : W[p]? = some a
  done : ∀ (i : Nat) x, i < p → W[i]? = some x → ∀ b, may x b = true → (mget F b).isSome = true
  r1 : ∀ c ∈ C, mget m c = none → sh c = z → (mget F c).isSome = true
  sub : ∀ c ∈ W, c ∈ C
  rt : ∀ c, mget F c = some none → c ∈ C
  seen : ∀ b ∈ bs.take j, (mget F b).isSome = true
theorem Mid.start {a : Int} {bs : List Int} (b : Bfs may sh z m C F W p) (h : W[p]? = some a) : Mid may sh z m C a bs p 0 F W :=
  ⟨b.wf, b.wk, b.wn, h, b.done, b.r1, b.sub, b.rt, fun _ q => by simp at q⟩
theorem Mid.fin {a : Int} {bs : List Int} (x : Mid may sh z m C a bs p bs.length F W) (hb : ∀ b, may a b = true → b ∈ bs) : Bfs may sh z m C F W (p + 1) := by
  refine ⟨x.wf, x.wk, x.wn, fun i y hi hy b hm => ?_, x.r1, x.sub, x.rt⟩
  by_cases q : i = p
  · rw [q, x.at_] at hy; cases hy
    exact x.seen b (by rw [List.take_length]; exact hb b hm)
  · exact x.done i y (by omega) hy b hm
theorem Mid.skip {a b : Int} {bs : List Int} {j : Nat} (x : Mid may sh z m C a bs p j F W) (hb : bs[j]? = some b) (h : (mget F b).isSome = true) : Mid may sh z m C a bs p (j + 1) F W := by
  refine ⟨x.wf, x.wk, x.wn, x.at_, x.done, x.r1, x.sub, x.rt, fun y hy => ?_⟩
  rw [List.take_add_one, hb] at hy
  rcases List.mem_append.mp hy with q | q
  · exact x.seen y q
  · simp at q; rw [q]; exact h
theorem some_left {α : Type} {F N : Mp α} {k : Int} (h : (mget F k).isSome = true) : (mget (F ++ N) k).isSome = true := by
  rw [mget_append, Option.isSome_or, h]; rfl
theorem Mid.leaf {a b : Int} {bs : List Int} {j : Nat} (g : Gph may sh) (x : Mid may sh z m C a bs p j F W) (hb : bs[j]? = some b) (hm : may a b = true) (hn : mget F b = none) (hv : mget m b = none) : Mid may sh z m C a bs p (j + 1) (F ++ [(b, some a)]) W := by
  have ha := (x.wk a).mp (List.mem_of_getElem? x.at_)
  have hsb : sh b ≠ z := fun e => g.shade a b hm (ha.2.trans e.symm)
  refine ⟨x.wf.leaf ha.1 ha.2 hm hn hv, fun c => ?_, x.wn, x.at_, fun i y hi hy d hd => some_left (x.done i y hi hy d hd), fun c h1 h2 h3 => some_left (x.r1 c h1 h2 h3), x.sub, fun c hc => ?_, fun y hy => ?_⟩
  · rw [x.wk c]
    refine ⟨fun q => ⟨some_left q.1, q.2⟩, fun q => ⟨?_, q.2⟩⟩
    have hcb : c ≠ b := fun e => hsb (e ▸ q.2)
    have := q.1
    rw [mget_append, mget_one, if_neg hcb, Option.or_none] at this; exact this
  · by_cases hcb : c = b
    · rw [mget_append, mget_one, hcb, hn, if_pos rfl] at hc; simp at hc
    · rw [mget_append, mget_one, if_neg hcb, Option.or_none] at hc; exact x.rt c hc
  · rw [List.take_add_one, hb] at hy
    rcases List.mem_append.mp hy with q | q
    · exact some_left (x.seen y q)
    · simp at q; rw [q, mget_append, mget_one, if_pos rfl, hn]; rfl
theorem Mid.pair {a b v : Int} {bs : List Int} {j : Nat} (g : Gph may sh) (L : LayM may m) (hC : ∀ k v, mget m k = some v → k ∈ C) (x : Mid may sh z m C a bs p j F W) (hb : bs[j]? = some b) (hm : may a b = true) (hn : mget F b = none) (hv : mget m b = some v) :
    mget (F ++ [(b, some a)]) v = none ∧ Mid may sh z m C a bs p (j + 1) (F ++ [(b, some a), (v, some b)]) (W ++ [v]) := by
  have ha := (x.wk a).mp (List.mem_of_getElem? x.at_)
  have hsb : sh b ≠ z := fun e => g.shade a b hm (ha.2.trans e.symm)
  obtain ⟨hvb, hmv⟩ := L.inv b v hv
  have hsv : sh v = z := by
    have h1 := g.shade a b hm
    have h2 := g.shade b v hmv
    rcases g.two a with t1 | t1 <;> rcases g.two b with t2 | t2 <;> rcases g.two v with t3 | t3 <;> omega
  have hvn := x.wf.pairNew g L hn hv
  have hbv : v ≠ b := fun e => hsb (e ▸ hsv)
  have hvW : v ∉ W := fun q => by have := ((x.wk v).mp q).1; rw [hvn] at this; cases this
  have hp : p < W.length := by
    obtain ⟨q, _⟩ := List.getElem?_eq_some_iff.mp x.at_; exact q
  refine ⟨by rw [mget_append, mget_one, if_neg hbv, hvn]; rfl, x.wf.pair ha.1 ha.2 hm hn hv, fun c => ?_, ?_, ?_, fun i y hi hy d hd => ?_, fun c h1 h2 h3 => some_left (x.r1 c h1 h2 h3), fun c hc => ?_, fun c hc => ?_, fun y hy => ?_⟩
  · rw [List.mem_append, List.mem_singleton, x.wk c, mget_append, mget_two, Option.isSome_or]
    by_cases c1 : c = v
    · subst c1
      simp [hbv, hsv]
    · by_cases c2 : c = b
      · subst c2
        simp [hsb, c1]
      · simp [c1, c2]
  · rw [List.nodup_append]
    exact ⟨x.wn, by simp, fun y hy w hw e => by rw [List.mem_singleton.mp hw] at e; exact hvW (e ▸ hy)⟩
  · rw [List.getElem?_append_left hp]; exact x.at_
  · rw [List.getElem?_append_left (by omega)] at hy
    exact some_left (x.done i y hi hy d hd)
  · rcases List.mem_append.mp hc with q | q
    · exact x.sub c q
    · rw [List.mem_singleton.mp q]; exact hC v b hvb
  · rw [mget_append, mget_two] at hc
    by_cases c2 : c = b
    · rw [c2, hn, if_pos rfl] at hc; simp at hc
    · rw [if_neg c2] at hc
      by_cases c1 : c = v
      · rw [c1, hvn, if_pos rfl] at hc; simp at hc
      · rw [if_neg c1, Option.or_none] at hc; exact x.rt c hc
  · rw [List.take_add_one, hb] at hy
    rcases List.mem_append.mp hy with q | q
    · exact some_left (x.seen y q)
    · simp at q; rw [q, mget_append, mget_two, if_pos rfl, hn]; rfl
end
end Fl

namespace Fl
open PySem PySem.W PyProof.Rows
abbrev PP : Program := PySem.Challenge.pw_uf030040_12
def stAt (i : Nat) : Stmt := (PP.main.body[i]?).getD default
def inAt (i j : Nat) : Stmt := match stAt i with
  | .ClassDef _ _ _ b _ _ _ _ _ _ _ => (b[j]?).getD default
  | _ => default
def fnD (st : Stmt) (qual : Str) (dV kV doc pm : Value) (an : Option Addr) (cd ct : Value) : FuncData := match st with
  | .FunctionDef n a b _ _ _ sc _ _ _ => { name := n, qualname := qual, params := a, body := .stmts b, scope := sc, globals := mainGlobals, closure := [], defaults := dV, kwdefaults := kV, doc := doc, pyModule := pm, annotations := an, code := cd, closureTuple := ct, builtins := builtinsNs }
  | _ => default
def kA : List Addr := [2, 3, 15, 22, 23, 24, 25, 28, 35, 36, 37, 40, 47, 48, 49, 52, 59, 60, 61, 64, 71, 72, 73, 76, 83, 84, 85, 88, 95, 96, 97, 100, 107, 108, 109, 119, 121, 122, 124, 125, 126, 128, 129, 131, 132, 133, 135, 136, 138, 139, 140, 142, 143, 145, 146, 147, 150, 151, 152, 154, 155, 157, 158, 159, 161, 162, 164, 165, 166, 167, 168, 169, 170, 173, 175, 176, 178, 179, 180, 182, 183, 185, 186, 187, 189, 190, 192, 193, 194, 196, 197, 199, 200, 201, 203, 204, 206, 207, 208, 210, 211, 213, 214, 222, 224, 225, 227, 228, 229, 231, 232, 234, 235, 236, 238, 239, 241, 242, 243, 246, 247, 248, 250, 251, 253, 254, 255, 257, 258, 260, 261, 262, 264, 265, 267, 268, 269, 270, 271, 272, 273, 276, 278, 279, 281, 282, 283, 285, 286, 288, 289, 290, 292, 293, 295, 296, 297, 300, 301, 302, 304, 305, 307, 308, 309, 311, 312, 314, 315, 316, 319, 320, 321, 324, 325, 326, 328, 329, 331, 332]
def kH (P : Params) : Frag := (nat_lit 2, ⟨.none, none, (.dict #[] 0), #[]⟩) :: (nat_lit 3, ⟨(.type "dict"), none, (.dict #[⟨PyData.keyHash P (Str.ofString "__name__"), (.str (Str.ofString "__name__") 165), (.str (Str.ofString "law_uf030040_12") 563)⟩, ⟨PyData.keyHash P (Str.ofString "__doc__"), (.str (Str.ofString "__doc__") 166), .none⟩, ⟨PyData.keyHash P (Str.ofString "__package__"), (.str (Str.ofString "__package__") 167), .none⟩, ⟨PyData.keyHash P (Str.ofString "__loader__"), (.str (Str.ofString "__loader__") 168), (.builtin "__main__.__loader__#opaque")⟩, ⟨PyData.keyHash P (Str.ofString "__spec__"), (.str (Str.ofString "__spec__") 169), .none⟩, ⟨PyData.keyHash P (Str.ofString "__annotations__"), (.str (Str.ofString "__annotations__") 170), (.ref 6)⟩, ⟨PyData.keyHash P (Str.ofString "__builtins__"), (.str (Str.ofString "__builtins__") 171), (.ref 4)⟩, ⟨PyData.keyHash P (Str.ofString "__file__"), (.str (Str.ofString "__file__") 173), (.str (Str.ofString "/claim/cut.py") 172)⟩, ⟨PyData.keyHash P (Str.ofString "__cached__"), (.str (Str.ofString "__cached__") 174), .none⟩, ⟨PyData.keyHash P (Str.ofString "FloorError"), (.str (Str.ofString "FloorError") 206), (.ref 24)⟩, ⟨PyData.keyHash P (Str.ofString "TooLarge"), (.str (Str.ofString "TooLarge") 222), (.ref 37)⟩, ⟨PyData.keyHash P (Str.ofString "Ragged"), (.str (Str.ofString "Ragged") 238), (.ref 49)⟩, ⟨PyData.keyHash P (Str.ofString "StrangeSign"), (.str (Str.ofString "StrangeSign") 254), (.ref 61)⟩, ⟨PyData.keyHash P (Str.ofString "NoCell"), (.str (Str.ofString "NoCell") 270), (.ref 73)⟩, ⟨PyData.keyHash P (Str.ofString "NotBeside"), (.str (Str.ofString "NotBeside") 286), (.ref 85)⟩, ⟨PyData.keyHash P (Str.ofString "Covered"), (.str (Str.ofString "Covered") 302), (.ref 97)⟩, ⟨PyData.keyHash P (Str.ofString "Uncovered"), (.str (Str.ofString "Uncovered") 318), (.ref 109)⟩, ⟨PyData.keyHash P (Str.ofString "Laying"), (.str (Str.ofString "Laying") 400), (.ref 168)⟩, ⟨PyData.keyHash P (Str.ofString "reached"), (.str (Str.ofString "reached") 417), (.ref 179)⟩, ⟨PyData.keyHash P (Str.ofString "way_to"), (.str (Str.ofString "way_to") 426), (.ref 186)⟩, ⟨PyData.keyHash P (Str.ofString "turned"), (.str (Str.ofString "turned") 437), (.ref 193)⟩, ⟨PyData.keyHash P (Str.ofString "better"), (.str (Str.ofString "better") 449), (.ref 200)⟩, ⟨PyData.keyHash P (Str.ofString "laid"), (.str (Str.ofString "laid") 458), (.ref 207)⟩, ⟨PyData.keyHash P (Str.ofString "MOST"), (.str (Str.ofString "MOST") 462), (.int 12 461)⟩, ⟨PyData.keyHash P (Str.ofString "SIGNS"), (.str (Str.ofString "SIGNS") 464), (.str (Str.ofString ".-|#") 463)⟩, ⟨PyData.keyHash P (Str.ofString "ALONG"), (.str (Str.ofString "ALONG") 466), (.str (Str.ofString ".-") 465)⟩, ⟨PyData.keyHash P (Str.ofString "ACROSS"), (.str (Str.ofString "ACROSS") 468), (.str (Str.ofString ".|") 467)⟩, ⟨PyData.keyHash P (Str.ofString "look_at_sizes"), (.str (Str.ofString "look_at_sizes") 476), (.ref 214)⟩, ⟨PyData.keyHash P (Str.ofString "Floor"), (.str (Str.ofString "Floor") 562), (.ref 271)⟩, ⟨PyData.keyHash P (Str.ofString "_law_cell_at"), (.str (Str.ofString "_law_cell_at") 572), (.ref 282)⟩, ⟨PyData.keyHash P (Str.ofString "_law_number"), (.str (Str.ofString "_law_number") 581), (.ref 289)⟩, ⟨PyData.keyHash P (Str.ofString "_law_may"), (.str (Str.ofString "_law_may") 593), (.ref 296)⟩, ⟨PyData.keyHash P (Str.ofString "_law_cells"), (.str (Str.ofString "_law_cells") 599), (.ref 301)⟩, ⟨PyData.keyHash P (Str.ofString "_law_whole"), (.str (Str.ofString "_law_whole") 606), (.ref 308)⟩, ⟨PyData.keyHash P (Str.ofString "_law_listed"), (.str (Str.ofString "_law_listed") 615), (.ref 315)⟩, ⟨PyData.keyHash P (Str.ofString "_law_rows"), (.str (Str.ofString "_law_rows") 621), (.ref 320)⟩, ⟨PyData.keyHash P (Str.ofString "_law_fewest"), (.str (Str.ofString "_law_fewest") 627), (.ref 325)⟩, ⟨PyData.keyHash P (Str.ofString "law"), (.str (Str.ofString "law") 636), (.ref 332)⟩] 38), #[]⟩) :: (nat_lit 15, ⟨(.type "tuple"), none, (.seq #[(.type "ValueError")] 0), #[]⟩) :: (nat_lit 22, ⟨(.type "tuple"), none, (.seq #[] 0), #[]⟩) :: (nat_lit 23, ⟨(.type "dict"), none, (.dict #[⟨PyData.keyHash P (Str.ofString "__module__"), (.str (Str.ofString "__module__") 196), (.str (Str.ofString "slabfloor.errors") 187)⟩, ⟨PyData.keyHash P (Str.ofString "__firstlineno__"), (.str (Str.ofString "__firstlineno__") 200), (.int 2 199)⟩, ⟨PyData.keyHash P (Str.ofString "__static_attributes__"), (.str (Str.ofString "__static_attributes__") 201), (.ref 22)⟩, ⟨PyData.keyHash P (Str.ofString "__weakref__"), (.str (Str.ofString "__weakref__") 203), (.ref 25)⟩, ⟨PyData.keyHash P (Str.ofString "__doc__"), (.str (Str.ofString "__doc__") 204), .none⟩] 3), #[]⟩) :: (nat_lit 24, ⟨(.type "type"), none, (.cls { name := (Str.ofString "FloorError"), bases := [(.type "ValueError")], mro := [(.ref 24), (.type "ValueError"), (.type "Exception"), (.type "BaseException"), (.type "object")], ns := 23, qualname := (Str.ofString "FloorError"), hasDict := true, slotNames := [], subclasses := [(.ref 37), (.ref 49), (.ref 61), (.ref 73), (.ref 85), (.ref 97), (.ref 109)], abstract := false, collection := none, hasDel := false }), #[(some (.ref 15)), none, (some (.str (Str.ofString "FloorError") 189)), (some (.str (Str.ofString "FloorError") 197)), (some (.builtin "ValueError.__new__")), (some (.bool true))]⟩) :: (nat_lit 25, ⟨(.type "getset_descriptor"), none, (.fields #[(.str (Str.ofString "__weakref__") 202), (.ref 24), (.builtin "ExceptionGroup.__weakref__"), .none]), #[]⟩) :: (nat_lit 28, ⟨(.type "tuple"), none, (.seq #[(.ref 24)] 0), #[]⟩) :: (nat_lit 35, ⟨(.type "tuple"), none, (.seq #[] 0), #[]⟩) :: (nat_lit 36, ⟨(.type "dict"), none, (.dict #[⟨PyData.keyHash P (Str.ofString "__module__"), (.str (Str.ofString "__module__") 214), (.str (Str.ofString "slabfloor.errors") 187)⟩, ⟨PyData.keyHash P (Str.ofString "__firstlineno__"), (.str (Str.ofString "__firstlineno__") 218), (.int 4 217)⟩, ⟨PyData.keyHash P (Str.ofString "__static_attributes__"), (.str (Str.ofString "__static_attributes__") 219), (.ref 35)⟩, ⟨PyData.keyHash P (Str.ofString "__doc__"), (.str (Str.ofString "__doc__") 220), .none⟩] 2), #[]⟩) :: (nat_lit 37, ⟨(.type "type"), none, (.cls { name := (Str.ofString "TooLarge"), bases := [(.ref 24)], mro := [(.ref 37), (.ref 24), (.type "ValueError"), (.type "Exception"), (.type "BaseException"), (.type "object")], ns := 36, qualname := (Str.ofString "TooLarge"), hasDict := true, slotNames := [], subclasses := [], abstract := false, collection := none, hasDel := false }), #[(some (.ref 28)), none, (some (.str (Str.ofString "TooLarge") 207)), (some (.str (Str.ofString "TooLarge") 215)), (some (.builtin "ValueError.__new__")), (some (.bool true))]⟩) :: (nat_lit 40, ⟨(.type "tuple"), none, (.seq #[(.ref 24)] 0), #[]⟩) :: (nat_lit 47, ⟨(.type "tuple"), none, (.seq #[] 0), #[]⟩) :: (nat_lit 48, ⟨(.type "dict"), none, (.dict #[⟨PyData.keyHash P (Str.ofString "__module__"), (.str (Str.ofString "__module__") 230), (.str (Str.ofString "slabfloor.errors") 187)⟩, ⟨PyData.keyHash P (Str.ofString "__firstlineno__"), (.str (Str.ofString "__firstlineno__") 234), (.int 6 233)⟩, ⟨PyData.keyHash P (Str.ofString "__static_attributes__"), (.str (Str.ofString "__static_attributes__") 235), (.ref 47)⟩, ⟨PyData.keyHash P (Str.ofString "__doc__"), (.str (Str.ofString "__doc__") 236), .none⟩] 2), #[]⟩) :: (nat_lit 49, ⟨(.type "type"), none, (.cls { name := (Str.ofString "Ragged"), bases := [(.ref 24)], mro := [(.ref 49), (.ref 24), (.type "ValueError"), (.type "Exception"), (.type "BaseException"), (.type "object")], ns := 48, qualname := (Str.ofString "Ragged"), hasDict := true, slotNames := [], subclasses := [], abstract := false, collection := none, hasDel := false }), #[(some (.ref 40)), none, (some (.str (Str.ofString "Ragged") 223)), (some (.str (Str.ofString "Ragged") 231)), (some (.builtin "ValueError.__new__")), (some (.bool true))]⟩) :: (nat_lit 52, ⟨(.type "tuple"), none, (.seq #[(.ref 24)] 0), #[]⟩) :: (nat_lit 59, ⟨(.type "tuple"), none, (.seq #[] 0), #[]⟩) :: (nat_lit 60, ⟨(.type "dict"), none, (.dict #[⟨PyData.keyHash P (Str.ofString "__module__"), (.str (Str.ofString "__module__") 246), (.str (Str.ofString "slabfloor.errors") 187)⟩, ⟨PyData.keyHash P (Str.ofString "__firstlineno__"), (.str (Str.ofString "__firstlineno__") 250), (.int 8 249)⟩, ⟨PyData.keyHash P (Str.ofString "__static_attributes__"), (.str (Str.ofString "__static_attributes__") 251), (.ref 59)⟩, ⟨PyData.keyHash P (Str.ofString "__doc__"), (.str (Str.ofString "__doc__") 252), .none⟩] 2), #[]⟩) :: (nat_lit 61, ⟨(.type "type"), none, (.cls { name := (Str.ofString "StrangeSign"), bases := [(.ref 24)], mro := [(.ref 61), (.ref 24), (.type "ValueError"), (.type "Exception"), (.type "BaseException"), (.type "object")], ns := 60, qualname := (Str.ofString "StrangeSign"), hasDict := true, slotNames := [], subclasses := [], abstract := false, collection := none, hasDel := false }), #[(some (.ref 52)), none, (some (.str (Str.ofString "StrangeSign") 239)), (some (.str (Str.ofString "StrangeSign") 247)), (some (.builtin "ValueError.__new__")), (some (.bool true))]⟩) :: (nat_lit 64, ⟨(.type "tuple"), none, (.seq #[(.ref 24)] 0), #[]⟩) :: (nat_lit 71, ⟨(.type "tuple"), none, (.seq #[] 0), #[]⟩) :: (nat_lit 72, ⟨(.type "dict"), none, (.dict #[⟨PyData.keyHash P (Str.ofString "__module__"), (.str (Str.ofString "__module__") 262), (.str (Str.ofString "slabfloor.errors") 187)⟩, ⟨PyData.keyHash P (Str.ofString "__firstlineno__"), (.str (Str.ofString "__firstlineno__") 266), (.int 10 265)⟩, ⟨PyData.keyHash P (Str.ofString "__static_attributes__"), (.str (Str.ofString "__static_attributes__") 267), (.ref 71)⟩, ⟨PyData.keyHash P (Str.ofString "__doc__"), (.str (Str.ofString "__doc__") 268), .none⟩] 2), #[]⟩) :: (nat_lit 73, ⟨(.type "type"), none, (.cls { name := (Str.ofString "NoCell"), bases := [(.ref 24)], mro := [(.ref 73), (.ref 24), (.type "ValueError"), (.type "Exception"), (.type "BaseException"), (.type "object")], ns := 72, qualname := (Str.ofString "NoCell"), hasDict := true, slotNames := [], subclasses := [], abstract := false, collection := none, hasDel := false }), #[(some (.ref 64)), none, (some (.str (Str.ofString "NoCell") 255)), (some (.str (Str.ofString "NoCell") 263)), (some (.builtin "ValueError.__new__")), (some (.bool true))]⟩) :: (nat_lit 76, ⟨(.type "tuple"), none, (.seq #[(.ref 24)] 0), #[]⟩) :: (nat_lit 83, ⟨(.type "tuple"), none, (.seq #[] 0), #[]⟩) :: (nat_lit 84, ⟨(.type "dict"), none, (.dict #[⟨PyData.keyHash P (Str.ofString "__module__"), (.str (Str.ofString "__module__") 278), (.str (Str.ofString "slabfloor.errors") 187)⟩, ⟨PyData.keyHash P (Str.ofString "__firstlineno__"), (.str (Str.ofString "__firstlineno__") 282), (.int 12 281)⟩, ⟨PyData.keyHash P (Str.ofString "__static_attributes__"), (.str (Str.ofString "__static_attributes__") 283), (.ref 83)⟩, ⟨PyData.keyHash P (Str.ofString "__doc__"), (.str (Str.ofString "__doc__") 284), .none⟩] 2), #[]⟩) :: (nat_lit 85, ⟨(.type "type"), none, (.cls { name := (Str.ofString "NotBeside"), bases := [(.ref 24)], mro := [(.ref 85), (.ref 24), (.type "ValueError"), (.type "Exception"), (.type "BaseException"), (.type "object")], ns := 84, qualname := (Str.ofString "NotBeside"), hasDict := true, slotNames := [], subclasses := [], abstract := false, collection := none, hasDel := false }), #[(some (.ref 76)), none, (some (.str (Str.ofString "NotBeside") 271)), (some (.str (Str.ofString "NotBeside") 279)), (some (.builtin "ValueError.__new__")), (some (.bool true))]⟩) :: (nat_lit 88, ⟨(.type "tuple"), none, (.seq #[(.ref 24)] 0), #[]⟩) :: (nat_lit 95, ⟨(.type "tuple"), none, (.seq #[] 0), #[]⟩) :: (nat_lit 96, ⟨(.type "dict"), none, (.dict #[⟨PyData.keyHash P (Str.ofString "__module__"), (.str (Str.ofString "__module__") 294), (.str (Str.ofString "slabfloor.errors") 187)⟩, ⟨PyData.keyHash P (Str.ofString "__firstlineno__"), (.str (Str.ofString "__firstlineno__") 298), (.int 14 297)⟩, ⟨PyData.keyHash P (Str.ofString "__static_attributes__"), (.str (Str.ofString "__static_attributes__") 299), (.ref 95)⟩, ⟨PyData.keyHash P (Str.ofString "__doc__"), (.str (Str.ofString "__doc__") 300), .none⟩] 2), #[]⟩) :: (nat_lit 97, ⟨(.type "type"), none, (.cls { name := (Str.ofString "Covered"), bases := [(.ref 24)], mro := [(.ref 97), (.ref 24), (.type "ValueError"), (.type "Exception"), (.type "BaseException"), (.type "object")], ns := 96, qualname := (Str.ofString "Covered"), hasDict := true, slotNames := [], subclasses := [], abstract := false, collection := none, hasDel := false }), #[(some (.ref 88)), none, (some (.str (Str.ofString "Covered") 287)), (some (.str (Str.ofString "Covered") 295)), (some (.builtin "ValueError.__new__")), (some (.bool true))]⟩) :: (nat_lit 100, ⟨(.type "tuple"), none, (.seq #[(.ref 24)] 0), #[]⟩) :: (nat_lit 107, ⟨(.type "tuple"), none, (.seq #[] 0), #[]⟩) :: (nat_lit 108, ⟨(.type "dict"), none, (.dict #[⟨PyData.keyHash P (Str.ofString "__module__"), (.str (Str.ofString "__module__") 310), (.str (Str.ofString "slabfloor.errors") 187)⟩, ⟨PyData.keyHash P (Str.ofString "__firstlineno__"), (.str (Str.ofString "__firstlineno__") 314), (.int 16 313)⟩, ⟨PyData.keyHash P (Str.ofString "__static_attributes__"), (.str (Str.ofString "__static_attributes__") 315), (.ref 107)⟩, ⟨PyData.keyHash P (Str.ofString "__doc__"), (.str (Str.ofString "__doc__") 316), .none⟩] 2), #[]⟩) :: (nat_lit 109, ⟨(.type "type"), none, (.cls { name := (Str.ofString "Uncovered"), bases := [(.ref 24)], mro := [(.ref 109), (.ref 24), (.type "ValueError"), (.type "Exception"), (.type "BaseException"), (.type "object")], ns := 108, qualname := (Str.ofString "Uncovered"), hasDict := true, slotNames := [], subclasses := [], abstract := false, collection := none, hasDel := false }), #[(some (.ref 100)), none, (some (.str (Str.ofString "Uncovered") 303)), (some (.str (Str.ofString "Uncovered") 311)), (some (.builtin "ValueError.__new__")), (some (.bool true))]⟩) :: (nat_lit 119, ⟨(.type "tuple"), none, (.seq #[] 0), #[]⟩) :: (nat_lit 121, ⟨(.type "tuple"), none, (.seq #[(.str (Str.ofString "self") 336), (.str (Str.ofString "floor") 337)] 0), #[]⟩) :: (nat_lit 122, ⟨(.type "tuple"), none, (.seq #[] 0), #[]⟩) :: (nat_lit 124, ⟨(.type "code"), none, (.fields #[(.str (Str.ofString "__init__") 333), (.str (Str.ofString "Laying.__init__") 334), (.str (Str.ofString "/claim/cut.py") 335), (.int 21 0), (.int 2 0), (.int 0 0), (.int 0 0), (.int 3 0), (.ref 119), (.bool true), (.int 181 0), (.ref 120), .none, (.ref 121), (.ref 122), (.ref 123), (.int 338 0), (.int 21 0), (.str (Str.ofString "/claim/cut.py") 339)]), #[]⟩) :: (nat_lit 125, ⟨(.type "function"), none, (.func (fnD (inAt 10 0) (Str.ofString "Laying.__init__") .none .none .none (.str (Str.ofString "slabfloor.laying") 319) none (.ref 124) .none)), #[]⟩) :: (nat_lit 126, ⟨(.type "tuple"), none, (.seq #[] 0), #[]⟩) :: (nat_lit 128, ⟨(.type "tuple"), none, (.seq #[(.str (Str.ofString "self") 344), (.str (Str.ofString "cell") 345)] 0), #[]⟩) :: (nat_lit 129, ⟨(.type "tuple"), none, (.seq #[] 0), #[]⟩) :: (nat_lit 131, ⟨(.type "code"), none, (.fields #[(.str (Str.ofString "need_cell") 341), (.str (Str.ofString "Laying.need_cell") 342), (.str (Str.ofString "/claim/cut.py") 343), (.int 25 0), (.int 2 0), (.int 0 0), (.int 0 0), (.int 3 0), (.ref 126), (.bool true), (.int 181 0), (.ref 127), .none, (.ref 128), (.ref 129), (.ref 130), (.int 346 0), (.int 25 0), (.str (Str.ofString "/claim/cut.py") 347)]), #[]⟩) :: (nat_lit 132, ⟨(.type "function"), none, (.func (fnD (inAt 10 1) (Str.ofString "Laying.need_cell") .none .none .none (.str (Str.ofString "slabfloor.laying") 319) none (.ref 131) .none)), #[]⟩) :: (nat_lit 133, ⟨(.type "tuple"), none, (.seq #[] 0), #[]⟩) :: (nat_lit 135, ⟨(.type "tuple"), none, (.seq #[(.str (Str.ofString "self") 352), (.str (Str.ofString "one") 353), (.str (Str.ofString "other") 354)] 0), #[]⟩) :: (nat_lit 136, ⟨(.type "tuple"), none, (.seq #[] 0), #[]⟩) :: (nat_lit 138, ⟨(.type "code"), none, (.fields #[(.str (Str.ofString "put") 349), (.str (Str.ofString "Laying.put") 350), (.str (Str.ofString "/claim/cut.py") 351), (.int 29 0), (.int 3 0), (.int 0 0), (.int 0 0), (.int 3 0), (.ref 133), (.bool true), (.int 181 0), (.ref 134), .none, (.ref 135), (.ref 136), (.ref 137), (.int 355 0), (.int 29 0), (.str (Str.ofString "/claim/cut.py") 356)]), #[]⟩) :: (nat_lit 139, ⟨(.type "function"), none, (.func (fnD (inAt 10 2) (Str.ofString "Laying.put") .none .none .none (.str (Str.ofString "slabfloor.laying") 319) none (.ref 138) .none)), #[]⟩) :: (nat_lit 140, ⟨(.type "tuple"), none, (.seq #[] 0), #[]⟩) :: (nat_lit 142, ⟨(.type "tuple"), none, (.seq #[(.str (Str.ofString "self") 361), (.str (Str.ofString "cell") 362), (.str (Str.ofString "other") 363)] 0), #[]⟩) :: (nat_lit 143, ⟨(.type "tuple"), none, (.seq #[] 0), #[]⟩) :: (nat_lit 145, ⟨(.type "code"), none, (.fields #[(.str (Str.ofString "lift") 358), (.str (Str.ofString "Laying.lift") 359), (.str (Str.ofString "/claim/cut.py") 360), (.int 39 0), (.int 2 0), (.int 0 0), (.int 0 0), (.int 3 0), (.ref 140), (.bool true), (.int 181 0), (.ref 141), .none, (.ref 142), (.ref 143), (.ref 144), (.int 364 0), (.int 39 0), (.str (Str.ofString "/claim/cut.py") 365)]), #[]⟩) :: (nat_lit 146, ⟨(.type "function"), none, (.func (fnD (inAt 10 3) (Str.ofString "Laying.lift") .none .none .none (.str (Str.ofString "slabfloor.laying") 319) none (.ref 145) .none)), #[]⟩) :: (nat_lit 147, ⟨(.type "tuple"), none, (.seq #[] 0), #[]⟩) :: (nat_lit 150, ⟨(.type "code"), none, (.fields #[(.str (Str.ofString "bare") 367), (.str (Str.ofString "Laying.bare") 368), (.str (Str.ofString "/claim/cut.py") 369), (.int 46 0), (.int 1 0), (.int 0 0), (.int 0 0), (.int 3 0), (.ref 147), (.bool true), (.int 181 0), (.ref 148), .none, .none, .none, (.ref 149), (.int 370 0), (.int 46 0), (.str (Str.ofString "/claim/cut.py") 371)]), #[]⟩) :: (nat_lit 151, ⟨(.type "function"), none, (.func (fnD (inAt 10 4) (Str.ofString "Laying.bare") .none .none .none (.str (Str.ofString "slabfloor.laying") 319) none (.ref 150) .none)), #[]⟩) :: (nat_lit 152, ⟨(.type "tuple"), none, (.seq #[] 0), #[]⟩) :: (nat_lit 154, ⟨(.type "tuple"), none, (.seq #[(.str (Str.ofString "self") 376), (.str (Str.ofString "found") 377), (.str (Str.ofString "cell") 378)] 0), #[]⟩) :: (nat_lit 155, ⟨(.type "tuple"), none, (.seq #[] 0), #[]⟩) :: (nat_lit 157, ⟨(.type "code"), none, (.fields #[(.str (Str.ofString "slabs") 373), (.str (Str.ofString "Laying.slabs") 374), (.str (Str.ofString "/claim/cut.py") 375), (.int 49 0), (.int 1 0), (.int 0 0), (.int 0 0), (.int 3 0), (.ref 152), (.bool true), (.int 181 0), (.ref 153), .none, (.ref 154), (.ref 155), (.ref 156), (.int 379 0), (.int 49 0), (.str (Str.ofString "/claim/cut.py") 380)]), #[]⟩) :: (nat_lit 158, ⟨(.type "function"), none, (.func (fnD (inAt 10 5) (Str.ofString "Laying.slabs") .none .none .none (.str (Str.ofString "slabfloor.laying") 319) none (.ref 157) .none)), #[]⟩) :: (nat_lit 159, ⟨(.type "tuple"), none, (.seq #[] 0), #[]⟩) :: (nat_lit 161, ⟨(.type "tuple"), none, (.seq #[(.str (Str.ofString "self") 385), (.str (Str.ofString "made") 386), (.str (Str.ofString "pair") 387)] 0), #[]⟩) :: (nat_lit 162, ⟨(.type "tuple"), none, (.seq #[] 0), #[]⟩) :: (nat_lit 164, ⟨(.type "code"), none, (.fields #[(.str (Str.ofString "copied") 382), (.str (Str.ofString "Laying.copied") 383), (.str (Str.ofString "/claim/cut.py") 384), (.int 56 0), (.int 1 0), (.int 0 0), (.int 0 0), (.int 3 0), (.ref 159), (.bool true), (.int 181 0), (.ref 160), .none, (.ref 161), (.ref 162), (.ref 163), (.int 388 0), (.int 56 0), (.str (Str.ofString "/claim/cut.py") 389)]), #[]⟩) :: (nat_lit 165, ⟨(.type "function"), none, (.func (fnD (inAt 10 6) (Str.ofString "Laying.copied") .none .none .none (.str (Str.ofString "slabfloor.laying") 319) none (.ref 164) .none)), #[]⟩) :: (nat_lit 166, ⟨(.type "tuple"), none, (.seq #[(.str (Str.ofString "floor") 391), (.str (Str.ofString "over") 392)] 0), #[]⟩) :: (nat_lit 167, ⟨(.type "dict"), none, (.dict #[⟨PyData.keyHash P (Str.ofString "__module__"), (.str (Str.ofString "__module__") 328), (.str (Str.ofString "slabfloor.laying") 319)⟩, ⟨PyData.keyHash P (Str.ofString "__firstlineno__"), (.str (Str.ofString "__firstlineno__") 332), (.int 19 331)⟩, ⟨PyData.keyHash P (Str.ofString "__init__"), (.str (Str.ofString "__init__") 340), (.ref 125)⟩, ⟨PyData.keyHash P (Str.ofString "need_cell"), (.str (Str.ofString "need_cell") 348), (.ref 132)⟩, ⟨PyData.keyHash P (Str.ofString "put"), (.str (Str.ofString "put") 357), (.ref 139)⟩, ⟨PyData.keyHash P (Str.ofString "lift"), (.str (Str.ofString "lift") 366), (.ref 146)⟩, ⟨PyData.keyHash P (Str.ofString "bare"), (.str (Str.ofString "bare") 372), (.ref 151)⟩, ⟨PyData.keyHash P (Str.ofString "slabs"), (.str (Str.ofString "slabs") 381), (.ref 158)⟩, ⟨PyData.keyHash P (Str.ofString "copied"), (.str (Str.ofString "copied") 390), (.ref 165)⟩, ⟨PyData.keyHash P (Str.ofString "__static_attributes__"), (.str (Str.ofString "__static_attributes__") 393), (.ref 166)⟩, ⟨PyData.keyHash P (Str.ofString "__dict__"), (.str (Str.ofString "__dict__") 395), (.ref 169)⟩, ⟨PyData.keyHash P (Str.ofString "__weakref__"), (.str (Str.ofString "__weakref__") 397), (.ref 170)⟩, ⟨PyData.keyHash P (Str.ofString "__doc__"), (.str (Str.ofString "__doc__") 398), .none⟩] 4), #[]⟩) :: (nat_lit 168, ⟨(.type "type"), none, (.cls { name := (Str.ofString "Laying"), bases := [(.type "object")], mro := [(.ref 168), (.type "object")], ns := 167, qualname := (Str.ofString "Laying"), hasDict := true, slotNames := [], subclasses := [], abstract := false, collection := none, hasDel := false }), #[none, none, (some (.str (Str.ofString "Laying") 321)), (some (.str (Str.ofString "Laying") 329)), (some (.builtin "object.__new__")), (some (.bool true))]⟩) :: (nat_lit 169, ⟨(.type "getset_descriptor"), none, (.fields #[(.str (Str.ofString "__dict__") 394), (.ref 168), (.builtin "function.__dict__"), (.builtin "function.__dict__#set")]), #[]⟩) :: (nat_lit 170, ⟨(.type "getset_descriptor"), none, (.fields #[(.str (Str.ofString "__weakref__") 396), (.ref 168), (.builtin "ExceptionGroup.__weakref__"), .none]), #[]⟩) :: (nat_lit 173, ⟨(.type "tuple"), none, (.seq #[] 0), #[]⟩) :: (nat_lit 175, ⟨(.type "tuple"), none, (.seq #[(.str (Str.ofString "laying") 406), (.str (Str.ofString "shade") 407), (.str (Str.ofString "floor") 408), (.str (Str.ofString "found") 409), (.str (Str.ofString "waiting") 410), (.str (Str.ofString "cell") 411), (.str (Str.ofString "place") 412), (.str (Str.ofString "other") 413), (.str (Str.ofString "mate") 414)] 0), #[]⟩) :: (nat_lit 176, ⟨(.type "tuple"), none, (.seq #[] 0), #[]⟩) :: (nat_lit 178, ⟨(.type "code"), none, (.fields #[(.str (Str.ofString "reached") 403), (.str (Str.ofString "reached") 404), (.str (Str.ofString "/claim/cut.py") 405), (.int 62 0), (.int 2 0), (.int 0 0), (.int 0 0), (.int 3 0), (.ref 173), (.bool true), (.int 181 0), (.ref 174), .none, (.ref 175), (.ref 176), (.ref 177), (.int 415 0), (.int 62 0), (.str (Str.ofString "/claim/cut.py") 416)]), #[]⟩) :: (nat_lit 179, ⟨(.type "function"), none, (.func (fnD (stAt 12) (Str.ofString "reached") .none .none .none (.str (Str.ofString "slabfloor.ways") 401) none (.ref 178) .none)), #[]⟩) :: (nat_lit 180, ⟨(.type "tuple"), none, (.seq #[] 0), #[]⟩) :: (nat_lit 182, ⟨(.type "tuple"), none, (.seq #[(.str (Str.ofString "found") 421), (.str (Str.ofString "cell") 422), (.str (Str.ofString "way") 423)] 0), #[]⟩) :: (nat_lit 183, ⟨(.type "tuple"), none, (.seq #[] 0), #[]⟩) :: (nat_lit 185, ⟨(.type "code"), none, (.fields #[(.str (Str.ofString "way_to") 418), (.str (Str.ofString "way_to") 419), (.str (Str.ofString "/claim/cut.py") 420), (.int 82 0), (.int 2 0), (.int 0 0), (.int 0 0), (.int 3 0), (.ref 180), (.bool true), (.int 181 0), (.ref 181), .none, (.ref 182), (.ref 183), (.ref 184), (.int 424 0), (.int 82 0), (.str (Str.ofString "/claim/cut.py") 425)]), #[]⟩) :: (nat_lit 186, ⟨(.type "function"), none, (.func (fnD (stAt 13) (Str.ofString "way_to") .none .none .none (.str (Str.ofString "slabfloor.ways") 401) none (.ref 185) .none)), #[]⟩) :: (nat_lit 187, ⟨(.type "tuple"), none, (.seq #[] 0), #[]⟩) :: (nat_lit 189, ⟨(.type "tuple"), none, (.seq #[(.str (Str.ofString "laying") 430), (.str (Str.ofString "way") 431), (.str (Str.ofString "made") 432), (.str (Str.ofString "cell") 433), (.str (Str.ofString "k") 434)] 0), #[]⟩) :: (nat_lit 190, ⟨(.type "tuple"), none, (.seq #[] 0), #[]⟩) :: (nat_lit 192, ⟨(.type "code"), none, (.fields #[(.str (Str.ofString "turned") 427), (.str (Str.ofString "turned") 428), (.str (Str.ofString "/claim/cut.py") 429), (.int 87 0), (.int 2 0), (.int 0 0), (.int 0 0), (.int 3 0), (.ref 187), (.bool true), (.int 181 0), (.ref 188), .none, (.ref 189), (.ref 190), (.ref 191), (.int 435 0), (.int 87 0), (.str (Str.ofString "/claim/cut.py") 436)]), #[]⟩) :: (nat_lit 193, ⟨(.type "function"), none, (.func (fnD (stAt 14) (Str.ofString "turned") .none .none .none (.str (Str.ofString "slabfloor.ways") 401) none (.ref 192) .none)), #[]⟩) :: (nat_lit 194, ⟨(.type "tuple"), none, (.seq #[] 0), #[]⟩) :: (nat_lit 196, ⟨(.type "tuple"), none, (.seq #[(.str (Str.ofString "laying") 443), (.str (Str.ofString "floor") 444), (.str (Str.ofString "found") 445), (.str (Str.ofString "cell") 446)] 0), #[]⟩) :: (nat_lit 197, ⟨(.type "tuple"), none, (.seq #[] 0), #[]⟩) :: (nat_lit 199, ⟨(.type "code"), none, (.fields #[(.str (Str.ofString "better") 440), (.str (Str.ofString "better") 441), (.str (Str.ofString "/claim/cut.py") 442), (.int 96 0), (.int 1 0), (.int 0 0), (.int 0 0), (.int 3 0), (.ref 194), (.bool true), (.int 181 0), (.ref 195), .none, (.ref 196), (.ref 197), (.ref 198), (.int 447 0), (.int 96 0), (.str (Str.ofString "/claim/cut.py") 448)]), #[]⟩) :: (nat_lit 200, ⟨(.type "function"), none, (.func (fnD (stAt 16) (Str.ofString "better") .none .none .none (.str (Str.ofString "slabfloor.fewest") 438) none (.ref 199) .none)), #[]⟩) :: (nat_lit 201, ⟨(.type "tuple"), none, (.seq #[] 0), #[]⟩) :: (nat_lit 203, ⟨(.type "tuple"), none, (.seq #[(.str (Str.ofString "floor") 453), (.str (Str.ofString "made") 454), (.str (Str.ofString "more") 455)] 0), #[]⟩) :: (nat_lit 204, ⟨(.type "tuple"), none, (.seq #[] 0), #[]⟩) :: (nat_lit 206, ⟨(.type "code"), none, (.fields #[(.str (Str.ofString "laid") 450), (.str (Str.ofString "laid") 451), (.str (Str.ofString "/claim/cut.py") 452), (.int 103 0), (.int 1 0), (.int 0 0), (.int 0 0), (.int 3 0), (.ref 201), (.bool true), (.int 181 0), (.ref 202), .none, (.ref 203), (.ref 204), (.ref 205), (.int 456 0), (.int 103 0), (.str (Str.ofString "/claim/cut.py") 457)]), #[]⟩) :: (nat_lit 207, ⟨(.type "function"), none, (.func (fnD (stAt 17) (Str.ofString "laid") .none .none .none (.str (Str.ofString "slabfloor.fewest") 438) none (.ref 206) .none)), #[]⟩) :: (nat_lit 208, ⟨(.type "tuple"), none, (.seq #[] 0), #[]⟩) :: (nat_lit 210, ⟨(.type "tuple"), none, (.seq #[(.str (Str.ofString "rows") 472), (.str (Str.ofString "row") 473)] 0), #[]⟩) :: (nat_lit 211, ⟨(.type "tuple"), none, (.seq #[] 0), #[]⟩) :: (nat_lit 213, ⟨(.type "code"), none, (.fields #[(.str (Str.ofString "look_at_sizes") 469), (.str (Str.ofString "look_at_sizes") 470), (.str (Str.ofString "/claim/cut.py") 471), (.int 115 0), (.int 1 0), (.int 0 0), (.int 0 0), (.int 3 0), (.ref 208), (.bool true), (.int 181 0), (.ref 209), .none, (.ref 210), (.ref 211), (.ref 212), (.int 474 0), (.int 115 0), (.str (Str.ofString "/claim/cut.py") 475)]), #[]⟩) :: (nat_lit 214, ⟨(.type "function"), none, (.func (fnD (stAt 23) (Str.ofString "look_at_sizes") .none .none .none (.str (Str.ofString "slabfloor.floor") 459) none (.ref 213) .none)), #[]⟩) :: (nat_lit 222, ⟨(.type "tuple"), none, (.seq #[] 0), #[]⟩) :: (nat_lit 224, ⟨(.type "tuple"), none, (.seq #[(.str (Str.ofString "self") 492), (.str (Str.ofString "rows") 493), (.str (Str.ofString "row") 494), (.str (Str.ofString "sign") 495)] 0), #[]⟩) :: (nat_lit 225, ⟨(.type "tuple"), none, (.seq #[] 0), #[]⟩) :: (nat_lit 227, ⟨(.type "code"), none, (.fields #[(.str (Str.ofString "__init__") 489), (.str (Str.ofString "Floor.__init__") 490), (.str (Str.ofString "/claim/cut.py") 491), (.int 126 0), (.int 2 0), (.int 0 0), (.int 0 0), (.int 3 0), (.ref 222), (.bool true), (.int 181 0), (.ref 223), .none, (.ref 224), (.ref 225), (.ref 226), (.int 496 0), (.int 126 0), (.str (Str.ofString "/claim/cut.py") 497)]), #[]⟩) :: (nat_lit 228, ⟨(.type "function"), none, (.func (fnD (inAt 24 0) (Str.ofString "Floor.__init__") .none .none .none (.str (Str.ofString "slabfloor.floor") 459) none (.ref 227) .none)), #[]⟩) :: (nat_lit 229, ⟨(.type "tuple"), none, (.seq #[] 0), #[]⟩) :: (nat_lit 231, ⟨(.type "tuple"), none, (.seq #[(.str (Str.ofString "self") 502), (.str (Str.ofString "place") 503)] 0), #[]⟩) :: (nat_lit 232, ⟨(.type "tuple"), none, (.seq #[] 0), #[]⟩) :: (nat_lit 234, ⟨(.type "code"), none, (.fields #[(.str (Str.ofString "sign_of") 499), (.str (Str.ofString "Floor.sign_of") 500), (.str (Str.ofString "/claim/cut.py") 501), (.int 138 0), (.int 2 0), (.int 0 0), (.int 0 0), (.int 3 0), (.ref 229), (.bool true), (.int 181 0), (.ref 230), .none, (.ref 231), (.ref 232), (.ref 233), (.int 504 0), (.int 138 0), (.str (Str.ofString "/claim/cut.py") 505)]), #[]⟩) :: (nat_lit 235, ⟨(.type "function"), none, (.func (fnD (inAt 24 1) (Str.ofString "Floor.sign_of") .none .none .none (.str (Str.ofString "slabfloor.floor") 459) none (.ref 234) .none)), #[]⟩) :: (nat_lit 236, ⟨(.type "tuple"), none, (.seq #[] 0), #[]⟩) :: (nat_lit 238, ⟨(.type "tuple"), none, (.seq #[(.str (Str.ofString "self") 510), (.str (Str.ofString "place") 511)] 0), #[]⟩) :: (nat_lit 239, ⟨(.type "tuple"), none, (.seq #[] 0), #[]⟩) :: (nat_lit 241, ⟨(.type "code"), none, (.fields #[(.str (Str.ofString "has") 507), (.str (Str.ofString "Floor.has") 508), (.str (Str.ofString "/claim/cut.py") 509), (.int 141 0), (.int 2 0), (.int 0 0), (.int 0 0), (.int 3 0), (.ref 236), (.bool true), (.int 181 0), (.ref 237), .none, (.ref 238), (.ref 239), (.ref 240), (.int 512 0), (.int 141 0), (.str (Str.ofString "/claim/cut.py") 513)]), #[]⟩) :: (nat_lit 242, ⟨(.type "function"), none, (.func (fnD (inAt 24 2) (Str.ofString "Floor.has") .none .none .none (.str (Str.ofString "slabfloor.floor") 459) none (.ref 241) .none)), #[]⟩) :: (nat_lit 243, ⟨(.type "tuple"), none, (.seq #[] 0), #[]⟩) :: (nat_lit 246, ⟨(.type "code"), none, (.fields #[(.str (Str.ofString "cells") 515), (.str (Str.ofString "Floor.cells") 516), (.str (Str.ofString "/claim/cut.py") 517), (.int 146 0), (.int 1 0), (.int 0 0), (.int 0 0), (.int 3 0), (.ref 243), (.bool true), (.int 181 0), (.ref 244), .none, .none, .none, (.ref 245), (.int 518 0), (.int 146 0), (.str (Str.ofString "/claim/cut.py") 519)]), #[]⟩) :: (nat_lit 247, ⟨(.type "function"), none, (.func (fnD (inAt 24 3) (Str.ofString "Floor.cells") .none .none .none (.str (Str.ofString "slabfloor.floor") 459) none (.ref 246) .none)), #[]⟩) :: (nat_lit 248, ⟨(.type "tuple"), none, (.seq #[] 0), #[]⟩) :: (nat_lit 250, ⟨(.type "tuple"), none, (.seq #[(.str (Str.ofString "self") 524), (.str (Str.ofString "place") 525)] 0), #[]⟩) :: (nat_lit 251, ⟨(.type "tuple"), none, (.seq #[] 0), #[]⟩) :: (nat_lit 253, ⟨(.type "code"), none, (.fields #[(.str (Str.ofString "shade") 521), (.str (Str.ofString "Floor.shade") 522), (.str (Str.ofString "/claim/cut.py") 523), (.int 149 0), (.int 2 0), (.int 0 0), (.int 0 0), (.int 3 0), (.ref 248), (.bool true), (.int 181 0), (.ref 249), .none, (.ref 250), (.ref 251), (.ref 252), (.int 526 0), (.int 149 0), (.str (Str.ofString "/claim/cut.py") 527)]), #[]⟩) :: (nat_lit 254, ⟨(.type "function"), none, (.func (fnD (inAt 24 4) (Str.ofString "Floor.shade") .none .none .none (.str (Str.ofString "slabfloor.floor") 459) none (.ref 253) .none)), #[]⟩) :: (nat_lit 255, ⟨(.type "tuple"), none, (.seq #[] 0), #[]⟩) :: (nat_lit 257, ⟨(.type "tuple"), none, (.seq #[(.str (Str.ofString "self") 532), (.str (Str.ofString "one") 533), (.str (Str.ofString "other") 534), (.str (Str.ofString "low") 535), (.str (Str.ofString "high") 536), (.str (Str.ofString "first") 537), (.str (Str.ofString "second") 538)] 0), #[]⟩) :: (nat_lit 258, ⟨(.type "tuple"), none, (.seq #[] 0), #[]⟩) :: (nat_lit 260, ⟨(.type "code"), none, (.fields #[(.str (Str.ofString "may") 529), (.str (Str.ofString "Floor.may") 530), (.str (Str.ofString "/claim/cut.py") 531), (.int 154 0), (.int 3 0), (.int 0 0), (.int 0 0), (.int 3 0), (.ref 255), (.bool true), (.int 181 0), (.ref 256), .none, (.ref 257), (.ref 258), (.ref 259), (.int 539 0), (.int 154 0), (.str (Str.ofString "/claim/cut.py") 540)]), #[]⟩) :: (nat_lit 261, ⟨(.type "function"), none, (.func (fnD (inAt 24 5) (Str.ofString "Floor.may") .none .none .none (.str (Str.ofString "slabfloor.floor") 459) none (.ref 260) .none)), #[]⟩) :: (nat_lit 262, ⟨(.type "tuple"), none, (.seq #[] 0), #[]⟩) :: (nat_lit 264, ⟨(.type "tuple"), none, (.seq #[(.str (Str.ofString "self") 545), (.str (Str.ofString "cell") 546), (.str (Str.ofString "found") 547), (.str (Str.ofString "other") 548)] 0), #[]⟩) :: (nat_lit 265, ⟨(.type "tuple"), none, (.seq #[] 0), #[]⟩) :: (nat_lit 267, ⟨(.type "code"), none, (.fields #[(.str (Str.ofString "beside") 542), (.str (Str.ofString "Floor.beside") 543), (.str (Str.ofString "/claim/cut.py") 544), (.int 167 0), (.int 2 0), (.int 0 0), (.int 0 0), (.int 3 0), (.ref 262), (.bool true), (.int 181 0), (.ref 263), .none, (.ref 264), (.ref 265), (.ref 266), (.int 549 0), (.int 167 0), (.str (Str.ofString "/claim/cut.py") 550)]), #[]⟩) :: (nat_lit 268, ⟨(.type "function"), none, (.func (fnD (inAt 24 6) (Str.ofString "Floor.beside") .none .none .none (.str (Str.ofString "slabfloor.floor") 459) none (.ref 267) .none)), #[]⟩) :: (nat_lit 269, ⟨(.type "tuple"), none, (.seq #[(.str (Str.ofString "high") 552), (.str (Str.ofString "rows") 553), (.str (Str.ofString "wide") 554)] 0), #[]⟩) :: (nat_lit 270, ⟨(.type "dict"), none, (.dict #[⟨PyData.keyHash P (Str.ofString "__module__"), (.str (Str.ofString "__module__") 484), (.str (Str.ofString "slabfloor.floor") 459)⟩, ⟨PyData.keyHash P (Str.ofString "__firstlineno__"), (.str (Str.ofString "__firstlineno__") 488), (.int 124 487)⟩, ⟨PyData.keyHash P (Str.ofString "__init__"), (.str (Str.ofString "__init__") 498), (.ref 228)⟩, ⟨PyData.keyHash P (Str.ofString "sign_of"), (.str (Str.ofString "sign_of") 506), (.ref 235)⟩, ⟨PyData.keyHash P (Str.ofString "has"), (.str (Str.ofString "has") 514), (.ref 242)⟩, ⟨PyData.keyHash P (Str.ofString "cells"), (.str (Str.ofString "cells") 520), (.ref 247)⟩, ⟨PyData.keyHash P (Str.ofString "shade"), (.str (Str.ofString "shade") 528), (.ref 254)⟩, ⟨PyData.keyHash P (Str.ofString "may"), (.str (Str.ofString "may") 541), (.ref 261)⟩, ⟨PyData.keyHash P (Str.ofString "beside"), (.str (Str.ofString "beside") 551), (.ref 268)⟩, ⟨PyData.keyHash P (Str.ofString "__static_attributes__"), (.str (Str.ofString "__static_attributes__") 555), (.ref 269)⟩, ⟨PyData.keyHash P (Str.ofString "__dict__"), (.str (Str.ofString "__dict__") 557), (.ref 272)⟩, ⟨PyData.keyHash P (Str.ofString "__weakref__"), (.str (Str.ofString "__weakref__") 559), (.ref 273)⟩, ⟨PyData.keyHash P (Str.ofString "__doc__"), (.str (Str.ofString "__doc__") 560), .none⟩] 4), #[]⟩) :: (nat_lit 271, ⟨(.type "type"), none, (.cls { name := (Str.ofString "Floor"), bases := [(.type "object")], mro := [(.ref 271), (.type "object")], ns := 270, qualname := (Str.ofString "Floor"), hasDict := true, slotNames := [], subclasses := [], abstract := false, collection := none, hasDel := false }), #[none, none, (some (.str (Str.ofString "Floor") 477)), (some (.str (Str.ofString "Floor") 485)), (some (.builtin "object.__new__")), (some (.bool true))]⟩) :: (nat_lit 272, ⟨(.type "getset_descriptor"), none, (.fields #[(.str (Str.ofString "__dict__") 556), (.ref 271), (.builtin "function.__dict__"), (.builtin "function.__dict__#set")]), #[]⟩) :: (nat_lit 273, ⟨(.type "getset_descriptor"), none, (.fields #[(.str (Str.ofString "__weakref__") 558), (.ref 271), (.builtin "ExceptionGroup.__weakref__"), .none]), #[]⟩) :: (nat_lit 276, ⟨(.type "tuple"), none, (.seq #[] 0), #[]⟩) :: (nat_lit 278, ⟨(.type "tuple"), none, (.seq #[(.str (Str.ofString "_law_script") 568), (.str (Str.ofString "_law_k") 569)] 0), #[]⟩) :: (nat_lit 279, ⟨(.type "tuple"), none, (.seq #[] 0), #[]⟩) :: (nat_lit 281, ⟨(.type "code"), none, (.fields #[(.str (Str.ofString "_law_cell_at") 565), (.str (Str.ofString "_law_cell_at") 566), (.str (Str.ofString "/claim/cut.py") 567), (.int 176 0), (.int 2 0), (.int 0 0), (.int 0 0), (.int 3 0), (.ref 276), (.bool true), (.int 181 0), (.ref 277), .none, (.ref 278), (.ref 279), (.ref 280), (.int 570 0), (.int 176 0), (.str (Str.ofString "/claim/cut.py") 571)]), #[]⟩) :: (nat_lit 282, ⟨(.type "function"), none, (.func (fnD (stAt 26) (Str.ofString "_law_cell_at") .none .none .none (.str (Str.ofString "law_uf030040_12") 563) none (.ref 281) .none)), #[]⟩) :: (nat_lit 283, ⟨(.type "tuple"), none, (.seq #[] 0), #[]⟩) :: (nat_lit 285, ⟨(.type "tuple"), none, (.seq #[(.str (Str.ofString "_law_script") 576), (.str (Str.ofString "_law_k") 577), (.str (Str.ofString "_law_base") 578)] 0), #[]⟩) :: (nat_lit 286, ⟨(.type "tuple"), none, (.seq #[] 0), #[]⟩) :: (nat_lit 288, ⟨(.type "code"), none, (.fields #[(.str (Str.ofString "_law_number") 573), (.str (Str.ofString "_law_number") 574), (.str (Str.ofString "/claim/cut.py") 575), (.int 180 0), (.int 2 0), (.int 0 0), (.int 0 0), (.int 3 0), (.ref 283), (.bool true), (.int 181 0), (.ref 284), .none, (.ref 285), (.ref 286), (.ref 287), (.int 579 0), (.int 180 0), (.str (Str.ofString "/claim/cut.py") 580)]), #[]⟩) :: (nat_lit 289, ⟨(.type "function"), none, (.func (fnD (stAt 27) (Str.ofString "_law_number") .none .none .none (.str (Str.ofString "law_uf030040_12") 563) none (.ref 288) .none)), #[]⟩) :: (nat_lit 290, ⟨(.type "tuple"), none, (.seq #[] 0), #[]⟩) :: (nat_lit 292, ⟨(.type "tuple"), none, (.seq #[(.str (Str.ofString "_law_rows_here") 585), (.str (Str.ofString "_law_one") 586), (.str (Str.ofString "_law_other") 587), (.str (Str.ofString "_law_wide") 588), (.str (Str.ofString "_law_a") 589), (.str (Str.ofString "_law_b") 590)] 0), #[]⟩) :: (nat_lit 293, ⟨(.type "tuple"), none, (.seq #[] 0), #[]⟩) :: (nat_lit 295, ⟨(.type "code"), none, (.fields #[(.str (Str.ofString "_law_may") 582), (.str (Str.ofString "_law_may") 583), (.str (Str.ofString "/claim/cut.py") 584), (.int 185 0), (.int 3 0), (.int 0 0), (.int 0 0), (.int 3 0), (.ref 290), (.bool true), (.int 181 0), (.ref 291), .none, (.ref 292), (.ref 293), (.ref 294), (.int 591 0), (.int 185 0), (.str (Str.ofString "/claim/cut.py") 592)]), #[]⟩) :: (nat_lit 296, ⟨(.type "function"), none, (.func (fnD (stAt 28) (Str.ofString "_law_may") .none .none .none (.str (Str.ofString "law_uf030040_12") 563) none (.ref 295) .none)), #[]⟩) :: (nat_lit 297, ⟨(.type "tuple"), none, (.seq #[] 0), #[]⟩) :: (nat_lit 300, ⟨(.type "code"), none, (.fields #[(.str (Str.ofString "_law_cells") 594), (.str (Str.ofString "_law_cells") 595), (.str (Str.ofString "/claim/cut.py") 596), (.int 196 0), (.int 1 0), (.int 0 0), (.int 0 0), (.int 3 0), (.ref 297), (.bool true), (.int 181 0), (.ref 298), .none, .none, .none, (.ref 299), (.int 597 0), (.int 196 0), (.str (Str.ofString "/claim/cut.py") 598)]), #[]⟩) :: (nat_lit 301, ⟨(.type "function"), none, (.func (fnD (stAt 29) (Str.ofString "_law_cells") .none .none .none (.str (Str.ofString "law_uf030040_12") 563) none (.ref 300) .none)), #[]⟩) :: (nat_lit 302, ⟨(.type "tuple"), none, (.seq #[] 0), #[]⟩) :: (nat_lit 304, ⟨(.type "tuple"), none, (.seq #[(.str (Str.ofString "_law_found") 603)] 0), #[]⟩) :: (nat_lit 305, ⟨(.type "tuple"), none, (.seq #[] 0), #[]⟩) :: (nat_lit 307, ⟨(.type "code"), none, (.fields #[(.str (Str.ofString "_law_whole") 600), (.str (Str.ofString "_law_whole") 601), (.str (Str.ofString "/claim/cut.py") 602), (.int 199 0), (.int 1 0), (.int 0 0), (.int 0 0), (.int 3 0), (.ref 302), (.bool true), (.int 181 0), (.ref 303), .none, (.ref 304), (.ref 305), (.ref 306), (.int 604 0), (.int 199 0), (.str (Str.ofString "/claim/cut.py") 605)]), #[]⟩) :: (nat_lit 308, ⟨(.type "function"), none, (.func (fnD (stAt 30) (Str.ofString "_law_whole") .none .none .none (.str (Str.ofString "law_uf030040_12") 563) none (.ref 307) .none)), #[]⟩) :: (nat_lit 309, ⟨(.type "tuple"), none, (.seq #[] 0), #[]⟩) :: (nat_lit 311, ⟨(.type "tuple"), none, (.seq #[(.str (Str.ofString "_law_found") 610), (.str (Str.ofString "_law_due") 611), (.str (Str.ofString "_law_one") 612)] 0), #[]⟩) :: (nat_lit 312, ⟨(.type "tuple"), none, (.seq #[] 0), #[]⟩) :: (nat_lit 314, ⟨(.type "code"), none, (.fields #[(.str (Str.ofString "_law_listed") 607), (.str (Str.ofString "_law_listed") 608), (.str (Str.ofString "/claim/cut.py") 609), (.int 201 0), (.int 2 0), (.int 0 0), (.int 0 0), (.int 3 0), (.ref 309), (.bool true), (.int 181 0), (.ref 310), .none, (.ref 311), (.ref 312), (.ref 313), (.int 613 0), (.int 201 0), (.str (Str.ofString "/claim/cut.py") 614)]), #[]⟩) :: (nat_lit 315, ⟨(.type "function"), none, (.func (fnD (stAt 31) (Str.ofString "_law_listed") .none .none .none (.str (Str.ofString "law_uf030040_12") 563) none (.ref 314) .none)), #[]⟩) :: (nat_lit 316, ⟨(.type "tuple"), none, (.seq #[] 0), #[]⟩) :: (nat_lit 319, ⟨(.type "code"), none, (.fields #[(.str (Str.ofString "_law_rows") 616), (.str (Str.ofString "_law_rows") 617), (.str (Str.ofString "/claim/cut.py") 618), (.int 208 0), (.int 1 0), (.int 0 0), (.int 0 0), (.int 3 0), (.ref 316), (.bool true), (.int 181 0), (.ref 317), .none, .none, .none, (.ref 318), (.int 619 0), (.int 208 0), (.str (Str.ofString "/claim/cut.py") 620)]), #[]⟩) :: (nat_lit 320, ⟨(.type "function"), none, (.func (fnD (stAt 32) (Str.ofString "_law_rows") .none .none .none (.str (Str.ofString "law_uf030040_12") 563) none (.ref 319) .none)), #[]⟩) :: (nat_lit 321, ⟨(.type "tuple"), none, (.seq #[] 0), #[]⟩) :: (nat_lit 324, ⟨(.type "code"), none, (.fields #[(.str (Str.ofString "_law_fewest") 622), (.str (Str.ofString "_law_fewest") 623), (.str (Str.ofString "/claim/cut.py") 624), (.int 223 0), (.int 2 0), (.int 0 0), (.int 0 0), (.int 3 0), (.ref 321), (.bool true), (.int 181 0), (.ref 322), .none, .none, .none, (.ref 323), (.int 625 0), (.int 223 0), (.str (Str.ofString "/claim/cut.py") 626)]), #[]⟩) :: (nat_lit 325, ⟨(.type "function"), none, (.func (fnD (stAt 33) (Str.ofString "_law_fewest") .none .none .none (.str (Str.ofString "law_uf030040_12") 563) none (.ref 324) .none)), #[]⟩) :: (nat_lit 326, ⟨(.type "tuple"), none, (.seq #[] 0), #[]⟩) :: (nat_lit 328, ⟨(.type "tuple"), none, (.seq #[(.str (Str.ofString "_law_script") 631), (.str (Str.ofString "_law_rows_here") 632), (.str (Str.ofString "_law_cells_here") 633)] 0), #[]⟩) :: (nat_lit 329, ⟨(.type "tuple"), none, (.seq #[] 0), #[]⟩) :: (nat_lit 331, ⟨(.type "code"), none, (.fields #[(.str (Str.ofString "law") 628), (.str (Str.ofString "law") 629), (.str (Str.ofString "/claim/cut.py") 630), (.int 231 0), (.int 1 0), (.int 0 0), (.int 0 0), (.int 3 0), (.ref 326), (.bool true), (.int 181 0), (.ref 327), .none, (.ref 328), (.ref 329), (.ref 330), (.int 634 0), (.int 231 0), (.str (Str.ofString "/claim/cut.py") 635)]), #[]⟩) :: (nat_lit 332, ⟨(.type "function"), none, (.func (fnD (stAt 34) (Str.ofString "law") .none .none .none (.str (Str.ofString "law_uf030040_12") 563) none (.ref 331) .none)), #[]⟩) :: []
def vw : Program := PySem.W.view PP [1, 2, 3, 4, 5, 6, 7, 8, 10, 12, 13, 14, 16, 17, 19, 20, 21, 22, 23, 24, 26, 27, 28, 29, 30, 31, 32, 33, 34]
def hk : Hook := kHook kH kA (fun _ => by kernel_rfl)
theorem both_map {α β γ : Type} {o : Option α} {f : α → β} {g : α → γ} {a : β} {b : γ} (h1 : o.map f = some a) (h2 : o.map g = some b) : o.map (fun s => (f s, g s)) = some (a, b) := by
  cases o with
  | none => cases h1
  | some x => cases h1; cases h2; rfl
noncomputable def topBy (run : type_of% @topRun) (tb : String → Option Builtin) (p : Program) (w : World) (N : Nat) (s₀ : Shared) : Option Shared :=
  match s₀.heap.isNs mainGlobals && s₀.gens.size == 0 with
  | true => (run tb p w s₀.heap.objs.size (s₀.heap.nsMap mainGlobals "__annotations__") N s₀ (topStub p)).bind fun s₁ => match staticsOk (importedModules p.main.body) s₀.heap s₁.heap && namesBound p s₁.heap && gensDone s₁ && laidKept s₀.heap s₁.heap with
      | true => some s₁
      | false => none
  | false => none
noncomputable abbrev tpQ (w : World) : Shared → Option Shared := topBy PySem.W.Fast.tw14082659384304107361 PySem.W.Fast.tw14364793385576792824 PP w 6248
theorem tp_by (w : World) {r : type_of% @topRun} {t : String → Option Builtin} (h1 : @topRun = r) (h2 : treeTable = t) : topFrom treeTable PP w 6248 = topBy r t PP w 6248 := by
  subst h1 h2
  rfl
theorem via_q {α : Type} {o : Option Shared} {f g : Shared → Option Shared} {h k : Shared → α} {y : Option α} (e1 : f = g) (e2 : h = k) (q : (o.bind g).map k = y) : (o.bind f).map h = y := by
  subst e1 e2
  exact q
noncomputable abbrev osQ := PySem.W.Fast.tw4187177175401517315 vw [] (importedModules PP.main.body) (fun s => xlAt vw [] s && recOk (RowW.records PySem.Challenge.rw_uf030040_12.row.toRowW) s) true
theorem os_q : openSeen vw [] (importedModules PP.main.body) (fun s => xlAt vw [] s && recOk (RowW.records PySem.Challenge.rw_uf030040_12.row.toRowW) s) true = osQ := by
  unfold osQ
  rw [PySem.W.Fast.te4187177175401517315]
theorem leftq0 (w : World) : ((fencedOpening treeTable PP w 6248).bind (tpQ w)).map osQ = some (expectedOf vw, bltViewBooted, true, true, pinGoodD (drecsOf vw), plainGoodE vw (looseW vw []), plainGoodD vw [], wideGood vw, clsGoodW vw []) := by kernel_rfl
theorem left0 (w : World) : (openEnds treeTable PP w 6248).map (openSeen vw [] (importedModules PP.main.body) (fun s => xlAt vw [] s && recOk (RowW.records PySem.Challenge.rw_uf030040_12.row.toRowW) s) true) = some (openGood vw []) := via_q (o := fencedOpening treeTable PP w 6248) (tp_by _ PySem.W.Fast.te14082659384304107361 PySem.W.Fast.te14364793385576792824) os_q (leftq0 w)
theorem leftq1 (w : World) : ((fencedOpening treeTable PP w 6248).bind (tpQ w)).map hk.obs = some (hk.val w) := by kernel_rfl
theorem left1 (w : World) : (openEnds treeTable PP w 6248).map hk.obs = some (hk.val w) := via_q (o := fencedOpening treeTable PP w 6248) (tp_by _ PySem.W.Fast.te14082659384304107361 PySem.W.Fast.te14364793385576792824) rfl (leftq1 w)
theorem left : LeftO PP vw [] (fun s => xlAt vw [] s && recOk (RowW.records PySem.Challenge.rw_uf030040_12.row.toRowW) s) hk.obs hk.val 6248 := fun w => both_map (left0 w) (left1 w)
theorem dS : (defOf vw (Str.ofString "law")).isSome = true := by kernel_rfl
def dL : DefRec × List (Str × PySem.Expr) := (defOf vw (Str.ofString "law")).get dS
theorem hd (walk : WalkO vw [] (XL vw []) hk.says PySem.Challenge.rw_uf030040_12.row.toRowW dL.1 dL.2 fun f vs => PySem.call f vs) : PySem.Challenge.rw_uf030040_12.Holds := by
  w_on
  refine holds_law (by kernel_rfl) fun said => ?_
  refine holds_open (q := vw) (loose := []) (Xt := fun s => xlAt vw [] s && recOk (RowW.records PySem.Challenge.rw_uf030040_12.row.toRowW) s) (XP := XL vw []) (Yf := hk.obs) (Ya := hk.val) (YP := hk.says) (d := dL.1) (kwd := dL.2) (N := 6248) left hk.of hk.keeps (fun s e => xl_of s (Bool.and_eq_true_iff.mp e).1) XL.keeps (by kernel_rfl) (by kernel_rfl) (by kernel_rfl) (fun s e => recFacts_of (Bool.and_eq_true_iff.mp e).2) (by kernel_rfl) said (by kernel_rfl) ⟨rfl, rfl, rfl, rfl, rfl, by decide +kernel⟩ ?hw walk
  w_witness2
end Fl

set_option maxRecDepth 100000
set_option Elab.async false
set_option autoImplicit false
set_option linter.all false
set_option maxHeartbeats 8000000
namespace Fl
open PySem PySem.W PySem.Calls PyProof.Rows

theorem fill : PySem.Challenge.rw_uf030040_12 = PySem.Challenge.rw_uf030040_12 ∧ Fl.kH = Fl.kH := by
  k_fill
  exact ⟨rfl, rfl⟩
theorem gb_len (w : World) : GB (Fl.kH w.params) (Str.ofString "len") (.builtin "len") := ⟨by kernel_rfl, by kernel_rfl, by decide +kernel, by kernel_rfl⟩
theorem gb_min (w : World) : GB (Fl.kH w.params) (Str.ofString "min") (.builtin "min") := ⟨by kernel_rfl, by kernel_rfl, by decide +kernel, by kernel_rfl⟩
theorem gb_max (w : World) : GB (Fl.kH w.params) (Str.ofString "max") (.builtin "max") := ⟨by kernel_rfl, by kernel_rfl, by decide +kernel, by kernel_rfl⟩
theorem gb_abs (w : World) : GB (Fl.kH w.params) (Str.ofString "abs") (.builtin "abs") := ⟨by kernel_rfl, by kernel_rfl, by decide +kernel, by kernel_rfl⟩
theorem gb_isi (w : World) : GB (Fl.kH w.params) (Str.ofString "isinstance") (.builtin "isinstance") := ⟨by kernel_rfl, by kernel_rfl, by decide +kernel, by kernel_rfl⟩
theorem gb_range (w : World) : GB (Fl.kH w.params) (Str.ofString "range") (.type "range") := ⟨by kernel_rfl, by kernel_rfl, by decide +kernel, by kernel_rfl⟩
theorem gb_list (w : World) : GB (Fl.kH w.params) (Str.ofString "list") (.type "list") := ⟨by kernel_rfl, by kernel_rfl, by decide +kernel, by kernel_rfl⟩
theorem gb_int (w : World) : GB (Fl.kH w.params) (Str.ofString "int") (.type "int") := ⟨by kernel_rfl, by kernel_rfl, by decide +kernel, by kernel_rfl⟩
theorem gb_bool (w : World) : GB (Fl.kH w.params) (Str.ofString "bool") (.type "bool") := ⟨by kernel_rfl, by kernel_rfl, by decide +kernel, by kernel_rfl⟩
theorem gs_ALONG (w : World) : GS (Fl.kH w.params) (Str.ofString "ALONG") ⟨#[46, 45]⟩ := ⟨by kernel_rfl, by kernel_rfl⟩
theorem gs_ACROSS (w : World) : GS (Fl.kH w.params) (Str.ofString "ACROSS") ⟨#[46, 124]⟩ := ⟨by kernel_rfl, by kernel_rfl⟩
theorem gs_SIGNS (w : World) : GS (Fl.kH w.params) (Str.ofString "SIGNS") ⟨#[46, 45, 124, 35]⟩ := ⟨by kernel_rfl, by kernel_rfl⟩
theorem gi_MOST (w : World) : GI (Fl.kH w.params) (Str.ofString "MOST") 12 := ⟨by kernel_rfl, by kernel_rfl⟩
theorem gf_sizes (w : World) : GF (Fl.kH w.params) (Str.ofString "look_at_sizes") 214 := ⟨by kernel_rfl, by kernel_rfl, by kernel_rfl⟩
theorem st_rows (w : World) : storeIn (Fl.kH w.params) 271 (Str.ofString "rows") = true := by kernel_rfl
theorem st_high (w : World) : storeIn (Fl.kH w.params) 271 (Str.ofString "high") = true := by kernel_rfl
theorem st_wide (w : World) : storeIn (Fl.kH w.params) 271 (Str.ofString "wide") = true := by kernel_rfl
theorem fi_rows (w : World) : fieldIn (Fl.kH w.params) 271 (Str.ofString "rows") = true := by kernel_rfl
theorem fi_high (w : World) : fieldIn (Fl.kH w.params) 271 (Str.ofString "high") = true := by kernel_rfl
theorem fi_wide (w : World) : fieldIn (Fl.kH w.params) 271 (Str.ofString "wide") = true := by kernel_rfl
theorem me_sign_of (w : World) : methIn (Fl.kH w.params) 271 (Str.ofString "sign_of") 235 = true := by kernel_rfl
theorem mk_sign_of (w : World) : keepIn (Fl.kH w.params) (.ref 235) = true := methIn_keep (me_sign_of w)
theorem me_has (w : World) : methIn (Fl.kH w.params) 271 (Str.ofString "has") 242 = true := by kernel_rfl
theorem mk_has (w : World) : keepIn (Fl.kH w.params) (.ref 242) = true := methIn_keep (me_has w)
theorem me_may (w : World) : methIn (Fl.kH w.params) 271 (Str.ofString "may") 261 = true := by kernel_rfl
theorem mk_may (w : World) : keepIn (Fl.kH w.params) (.ref 261) = true := methIn_keep (me_may w)
theorem me_cells (w : World) : methIn (Fl.kH w.params) 271 (Str.ofString "cells") 247 = true := by kernel_rfl
theorem mk_cells (w : World) : keepIn (Fl.kH w.params) (.ref 247) = true := methIn_keep (me_cells w)
theorem gf_cell_at (w : World) : GF (Fl.kH w.params) (Str.ofString "_law_cell_at") 282 := ⟨by kernel_rfl, by kernel_rfl, by kernel_rfl⟩
theorem gf_number (w : World) : GF (Fl.kH w.params) (Str.ofString "_law_number") 289 := ⟨by kernel_rfl, by kernel_rfl, by kernel_rfl⟩
theorem gf_rows (w : World) : GF (Fl.kH w.params) (Str.ofString "_law_rows") 320 := ⟨by kernel_rfl, by kernel_rfl, by kernel_rfl⟩
theorem gf_cells (w : World) : GF (Fl.kH w.params) (Str.ofString "_law_cells") 301 := ⟨by kernel_rfl, by kernel_rfl, by kernel_rfl⟩
theorem gf_Floor (w : World) : GF (Fl.kH w.params) (Str.ofString "Floor") 271 := ⟨by kernel_rfl, by kernel_rfl, by kernel_rfl⟩

theorem gf_whole (w : World) : GF (Fl.kH w.params) (Str.ofString "_law_whole") 308 := ⟨by kernel_rfl, by kernel_rfl, by kernel_rfl⟩
theorem gf_lmay (w : World) : GF (Fl.kH w.params) (Str.ofString "_law_may") 296 := ⟨by kernel_rfl, by kernel_rfl, by kernel_rfl⟩
theorem gf_listed (w : World) : GF (Fl.kH w.params) (Str.ofString "_law_listed") 315 := ⟨by kernel_rfl, by kernel_rfl, by kernel_rfl⟩
theorem me_shade (w : World) : methIn (Fl.kH w.params) 271 (Str.ofString "shade") 254 = true := by kernel_rfl
theorem mk_shade (w : World) : keepIn (Fl.kH w.params) (.ref 254) = true := methIn_keep (me_shade w)
theorem me_beside (w : World) : methIn (Fl.kH w.params) 271 (Str.ofString "beside") 268 = true := by kernel_rfl
theorem mk_beside (w : World) : keepIn (Fl.kH w.params) (.ref 268) = true := methIn_keep (me_beside w)
theorem gf_Laying (w : World) : GF (Fl.kH w.params) (Str.ofString "Laying") 168 := ⟨by kernel_rfl, by kernel_rfl, by kernel_rfl⟩
theorem gf_reached (w : World) : GF (Fl.kH w.params) (Str.ofString "reached") 179 := ⟨by kernel_rfl, by kernel_rfl, by kernel_rfl⟩
theorem gf_way_to (w : World) : GF (Fl.kH w.params) (Str.ofString "way_to") 186 := ⟨by kernel_rfl, by kernel_rfl, by kernel_rfl⟩
theorem gf_turned (w : World) : GF (Fl.kH w.params) (Str.ofString "turned") 193 := ⟨by kernel_rfl, by kernel_rfl, by kernel_rfl⟩
theorem gf_better (w : World) : GF (Fl.kH w.params) (Str.ofString "better") 200 := ⟨by kernel_rfl, by kernel_rfl, by kernel_rfl⟩
theorem gf_laid (w : World) : GF (Fl.kH w.params) (Str.ofString "laid") 207 := ⟨by kernel_rfl, by kernel_rfl, by kernel_rfl⟩
theorem gf_fewest (w : World) : GF (Fl.kH w.params) (Str.ofString "_law_fewest") 325 := ⟨by kernel_rfl, by kernel_rfl, by kernel_rfl⟩
theorem st_floor (w : World) : storeIn (Fl.kH w.params) 168 (Str.ofString "floor") = true := by kernel_rfl
theorem fi_floor (w : World) : fieldIn (Fl.kH w.params) 168 (Str.ofString "floor") = true := by kernel_rfl
theorem st_over (w : World) : storeIn (Fl.kH w.params) 168 (Str.ofString "over") = true := by kernel_rfl
theorem fi_over (w : World) : fieldIn (Fl.kH w.params) 168 (Str.ofString "over") = true := by kernel_rfl
theorem me_need_cell (w : World) : methIn (Fl.kH w.params) 168 (Str.ofString "need_cell") 132 = true := by kernel_rfl
theorem mk_need_cell (w : World) : keepIn (Fl.kH w.params) (.ref 132) = true := methIn_keep (me_need_cell w)
theorem me_put (w : World) : methIn (Fl.kH w.params) 168 (Str.ofString "put") 139 = true := by kernel_rfl
theorem mk_put (w : World) : keepIn (Fl.kH w.params) (.ref 139) = true := methIn_keep (me_put w)
theorem me_lift (w : World) : methIn (Fl.kH w.params) 168 (Str.ofString "lift") 146 = true := by kernel_rfl
theorem mk_lift (w : World) : keepIn (Fl.kH w.params) (.ref 146) = true := methIn_keep (me_lift w)
theorem me_bare (w : World) : methIn (Fl.kH w.params) 168 (Str.ofString "bare") 151 = true := by kernel_rfl
theorem mk_bare (w : World) : keepIn (Fl.kH w.params) (.ref 151) = true := methIn_keep (me_bare w)
theorem me_slabs (w : World) : methIn (Fl.kH w.params) 168 (Str.ofString "slabs") 158 = true := by kernel_rfl
theorem mk_slabs (w : World) : keepIn (Fl.kH w.params) (.ref 158) = true := methIn_keep (me_slabs w)
theorem me_copied (w : World) : methIn (Fl.kH w.params) 168 (Str.ofString "copied") 165 = true := by kernel_rfl
theorem mk_copied (w : World) : keepIn (Fl.kH w.params) (.ref 165) = true := methIn_keep (me_copied w)
theorem gb_sorted (w : World) : GB (Fl.kH w.params) (Str.ofString "sorted") (.builtin "sorted") := ⟨by kernel_rfl, by kernel_rfl, by decide +kernel, by kernel_rfl⟩
theorem gb_reversed (w : World) : GB (Fl.kH w.params) (Str.ofString "reversed") (.type "reversed") := ⟨by kernel_rfl, by kernel_rfl, by decide +kernel, by kernel_rfl⟩

set_option hygiene false in
local macro_rules | `(tactic| walk_at "lk") => `(tactic| with_reducible (repeat (first | exact Look.head | apply Look.tail)))
set_option hygiene false in
local macro_rules | `(tactic| walk_at "pt") => `(tactic| with_reducible (repeat (first | exact Put.head | apply Put.tail)))
set_option hygiene false in
local macro_rules | `(tactic| walk_at "mm") => `(tactic| with_reducible (repeat (first | exact List.mem_cons_self | apply List.mem_cons_of_mem)))
set_option hygiene false in
local macro_rules | `(tactic| walk_at "cf") => `(tactic| with_reducible (repeat (first | exact ChgF.head | apply ChgF.tail)))
set_option hygiene false in
local macro_rules | `(tactic| walk_at "enter") => `(tactic| (
  (case z_ho => k_is); (case z_hcd => k_is); (case z_hbind => rfl); (case z_hd => kernel_rfl); (case z_hb1 => kernel_rfl); (case z_hb2 => kernel_rfl); (case z_hρ => kernel_rfl)))
set_option hygiene false in
local macro_rules | `(tactic| walk_at "room") => `(tactic| (have rd := R.depth; have ru := R.units; (try simp only [depth_deeper, Around.deeper_units]); omega))
set_option hygiene false in
local macro_rules | `(tactic| walk_at "fi") => `(tactic| with_reducible first | exact fi_rows _ | exact fi_high _ | exact fi_wide _ | exact fi_floor _ | exact fi_over _)
set_option hygiene false in
local macro_rules | `(tactic| walk_at "gb") => `(tactic| with_reducible first | exact gb_len _ | exact gb_range _ | exact gb_isi _ | exact gb_min _ | exact gb_max _ | exact gb_abs _ | exact gb_list _ | exact gb_int _ | exact gb_bool _ | exact gb_sorted _ | exact gb_reversed _)
set_option hygiene false in
local macro_rules | `(tactic| walk_at "gs") => `(tactic| with_reducible first | exact gs_ALONG _ | exact gs_ACROSS _ | exact gs_SIGNS _)
set_option hygiene false in
local macro_rules | `(tactic| walk_at "gi") => `(tactic| with_reducible first | exact gi_MOST _)
set_option hygiene false in
local macro_rules | `(tactic| walk_at "gf") => `(tactic| with_reducible first | exact gf_sizes _ | exact gf_cell_at _ | exact gf_number _ | exact gf_rows _ | exact gf_cells _ | exact gf_Floor _ | exact gf_whole _ | exact gf_lmay _ | exact gf_listed _ | exact gf_truth _ | exact gf_two _ | exact gf_asked _ | exact gf_lbeside _ | exact gf_refused _ | exact gf_faulty _ | exact gf_due _ | exact gf_told _ | exact gf_Laying _ | exact gf_reached _ | exact gf_way_to _ | exact gf_turned _ | exact gf_better _ | exact gf_laid _ | exact gf_fewest _)
set_option hygiene false in
local macro_rules | `(tactic| walk_at "me") => `(tactic| with_reducible first | exact me_has _ | exact me_sign_of _ | exact me_may _ | exact me_cells _ | exact me_shade _ | exact me_beside _ | exact me_need_cell _ | exact me_put _ | exact me_lift _ | exact me_bare _ | exact me_slabs _ | exact me_copied _)
set_option hygiene false in
local macro_rules | `(tactic| walk_at "mk") => `(tactic| with_reducible first | exact mk_has _ | exact mk_sign_of _ | exact mk_may _ | exact mk_cells _ | exact mk_shade _ | exact mk_beside _ | exact mk_need_cell _ | exact mk_put _ | exact mk_lift _ | exact mk_bare _ | exact mk_slabs _ | exact mk_copied _)
set_option hygiene false in
local macro_rules | `(tactic| walk_at "kp") => `(tactic| (intro s' hk; replace S := CS.keeps S hk; clear hk))
set_option hygiene false in
local macro_rules | `(tactic| walk_at "kpt") => `(tactic| (intro t s' hk; replace S := CS.keeps S hk; clear hk))
set_option hygiene false in
local macro_rules | `(tactic| walk_at "turn") => `(tactic| (intro h₁ s k S Q' hNx hRet; replace G := Gr.mono G k))
set_option hygiene false in
local macro_rules | `(tactic| walk_at "gnew") => `(tactic| (obtain ⟨h₁, k, S', hN⟩ := CS.gnew S hk; replace S := S'; clear S'; replace G := Gr.mono G k))
set_option hygiene false in
local macro_rules | `(tactic| walk_at "store") => `(tactic| ((refine' a_store S (S.gr G).X ?z_hx ?z_hc ?z_U ?z_hn ?z_hk ?_); (case z_hx => exact S.atLed (by walk_at "mm")); (case z_hc => first | exact st_rows _ | exact st_high _ | exact st_wide _ | exact st_floor _ | exact st_over _); (case z_U => walk_at "cf"); (case z_hn => assumption); (case z_hk => decide); clear S; intro o' s hn' S))
-- a step: the statements and the expressions
set_option hygiene false in
local macro_rules | `(tactic| walk_at "st") => `(tactic| first
  | (with_reducible refine x_nil ?_)
  | (with_reducible refine x_ret ?_)
  | ((with_reducible refine' x_assign ?_ ?z_hs); (case z_hs => rfl))
  | ((with_reducible refine' x_e ?_ ?z_hi ?z_hs); (case z_hi => rfl); (case z_hs => rfl))
  | ((with_reducible refine' x_attr ?_ ?z_hs); (case z_hs => rfl))
  | ((with_reducible refine' x_setitem ?_ ?z_hs); (case z_hs => rfl))
  | ((with_reducible refine' x_for ?z_hs ?_); (case z_hs => intro _; rfl))
  | (with_reducible refine seq_next ?_)
  | (with_reducible refine i_tt ?_)
  | (with_reducible refine i_ff ?_)
  | (with_reducible refine i_not ?_)
  | (with_reducible refine seq_ret ?_)
  | (with_reducible refine ret_ret ?_)
  | (with_reducible refine ret_next ?_)
  | (with_reducible refine hRet _ _ ?_)
  | (with_reducible refine hRet0 _ _ ?_)
  | (with_reducible refine else_next ?_)
  | (with_reducible refine else_ret ?_)
  | ((with_reducible refine' n_var S ?z_hx ?z_hd ?_); (case z_hx => walk_at "lk"); (case z_hd => kernel_rfl))
  | ((with_reducible refine c_int S ?_); clear S; intro t s S)
  | ((with_reducible refine c_str S ?_); clear S; intro t s S)
  | (with_reducible refine wpAny_Constant_bool ?_)
  | (with_reducible refine wpAny_Constant_none ?_)
  | ((with_reducible refine' wpAny_isTrue_Compare1 ?_ ?z_hm); (case z_hm => with_unfolding_all rfl))
  | ((with_reducible refine' wpAny_Compare1 ?_ ?z_hm); (case z_hm => with_unfolding_all rfl))
  | (with_reducible refine wpAny_BinOp ?_)
  | (with_reducible refine wpAny_UnaryOp ?_)
  | (with_reducible refine PyProof.Rows.not_of ?_)
  | (with_reducible refine isTrue_not ?_)
  | (with_reducible refine isTrue_or_nil ?_)
  | (with_reducible refine isTrue_and_nil ?_)
  | (with_reducible refine isTrue_or ?_)
  | (with_reducible refine isTrue_and ?_)
  | (with_reducible refine wpAny_IfExp ?_)
  | ((with_reducible refine' isTrue_chain ?_ ?z_hm); (case z_hm => with_unfolding_all rfl))
  | (with_reducible refine test_link ?_)
  | (with_reducible refine test_lastE ?_)
  | (with_reducible refine BoolOp_one ?_)
  | (with_reducible refine BoolOp_and ?_)
  | (with_reducible refine BoolOp_or ?_)
  | ((with_reducible refine' wpAny_isTrue_value ?_ ?z_he); (case z_he => rfl))
  | (with_reducible refine wpAny_truthy_bool ?_)
  | ((with_reducible refine' sl_ ?_ ?z_ht); (case z_ht => intro _ _; rfl))
  | (with_reducible refine part_none ?_)
  | (with_reducible refine part_some ?_)
  | ((with_reducible refine' Subscript_ ?_))
  | ((with_reducible refine' Attribute_Name_ ?_ ?z_he); (case z_he => rfl))
  | (with_reducible refine List_ ?_)
  | (with_reducible refine Tuple_ ?_)
  | ((with_reducible refine' args_cons ?_ ?z_he); (case z_he => rfl))
  | (with_reducible refine args_nil ?_)
  | ((with_reducible refine' callB S G ?z_g ?z_hx ?z_hg ?z_hb ?_ ?z_he ?z_hp); (case z_g => walk_at "gb"); (case z_hx => kernel_rfl); (case z_hg => rfl); (case z_hb => rfl); (case z_he => rfl); (case z_hp => rfl))
  | ((with_reducible refine' callT S G ?z_g ?z_hx ?z_hg ?z_hb ?_ ?z_he ?z_hp); (case z_g => walk_at "gb"); (case z_hx => kernel_rfl); (case z_hg => rfl); (case z_hb => rfl); (case z_he => rfl); (case z_hp => rfl))
  | ((with_reducible refine' callN S G ?z_g ?z_hx ?z_hg ?_ ?z_he ?z_hp); (case z_g => walk_at "gf"); (case z_hx => kernel_rfl); (case z_hg => rfl); (case z_he => rfl); (case z_hp => rfl))
  | ((with_reducible refine' n_gs S G ?z_g ?z_hx ?z_hg ?_); (case z_g => walk_at "gs"); (case z_hx => kernel_rfl); (case z_hg => rfl); intro t)
  | ((with_reducible refine' n_gi S G ?z_g ?z_hx ?z_hg ?_); (case z_g => walk_at "gi"); (case z_hx => kernel_rfl); (case z_hg => rfl); intro t)
  | ((with_reducible refine' n_gb S G ?z_g ?z_hx ?z_hg ?z_hb ?_); (case z_g => walk_at "gb"); (case z_hx => kernel_rfl); (case z_hg => rfl); (case z_hb => rfl))
  | ((with_reducible refine' n_gf S G ?z_g ?z_hx ?z_hg ?_); (case z_g => walk_at "gf"); (case z_hx => kernel_rfl); (case z_hg => rfl))
  | ((with_reducible refine' MethodCall_ ?_ ?z_he); (case z_he => rfl))
  | ((with_reducible refine' cw_own G ?z_k ?_ ?z_he ?z_hp); (case z_k => walk_at "mk"); (case z_he => rfl); (case z_hp => rfl))
  | ((with_reducible refine' cw_own0 (S.gr G).X ?z_k ?_); (case z_k => walk_at "mk"))
  | ((with_reducible refine' cw_meth ?_ ?z_he ?z_hp); (case z_he => rfl); (case z_hp => rfl))
  | (with_reducible refine cw_meth0 ?_)
  | (with_reducible refine And.intro (CS.gr S G).X ?_)
  | ((with_reducible refine' S.put ?z_p ?_); (case z_p => walk_at "pt"); clear S; intro s S)
  | (with_reducible refine PySem.P.lt_int ?_)
  | (with_reducible refine PySem.P.le_int ?_)
  | (with_reducible refine PySem.P.gt_int ?_)
  | (with_reducible refine PySem.P.ge_int ?_)
  | (with_reducible refine PySem.P.eq_int ?_)
  | (with_reducible refine PySem.P.ne_int ?_)
  | (with_reducible refine t_eq ?_)
  | (with_reducible refine t_ne ?_)
  | (with_reducible refine t_in ?_)
  | (with_reducible refine t_notin ?_)
  | (with_reducible refine w_is ?_)
  | (with_reducible refine y_int_int ?_)
  | ((with_reducible refine y_int_bool S ?_); clear S; intro s S)
  | ((with_reducible refine' b_min S ?z_hh ?_); (case z_hh => exact R.handled); clear S; intro t s S)
  | ((with_reducible refine' b_max S ?z_hh ?_); (case z_hh => exact R.handled); clear S; intro t s S)
  | ((with_reducible refine b_abs S ?_); clear S; intro t s S)
  | (with_reducible refine PySem.GM.join ?_)
  | ((with_reducible refine' m_list (S.atLed ?z_m) ?z_sl ?z_ty ?_); (case z_m => walk_at "mm"); (case z_sl => first | exact PySem.F.slot_list_append | exact PySem.F.slot_list_clear | exact PySem.F.slot_list_count); (case z_ty => first | exact PySem.F.type_list_append | exact type_list_clear | exact type_list_count))
  | ((with_reducible refine o_add S ?_); clear S; intro t s S)
  | ((with_reducible refine o_sub S ?_); clear S; intro t s S)
  | ((with_reducible refine o_neg S ?_); clear S; intro t s S)
  | ((with_reducible refine' o_mul S ?z_m ?_); (case z_m => walk_at "mulok"); clear S; intro t s S)
  | ((with_reducible refine' o_div S ?z_p ?z_q ?_); (case z_p => walk_at "pos"); (case z_q => walk_at "pos"); clear S; intro t s S)
  | ((with_reducible refine' o_mod S ?z_p ?_); (case z_p => walk_at "pos"); clear S; intro t s S))
set_option hygiene false in
local macro_rules | `(tactic| walk_at "mulok") => `(tactic| first | exact IntMulOk.of_left (by decide) | exact IntMulOk.of_left (intBits_le_64 (by omega) (by omega)) | exact IntMulOk.of_right (by decide) | assumption)
set_option hygiene false in
local macro_rules | `(tactic| walk_at "pos") => `(tactic| first | decide | omega)
-- a field of a floor, a method of a floor
set_option hygiene false in
local macro_rules | `(tactic| walk_at "fl") => `(tactic| first
  | ((with_reducible refine' a_fld S G (F.mono S.base).obj ?z_hc ?z_hl ?z_hh ?_); (case z_hc => walk_at "fi"); (case z_hl => walk_at "mm"); (case z_hh => rfl); clear S; intro s S)
  | ((with_reducible refine' m_get (S.gr G).X (F.mono S.base).obj ?z_hc ?z_hl ?_); (case z_hc => walk_at "me"); (case z_hl => kernel_rfl))
  | ((with_reducible refine' a_fld S G (ObjAt.mono Y S.base) ?z_hc ?z_hl ?z_hh ?_); (case z_hc => walk_at "fi"); (case z_hl => walk_at "mm"); (case z_hh => rfl); clear S; intro s S)
  | ((with_reducible refine' m_get (S.gr G).X (ObjAt.mono Y S.base) ?z_hc ?z_hl ?_); (case z_hc => walk_at "me"); (case z_hl => kernel_rfl)))
set_option hygiene false in
local macro_rules | `(tactic| walk_at "go") => `(tactic| try repeat' (first | walk_at "st" | (with_reducible refine x_if ?_) | walk_at "fl"))
set_option hygiene false in
local macro_rules | `(tactic| walk_at "gu") => `(tactic| try repeat' (first | walk_at "st" | walk_at "fl"))

def cellAt (ns : List Int) (k : Int) : Int := if k < ns.length then ns.getD k.toNat 0 else 0

theorem cell_at_spec {w : World} {A : Around} {s : Shared} {Q E : Value → Shared → Prop} {l : Addr} {ns : List Int} {k : Int} {t : Tok} (G : Gr (Fl.kH w.params) s.heap) (R : Room A 1) (hl : IntL s.heap l ns)
    (hn : ns.length ≤ 63) (hk : 0 ≤ k) (h : ∀ t s', Keeps s s' → Q (.int (cellAt ns k) t) s') : wpAny (model PP w) A (call (.ref 282) [.ref l, .int k t]) Q E s := by
  refine' callP [(Str.ofString "_law_script", some (.ref l)), (Str.ofString "_law_k", some (.int k t))] G (by walk_at "room") ?z_ho ?z_hcd ?z_hbind ?z_hd ?z_hb1 ?z_hb2 ?z_hρ ?_
  walk_at "enter"
  intro L s S
  walk_at "go"
  refine l_len S (hl.mono S.base) (by omega) ?_; clear S; intro t s S
  walk_at "go"
  refine i_dec (fun hc => ?_) (fun hc => ?_)
  · walk_at "go"
    refine l_at (hl.mono S.base) hk hc (by omega) rfl ?_
    intro t
    walk_at "go"
    have := h t s S.out
    rw [cellAt, if_pos hc] at this
    exact this
  · walk_at "go"
    have := h t s S.out
    rw [cellAt, if_neg hc] at this
    exact this

theorem number_spec {w : World} {A : Around} {s : Shared} {Q E : Value → Shared → Prop} {l : Addr} {ns : List Int} {k : Int} {t : Tok} (G : Gr (Fl.kH w.params) s.heap) (R : Room A 1) (hl : IntL s.heap l ns)
    (hn : ns.length ≤ 63) (hk : 0 ≤ k) (h : ∀ n t s', 0 ≤ n → Keeps s s' → Q (.int n t) s') : wpAny (model PP w) A (call (.ref 289) [.ref l, .int k t]) Q E s := by
  refine' callP [(Str.ofString "_law_script", some (.ref l)), (Str.ofString "_law_k", some (.int k t)), (Str.ofString "_law_base", none)] G (by walk_at "room") ?z_ho ?z_hcd ?z_hbind ?z_hd ?z_hb1 ?z_hb2 ?z_hρ ?_
  walk_at "enter"
  intro L s S
  walk_at "go"
  refine l_len S (hl.mono S.base) (by omega) ?_; clear S; intro t s S
  walk_at "go"
  refine i_eq (fun hc => ?_) (fun hc => ?_)
  · walk_at "go"
    exact h _ _ s hk S.out
  · walk_at "go"
    refine l_len S (hl.mono S.base) (by omega) ?_; clear S; intro t s S
    have hpos : 0 < (ns.length : Int) := by omega
    walk_at "go"
    refine l_at (hl.mono S.base) (Int.emod_nonneg _ hc) (Int.emod_lt_of_pos _ hpos) (by omega) (by rfl) ?_
    intro t
    walk_at "go"
    refine l_len S (hl.mono S.base) (by omega) ?_; clear S; intro t s S
    walk_at "go"
    exact h _ _ s (Int.emod_nonneg _ (by decide)) S.out

theorem sign_of_spec {w : World} {A : Around} {s : Shared} {Q E : Value → Shared → Prop} {fl l : Addr} {rows : List Str} {wd : Nat} {t1 t2 t : Tok} {p : Int} (G : Gr (Fl.kH w.params) s.heap) (R : Room A 1) (F : FloorAt 271 s.heap fl l rows wd t1 t2)
    (h0 : 0 ≤ p) (h1 : p < rows.length * wd) (h : ∀ t s', Keeps s s' → Q (.str ⟨#[sg rows wd p]⟩ t) s') : wpAny (model PP w) A (call (.ref 235) [.ref fl, .int p t]) Q E s := by
  refine' callP [(Str.ofString "self", some (.ref fl)), (Str.ofString "place", some (.int p t))] G (by walk_at "room") ?z_ho ?z_hcd ?z_hbind ?z_hd ?z_hb1 ?z_hb2 ?z_hρ ?_
  walk_at "enter"
  intro L s S
  obtain ⟨hw, e1, e2, e3, e4⟩ := F.grid.at_ h0 h1
  have hw' : (wd : Int) < 1073741824 := by have := F.grid.wide; omega
  have hh := F.grid.high
  have hww := F.grid.wide
  walk_at "go"
  refine l_atS (F.mono S.base).texts e1 e2 (by omega) (by rfl) ?_
  intro t
  walk_at "go"
  have hlen : (rows.getD (p / wd).toNat Str.empty).length = wd := row_len F.grid (by omega)
  refine t_at S e3 (by rw [hlen]; exact e4) (by omega) (by rfl) ?_; clear S; intro t s S
  walk_at "go"
  exact h t s S.out

theorem has_spec {w : World} {A : Around} {s : Shared} {Q E : Value → Shared → Prop} {fl l : Addr} {rows : List Str} {wd : Nat} {t1 t2 t : Tok} {p : Int} (G : Gr (Fl.kH w.params) s.heap) (R : Room A 2) (F : FloorAt 271 s.heap fl l rows wd t1 t2)
    (h : ∀ s', Keeps s s' → Q (.bool (hasB rows wd p)) s') : wpAny (model PP w) A (call (.ref 242) [.ref fl, .int p t]) Q E s := by
  refine' callP [(Str.ofString "self", some (.ref fl)), (Str.ofString "place", some (.int p t))] G (by walk_at "room") ?z_ho ?z_hcd ?z_hbind ?z_hd ?z_hb1 ?z_hb2 ?z_hρ ?_
  walk_at "enter"
  intro L s S
  have hh := F.grid.high
  have hww := F.grid.wide
  walk_at "go"
  refine i_dec (fun hc => ?_) (fun hc => ?_)
  · walk_at "go"
    have := h s S.out
    rw [show hasB rows wd p = false by simp [hasB, inB]; omega] at this
    exact this
  · walk_at "go"
    refine i_dec (fun hc2 => ?_) (fun hc2 => ?_)
    · walk_at "go"
      have := h s S.out
      rw [show hasB rows wd p = false by simp [hasB, inB]; omega] at this
      exact this
    · walk_at "go"
      refine sign_of_spec (S.gr G) (R.in_ (by omega)) (F.mono S.base) (by omega) (by omega) ?_
      walk_at "kpt"
      walk_at "go"
      have := h _ S.out
      rw [show hasB rows wd p = ((⟨#[sg rows wd p]⟩ : Str) != Str.ofString "#") from ?_] at this
      · exact this
      · rw [show Str.ofString "#" = ⟨#[35]⟩ by decide +kernel]
        have e : inB rows wd p = true := by simp [inB]; omega
        rw [hasB, e, Bool.true_and, one_ne]

theorem along_in (c : Nat) : decide (c ∈ (⟨#[46, 45]⟩ : Str).cps.toList) = alongB c := by rw [Bool.eq_iff_iff]; simp [alongB]
theorem across_in (c : Nat) : decide (c ∈ (⟨#[46, 124]⟩ : Str).cps.toList) = acrossB c := by rw [Bool.eq_iff_iff]; simp [acrossB]

theorem may_spec {w : World} {A : Around} {s : Shared} {Q E : Value → Shared → Prop} {fl l : Addr} {rows : List Str} {wd : Nat} {t1 t2 t u : Tok} {a c : Int} (G : Gr (Fl.kH w.params) s.heap) (R : Room A 3) (F : FloorAt 271 s.heap fl l rows wd t1 t2)
    (h : ∀ s', Keeps s s' → Q (.bool (mayB rows wd a c)) s') : wpAny (model PP w) A (call (.ref 261) [.ref fl, .int a t, .int c u]) Q E s := by
  refine' callP [(Str.ofString "self", some (.ref fl)), (Str.ofString "one", some (.int a t)), (Str.ofString "other", some (.int c u)), (Str.ofString "low", none), (Str.ofString "high", none), (Str.ofString "first", none), (Str.ofString "second", none)] G (by walk_at "room") ?z_ho ?z_hcd ?z_hbind ?z_hd ?z_hb1 ?z_hb2 ?z_hρ ?_
  walk_at "enter"
  intro L s S
  have hh := F.grid.high
  have hww := F.grid.wide
  walk_at "go"
  refine has_spec (S.gr G) (R.in_ (by omega)) (F.mono S.base) ?_
  walk_at "kp"
  walk_at "go"
  refine i_bool (fun ha => ?_) (fun ha => ?_)
  · walk_at "go"
    refine has_spec (S.gr G) (R.in_ (by omega)) (F.mono S.base) ?_
    walk_at "kp"
    walk_at "go"
    refine i_bool (fun hc => ?_) (fun hc => ?_)
    · walk_at "go"
      obtain ⟨ha0, ha1⟩ := hasB_in ha
      obtain ⟨hc0, hc1⟩ := hasB_in hc
      refine sign_of_spec (S.gr G) (R.in_ (by omega)) (F.mono S.base) (by omega) (by omega) ?_
      walk_at "kpt"
      walk_at "go"
      refine sign_of_spec (S.gr G) (R.in_ (by omega)) (F.mono S.base) (by omega) (by omega) ?_
      walk_at "kpt"
      have hw' : 0 < (wd : Int) := by have := F.grid.at_ ha0 ha1; omega
      walk_at "go"
      have hm : mayB rows wd a c = (if max a c - min a c = 1 ∧ min a c / wd = max a c / wd then alongB (sg rows wd (min a c)) && alongB (sg rows wd (max a c))
     else if max a c - min a c = wd then acrossB (sg rows wd (min a c)) && acrossB (sg rows wd (max a c)) else false) := by rw [mayB, ha, hc, Bool.and_true, Bool.true_and]
      rw [hm] at h
      refine i_eq (fun hd => ?_) (fun hd => ?_)
      · walk_at "go"
        refine i_eq (fun he => ?_) (fun he => ?_)
        · walk_at "go"
          rw [if_pos ⟨hd, he⟩] at h
          rw [along_in]
          refine i_bool (fun hf => ?_) (fun hf => ?_)
          · walk_at "go"
            rw [along_in]
            have := h _ S.out
            rw [hf, Bool.true_and] at this
            exact this
          · rw [hf]
            walk_at "go"
            have := h _ S.out
            rw [hf, Bool.false_and] at this
            exact this
        · walk_at "go"
          rw [if_neg (fun q => he q.2)] at h
          refine i_eq (fun hd2 => ?_) (fun hd2 => ?_)
          · walk_at "go"
            rw [if_pos hd2] at h
            rw [across_in]
            refine i_bool (fun hf => ?_) (fun hf => ?_)
            · walk_at "go"
              rw [across_in]
              have := h _ S.out
              rw [hf, Bool.true_and] at this
              exact this
            · rw [hf]
              walk_at "go"
              have := h _ S.out
              rw [hf, Bool.false_and] at this
              exact this
          · walk_at "go"
            rw [if_neg hd2] at h
            exact h _ S.out
      · walk_at "go"
        rw [if_neg (fun q => hd q.1)] at h
        refine i_eq (fun hd2 => ?_) (fun hd2 => ?_)
        · walk_at "go"
          rw [if_pos hd2] at h
          rw [across_in]
          refine i_bool (fun hf => ?_) (fun hf => ?_)
          · walk_at "go"
            rw [across_in]
            have := h _ S.out
            rw [hf, Bool.true_and] at this
            exact this
          · rw [hf]
            walk_at "go"
            have := h _ S.out
            rw [hf, Bool.false_and] at this
            exact this
        · walk_at "go"
          rw [if_neg hd2] at h
          exact h _ S.out
    · walk_at "go"
      have := h _ S.out
      rw [show mayB rows wd a c = false by rw [mayB, hc]; simp] at this
      exact this
  · walk_at "go"
    have := h _ S.out
    rw [show mayB rows wd a c = false by rw [mayB, ha]; rfl] at this
    exact this


theorem len_wd {rows : List Str} {wd : Nat} (g : Grid rows wd) : rows.length * wd ≤ 144 ∧ ((rows.length : Int) * wd) = ((rows.length * wd : Nat) : Int) := ⟨Nat.mul_le_mul g.high g.wide, by rw [Int.natCast_mul]⟩
theorem cells_spec {w : World} {A : Around} {s : Shared} {Q E : Value → Shared → Prop} {fl l : Addr} {rows : List Str} {wd : Nat} {t1 t2 : Tok} (G : Gr (Fl.kH w.params) s.heap) (R : Room A 3) (F : FloorAt 271 s.heap fl l rows wd t1 t2)
    (h : ∀ D ys k s', s.heap.get? D = none → s'.heap.get? D = some (lst ys k) → IntsAre ys.toList (cellsL rows wd) → Keeps s s' → Q (.ref D) s') : wpAny (model PP w) A (call (.ref 247) [.ref fl]) Q E s := by
  refine' callP [(Str.ofString "self", some (.ref fl))] G (by walk_at "room") ?z_ho ?z_hcd ?z_hbind ?z_hd ?z_hb1 ?z_hb2 ?z_hρ ?_
  walk_at "enter"
  intro L s S
  have hh := F.grid.high
  have hww := F.grid.wide
  obtain ⟨hl1, hl2⟩ := len_wd F.grid
  walk_at "go"
  refine' lc [(Str.ofString "self", some (.ref fl))] (onI (hasB rows wd)) (FII id) S ?z_ok ?z_sel ?_ ?z_hs
  case z_ok => kernel_rfl
  case z_sel => exact Sel.cons (by walk_at "lk") Sel.nil
  case z_hs => intro _; rfl
  walk_at "go"
  refine r_range S ?_; clear S; intro r t1 t2 t3 s hr S
  refine it_range S R.handled hr (by omega) (by omega) ?_
  intro it s I
  refine comp_it I (by omega) ?_ ?_ ?_
  · intro C i v s E' hlt hv S
    obtain ⟨t, rfl⟩ := hv
    refine tests1 ?_
    walk_at "go"
    refine has_spec (S.gr G) (R.in_ (by omega)) (F.mono S.base) ?_
    walk_at "kp"
    walk_at "go"
    exact ⟨rfl, S.quiet⟩
  · intro C i v s E' hlt hv hp S
    obtain ⟨t, rfl⟩ := hv
    walk_at "go"
    exact ⟨⟨_, _, _, rfl, rfl⟩, S.quiet⟩
  · intro D k ys vs h1 h2 h3 hD s' S
    walk_at "go"
    refine h D ys k s' (I.cs.base.none hD) (S.atLed (List.mem_cons_self ..)) ?_ S.out
    have := pairII (filtI (vs_range h1 h2)) h3
    rw [hl2, Int.toNat_natCast, List.map_id] at this
    exact this


theorem sizes_spec {w : World} {A : Around} {s : Shared} {Q E : Value → Shared → Prop} {l : Addr} {rows : List Str} {wd : Nat} (G : Gr (Fl.kH w.params) s.heap) (R : Room A 1) (hl : StrL s.heap l rows) (g : Grid rows wd)
    (h : ∀ s', Keeps s s' → Q .none s') : wpAny (model PP w) A (call (.ref 214) [.ref l]) Q E s := by
  refine' callP [(Str.ofString "rows", some (.ref l)), (Str.ofString "row", none)] G (by walk_at "room") ?z_ho ?z_hcd ?z_hbind ?z_hd ?z_hb1 ?z_hb2 ?z_hρ ?_
  walk_at "enter"
  intro L s S
  have hh := g.high
  have hww := g.wide
  have hlen := g.len
  have hl' := hl
  obtain ⟨vs, ⟨o, ho, hc, n, hd⟩, hi⟩ := hl'
  have hsz : vs.toArray.size = rows.length := by rw [List.size_toArray]; exact hi.length
  walk_at "go"
  refine l_lenS S (hl.mono S.base) (by omega) ?_; clear S; intro t s S
  walk_at "go"
  refine i_dec (fun hc1 => by omega) (fun hc1 => ?_)
  walk_at "go"
  refine it_list S R.handled ho hc ⟨n, hd⟩ ?_
  intro it s I
  refine loop_it (fun i ρ Λ => (∃ a, ρ = [(Str.ofString "rows", some (.ref l)), (Str.ofString "row", a)]) ∧ Λ = []) I ⟨⟨_, rfl⟩, rfl⟩ ?_ ?_ ?_
  · rintro i ρ' Λ' ⟨_, rfl⟩; rfl
  · rintro i v ρ₁ Λ₁ hi1 hv ⟨⟨a, rfl⟩, rfl⟩
    obtain ⟨y, t, rfl, hy⟩ := hi.item i v (by simpa using hv)
    have hyl := hlen y (List.mem_of_getElem? hy)
    refine ⟨_, .tail .head, ?_⟩
    walk_at "turn"
    walk_at "go"
    refine t_len S (by omega) ?_; clear S; intro t s S
    walk_at "go"
    refine i_dec (fun hc1 => by omega) (fun hc1 => ?_)
    walk_at "go"
    exact hNx _ _ _ _ (Sub.refl _) S ⟨⟨_, rfl⟩, rfl⟩
  rintro ρ' Λ' s ⟨⟨a, rfl⟩, rfl⟩ S
  walk_at "go"
  refine it_list S R.handled ho hc ⟨n, hd⟩ ?_
  intro it s I
  refine loop_it (fun i ρ Λ => (∃ a, ρ = [(Str.ofString "rows", some (.ref l)), (Str.ofString "row", a)]) ∧ Λ = []) I ⟨⟨_, rfl⟩, rfl⟩ ?_ ?_ ?_
  · rintro i ρ' Λ' ⟨_, rfl⟩; rfl
  · rintro i v ρ₁ Λ₁ hi1 hv ⟨⟨a, rfl⟩, rfl⟩
    obtain ⟨y, t, rfl, hy⟩ := hi.item i v (by simpa using hv)
    have hyl := hlen y (List.mem_of_getElem? hy)
    have h0 : 0 < rows.length := by omega
    have hr0 := row_len g h0
    refine ⟨_, .tail .head, ?_⟩
    walk_at "turn"
    walk_at "go"
    refine t_len S (by omega) ?_; clear S; intro t s S
    walk_at "go"
    refine l_atS (hl.mono (k.trans S.base)) (by omega) (by omega) (by omega) (by rfl) ?_
    intro t
    walk_at "go"
    refine t_len S (by rw [Int.toNat_zero]; omega) ?_; clear S; intro t s S
    walk_at "go"
    refine i_ne (fun hc1 => absurd (by rw [Int.toNat_zero, hr0, hyl]) hc1) (fun hc1 => ?_)
    walk_at "go"
    exact hNx _ _ _ _ (Sub.refl _) S ⟨⟨_, rfl⟩, rfl⟩
  rintro ρ' Λ' s ⟨⟨a, rfl⟩, rfl⟩ S
  walk_at "go"
  exact h _ S.out


theorem fieldsF {r hi wi : Value} {n : Str} : (if n = Str.ofString "wide" then some wi else if n = Str.ofString "high" then some hi else if n = Str.ofString "rows" then some r else none) =
    List.lookup n [(Str.ofString "rows", r), (Str.ofString "high", hi), (Str.ofString "wide", wi)] := by
  have d1 : Str.ofString "rows" ≠ Str.ofString "high" := by decide +kernel
  have d2 : Str.ofString "rows" ≠ Str.ofString "wide" := by decide +kernel
  have d3 : Str.ofString "high" ≠ Str.ofString "wide" := by decide +kernel
  simp only [List.lookup_cons, List.lookup_nil]
  have e1 := beq_eq_false_iff_ne.mpr d1.symm
  have e2 := beq_eq_false_iff_ne.mpr d2.symm
  have e3 := beq_eq_false_iff_ne.mpr d3.symm
  by_cases h1 : n = Str.ofString "rows"
  · subst h1; simp [d1, d2]
  · by_cases h2 : n = Str.ofString "high"
    · subst h2; simp [d3, e1]
    · by_cases h3 : n = Str.ofString "wide"
      · subst h3; simp [e2, e3]
      · have b1 : (n == Str.ofString "rows") = false := beq_eq_false_iff_ne.mpr h1
        have b2 : (n == Str.ofString "high") = false := beq_eq_false_iff_ne.mpr h2
        have b3 : (n == Str.ofString "wide") = false := beq_eq_false_iff_ne.mpr h3
        simp [h1, h2, h3, b1, b2, b3]

theorem floor_end {C x dx l' : Addr} {od : Obj} {ys : Array Value} {c k : Nat} {rows : List Str} {wd : Nat} {t1 t2 : Tok} {s₀ s : Shared} {env : Env} {ρ : Rho} {Λ : List (Addr × Obj)} {h₁ : Heap} {m : Str → Option Value} (S : CS true s₀ s₀.heap env ρ Λ s) (m1 : (x, instObj C dx) ∈ Λ) (m2 : (dx, od) ∈ Λ) (m3 : (l', lst ys c) ∈ Λ)
    (hn : NsO od m k) (hm : ∀ n, m n = List.lookup n [(Str.ofString "rows", .ref l'), (Str.ofString "high", .int rows.length t1), (Str.ofString "wide", .int wd t2)]) (hi : StrsAre ys.toList rows) (g : Grid rows wd) (hN : Newer s₀ s h₁) : FloorAt C h₁ x l' rows wd t1 t2 := by
  refine ⟨⟨(show [Str.ofString "rows", Str.ofString "high", Str.ofString "wide"].Nodup by decide +kernel), instObj C dx, od, ⟨S.newAt (Sub.refl _) m1 hN, rfl, rfl, S.newAt (Sub.refl _) m2 hN⟩, fun n => ?_⟩, StrL.of (S.newAt (Sub.refl _) m3 hN) hi, g⟩
  rw [hn.look, hm]

theorem floor_spec {w : World} {A : Around} {s : Shared} {Q E : Value → Shared → Prop} {l : Addr} {rows : List Str} {wd : Nat} (G : Gr (Fl.kH w.params) s.heap) (R : Room A 4) (hl : StrL s.heap l rows) (g : Grid rows wd)
    (h : ∀ fl l' t1 t2 s', (∀ h₁, Newer s s' h₁ → FloorAt 271 h₁ fl l' rows wd t1 t2) → s.heap.get? l' = none → Keeps s s' → Q (.ref fl) s') : wpAny (model PP w) A (call (.ref 271) [.ref l]) Q E s := by
  refine' makeK (f := 228) (fun v => [(Str.ofString "self", v), (Str.ofString "rows", .ref l)]) (fun v => [(Str.ofString "self", some v), (Str.ofString "rows", some (.ref l)), (Str.ofString "row", none), (Str.ofString "sign", none)]) G (by walk_at "room") ?z_m ?z_i ?z_f ?z_ho ?z_hcd ?z_hbind ?z_hd ?z_hb1 ?z_hb2 ?z_hρ ?_
  case z_m => kernel_rfl
  case z_i => kernel_rfl
  case z_f => kernel_rfl
  case z_ho => k_is
  case z_hcd => k_is
  case z_hbind => intro _; rfl
  case z_hd => kernel_rfl
  case z_hb1 => intro _; kernel_rfl
  case z_hb2 => intro _; kernel_rfl
  case z_hρ => intro _; kernel_rfl
  intro x dx L s hx hdx S
  have R' : Room (A.under (.builtin "type.__call__" ⟨[.ref 271, .ref l], []⟩)) 2 := R.under (by omega)
  generalize A.under (.builtin "type.__call__" ⟨[.ref 271, .ref l], []⟩) = A' at R' ⊢
  replace R := R'
  have hh := g.high
  have hww := g.wide
  have hlen := g.len
  have hsg := g.sign
  have hl' := hl
  obtain ⟨vs, ⟨o, ho, hc, n, hd⟩, hi⟩ := hl'
  have hsz : vs.toArray.size = rows.length := by rw [List.size_toArray]; exact hi.length
  walk_at "go"
  refine sizes_spec (S.gr G) (R.in_ (by omega)) (hl.mono S.base) g ?_
  walk_at "kp"
  walk_at "go"
  refine it_list S R.handled ho hc ⟨n, hd⟩ ?_
  intro it s I
  refine loop_it (fun i ρ Λ => (∃ a b, ρ = [(Str.ofString "self", some (.ref x)), (Str.ofString "rows", some (.ref l)), (Str.ofString "row", a), (Str.ofString "sign", b)]) ∧ Λ = [(x, instObj 271 dx), (dx, dictOf [] 0)]) I ⟨⟨_, _, rfl⟩, rfl⟩ ?_ ?_ ?_
  · rintro i ρ' Λ' ⟨_, rfl⟩; rfl
  · rintro i v ρ₁ Λ₁ hi1 hv ⟨⟨a, b, rfl⟩, rfl⟩
    obtain ⟨y, t, rfl, hy⟩ := hi.item i v (by simpa using hv)
    have hys := hsg y (List.mem_of_getElem? hy)
    refine ⟨_, .tail (.tail .head), ?_⟩
    walk_at "turn"
    walk_at "go"
    refine it_str S R.handled ?_
    intro it s I
    refine loop_it (fun i ρ Λ => (∃ b, ρ = [(Str.ofString "self", some (.ref x)), (Str.ofString "rows", some (.ref l)), (Str.ofString "row", some (.str y t)), (Str.ofString "sign", b)]) ∧ Λ = [(x, instObj 271 dx), (dx, dictOf [] 0)]) I ⟨⟨_, rfl⟩, rfl⟩ ?_ ?_ ?_
    · rintro i ρ' Λ' ⟨_, rfl⟩; rfl
    · rintro j v ρ₁ Λ₁ hj1 ⟨c, u, hcu, rfl⟩ ⟨⟨b, rfl⟩, rfl⟩
      have hcs := hys c (by have := Array.mem_of_getElem? hcu; simpa using this)
      refine ⟨_, .tail (.tail (.tail .head)), ?_⟩
      walk_at "turn"
      walk_at "go"
      refine i_dec (fun hc1 => ?_) (fun hc1 => absurd ?_ hc1)
      · walk_at "go"
        exact hNx _ _ _ _ (Sub.refl _) S ⟨⟨_, rfl⟩, rfl⟩
      · rcases hcs with rfl | rfl | rfl | rfl <;> simp
    · rintro ρ' Λ' s ⟨⟨b, rfl⟩, rfl⟩ S
      walk_at "go"
      exact hNx _ _ _ _ (Sub.refl _) S ⟨⟨_, _, rfl⟩, rfl⟩
  rintro ρ' Λ' s ⟨⟨a, b, rfl⟩, rfl⟩ S
  walk_at "go"
  refine l_copy S (S.atBase ho) hc hd (by omega) ?_; clear S; intro l' c s S hl'
  have hn0 := NsO.nil
  walk_at "go"
  walk_at "store"
  walk_at "go"
  refine l_lenS S (hl.mono S.base) (by omega) ?_; clear S; intro t1 s S
  walk_at "go"
  walk_at "store"
  walk_at "go"
  walk_at "store"
  walk_at "go"
  refine l_lenS S (hl.mono S.base) (by omega) ?_; clear S; intro t3 s S
  walk_at "go"
  refine i_dec (fun hp => ?_) (fun hp => ?_)
  · walk_at "go"
    refine l_atS (hl.mono S.base) (by omega) (by omega) (by omega) (by rfl) ?_
    intro t
    have hr0 := row_len g (show (0 : Int).toNat < rows.length by rw [Int.toNat_zero]; omega)
    walk_at "go"
    refine t_len S (by omega) ?_; clear S; intro t s S
    walk_at "go"
    walk_at "store"
    walk_at "go"
    refine ⟨rfl, h _ l' t1 t _ (fun h₁ hN => floor_end S (by walk_at "mm") (by walk_at "mm") (by walk_at "mm") (by assumption) (fun n => ?_) (by simpa using hi) g hN) ?_ S.out⟩
    · rw [← fieldsF, hr0]
      split <;> simp_all
    · exact (S.led (l', _) (by walk_at "mm")).2.2.2 rfl
  · walk_at "go"
    have hwd : wd = 0 := g.none (List.length_eq_zero_iff.mp (by omega))
    subst hwd
    refine ⟨rfl, h _ l' _ _ _ (fun h₁ hN => floor_end S (by walk_at "mm") (by walk_at "mm") (by walk_at "mm") (by assumption) (fun n => fieldsF) (by simpa using hi) g hN) ?_ S.out⟩
    exact (S.led (l', _) (by walk_at "mm")).2.2.2 rfl


theorem lmay_spec {w : World} {A : Around} {s : Shared} {Q E : Value → Shared → Prop} {l : Addr} {rows : List Str} {wd : Nat} {t u : Tok} {a c : Int} (G : Gr (Fl.kH w.params) s.heap) (R : Room A 1) (hl : StrL s.heap l rows) (g : Grid rows wd)
    (h : ∀ s', Keeps s s' → Q (.bool (mayL rows wd a c)) s') : wpAny (model PP w) A (call (.ref 296) [.ref l, .int a t, .int c u]) Q E s := by
  refine' callP [(Str.ofString "_law_rows_here", some (.ref l)), (Str.ofString "_law_one", some (.int a t)), (Str.ofString "_law_other", some (.int c u)), (Str.ofString "_law_wide", none), (Str.ofString "_law_a", none), (Str.ofString "_law_b", none)] G (by walk_at "room") ?z_ho ?z_hcd ?z_hbind ?z_hd ?z_hb1 ?z_hb2 ?z_hρ ?_
  walk_at "enter"
  intro L s S
  have hh := g.high
  have hww := g.wide
  have hcm : (wd : Int) * rows.length = rows.length * wd := Int.mul_comm ..
  refine x_cutS S (fun ρ Λ => (∃ tw, ρ = [(Str.ofString "_law_rows_here", some (.ref l)), (Str.ofString "_law_one", some (.int a t)), (Str.ofString "_law_other", some (.int c u)), (Str.ofString "_law_wide", some (.int wd tw)), (Str.ofString "_law_a", none), (Str.ofString "_law_b", none)]) ∧ Λ = []) ?_ ?_
  · intro Q' hQ
    walk_at "go"
    refine l_lenS S (hl.mono S.base) (by omega) ?_; clear S; intro t s S
    walk_at "go"
    refine i_dec (fun hp => ?_) (fun hp => ?_)
    · walk_at "go"
      refine l_atS (hl.mono S.base) (by omega) (by omega) (by omega) (by rfl) ?_
      intro t
      have hr0 := row_len g (show (0 : Int).toNat < rows.length by rw [Int.toNat_zero]; omega)
      walk_at "go"
      refine t_len S (by omega) ?_; clear S; intro t s S
      rw [hr0]
      walk_at "go"
      exact hQ _ _ _ ⟨⟨_, rfl⟩, rfl⟩ S
    · have hwd : wd = 0 := g.none (List.length_eq_zero_iff.mp (by omega))
      subst hwd
      walk_at "go"
      exact hQ _ _ _ ⟨⟨_, rfl⟩, rfl⟩ S
  clear S
  rintro ρ' Λ' s ⟨⟨tw, rfl⟩, rfl⟩ S
  have hin : ∀ p : Int, inB rows wd p = (decide (0 ≤ p) && decide (p < wd * rows.length)) := fun p => by rw [inB, hcm]
  have hF : (inB rows wd a = false ∨ inB rows wd c = false) → mayL rows wd a c = false := fun q => by unfold mayL; rcases q with q | q <;> simp [q]
  walk_at "go"
  refine i_dec (fun p1 => ?_) (fun p1 => ?_)
  · walk_at "go"
    refine l_lenS S (hl.mono S.base) (by omega) ?_; clear S; intro t s S
    walk_at "go"
    refine i_dec (fun p2 => ?_) (fun p2 => ?_)
    · walk_at "go"
      refine i_dec (fun p3 => ?_) (fun p3 => ?_)
      · walk_at "go"
        refine l_lenS S (hl.mono S.base) (by omega) ?_; clear S; intro t s S
        walk_at "go"
        refine i_dec (fun p4 => ?_) (fun p4 => ?_)
        · skip
          have i1 : inB rows wd a = true := by rw [hin]; simp [p1, p2]
          have i2 : inB rows wd c = true := by rw [hin]; simp [p3, p4]
          have hm : mayL rows wd a c = (if a / wd = c / wd ∧ (a - c).natAbs = 1 then alongB (sg rows wd a) && alongB (sg rows wd c)
            else if a % wd = c % wd ∧ (a / wd - c / wd).natAbs = 1 then acrossB (sg rows wd a) && acrossB (sg rows wd c) else false) := by rw [mayL, i1, i2, Bool.and_true, Bool.true_and]
          rw [hm] at h
          obtain ⟨w1, a1, a2, a3, a4⟩ := g.at_ p1 (by omega : a < rows.length * wd)
          obtain ⟨_, c1, c2, c3, c4⟩ := g.at_ p3 (by omega : c < rows.length * wd)
          have hw1 : 0 < (wd : Int) := by omega
          have e_along : Str.ofString ".-" = ⟨#[46, 45]⟩ := by decide +kernel
          have e_across : Str.ofString ".|" = ⟨#[46, 124]⟩ := by decide +kernel
          have hla := row_len g (show (a / wd).toNat < rows.length by omega)
          have hlc := row_len g (show (c / wd).toNat < rows.length by omega)
          walk_at "go"
          refine l_atS (hl.mono S.base) a1 a2 (by omega) (by rfl) ?_
          intro t
          walk_at "go"
          refine t_at S a3 (by omega) (by omega) (by rfl) ?_; clear S; intro t s S
          walk_at "go"
          refine l_atS (hl.mono S.base) c1 c2 (by omega) (by rfl) ?_
          intro t
          walk_at "go"
          refine t_at S c3 (by omega) (by omega) (by rfl) ?_; clear S; intro t s S
          walk_at "go"
          refine i_eq (fun q1 => ?_) (fun q1 => ?_)
          · walk_at "go"
            refine i_eq (fun q2 => ?_) (fun q2 => ?_)
            · walk_at "go"
              rw [if_pos (⟨q1, by omega⟩ : a / wd = c / wd ∧ (a - c).natAbs = 1)] at h
              rw [e_along, along_in]
              refine i_bool (fun hf => ?_) (fun hf => ?_)
              · walk_at "go"
                rw [along_in]
                have := h _ S.out
                rw [show alongB (sg rows wd a) = true from hf, Bool.true_and] at this
                exact this
              · rw [hf]
                walk_at "go"
                have := h _ S.out
                rw [show alongB (sg rows wd a) = false from hf, Bool.false_and] at this
                exact this
            · walk_at "go"
              rw [if_neg (fun q => q2 (by omega) : ¬ (a / wd = c / wd ∧ (a - c).natAbs = 1))] at h
              refine i_eq (fun q3 => ?_) (fun q3 => ?_)
              · walk_at "go"
                refine i_eq (fun q4 => ?_) (fun q4 => ?_)
                · walk_at "go"
                  rw [if_pos (⟨q3, by omega⟩ : a % wd = c % wd ∧ (a / wd - c / wd).natAbs = 1)] at h
                  rw [e_across, across_in]
                  refine i_bool (fun hf => ?_) (fun hf => ?_)
                  · walk_at "go"
                    rw [across_in]
                    have := h _ S.out
                    rw [show acrossB (sg rows wd a) = true from hf, Bool.true_and] at this
                    exact this
                  · rw [hf]
                    walk_at "go"
                    have := h _ S.out
                    rw [show acrossB (sg rows wd a) = false from hf, Bool.false_and] at this
                    exact this
                · walk_at "go"
                  rw [if_neg (fun q => q4 (by omega) : ¬ (a % wd = c % wd ∧ (a / wd - c / wd).natAbs = 1))] at h
                  exact h _ S.out
              · walk_at "go"
                rw [if_neg (fun q => q3 q.1 : ¬ (a % wd = c % wd ∧ (a / wd - c / wd).natAbs = 1))] at h
                exact h _ S.out
          · walk_at "go"
            rw [if_neg (fun q => q1 q.1 : ¬ (a / wd = c / wd ∧ (a - c).natAbs = 1))] at h
            refine i_eq (fun q3 => ?_) (fun q3 => ?_)
            · walk_at "go"
              refine i_eq (fun q4 => ?_) (fun q4 => ?_)
              · walk_at "go"
                rw [if_pos (⟨q3, by omega⟩ : a % wd = c % wd ∧ (a / wd - c / wd).natAbs = 1)] at h
                rw [e_across, across_in]
                refine i_bool (fun hf => ?_) (fun hf => ?_)
                · walk_at "go"
                  rw [across_in]
                  have := h _ S.out
                  rw [show acrossB (sg rows wd a) = true from hf, Bool.true_and] at this
                  exact this
                · rw [hf]
                  walk_at "go"
                  have := h _ S.out
                  rw [show acrossB (sg rows wd a) = false from hf, Bool.false_and] at this
                  exact this
              · walk_at "go"
                rw [if_neg (fun q => q4 (by omega) : ¬ (a % wd = c % wd ∧ (a / wd - c / wd).natAbs = 1))] at h
                exact h _ S.out
            · walk_at "go"
              rw [if_neg (fun q => q3 q.1 : ¬ (a % wd = c % wd ∧ (a / wd - c / wd).natAbs = 1))] at h
              exact h _ S.out
        · walk_at "go"
          have := h _ S.out
          rw [hF (Or.inr (by rw [hin]; simp [p3, p4]))] at this
          exact this
      · walk_at "go"
        have := h _ S.out
        rw [hF (Or.inr (by rw [hin]; simp [p3]))] at this
        exact this
    · walk_at "go"
      have := h _ S.out
      rw [hF (Or.inl (by rw [hin]; simp [p1, p2]))] at this
      exact this
  · walk_at "go"
    have := h _ S.out
    rw [hF (Or.inl (by rw [hin]; simp [p1]))] at this
    exact this


theorem lcells_spec {w : World} {A : Around} {s : Shared} {Q E : Value → Shared → Prop} {l : Addr} {rows : List Str} {wd : Nat} (G : Gr (Fl.kH w.params) s.heap) (R : Room A 1) (hl : StrL s.heap l rows) (g : Grid rows wd)
    (h : ∀ D ys k s', s.heap.get? D = none → s'.heap.get? D = some (lst ys k) → IntsAre ys.toList (cellsL rows wd) → Keeps s s' → Q (.ref D) s') : wpAny (model PP w) A (call (.ref 301) [.ref l]) Q E s := by
  refine' callP [(Str.ofString "_law_rows_here", some (.ref l)), (Str.ofString "_law_signs", none)] G (by walk_at "room") ?z_ho ?z_hcd ?z_hbind ?z_hd ?z_hb1 ?z_hb2 ?z_hρ ?_
  walk_at "enter"
  intro L s S
  have hh := g.high
  have hww := g.wide
  obtain ⟨hl1, hl2⟩ := len_wd g
  have hjl := joined_len g
  walk_at "go"
  have hsum : (rows.map (·.length)).sum + rows.length * (Str.ofString "").length ≤ 16777216 := by
    have e0 : (Str.ofString "").length = 0 := rfl
    have : (rows.map (·.length)).sum = rows.length * wd := by
      have hlen := g.len
      clear hjl hl1 hl2 hh hl h g S
      induction rows with
      | nil => simp
      | cons x r ih =>
        rw [List.map_cons, List.sum_cons, ih fun y hy => hlen y (List.mem_cons_of_mem _ hy), hlen x (List.mem_cons_self ..), List.length_cons, Nat.succ_mul]
        omega
    rw [e0, this]; omega
  refine t_join S (hl.mono S.base) hsum ?_; clear S; intro tj s S
  walk_at "go"
  refine' lc [(Str.ofString "_law_signs", some (.str (Txt.join (Str.ofString "") rows) tj))] (onI (hasB rows wd)) (FII id) S ?z_ok ?z_sel ?_ ?z_hs
  case z_ok => kernel_rfl
  case z_sel => exact Sel.cons (by walk_at "lk") Sel.nil
  case z_hs => intro _; rfl
  walk_at "go"
  refine t_len S (by omega) ?_; clear S; intro t s S
  walk_at "go"
  refine r_range S ?_; clear S; intro r t1 t2 t3 s hr S
  refine it_range S R.handled hr (by omega) (by omega) ?_
  intro it s I
  refine comp_it I (by omega) ?_ ?_ ?_
  · intro C i v s E' hlt hv S
    obtain ⟨t, rfl⟩ := hv
    refine tests1 ?_
    walk_at "go"
    have hil : (i : Int) < (Txt.join (Str.ofString "") rows).length := by omega
    refine t_at S (by omega) hil (by omega) (by rfl) ?_; clear S; intro t s S
    walk_at "go"
    refine ⟨?_, S.quiet⟩
    have hw : 0 < wd := by
      rcases Nat.eq_zero_or_pos wd with q | q
      · rw [hjl, q] at hil; simp at hil; omega
      · exact q
    have e35 : Str.ofString "#" = ⟨#[35]⟩ := by decide +kernel
    rw [Int.toNat_natCast, joined_get g i hw, e35, one_ne]
    show _ = (inB rows wd i && _)
    have : inB rows wd i = true := by simp [inB]; rw [hl2]; omega
    rw [this, Bool.true_and]
  · intro C i v s E' hlt hv hp S
    obtain ⟨t, rfl⟩ := hv
    walk_at "go"
    exact ⟨⟨_, _, _, rfl, rfl⟩, S.quiet⟩
  · intro D k ys vs h1 h2 h3 hD s' S
    walk_at "go"
    refine h D ys k s' (I.cs.base.none hD) (S.atLed (List.mem_cons_self ..)) ?_ S.out
    have := pairII (filtI (vs_range h1 h2)) h3
    rw [hjl, Int.toNat_natCast, List.map_id] at this
    exact this



theorem whole_spec {w : World} {A : Around} {s : Shared} {Q E : Value → Shared → Prop} {n : Int} {t : Tok} (G : Gr (Fl.kH w.params) s.heap) (R : Room A 1)
    (h : ∀ s', Keeps s s' → Q (.bool true) s') : wpAny (model PP w) A (call (.ref 308) [.int n t]) Q E s := by
  refine' callP [(Str.ofString "_law_found", some (.int n t))] G (by walk_at "room") ?z_ho ?z_hcd ?z_hbind ?z_hd ?z_hb1 ?z_hb2 ?z_hρ ?_
  walk_at "enter"
  intro L s S
  walk_at "go"
  exact h _ S.out

theorem listed_spec {w : World} {A : Around} {s : Shared} {Q E : Value → Shared → Prop} {l l' : Addr} {ns : List Int} (G : Gr (Fl.kH w.params) s.heap) (R : Room A 2) (hl : IntL s.heap l ns) (hl' : IntL s.heap l' ns) (hn : ns.length ≤ 1000)
    (h : ∀ s', Keeps s s' → Q (.bool true) s') : wpAny (model PP w) A (call (.ref 315) [.ref l, .ref l']) Q E s := by
  refine' callP [(Str.ofString "_law_found", some (.ref l)), (Str.ofString "_law_due", some (.ref l')), (Str.ofString "_law_one", none)] G (by walk_at "room") ?z_ho ?z_hcd ?z_hbind ?z_hd ?z_hb1 ?z_hb2 ?z_hρ ?_
  walk_at "enter"
  intro L s S
  have hl0 := hl
  obtain ⟨vs, hls, hi⟩ := hl0
  have hls' := hls
  obtain ⟨o, ho, hc, n, hd⟩ := hls'
  walk_at "go"
  refine y_list_list (isList_mono hls S.base) ?_
  walk_at "go"
  refine l_len S (hl.mono S.base) (by omega) ?_; clear S; intro t s S
  walk_at "go"
  refine l_len S (hl'.mono S.base) (by omega) ?_; clear S; intro t s S
  walk_at "go"
  refine i_ne (fun q => absurd rfl q) (fun _ => ?_)
  walk_at "go"
  refine it_list S R.handled ho hc ⟨n, hd⟩ ?_
  intro it s I
  refine loop_it (fun i ρ Λ => (∃ a, ρ = [(Str.ofString "_law_found", some (.ref l)), (Str.ofString "_law_due", some (.ref l')), (Str.ofString "_law_one", a)]) ∧ Λ = []) I ⟨⟨_, rfl⟩, rfl⟩ ?_ ?_ ?_
  · rintro i ρ' Λ' ⟨_, rfl⟩; rfl
  · rintro i v ρ₁ Λ₁ hi1 hv ⟨⟨a, rfl⟩, rfl⟩
    obtain ⟨y, t, rfl, hy⟩ := hi.at i v (by simpa using hv)
    refine ⟨_, .tail (.tail .head), ?_⟩
    walk_at "turn"
    walk_at "go"
    refine whole_spec (S.gr G) (R.in_ (by omega)) ?_
    walk_at "kp"
    walk_at "go"
    exact hNx _ _ _ _ (Sub.refl _) S ⟨⟨_, rfl⟩, rfl⟩
  rintro ρ' Λ' s ⟨⟨a, rfl⟩, rfl⟩ S
  walk_at "go"
  refine l_eq (hl.mono S.base) (hl'.mono S.base) (by walk_at "room") ?_
  rw [decide_eq_true rfl]
  walk_at "go"
  exact h _ S.out



theorem shade_spec {w : World} {A : Around} {s : Shared} {Q E : Value → Shared → Prop} {fl l : Addr} {rows : List Str} {wd : Nat} {t1 t2 t : Tok} {p : Int} (G : Gr (Fl.kH w.params) s.heap) (R : Room A 1) (F : FloorAt 271 s.heap fl l rows wd t1 t2)
    (h : ∀ t s', Keeps s s' → Q (.int (shadeN wd p) t) s') : wpAny (model PP w) A (call (.ref 254) [.ref fl, .int p t]) Q E s := by
  refine' callP [(Str.ofString "self", some (.ref fl)), (Str.ofString "place", some (.int p t))] G (by walk_at "room") ?z_ho ?z_hcd ?z_hbind ?z_hd ?z_hb1 ?z_hb2 ?z_hρ ?_
  walk_at "enter"
  intro L s S
  have hww := F.grid.wide
  walk_at "go"
  refine i_eq (fun hc => ?_) (fun hc => ?_)
  · walk_at "go"
    rw [shadeN, if_pos (by omega)] at h
    exact h _ _ S.out
  · have hw1 : 0 < (wd : Int) := by omega
    walk_at "go"
    rw [shadeN, if_neg (by omega)] at h
    exact h _ _ S.out

theorem beside_spec {w : World} {A : Around} {s : Shared} {Q E : Value → Shared → Prop} {fl l : Addr} {rows : List Str} {wd : Nat} {t1 t2 tp : Tok} {p : Int} (G : Gr (Fl.kH w.params) s.heap) (R : Room A 4) (F : FloorAt 271 s.heap fl l rows wd t1 t2) (hc : hasB rows wd p = true)
    (h : ∀ D ys k s', s.heap.get? D = none → s'.heap.get? D = some (lst ys k) → IntsAre ys.toList (besideL rows wd p) → Keeps s s' → Q (.ref D) s') : wpAny (model PP w) A (call (.ref 268) [.ref fl, .int p tp]) Q E s := by
  refine' callP [(Str.ofString "self", some (.ref fl)), (Str.ofString "cell", some (.int p tp)), (Str.ofString "found", none), (Str.ofString "other", none)] G (by walk_at "room") ?z_ho ?z_hcd ?z_hbind ?z_hd ?z_hb1 ?z_hb2 ?z_hρ ?_
  walk_at "enter"
  intro L s S
  walk_at "go"
  refine has_spec (S.gr G) (R.in_ (by omega)) (F.mono S.base) ?_
  walk_at "kp"
  rw [hc]
  walk_at "go"
  refine l_new S (by simp) ?_; clear S; intro lf s S _
  walk_at "go"
  refine l_new S (by simp) ?_; clear S; intro ln s S _
  obtain ⟨h₁, k₁, hln, S'⟩ := S.freeze
  clear S
  replace G := G.mono k₁
  replace F := F.mono k₁
  refine it_list S' R.handled hln rfl ⟨_, rfl⟩ ?_
  clear S'
  intro it s I
  refine loop_it (fun i ρ Λ => ∃ a ys k, ρ = [(Str.ofString "self", some (.ref fl)), (Str.ofString "cell", some (.int p tp)), (Str.ofString "found", some (.ref lf)), (Str.ofString "other", a)] ∧ Λ = [(lf, lst ys k)] ∧ IntsAre ys.toList (gath (mayB rows wd p) ((nearL wd p).take i)) ∧ ys.size ≤ i) I ⟨_, _, _, rfl, rfl, .nil, Nat.le_refl _⟩ ?_ ?_ ?_
  · rintro i ρ' Λ' ⟨_, _, _, _, rfl, _⟩; rfl
  · rintro i v ρ₁ Λ₁ hi1 hv ⟨a, ys, ky, rfl, rfl, hys, hsz⟩
    obtain ⟨y, ty, rfl, hy⟩ := ints_arr (ns := nearL wd p) hv (.cons _ _ (.cons _ _ (.cons _ _ (.cons _ _ .nil))))
    have hi4 : i < 4 := hi1
    have e : (nearL wd p).take (i + 1) = (nearL wd p).take i ++ [y] := by rw [List.take_add_one, hy]; rfl
    refine ⟨_, .tail (.tail (.tail .head)), ?_⟩
    walk_at "turn"
    replace F := F.mono k
    clear k
    walk_at "go"
    refine l_notin (IntL.of (S.atLed (by walk_at "mm")) hys) ?_
    walk_at "go"
    refine i_dec (fun q1 => ?_) (fun q1 => ?_)
    · walk_at "go"
      refine hNx _ _ _ _ (Sub.refl _) S ⟨_, _, _, rfl, rfl, ?_, by omega⟩
      rw [e, gath_snoc, if_neg (fun q => q.1 q1)]
      exact hys
    · walk_at "go"
      refine may_spec (S.gr G) (R.in_ (by omega)) (F.mono S.base) ?_
      walk_at "kp"
      walk_at "go"
      refine i_bool (fun q2 => ?_) (fun q2 => ?_)
      · walk_at "go"
        refine l_append S (by walk_at "cf") (by omega) ?_; clear S; intro k' s S
        walk_at "go"
        refine hNx _ _ _ _ (Sub.refl _) S ⟨_, _, _, rfl, rfl, ?_, by rw [Array.size_push]; omega⟩
        rw [e, gath_snoc, if_pos ⟨q1, q2⟩, Array.toList_push]
        exact hys.append (.cons _ _ .nil)
      · walk_at "go"
        refine hNx _ _ _ _ (Sub.refl _) S ⟨_, _, _, rfl, rfl, ?_, by omega⟩
        rw [e, gath_snoc, if_neg (fun q => by rw [q2] at q; exact absurd q.2 (by decide))]
        exact hys
  rintro ρ' Λ' s ⟨a, ys, k, rfl, rfl, hys, hsz⟩ S
  walk_at "go"
  exact h lf ys k s (k₁.none ((S.led (lf, _) (List.mem_cons_self ..)).2.2.2 rfl)) (S.atLed (List.mem_cons_self ..)) hys (S.outs k₁)



theorem big_heap {K : Frag} {h : Heap} (G : Gr K h) : 1 < h.objs.size := by
  obtain ⟨mg, o, es, ep, e, _⟩ := G.g
  exact Nat.lt_of_le_of_lt (show 1 ≤ mainGlobals by decide) (Heap.lt_size e)
theorem not_mods {d : Addr} (h : 1 < d) : (d == sysModules) = false := by
  rw [beq_eq_false_iff_ne]
  intro q
  rw [q] at h
  exact absurd h (by decide)
theorem mput_len {α : Type} (m : Mp α) (k : Int) (a : α) : (mput m k a).length ≤ m.length + 1 := by
  unfold mput
  split
  · rw [List.length_map]; omega
  · rw [List.length_append]; simp
theorem mdel_len {α : Type} (m : Mp α) (k : Int) : (mdel m k).length ≤ m.length := List.length_filter_le ..
/-- a laying of the program's own: its floor, its dict -/
abbrev LayO (h : Heap) (ly fl d : Addr) : Prop := ObjAt h 168 ly [(Str.ofString "floor", .ref fl), (Str.ofString "over", .ref d)]
/-- the same by its two objects -/
structure LayP (h : Heap) (ly dx : Addr) (o2 : Obj) (fl d : Addr) : Prop where
  a1 : h.get? ly = some (instObj 168 dx)
  a2 : h.get? dx = some o2
  lk : ∀ n, lookIn n o2 = some (List.lookup n [(Str.ofString "floor", .ref fl), (Str.ofString "over", .ref d)])
theorem LayP.mono {h h' : Heap} {ly dx fl d : Addr} {o2 : Obj} (P : LayP h ly dx o2 fl d) (k : Sub h h') : LayP h' ly dx o2 fl d := ⟨k _ _ P.a1, k _ _ P.a2, P.lk⟩
theorem LayP.obj {h : Heap} {ly dx fl d : Addr} {o2 : Obj} (P : LayP h ly dx o2 fl d) : LayO h ly fl d :=
  ⟨(show [Str.ofString "floor", Str.ofString "over"].Nodup by decide +kernel), instObj 168 dx, o2, ⟨P.a1, rfl, rfl, P.a2⟩, P.lk⟩

theorem fieldsY {a b : Value} {n : Str} : (if n = Str.ofString "over" then some b else if n = Str.ofString "floor" then some a else none) = List.lookup n [(Str.ofString "floor", a), (Str.ofString "over", b)] := by
  have d1 : Str.ofString "floor" ≠ Str.ofString "over" := by decide +kernel
  simp only [List.lookup_cons, List.lookup_nil]
  by_cases h1 : n = Str.ofString "floor"
  · subst h1; simp [d1]
  · by_cases h2 : n = Str.ofString "over"
    · subst h2; simp [beq_eq_false_iff_ne.mpr d1.symm]
    · simp [h1, h2, beq_eq_false_iff_ne.mpr h1, beq_eq_false_iff_ne.mpr h2]

theorem laying_spec {w : World} {A : Around} {s : Shared} {Q E : Value → Shared → Prop} {fl : Addr} (G : Gr (Fl.kH w.params) s.heap) (R : Room A 3)
    (h : ∀ ly dx o2 d od s', LayP s'.heap ly dx o2 fl d → s.heap.get? ly = none → s.heap.get? dx = none → ly ≠ d → dx ≠ d → (∀ (α : Type) (Rv : α → Value → Prop), DG PP w Rv od []) → s.heap.get? d = none → s'.heap.get? d = some od → (d == sysModules) = false → Keeps s s' → Q (.ref ly) s') : wpAny (model PP w) A (call (.ref 168) [.ref fl]) Q E s := by
  refine' makeK (f := 125) (fun v => [(Str.ofString "self", v), (Str.ofString "floor", .ref fl)]) (fun v => [(Str.ofString "self", some v), (Str.ofString "floor", some (.ref fl))]) G (by walk_at "room") ?z_m ?z_i ?z_f ?z_ho ?z_hcd ?z_hbind ?z_hd ?z_hb1 ?z_hb2 ?z_hρ ?_
  case z_m => kernel_rfl
  case z_i => kernel_rfl
  case z_f => kernel_rfl
  case z_ho => k_is
  case z_hcd => k_is
  case z_hbind => intro _; rfl
  case z_hd => kernel_rfl
  case z_hb1 => intro _; kernel_rfl
  case z_hb2 => intro _; kernel_rfl
  case z_hρ => intro _; kernel_rfl
  intro x dx L s hx hdx S
  have hn0 := NsO.nil
  walk_at "go"
  walk_at "store"
  walk_at "go"
  have hbig := big_heap (S.gr G)
  refine d_new S ?_; clear S; intro d od s Dn S hd hdq
  walk_at "go"
  walk_at "store"
  walk_at "go"
  have nd := S.lnd
  simp only [List.map_cons, List.map_nil, List.nodup_cons, List.mem_cons, List.not_mem_nil, or_false, not_or] at nd
  refine ⟨rfl, h x dx _ d od _ ⟨S.atLed (by walk_at "mm"), S.atLed (by walk_at "mm"), fun n => ?_⟩ hx hdx (Ne.symm nd.1.1) (Ne.symm nd.1.2) Dn ((S.led (d, od) (List.mem_cons_self ..)).2.2.2 rfl) (S.atLed (List.mem_cons_self ..)) (not_mods (hdq ▸ hbig)) S.out⟩
  rw [NsO.look (by assumption), fieldsY]



theorem need_spec {w : World} {A : Around} {s : Shared} {Q E : Value → Shared → Prop} {ly fl l d : Addr} {rows : List Str} {wd : Nat} {t1 t2 tp : Tok} {p : Int} (G : Gr (Fl.kH w.params) s.heap) (R : Room A 3) (F : FloorAt 271 s.heap fl l rows wd t1 t2) (Y : LayO s.heap ly fl d) (hp : hasB rows wd p = true)
    (h : ∀ s', Keeps s s' → Q .none s') : wpAny (model PP w) A (call (.ref 132) [.ref ly, .int p tp]) Q E s := by
  refine' callP [(Str.ofString "self", some (.ref ly)), (Str.ofString "cell", some (.int p tp))] G (by walk_at "room") ?z_ho ?z_hcd ?z_hbind ?z_hd ?z_hb1 ?z_hb2 ?z_hρ ?_
  walk_at "enter"
  intro L s S
  walk_at "go"
  refine has_spec (S.gr G) (R.in_ (by omega)) (F.mono S.base) ?_
  walk_at "kp"
  rw [hp]
  walk_at "go"
  exact h _ S.out



theorem put_spec {w : World} {A : Around} {s : Shared} {Q E : Value → Shared → Prop} {ly fl l d : Addr} {od : Obj} {m : Mp Int} {rows : List Str} {wd : Nat} {t1 t2 ta tb : Tok} {a b : Int} {B : Heap} (hB : Sub B s.heap) (hd0 : B.get? d = none) (G : Gr (Fl.kH w.params) B) (R : Room A 4) (F : FloorAt 271 B fl l rows wd t1 t2) (Y : LayO B ly fl d)
    (hod : s.heap.get? d = some od) (D : DG PP w RInt od m) (hds : (d == sysModules) = false) (hm : mayB rows wd a b = true) (ha : mget m a = none) (hb : mget m b = none) (hlen : m.length ≤ 1000)
    (h : ∀ od' s', DG PP w RInt od' (mput (mput m a b) b a) → Upd d od' s s' → Q .none s') : wpAny (model PP w) A (call (.ref 139) [.ref ly, .int a ta, .int b tb]) Q E s := by
  obtain ⟨W, w1, w2, w3⟩ := but_one s d
  have kB : Sub B W := fun x o e => w3 x o (fun q => by rw [q, hd0] at e; cases e) (hB x o e)
  refine' callK (h₀ := W) (Λ := [(d, od)]) [(Str.ofString "self", some (.ref ly)), (Str.ofString "one", some (.int a ta)), (Str.ofString "other", some (.int b tb))] (G.mono hB) (by walk_at "room") ?z_ho ?z_hcd ?z_hbind ?z_hd ?z_hb1 ?z_hb2 ?z_hρ w1 (fun p hp => ?z_led) (by simp) ?_
  case z_led => rw [List.mem_singleton.mp hp]; exact ⟨hod, w2⟩
  walk_at "enter"
  intro L s S
  replace G := G.mono kB
  replace F := F.mono kB
  replace Y := ObjAt.mono Y kB
  have hh := mayB_has hm
  have hl1 := mput_len m a b
  walk_at "go"
  refine need_spec (S.gr G) (R.in_ (by omega)) (F.mono S.base) (ObjAt.mono Y S.base) hh.1 ?_
  walk_at "kp"
  walk_at "go"
  refine need_spec (S.gr G) (R.in_ (by omega)) (F.mono S.base) (ObjAt.mono Y S.base) hh.2 ?_
  walk_at "kp"
  walk_at "go"
  refine may_spec (S.gr G) (R.in_ (by omega)) (F.mono S.base) ?_
  walk_at "kp"
  rw [hm]
  walk_at "go"
  refine d_in S (S.atLed (List.mem_cons_self ..)) D hds ?_; clear S; intro s S
  rw [ha, Option.isSome_none]
  walk_at "go"
  refine d_in S (S.atLed (List.mem_cons_self ..)) D hds ?_; clear S; intro s S
  rw [hb, Option.isSome_none]
  walk_at "go"
  refine d_set (a := b) S (by walk_at "cf") D ⟨_, rfl⟩ (by omega) ?_; clear S; intro od1 s D1 S
  walk_at "go"
  refine d_set (a := a) S (by walk_at "cf") D1 ⟨_, rfl⟩ (by omega) ?_; clear S; intro od2 s D2 S
  walk_at "go"
  exact h od2 s D2 ⟨S.same, fun x o hx e => S.base _ _ (w3 x o hx e), S.atLed (List.mem_cons_self ..)⟩



theorem lift_spec {w : World} {A : Around} {s : Shared} {Q E : Value → Shared → Prop} {ly fl l d : Addr} {od : Obj} {m : Mp Int} {rows : List Str} {wd : Nat} {t1 t2 ta : Tok} {a v : Int} {B : Heap} (hB : Sub B s.heap) (hd0 : B.get? d = none) (G : Gr (Fl.kH w.params) B) (R : Room A 4) (F : FloorAt 271 B fl l rows wd t1 t2) (Y : LayO B ly fl d)
    (hod : s.heap.get? d = some od) (D : DG PP w RInt od m) (hds : (d == sysModules) = false) (M : LayM (mayB rows wd) m) (hv : mget m a = some v) (hlen : m.length ≤ 1000)
    (h : ∀ od' s', DG PP w RInt od' (mdel (mdel m a) v) → Upd d od' s s' → Q .none s') : wpAny (model PP w) A (call (.ref 146) [.ref ly, .int a ta]) Q E s := by
  obtain ⟨W, w1, w2, w3⟩ := but_one s d
  have kB : Sub B W := fun x o e => w3 x o (fun q => by rw [q, hd0] at e; cases e) (hB x o e)
  refine' callK (h₀ := W) (Λ := [(d, od)]) [(Str.ofString "self", some (.ref ly)), (Str.ofString "cell", some (.int a ta)), (Str.ofString "other", none)] (G.mono hB) (by walk_at "room") ?z_ho ?z_hcd ?z_hbind ?z_hd ?z_hb1 ?z_hb2 ?z_hρ w1 (fun p hp => ?z_led) (by simp) ?_
  case z_led => rw [List.mem_singleton.mp hp]; exact ⟨hod, w2⟩
  walk_at "enter"
  intro L s S
  replace G := G.mono kB
  replace F := F.mono kB
  replace Y := ObjAt.mono Y kB
  obtain ⟨hva, hm⟩ := M.inv a v hv
  have hh := mayB_has hm
  have hav : v ≠ a := fun e => by have := M.inv a v hv; rw [e] at hm; exact (gph F.grid).ne hm rfl
  have hv2 : mget (mdel m a) v = some a := by rw [mget_mdel, if_neg hav]; exact hva
  have hl1 := mdel_len m a
  walk_at "go"
  refine need_spec (S.gr G) (R.in_ (by omega)) (F.mono S.base) (ObjAt.mono Y S.base) hh.1 ?_
  walk_at "kp"
  walk_at "go"
  refine d_notin S (S.atLed (List.mem_cons_self ..)) D hds ?_; clear S; intro s S
  rw [hv, Option.isSome_some]
  walk_at "go"
  refine m_dict (S.atLed (List.mem_cons_self ..)) D PySem.F.slot_dict_pop PySem.F.type_dict_pop ?_
  walk_at "go"
  refine d_pop S (by walk_at "cf") D hv (by omega) ?_; clear S; intro x od1 s hx D1 S
  obtain ⟨tx, rfl⟩ := hx
  walk_at "go"
  refine m_dict (S.atLed (List.mem_cons_self ..)) D1 PySem.F.slot_dict_pop PySem.F.type_dict_pop ?_
  walk_at "go"
  refine d_pop S (by walk_at "cf") D1 hv2 (by omega) ?_; clear S; intro x od2 s hx D2 S
  walk_at "go"
  exact h od2 s D2 ⟨S.same, fun x o hx e => S.base _ _ (w3 x o hx e), S.atLed (List.mem_cons_self ..)⟩


theorem grid_ok {rows : List Str} {wd : Nat} (g : Grid rows wd) : ∀ x ∈ rows, okS x := by
  intro x hx
  show x.cps.all (· < 0x110000) = true
  rw [Array.all_eq_true']
  intro c hc
  have := g.sign x hx c (by simpa using hc)
  simp; omega
theorem cells_len (rows : List Str) (wd : Nat) : (cellsL rows wd).length ≤ rows.length * wd := by
  unfold cellsL
  refine Nat.le_trans (List.length_filter_le ..) ?_
  simp



theorem it_listN {prog : Program} {w : World} {A : Around} {E : Value → Shared → Prop} {s s₀ : Shared} {h₀ : Heap} {env : Env} {ρ : Rho} {Λ : List (Addr × Obj)} {l : Addr} {ys : Array Value} {k : Nat} {Q : Value → Shared → Prop} (S : CS true s₀ h₀ env ρ Λ s) (hh : A.handled = none) (ho : s.heap.get? l = some (lst ys k)) (hno : ¬ CS.own env Λ l)
    (h : ∀ it s', It prog w A s₀ h₀ env ρ Λ ys.size (fun i v => ys[i]? = some v) it s' → Q it s') : wpAny (model prog w) A (pyIter (.ref l)) Q E s := by
  have hL : s.heap.IsList l ys := ⟨_, ho, rfl, _, rfl⟩
  have hlt : l < s.heap.objs.size := Heap.lt_size ho
  refine wpAny_pyIter_list hL (h _ _ ⟨s.heap.objs.size, _, _, _, rfl, Walks.list hh _ l (Nat.ne_of_lt hlt) ys, ⟨⟨_, Heap.get?_push_size _ rfl, rfl, rfl⟩, hL.at fun o e => Heap.get?_push_of_some _ e⟩, ?_, ?_, ?_, S.pushK _ _⟩)
  · intro a ha
    rw [Heap.size_push]
    rcases List.mem_cons.mp ha with rfl | ha
    · exact Nat.lt_succ_self _
    · rw [List.mem_singleton.mp ha]; exact Nat.lt_succ_of_lt hlt
  · intro a ha
    rw [List.mem_singleton.mp ha]
    exact S.base.none (fresh_none (Nat.le_refl _))
  · intro a ha ho'
    rcases List.mem_cons.mp ha with rfl | ha
    · obtain ⟨o', q⟩ := S.own_at ho'
      exact absurd (Heap.lt_size q) (Nat.lt_irrefl _)
    · rw [List.mem_singleton.mp ha] at ho'
      exact hno ho'

theorem bare_spec {w : World} {A : Around} {s : Shared} {Q E : Value → Shared → Prop} {ly fl l d : Addr} {od : Obj} {m : Mp Int} {rows : List Str} {wd : Nat} {t1 t2 : Tok} (G : Gr (Fl.kH w.params) s.heap) (R : Room A 4) (F : FloorAt 271 s.heap fl l rows wd t1 t2) (Y : LayO s.heap ly fl d) (hod : s.heap.get? d = some od) (D : DG PP w RInt od m) (hds : (d == sysModules) = false)
    (h : ∀ D ys k s', s.heap.get? D = none → s'.heap.get? D = some (lst ys k) → IntsAre ys.toList (bareL m (cellsL rows wd)) → Keeps s s' → Q (.ref D) s') : wpAny (model PP w) A (call (.ref 151) [.ref ly]) Q E s := by
  refine' callP [(Str.ofString "self", some (.ref ly))] G (by walk_at "room") ?z_ho ?z_hcd ?z_hbind ?z_hd ?z_hb1 ?z_hb2 ?z_hρ ?_
  walk_at "enter"
  intro L s S
  obtain ⟨hl1, hl2⟩ := len_wd F.grid
  have hcl := cells_len rows wd
  walk_at "go"
  refine' lc [(Str.ofString "self", some (.ref ly))] (onI (fun c => (mget m c).isNone)) (FII id) S ?z_ok ?z_sel ?_ ?z_hs
  case z_ok => kernel_rfl
  case z_sel => exact Sel.cons (by walk_at "lk") Sel.nil
  case z_hs => intro _; rfl
  walk_at "go"
  refine cells_spec (S.gr G) (R.in_ (by omega)) (F.mono S.base) ?_
  intro lc yc kc s' hD hD' hi hk
  have hno : ¬ CS.own _ [] lc := fun q => by obtain ⟨o, e⟩ := S.own_at q; rw [hD] at e; cases e
  replace S := CS.keeps S hk; clear hk
  have hyc : yc.size = (cellsL rows wd).length := by rw [← hi.length, Array.length_toList]
  refine it_listN S R.handled hD' hno ?_
  intro it s I
  refine comp_it I (by omega) ?_ ?_ ?_
  · intro C i v s E' hlt hv S
    obtain ⟨c, tc, rfl, hc⟩ := hi.at i v (by simpa using hv)
    refine tests1 ?_
    walk_at "go"
    refine d_notin S (S.atBase hod) D hds ?_; clear S; intro s S
    walk_at "go"
    refine ⟨?_, S.quiet⟩
    show _ = (mget m c).isNone
    cases mget m c <;> rfl
  · intro C i v s E' hlt hv hp S
    obtain ⟨c, tc, rfl, hc⟩ := hi.at i v (by simpa using hv)
    walk_at "go"
    exact ⟨⟨_, _, _, rfl, rfl⟩, S.quiet⟩
  · intro D' k ys vs h1 h2 h3 hD2 s' S
    walk_at "go"
    refine h D' ys k s' (I.cs.base.none hD2) (S.atLed (List.mem_cons_self ..)) ?_ S.out
    have hv := vs_list h1 h2
    subst hv
    have := pairII (filtI hi) h3
    rw [List.map_id] at this
    exact this

/-- the slabs of a laying, by its cells rising -/
def slabsL (m : Mp Int) (ks : List Int) : List (Int × Int) := ks.filterMap fun c => match mget m c with
  | some v => if c < v then some (c, v) else none
  | none => none
def PairsIn (ys : List Value) (T : List (Addr × Obj)) (ps : List (Int × Int)) : Prop := ys.length = ps.length ∧ ∀ (j : Nat) (p : Int × Int), ps[j]? = some p → ∃ x t u, ys[j]? = some (Value.ref x) ∧ (x, tup #[.int p.1 t, .int p.2 u]) ∈ T
theorem CS.swap {s₀ s : Shared} {h₀ : Heap} {env : Env} {ρ : Rho} {p q : Addr × Obj} {Λ : List (Addr × Obj)} (S : CS true s₀ h₀ env ρ (p :: q :: Λ) s) : CS true s₀ h₀ env ρ (q :: p :: Λ) s := by
  have := S.lnd
  simp only [List.map_cons, List.nodup_cons, List.mem_cons, not_or] at this
  refine S.forget (fun x hx => ?_) ?_
  · simp only [List.mem_cons] at hx ⊢
    rcases hx with h | h | h
    · exact .inr (.inl h)
    · exact .inl h
    · exact .inr (.inr h)
  · simp only [List.map_cons, List.nodup_cons, List.mem_cons, not_or]
    exact ⟨⟨fun e => this.1.1 e.symm, this.2.1⟩, this.1.2, this.2.2⟩

theorem slabs_spec {w : World} {A : Around} {s : Shared} {Q E : Value → Shared → Prop} {ly fl d : Addr} {od : Obj} {m : Mp Int} {rows : List Str} {wd : Nat} (G : Gr (Fl.kH w.params) s.heap) (R : Room A 1) (Y : LayO s.heap ly fl d) (hod : s.heap.get? d = some od) (D : DG PP w RInt od m) (hds : (d == sysModules) = false) (M : LayM (mayB rows wd) m) (h64 : m.length < 64)
    (h : ∀ D' ys k ks s', s.heap.get? D' = none → s'.heap.get? D' = some (lst ys k) → ks.Perm (m.map (·.1)) → (ys.size = (slabsL m ks).length ∧ ∀ (j : Nat) (p : Int × Int), (slabsL m ks)[j]? = some p → ∃ x t u, ys[j]? = some (Value.ref x) ∧ s.heap.get? x = none ∧ s'.heap.get? x = some (tup #[.int p.1 t, .int p.2 u])) → Keeps s s' → Q (.ref D') s') : wpAny (model PP w) A (call (.ref 158) [.ref ly]) Q E s := by
  refine' callP [(Str.ofString "self", some (.ref ly)), (Str.ofString "found", none), (Str.ofString "cell", none)] G (by walk_at "room") ?z_ho ?z_hcd ?z_hbind ?z_hd ?z_hb1 ?z_hb2 ?z_hρ ?_
  walk_at "enter"
  intro L s S
  walk_at "go"
  refine l_new S (by simp) ?_; clear S; intro lf s S _
  walk_at "go"
  refine d_list S R.handled (S.atBase hod) D hds (by omega) ?_; clear S; intro l0 y0 k0 s hy0 S _
  walk_at "go"
  refine l_sorted S (IntL.of (S.atLed (List.mem_cons_self ..)) hy0) (by rw [List.length_map]; exact h64) ?_; clear S; intro ls out e ks s hout hperm _ S _
  obtain ⟨h₁, k₁, hls, S'⟩ := S.freeze
  replace S := S'.tl rfl
  clear S'
  replace G := G.mono k₁
  replace Y := ObjAt.mono Y k₁
  have hod₁ := k₁ _ _ hod
  have hkl : ks.length < 64 := by rw [hperm.length_eq, List.length_map]; exact h64
  have hcov : ∀ c ∈ ks, ∃ v, mget m c = some v := fun c hc => by
    have := hperm.mem_iff.mp hc
    cases e : mget m c with
    | some v => exact ⟨v, rfl⟩
    | none => exact absurd this (mget_none_iff.mp e)
  refine itx_list S R.handled hls rfl ⟨_, rfl⟩ ?_
  clear S
  intro it s I
  refine loop_itx (fun i ρ Λ => ∃ a ys k T, ρ = [(Str.ofString "self", some (.ref ly)), (Str.ofString "found", some (.ref lf)), (Str.ofString "cell", a)] ∧ Λ = (lf, lst ys k) :: T ∧ PairsIn ys.toList T (slabsL m (ks.take i)) ∧ ys.size ≤ i) I ⟨_, _, _, [], rfl, rfl, ⟨rfl, fun j p q => by simp [slabsL] at q⟩, Nat.le_refl _⟩ ?_ ?_
  · rintro i v ρ₁ Λ₁ hi1 hv ⟨a, ys, ky, T, rfl, rfl, hP, hsz⟩
    obtain ⟨c, tc, rfl, hc⟩ := hout.at i v (by simpa using hv)
    have hik : i < ks.length := by rw [← hout.length, Array.length_toList]; exact hi1
    obtain ⟨x, hx⟩ := hcov c (List.mem_of_getElem? hc)
    have et : ks.take (i + 1) = ks.take i ++ [c] := by rw [List.take_add_one, hc]; rfl
    have es : slabsL m (ks.take (i + 1)) = slabsL m (ks.take i) ++ (if c < x then [(c, x)] else []) := by
      rw [et]
      unfold slabsL
      rw [List.filterMap_append]
      congr 1
      simp only [List.filterMap_cons, List.filterMap_nil, hx]
      split <;> rename_i hq <;> split at hq <;> simp_all
    refine ⟨_, .tail (.tail .head), ?_⟩
    walk_at "turn"
    replace Y := ObjAt.mono Y k
    have hod₂ := k _ _ hod₁
    clear k
    walk_at "go"
    refine d_at S (S.atBase hod₂) D hx (by rfl) ?_; clear S; intro vx s hvx S
    obtain ⟨tx, rfl⟩ := hvx
    walk_at "go"
    refine i_dec (fun hlt => ?_) (fun hlt => ?_)
    · walk_at "go"
      refine d_at S (S.atBase hod₂) D hx (by rfl) ?_; clear S; intro vx s hvx S
      obtain ⟨tx2, rfl⟩ := hvx
      walk_at "go"
      refine u_new S (by simp) ?_; clear S; intro tu s S _
      replace S := S.swap
      walk_at "go"
      refine l_append S (by walk_at "cf") (by omega) ?_; clear S; intro k' s S
      walk_at "go"
      refine hNx _ _ _ _ (Sub.refl _) S ⟨_, _, _, _, rfl, rfl, ?_, by rw [Array.size_push]; omega⟩
      rw [es, if_pos hlt, Array.toList_push]
      refine ⟨by rw [List.length_append, List.length_append, hP.1]; rfl, fun j p q => ?_⟩
      rw [List.getElem?_append] at q
      split at q
      · rename_i hj
        obtain ⟨x', t', u', q1, q2⟩ := hP.2 j p q
        refine ⟨x', t', u', ?_, List.mem_cons_of_mem _ q2⟩
        rw [List.getElem?_append_left (by rw [hP.1]; exact hj)]; exact q1
      · rename_i hj
        have hj0 : j - (slabsL m (ks.take i)).length = 0 := by
          cases hz : j - (slabsL m (ks.take i)).length with
          | zero => rfl
          | succ n => rw [hz] at q; simp at q
        rw [hj0] at q
        simp at q
        subst q
        refine ⟨tu, _, _, ?_, List.mem_cons_self ..⟩
        have : j = ys.toList.length := by rw [hP.1]; omega
        rw [this, List.getElem?_append_right (Nat.le_refl _)]
        simp
    · walk_at "go"
      refine hNx _ _ _ _ (Sub.refl _) S ⟨_, _, _, _, rfl, rfl, ?_, by omega⟩
      rw [es, if_neg hlt, List.append_nil]
      exact hP
  clear I
  rintro ρ' Λ' s ⟨a, ys, k, T, rfl, rfl, hP, hsz⟩ S
  have hol : out.size = ks.length := by rw [← hout.length, Array.length_toList]
  rw [hol, List.take_length] at hP
  walk_at "go"
  refine h lf ys k ks s (k₁.none ((S.led (lf, _) (List.mem_cons_self ..)).2.2.2 rfl)) (S.atLed (List.mem_cons_self ..)) hperm ⟨by rw [← hP.1, Array.length_toList], fun j p q => ?_⟩ (S.outs k₁)
  obtain ⟨x, t, u, q1, q2⟩ := hP.2 j p q
  have q3 := List.mem_cons_of_mem (lf, lst ys k) q2
  exact ⟨x, t, u, by rw [← Array.getElem?_toList]; exact q1, k₁.none ((S.led _ q3).2.2.2 rfl), S.atLed q3⟩


/-- slabs laid again one by one -/
structure Cpy (may : Int → Int → Bool) (m : Mp Int) (ps : List (Int × Int)) (i : Nat) (m' : Mp Int) : Prop where
  lay : LayM may m'
  sub : ∀ x y, mget m' x = some y → mget m x = some y
  on : ∀ p ∈ ps.take i, mget m' p.1 = some p.2
  off : ∀ p ∈ ps.drop i, mget m' p.1 = none ∧ mget m' p.2 = none
theorem slabs_mem {m : Mp Int} {ks : List Int} {a b : Int} : (a, b) ∈ slabsL m ks ↔ a ∈ ks ∧ mget m a = some b ∧ a < b := by
  unfold slabsL
  rw [List.mem_filterMap]
  constructor
  · rintro ⟨c, hc, e⟩
    cases q : mget m c with
    | none => rw [q] at e; cases e
    | some v =>
      rw [q] at e
      dsimp only at e
      split at e
      · cases e; exact ⟨hc, q, by assumption⟩
      · cases e
  · rintro ⟨h1, h2, h3⟩
    exact ⟨a, h1, by rw [h2]; dsimp only; rw [if_pos h3]⟩
theorem slabs_nodup {m : Mp Int} : ∀ {ks : List Int}, ks.Nodup → ((slabsL m ks).map (·.1)).Nodup
  | [], _ => List.nodup_nil
  | c :: r, nd => by
    rw [List.nodup_cons] at nd
    have ih := slabs_nodup (m := m) nd.2
    have hcr : c ∉ (slabsL m r).map (·.1) := fun h => by
      obtain ⟨p, hp, e⟩ := List.mem_map.mp h
      have := (slabs_mem (a := p.1) (b := p.2)).mp hp
      rw [e] at this
      exact nd.1 this.1
    have e : slabsL m (c :: r) = (match mget m c with | some v => if c < v then [(c, v)] else [] | none => []) ++ slabsL m r := by
      unfold slabsL
      rw [List.filterMap_cons]
      cases mget m c with
      | none => rfl
      | some v =>
        dsimp only
        split
        · rename_i q; split at q <;> simp_all
        · rename_i q; split at q <;> simp_all
    rw [e]
    cases mget m c with
    | none => exact ih
    | some v =>
      dsimp only
      split
      · rw [List.map_append]; exact List.nodup_cons.mpr ⟨hcr, ih⟩
      · exact ih
theorem Cpy.start {may : Int → Int → Bool} {m : Mp Int} {ps : List (Int × Int)} : Cpy may m ps 0 [] :=
  ⟨LayM.nil may, fun _ _ h => by simp [mget] at h, fun p h => by simp at h, fun p _ => ⟨rfl, rfl⟩⟩
theorem Cpy.put {may : Int → Int → Bool} {sh : Int → Int} {m m' : Mp Int} {ks : List Int} {i : Nat} {a b : Int} (g : Gph may sh) (M : LayM may m) (nd : ks.Nodup) (c : Cpy may m (slabsL m ks) i m') (h : (slabsL m ks)[i]? = some (a, b)) :
    may a b = true ∧ mget m' a = none ∧ mget m' b = none ∧ Cpy may m (slabsL m ks) (i + 1) (mput (mput m' a b) b a) := by
  have hmem := slabs_mem.mp (List.mem_of_getElem? h)
  obtain ⟨hk, hab, hlt⟩ := hmem
  obtain ⟨hba, hmay⟩ := M.inv a b hab
  have hdrop : (slabsL m ks).drop i = (a, b) :: (slabsL m ks).drop (i + 1) := by
    obtain ⟨hi, e⟩ := List.getElem?_eq_some_iff.mp h
    rw [List.drop_eq_getElem_cons hi, e]
  have hoff := c.off (a, b) (by rw [hdrop]; exact List.mem_cons_self ..)
  refine ⟨hmay, hoff.1, hoff.2, c.lay.put g hmay hoff.1 hoff.2, fun x y q => ?_, fun p hp => ?_, fun p hp => ?_⟩
  · rw [mget_mput, mget_mput] at q
    by_cases x1 : x = b
    · rw [if_pos x1] at q; cases q; rw [x1]; exact hba
    · rw [if_neg x1] at q
      by_cases x2 : x = a
      · rw [if_pos x2] at q; cases q; rw [x2]; exact hab
      · rw [if_neg x2] at q; exact c.sub x y q
  · rw [List.take_add_one, h] at hp
    rw [mget_mput, mget_mput]
    rcases List.mem_append.mp hp with q | q
    · have e := c.on p q
      have p1 : p.1 ≠ b := fun z => by rw [z, hoff.2] at e; cases e
      have p2 : p.1 ≠ a := fun z => by rw [z, hoff.1] at e; cases e
      rw [if_neg p1, if_neg p2]; exact e
    · simp at q; subst q
      have : a ≠ b := by omega
      rw [if_neg this, if_pos rfl]
  · obtain ⟨a', b'⟩ := p
    have hp0 : (a', b') ∈ (slabsL m ks).drop i := by rw [hdrop]; exact List.mem_cons_of_mem _ hp
    have ho := c.off _ hp0
    obtain ⟨_, hab', hlt'⟩ := slabs_mem.mp (List.mem_of_mem_drop hp)
    obtain ⟨hba', _⟩ := M.inv a' b' hab'
    have hne : a' ≠ a := fun e => by
      have hnd := (slabs_nodup (m := m) nd).sublist (List.Sublist.map (fun x : Int × Int => x.1) (List.drop_sublist i (slabsL m ks)))
      rw [hdrop, List.map_cons, List.nodup_cons] at hnd
      exact hnd.1 (List.mem_map.mpr ⟨(a', b'), hp, e⟩)
    have e1 : a' ≠ b := fun e => by rw [e, hba] at hab'; cases hab'; omega
    have e2 : b' ≠ a := fun e => by rw [e, hab] at hba'; cases hba'; omega
    have e3 : b' ≠ b := fun e => by rw [e, hba] at hba'; cases hba'; exact hne rfl
    refine ⟨?_, ?_⟩
    · rw [mget_mput, mget_mput, if_neg e1, if_neg hne]; exact ho.1
    · rw [mget_mput, mget_mput, if_neg e3, if_neg e2]; exact ho.2
theorem Cpy.all {may : Int → Int → Bool} {sh : Int → Int} {m m' : Mp Int} {ks : List Int} (g : Gph may sh) (M : LayM may m) (hk : ks.Perm (m.map (·.1))) (c : Cpy may m (slabsL m ks) (slabsL m ks).length m') : ∀ x, mget m' x = mget m x := by
  have on : ∀ a b, mget m a = some b → a < b → mget m' a = some b := fun a b h hlt => by
    have hin : a ∈ ks := hk.mem_iff.mpr (List.mem_map.mpr ⟨(a, b), mget_mem h, rfl⟩)
    exact c.on (a, b) (by rw [List.take_length]; exact slabs_mem.mpr ⟨hin, h, hlt⟩)
  intro x
  cases e : mget m x with
  | none =>
    cases e' : mget m' x with
    | none => rfl
    | some y => have := c.sub x y e'; rw [e] at this; cases this
  | some y =>
    obtain ⟨h1, h2⟩ := M.inv x y e
    have hne := g.ne h2
    by_cases q : x < y
    · exact on x y e q
    · have := on y x h1 (by omega)
      exact (c.lay.inv y x this).1

theorem copied_spec {w : World} {A : Around} {s : Shared} {Q E : Value → Shared → Prop} {ly fl l d : Addr} {od : Obj} {m : Mp Int} {rows : List Str} {wd : Nat} {t1 t2 : Tok} (G : Gr (Fl.kH w.params) s.heap) (R : Room A 6) (F : FloorAt 271 s.heap fl l rows wd t1 t2) (Y : LayO s.heap ly fl d) (hod : s.heap.get? d = some od) (D : DG PP w RInt od m) (hds : (d == sysModules) = false) (M : LayM (mayB rows wd) m) (h64 : m.length < 64)
    (h : ∀ ly' dx o2 d' od' m' s', LayP s'.heap ly' dx o2 fl d' → s.heap.get? ly' = none → s.heap.get? dx = none → ly' ≠ d' → dx ≠ d' → DG PP w RInt od' m' → LayM (mayB rows wd) m' → (∀ x, mget m' x = mget m x) → m'.length ≤ 200 → s.heap.get? d' = none → s'.heap.get? d' = some od' → (d' == sysModules) = false → Keeps s s' → Q (.ref ly') s') : wpAny (model PP w) A (call (.ref 165) [.ref ly]) Q E s := by
  refine' callP [(Str.ofString "self", some (.ref ly)), (Str.ofString "made", none), (Str.ofString "pair", none)] G (by walk_at "room") ?z_ho ?z_hcd ?z_hbind ?z_hd ?z_hb1 ?z_hb2 ?z_hρ ?_
  walk_at "enter"
  intro L s S
  have g := gph F.grid
  walk_at "go"
  refine laying_spec (S.gr G) (R.in_ (by omega)) ?_
  intro ly' dx o2 d' od0 s' P n1 n2 ne1 ne2 Dn hd' hd'' hds' hk
  obtain ⟨h₁, k₁, S', hall⟩ := S.adoptW hk hd' hd''
  have n1' := S.base.none n1
  have n2' := S.base.none n2
  have n3' := S.base.none hd'
  replace S := S'
  clear S'
  have P₁ : LayP h₁ ly' dx o2 fl d' := ⟨hall _ _ n1 ne1 P.a1, hall _ _ n2 ne2 P.a2, P.lk⟩
  clear P hall hk
  replace G := G.mono k₁
  replace F := F.mono k₁
  replace Y := ObjAt.mono Y k₁
  have hod₁ := k₁ _ _ hod
  walk_at "go"
  refine slabs_spec (S.gr G) (R.in_ (by omega)) (ObjAt.mono Y S.base) (S.atBase hod₁) D hds M h64 ?_
  intro lp yp kp ks s' hlp hlp' hperm hprs hk
  obtain ⟨h₂, k₂, S', hN⟩ := CS.gnew S hk
  replace S := S'
  clear S'
  replace G := G.mono k₂
  replace F := F.mono k₂
  replace P₁ := P₁.mono k₂
  have B := k₁.trans k₂
  have hol := hN _ _ hlp hlp'
  have hpr : ∀ (j : Nat) (p : Int × Int), (slabsL m ks)[j]? = some p → ∃ x t u, yp[j]? = some (Value.ref x) ∧ h₂.get? x = some (tup #[.int p.1 t, .int p.2 u]) := fun j p q => by
    obtain ⟨x, t, u, a, b, c⟩ := hprs.2 j p q
    exact ⟨x, t, u, a, hN _ _ b c⟩
  have hsz := hprs.1
  clear hprs hk hN hlp hlp' Y
  have Y := P₁.obj
  have hnd : ks.Nodup := hperm.nodup_iff.mpr M.nd
  have hpl : (slabsL m ks).length ≤ ks.length := List.length_filterMap_le ..
  have hkl : ks.length < 64 := by rw [hperm.length_eq, List.length_map]; exact h64
  refine it_list S R.handled hol rfl ⟨_, rfl⟩ ?_
  clear S
  intro it s I
  refine loop_it (fun i ρ Λ => ∃ a od1 m1, ρ = [(Str.ofString "self", some (.ref ly)), (Str.ofString "made", some (.ref ly')), (Str.ofString "pair", a)] ∧ Λ = [(d', od1)] ∧ DG PP w RInt od1 m1 ∧ Cpy (mayB rows wd) m (slabsL m ks) i m1 ∧ m1.length ≤ 2 * i) I ⟨_, _, _, rfl, rfl, Dn _ _, Cpy.start, Nat.le_refl _⟩ ?_ ?_ ?_
  · rintro i ρ' Λ' ⟨_, _, _, _, rfl, _⟩; rfl
  · rintro i v ρ₁ Λ₁ hi1 hv ⟨a, od1, m1, rfl, rfl, D1, C1, hl1⟩
    obtain ⟨⟨pa, pb⟩, hp⟩ : ∃ p, (slabsL m ks)[i]? = some p := ⟨(slabsL m ks)[i]'(by omega), by simp⟩
    obtain ⟨x, tx, ux, e1, e2⟩ := hpr i _ hp
    rw [e1] at hv
    cases hv
    obtain ⟨q1, q2, q3, C2⟩ := C1.put g M hnd hp
    refine ⟨_, .tail (.tail .head), ?_⟩
    walk_at "turn"
    replace F := F.mono k
    replace Y := ObjAt.mono Y k
    have e2' := k _ _ e2
    clear k
    walk_at "go"
    refine u_at (S.atBase e2') (.inl ⟨rfl, rfl⟩) (by rfl) ?_
    walk_at "go"
    refine u_at (S.atBase e2') (.inr ⟨rfl, rfl⟩) (by rfl) ?_
    walk_at "go"
    refine put_spec S.base ((S.led (d', od1) (List.mem_cons_self ..)).2.2.2 rfl) G (R.in_ (by omega)) F Y (S.atLed (List.mem_cons_self ..)) D1 hds' q1 q2 q3 (by omega) ?_
    intro od2 s' D2 up
    replace S := S.upd (by walk_at "cf") up
    walk_at "go"
    refine hNx _ _ _ _ (Sub.refl _) S ⟨_, _, _, rfl, rfl, D2, C2, ?_⟩
    have z1 := mput_len m1 pa pb
    have z2 := mput_len (mput m1 pa pb) pb pa
    show (mput (mput m1 pa pb) pb pa).length ≤ _
    omega
  clear I
  rintro ρ' Λ' s ⟨a, od1, m1, rfl, rfl, D1, C1, hl1⟩ S
  rw [hsz] at C1 hl1
  walk_at "go"
  exact h ly' dx o2 d' od1 m1 s (P₁.mono S.base) n1' n2' ne1 ne2 D1 C1.lay (C1.all g M hperm) (by omega) n3' (S.atLed (List.mem_cons_self ..)) hds' (S.outs B)


theorem cells_nodup (rows : List Str) (wd : Nat) : (cellsL rows wd).Nodup := by
  unfold cellsL
  refine List.Nodup.sublist List.filter_sublist ?_
  rw [List.nodup_iff_pairwise_ne, List.pairwise_map]
  exact (List.nodup_iff_pairwise_ne.mp List.nodup_range).imp fun h e => h (by omega)
theorem lay_cells {rows : List Str} {wd : Nat} {m : Mp Int} (M : LayM (mayB rows wd) m) : ∀ k v, mget m k = some v → k ∈ cellsL rows wd := fun k v h => by
  have := (mayB_has (M.inv k v h).2).1
  rw [← cells_mem] at this
  exact of_decide_eq_true this
theorem may_cell {rows : List Str} {wd : Nat} {a c : Int} (h : mayB rows wd a c = true) : c ∈ cellsL rows wd := by
  have := (mayB_has h).2
  rw [← cells_mem] at this
  exact of_decide_eq_true this
theorem wf_len {rows : List Str} {wd : Nat} {z : Int} {m : Mp Int} {Fm : Mp (Option Int)} (g : Gph (mayB rows wd) (shadeN wd)) (M : LayM (mayB rows wd) m) (nd : (Fm.map (·.1)).Nodup) (wf : WF (mayB rows wd) (shadeN wd) z m Fm) (rt : ∀ c, mget Fm c = some none → c ∈ cellsL rows wd) : Fm.length ≤ (cellsL rows wd).length := by
  rw [← List.length_map (f := (·.1))]
  refine nodup_len nd fun c hc => ?_
  obtain ⟨⟨k, x⟩, hp, rfl⟩ := List.mem_map.mp hc
  exact wf.cells g M (C := fun c => c ∈ cellsL rows wd) (fun a c h => may_cell h) (fun c x q e => rt c (e ▸ q)) k x (mget_of_mem nd hp)

theorem reached_spec {w : World} {A : Around} {s : Shared} {Q E : Value → Shared → Prop} {ly fl l d : Addr} {od : Obj} {m : Mp Int} {rows : List Str} {wd : Nat} {t1 t2 tz : Tok} {z : Int} (G : Gr (Fl.kH w.params) s.heap) (R : Room A 6) (F : FloorAt 271 s.heap fl l rows wd t1 t2) (Y : LayO s.heap ly fl d) (hod : s.heap.get? d = some od) (D : DG PP w RInt od m) (hds : (d == sysModules) = false) (M : LayM (mayB rows wd) m)
    (h : ∀ D' odF Fm W s', s.heap.get? D' = none → s'.heap.get? D' = some odF → (D' == sysModules) = false → DG PP w ROpt odF Fm → Bfs (mayB rows wd) (shadeN wd) z m (cellsL rows wd) Fm W W.length → Keeps s s' → Q (.ref D') s') : wpAny (model PP w) A (call (.ref 179) [.ref ly, .int z tz]) Q E s := by
  refine' callP [(Str.ofString "laying", some (.ref ly)), (Str.ofString "shade", some (.int z tz)), (Str.ofString "floor", none), (Str.ofString "found", none), (Str.ofString "waiting", none), (Str.ofString "cell", none), (Str.ofString "place", none), (Str.ofString "other", none), (Str.ofString "mate", none)] G (by walk_at "room") ?z_ho ?z_hcd ?z_hbind ?z_hd ?z_hb1 ?z_hb2 ?z_hρ ?_
  walk_at "enter"
  intro L s S
  have g := gph F.grid
  have ndC := cells_nodup rows wd
  have hC := lay_cells M
  obtain ⟨hl1, hl2⟩ := len_wd F.grid
  have hcl := cells_len rows wd
  have hbl : (bareL m (cellsL rows wd)).length ≤ (cellsL rows wd).length := List.length_filter_le ..
  walk_at "go"
  have hbig := big_heap (S.gr G)
  refine d_new S ?_; clear S; intro D' odF s Dn S hd' hdq
  have hds' := not_mods (hdq ▸ hbig)
  walk_at "go"
  refine l_new S (by simp) ?_; clear S; intro lw s S _
  walk_at "go"
  refine bare_spec (S.gr G) (R.in_ (by omega)) (F.mono S.base) (ObjAt.mono Y S.base) (S.atBase hod) D hds ?_
  intro lb yb kb s' hlb hlb' hib hk
  obtain ⟨h₁, k₁, S', hN⟩ := CS.gnew S hk
  replace S := S'
  clear S'
  replace G := G.mono k₁
  replace F := F.mono k₁
  replace Y := ObjAt.mono Y k₁
  have hod₁ := k₁ _ _ hod
  have hol := hN _ _ hlb hlb'
  clear hk hN hlb hlb'
  refine it_list S R.handled hol rfl ⟨_, rfl⟩ ?_
  clear S
  intro it s I
  refine loop_it (fun i ρ Λ => ∃ a odF Fm ys k W, ρ = [(Str.ofString "laying", some (.ref ly)), (Str.ofString "shade", some (.int z tz)), (Str.ofString "floor", some (.ref fl)), (Str.ofString "found", some (.ref D')), (Str.ofString "waiting", some (.ref lw)), (Str.ofString "cell", a), (Str.ofString "place", none), (Str.ofString "other", none), (Str.ofString "mate", none)] ∧ Λ = [(lw, lst ys k), (D', odF)] ∧ DG PP w ROpt odF Fm ∧ IntsAre ys.toList W ∧ W = ((bareL m (cellsL rows wd)).take i).filter (fun c => decide (shadeN wd c = z)) ∧ Fm = W.map fun c => (c, none)) I ⟨_, _, _, _, _, [], rfl, rfl, Dn _ _, .nil, rfl, rfl⟩ ?_ ?_ ?_
  · rintro i ρ' Λ' ⟨_, _, _, _, _, _, _, rfl, _⟩; rfl
  · rintro i v ρ₁ Λ₁ hi1 hv ⟨a, odF, Fm, ys, ky, W, rfl, rfl, DF, hW, eW, eF⟩
    obtain ⟨c, tc, rfl, hc⟩ := hib.at i v (by simpa using hv)
    have hib2 : i < (bareL m (cellsL rows wd)).length := by rw [← hib.length, Array.length_toList]; exact hi1
    have et : (bareL m (cellsL rows wd)).take (i + 1) = (bareL m (cellsL rows wd)).take i ++ [c] := by rw [List.take_add_one, hc]; rfl
    have hWl : W.length ≤ i := by rw [eW]; refine Nat.le_trans (List.length_filter_le ..) ?_; rw [List.length_take]; omega
    have hFl : Fm.length ≤ i := by rw [eF, List.length_map]; exact hWl
    have hys : ys.size = W.length := by rw [← hW.length, Array.length_toList]
    refine ⟨_, .tail (.tail (.tail (.tail (.tail .head)))), ?_⟩
    walk_at "turn"
    replace F := F.mono k
    replace Y := ObjAt.mono Y k
    clear k
    walk_at "go"
    refine shade_spec (S.gr G) (R.in_ (by omega)) (F.mono S.base) ?_
    walk_at "kpt"
    walk_at "go"
    refine i_eq (fun hz => ?_) (fun hz => ?_)
    · have hnew : mget Fm c = none := by
        rw [eF, mget_roots, if_neg]
        rw [eW]
        intro q
        have q2 := (List.mem_filter.mp q).1
        have hnd : ((bareL m (cellsL rows wd)).take (i + 1)).Nodup := ((ndC.sublist List.filter_sublist)).sublist (List.take_sublist _ _)
        rw [et, List.nodup_append] at hnd
        exact hnd.2.2 c q2 c (by simp) rfl
      walk_at "go"
      refine d_set (a := (none : Option Int)) S (by walk_at "cf") DF rfl (by omega) ?_; clear S; intro odF' s DF' S
      rw [mput_new _ hnew] at DF'
      walk_at "go"
      refine l_append S (by walk_at "cf") (by omega) ?_; clear S; intro k' s S
      walk_at "go"
      refine hNx _ _ _ _ (Sub.refl _) S ⟨_, _, _, _, _, W ++ [c], rfl, rfl, DF', ?_, ?_, ?_⟩
      · rw [Array.toList_push]; exact hW.append (.cons _ _ .nil)
      · rw [et, List.filter_append, ← eW]; simp [hz]
      · rw [eF, List.map_append]; rfl
    · walk_at "go"
      refine hNx _ _ _ _ (Sub.refl _) S ⟨_, _, _, _, _, W, rfl, rfl, DF, hW, ?_, eF⟩
      rw [et, List.filter_append, ← eW]; simp [hz]
  clear I
  rintro ρ' Λ' s ⟨a, odF, Fm, ys, ky, W, rfl, rfl, DF, hW, eW, eF⟩ S
  have hyb : yb.size = (bareL m (cellsL rows wd)).length := by rw [← hib.length, Array.length_toList]
  rw [hyb, List.take_length] at eW
  have B0 : Bfs (mayB rows wd) (shadeN wd) z m (cellsL rows wd) Fm W 0 := by rw [eF, eW]; exact Bfs.start ndC
  clear eW eF
  walk_at "go"
  refine x_while (n := (cellsL rows wd).length) (fun k _ ρ Λ => ∃ (a o mt : Option Value) (tp : Tok) (p : Nat) (odF : Obj) (Fm : Mp (Option Int)) (ys : Array Value) (ky : Nat) (W : List Int), ρ = [(Str.ofString "laying", some (.ref ly)), (Str.ofString "shade", some (.int z tz)), (Str.ofString "floor", some (.ref fl)), (Str.ofString "found", some (.ref D')), (Str.ofString "waiting", some (.ref lw)), (Str.ofString "cell", a), (Str.ofString "place", some (.int p tp)), (Str.ofString "other", o), (Str.ofString "mate", mt)] ∧ Λ = [(lw, lst ys ky), (D', odF)] ∧ DG PP w ROpt odF Fm ∧ IntsAre ys.toList W ∧ Bfs (mayB rows wd) (shadeN wd) z m (cellsL rows wd) Fm W p ∧ p ≤ W.length ∧ k = (cellsL rows wd).length - p) S ⟨_, _, _, _, 0, _, _, _, _, _, rfl, rfl, DF, hW, B0, Nat.zero_le _, rfl⟩ ?_
  clear S DF hW B0
  rintro k h₂ ρ₂ Λ₂ s ⟨a, o, mt, tp, p, odF, Fm, ys, ky, W, rfl, rfl, DF, hW, B1, hp, rfl⟩ k₂ S
  replace G := G.mono k₂
  replace F := F.mono k₂
  replace Y := ObjAt.mono Y k₂
  have hod₂ := k₂ _ _ hod₁
  have hWC := nodup_len B1.wn B1.sub
  have hys : ys.size = W.length := by rw [← hW.length, Array.length_toList]
  walk_at "go"
  refine l_len S (IntL.of (S.atLed (List.mem_cons_self ..)) hW) (by omega) ?_; clear S; intro t s S
  walk_at "go"
  refine i_dec (fun hlt => ?_) (fun hlt => ?_)
  · walk_at "go"
    have hpW : p < W.length := by omega
    refine l_at (IntL.of (S.atLed (List.mem_cons_self ..)) hW) (by omega) (by omega) (by omega) (by rfl) ?_
    intro ta
    have eA : W[p]? = some (W.getD p 0) := by simp [List.getD, hpW]
    have hAC := B1.sub _ (List.mem_of_getElem? eA)
    rw [Int.toNat_natCast]
    generalize W.getD p 0 = ca at eA hAC ⊢
    have hAB : hasB rows wd ca = true := by rw [← cells_mem]; exact decide_eq_true hAC
    have hbs := beside_len rows wd ca
    walk_at "go"
    refine beside_spec (S.gr G) (R.in_ (by omega)) (F.mono S.base) hAB ?_
    intro ls yb2 kb2 s' hls hls' his hk
    obtain ⟨h₃, k₃, S', hN⟩ := CS.gnew S hk
    replace S := S'
    clear S'
    replace G := G.mono k₃
    replace F := F.mono k₃
    replace Y := ObjAt.mono Y k₃
    have hod₃ := k₃ _ _ hod₂
    have hol3 := hN _ _ hls hls'
    clear hk hN hls hls'
    refine it_list S R.handled hol3 rfl ⟨_, rfl⟩ ?_
    clear S
    intro it s I
    refine loop_it (fun j ρ Λ => ∃ o mt tp odF Fm ys k W, ρ = [(Str.ofString "laying", some (.ref ly)), (Str.ofString "shade", some (.int z tz)), (Str.ofString "floor", some (.ref fl)), (Str.ofString "found", some (.ref D')), (Str.ofString "waiting", some (.ref lw)), (Str.ofString "cell", some (.int ca ta)), (Str.ofString "place", some (.int ((p : Int) + 1) tp)), (Str.ofString "other", o), (Str.ofString "mate", mt)] ∧ Λ = [(lw, lst ys k), (D', odF)] ∧ DG PP w ROpt odF Fm ∧ IntsAre ys.toList W ∧ Mid (mayB rows wd) (shadeN wd) z m (cellsL rows wd) ca (besideL rows wd ca) p j Fm W) I ⟨_, _, _, _, _, _, _, _, rfl, rfl, DF, hW, Mid.start B1 eA⟩ ?_ ?_ ?_
    · rintro i ρ' Λ' ⟨_, _, _, _, _, _, _, _, _, rfl, _⟩; rfl
    · rintro j v ρ₁ Λ₁ hj1 hv ⟨o, mt, tp, odF, Fm, ys, ky, W, rfl, rfl, DF, hW, X⟩
      obtain ⟨b, tb, rfl, hb⟩ := his.at j v (by simpa using hv)
      have hmay := mem_beside.mp (List.mem_of_getElem? hb)
      have hWC := nodup_len X.wn X.sub
      have hFC := wf_len g M DF.nodup X.wf X.rt
      have hys : ys.size = W.length := by rw [← hW.length, Array.length_toList]
      refine ⟨_, .tail (.tail (.tail (.tail (.tail (.tail (.tail .head)))))), ?_⟩
      walk_at "turn"
      replace F := F.mono k
      replace Y := ObjAt.mono Y k
      have hod₄ := k _ _ hod₃
      clear k
      walk_at "go"
      refine d_notin S (S.atLed (List.mem_cons_of_mem _ (List.mem_cons_self ..))) DF hds' ?_; clear S; intro s S
      walk_at "go"
      refine i_bool (fun q => ?_) (fun q => ?_)
      · walk_at "go"
        exact hNx _ _ _ _ (Sub.refl _) S ⟨_, _, _, _, _, _, _, _, rfl, rfl, DF, hW, X.skip hb q⟩
      · have hn : mget Fm b = none := by cases e : mget Fm b with | none => rfl | some y => rw [e] at q; cases q
        walk_at "go"
        refine d_set (a := some ca) S (by walk_at "cf") DF ⟨_, rfl⟩ (by omega) ?_; clear S; intro odF1 s DF1 S
        rw [mput_new _ hn] at DF1
        walk_at "go"
        refine d_in S (S.atBase hod₄) D hds ?_; clear S; intro s S
        cases hv : mget m b with
        | none =>
          rw [Option.isSome_none]
          walk_at "go"
          exact hNx _ _ _ _ (Sub.refl _) S ⟨_, _, _, _, _, _, _, _, rfl, rfl, DF1, hW, X.leaf g hb hmay hn hv⟩
        | some u =>
          rw [Option.isSome_some]
          obtain ⟨hun, X2⟩ := X.pair g M hC hb hmay hn hv
          walk_at "go"
          refine d_at S (S.atBase hod₄) D hv (by rfl) ?_; clear S; intro vx s hvx S
          obtain ⟨tu, rfl⟩ := hvx
          walk_at "go"
          refine d_set (a := some b) S (by walk_at "cf") DF1 ⟨_, rfl⟩ (by rw [List.length_append]; simp; omega) ?_; clear S; intro odF2 s DF2 S
          rw [mput_new _ hun, List.append_assoc] at DF2
          walk_at "go"
          refine l_append S (by walk_at "cf") (by omega) ?_; clear S; intro k' s S
          walk_at "go"
          refine hNx _ _ _ _ (Sub.refl _) S ⟨_, _, _, _, _, _, _, W ++ [u], rfl, rfl, DF2, ?_, X2⟩
          rw [Array.toList_push]; exact hW.append (.cons _ _ .nil)
    clear I
    rintro ρ' Λ' s ⟨o, mt, tp, odF, Fm, ys, ky, W, rfl, rfl, DF, hW, X⟩ S
    have hyb2 : yb2.size = (besideL rows wd ca).length := by rw [← his.length, Array.length_toList]
    rw [hyb2] at X
    have hpW2 : p < W.length := by obtain ⟨q, _⟩ := List.getElem?_eq_some_iff.mp X.at_; exact q
    walk_at "go"
    refine loop_next ⟨(cellsL rows wd).length - (p + 1), _, _, _, by omega, k₂.trans k₃, S, _, _, _, _, p + 1, _, _, _, _, W, rfl, rfl, DF, hW, X.fin (fun b hb => mem_beside.mpr hb), by omega, rfl⟩
  · have hpe : p = W.length := by omega
    subst hpe
    walk_at "go"
    exact h D' odF Fm W s ((k₁.trans k₂).none ((S.led (D', odF) (List.mem_cons_of_mem _ (List.mem_cons_self ..))).2.2.2 rfl)) (S.atLed (List.mem_cons_of_mem _ (List.mem_cons_self ..))) hds' DF B1 (S.outs (k₁.trans k₂))


theorem Pth.steps {may : Int → Int → Bool} {sh : Int → Int} {z : Int} {m : Mp Int} {F : Mp (Option Int)} {c : Int} {P : List Int} (h : Pth may sh z m F c P) : P[0]? = some c ∧ ∀ (i : Nat) x, P[i]? = some x → mget F x = some P[i + 1]? := by
  induction h with
  | root e _ _ =>
    refine ⟨rfl, fun i x hx => ?_⟩
    cases i with
    | zero => simp at hx; subst hx; simpa using e
    | succ i => simp at hx
  | @leaf a b P e _ _ _ _ ih =>
    refine ⟨rfl, fun i x hx => ?_⟩
    cases i with
    | zero => simp at hx; subst hx; rw [e]; simp [ih.1]
    | succ i => simpa using ih.2 i x (by simpa using hx)
  | @mate b v P e _ _ _ _ ih =>
    refine ⟨rfl, fun i x hx => ?_⟩
    cases i with
    | zero => simp at hx; subst hx; rw [e]; simp [ih.1]
    | succ i => simpa using ih.2 i x (by simpa using hx)
theorem take_last {P : List Int} {i : Nat} {x : Int} (h : P[i]? = some x) : (P.take (i + 1)).getD ((P.take (i + 1)).length - 1) 0 = x ∧ (P.take (i + 1)).length = i + 1 := by
  obtain ⟨hi, e⟩ := List.getElem?_eq_some_iff.mp h
  have hl : (P.take (i + 1)).length = i + 1 := by rw [List.length_take]; omega
  refine ⟨?_, hl⟩
  rw [hl, List.getD_eq_getElem?_getD, Nat.add_sub_cancel, List.getElem?_take, if_pos (by omega), h]
  rfl

theorem way_spec {w : World} {A : Around} {s : Shared} {Q E : Value → Shared → Prop} {dF : Addr} {odF : Obj} {Fm : Mp (Option Int)} {P : List Int} {c : Int} {tc : Tok} (G : Gr (Fl.kH w.params) s.heap) (R : Room A 1) (hod : s.heap.get? dF = some odF) (DF : DG PP w ROpt odF Fm) (hP0 : P[0]? = some c) (hP : ∀ (i : Nat) x, P[i]? = some x → mget Fm x = some P[i + 1]?) (hPl : P.length ≤ 1000)
    (h : ∀ D ys k s', s.heap.get? D = none → s'.heap.get? D = some (lst ys k) → IntsAre ys.toList P.reverse → Keeps s s' → Q (.ref D) s') : wpAny (model PP w) A (call (.ref 186) [.ref dF, .int c tc]) Q E s := by
  refine' callP [(Str.ofString "found", some (.ref dF)), (Str.ofString "cell", some (.int c tc)), (Str.ofString "way", none)] G (by walk_at "room") ?z_ho ?z_hcd ?z_hbind ?z_hd ?z_hb1 ?z_hb2 ?z_hρ ?_
  walk_at "enter"
  intro L s S
  walk_at "go"
  refine l_new S (by simp) ?_; clear S; intro lw s S _
  walk_at "go"
  have hlen0 : 0 < P.length := by
    obtain ⟨q, _⟩ := List.getElem?_eq_some_iff.mp hP0; exact q
  have ht1 : P.take (0 + 1) = [c] := by rw [List.take_add_one, hP0]; rfl
  refine x_while (n := P.length) (fun k _ ρ Λ => ∃ (i : Nat) (ys : Array Value) (ky : Nat), ρ = [(Str.ofString "found", some (.ref dF)), (Str.ofString "cell", some (.int c tc)), (Str.ofString "way", some (.ref lw))] ∧ Λ = [(lw, lst ys ky)] ∧ IntsAre ys.toList (P.take (i + 1)) ∧ i < P.length ∧ k = P.length - i) S ⟨0, _, _, rfl, rfl, by rw [ht1]; exact .cons _ _ .nil, hlen0, rfl⟩ ?_
  clear S
  rintro k h₁ ρ₁ Λ₁ s ⟨i, ys, ky, rfl, rfl, hys, hi, rfl⟩ k₁ S
  replace G := G.mono k₁
  have hod₁ := k₁ _ _ hod
  obtain ⟨x, hx⟩ : ∃ x, P[i]? = some x := ⟨P[i], by simp [hi]⟩
  obtain ⟨hl1, hl2⟩ := take_last hx
  have hk := hP i x hx
  have hysz : ys.size = i + 1 := by rw [← hl2, ← hys.length, Array.length_toList]
  walk_at "go"
  refine l_last (IntL.of (S.atLed (List.mem_cons_self ..)) hys) (by omega) (by omega) (by rfl) ?_
  intro t
  rw [hl1]
  walk_at "go"
  refine d_at S (S.atBase hod₁) DF hk (by rfl) ?_; clear S; intro vx s hvx S
  cases hy : P[i + 1]? with
  | some y =>
    rw [hy] at hvx hk
    obtain ⟨ty, rfl⟩ := hvx
    walk_at "go"
    refine w_isnot (by intro q; cases q) ?_
    walk_at "go"
    refine l_last (IntL.of (S.atLed (List.mem_cons_self ..)) hys) (by omega) (by omega) (by rfl) ?_
    intro t
    rw [hl1]
    walk_at "go"
    refine d_at S (S.atBase hod₁) DF hk (by rfl) ?_; clear S; intro vx s hvx S
    obtain ⟨ty2, rfl⟩ := hvx
    walk_at "go"
    refine l_append S (by walk_at "cf") (by omega) ?_; clear S; intro k' s S
    walk_at "go"
    have hi1 : i + 1 < P.length := by obtain ⟨q, _⟩ := List.getElem?_eq_some_iff.mp hy; exact q
    refine loop_next ⟨P.length - (i + 1), _, _, _, by omega, k₁, S, i + 1, _, _, rfl, rfl, ?_, hi1, rfl⟩
    rw [Array.toList_push, List.take_add_one, hy]
    exact hys.append (.cons _ _ .nil)
  | none =>
    rw [hy] at hvx
    have hvx' : vx = .none := hvx
    subst hvx'
    walk_at "go"
    refine w_isnone ?_
    walk_at "go"
    have hie : i + 1 = P.length := by
      have := List.getElem?_eq_none_iff.mp hy
      omega
    rw [hie, List.take_length] at hys
    refine r_rev (vs := ys.toList) S ⟨_, S.atLed (List.mem_cons_self ..), rfl, ky, by simp⟩ ?_; clear S
    intro r s hit hL hne hno hr0 S
    walk_at "go"
    refine r_list S R.handled hit hL hys hne hno hr0 (by rw [hys.length]; omega) ?_; clear S
    intro D yr kr s hyr S _
    walk_at "go"
    exact h D yr kr s (k₁.none ((S.led (D, _) (List.mem_cons_self ..)).2.2.2 rfl)) (S.atLed (List.mem_cons_self ..)) hyr (S.outs k₁)


theorem lay_len {rows : List Str} {wd : Nat} {m : Mp Int} (M : LayM (mayB rows wd) m) : m.length ≤ (cellsL rows wd).length := by
  rw [← List.length_map (f := (·.1))]
  refine nodup_len M.nd fun c hc => ?_
  obtain ⟨⟨k, x⟩, hp, rfl⟩ := List.mem_map.mp hc
  exact lay_cells M k x (mget_of_mem M.nd hp)
theorem zig_rev {may : Int → Int → Bool} {m : Mp Int} {P : List Int} (h : Zig may m P) : ∀ (i : Nat) a b, P.reverse[2 * i]? = some a → P.reverse[2 * i + 1]? = some b → may a b = true := by
  intro i a b ha hb
  obtain ⟨k, hk, _⟩ := h.even
  obtain ⟨hi, _⟩ := List.getElem?_eq_some_iff.mp hb
  rw [List.length_reverse] at hi
  rw [List.getElem?_reverse (by omega)] at ha hb
  refine h.two (k - 1 - i) a b ?_ ?_
  · rw [show 2 * (k - 1 - i) = P.length - 1 - (2 * i + 1) by omega]; exact hb
  · rw [show 2 * (k - 1 - i) + 1 = P.length - 1 - 2 * i by omega]; exact ha

theorem turned_spec {w : World} {A : Around} {s : Shared} {Q E : Value → Shared → Prop} {ly fl l d lw : Addr} {od : Obj} {m : Mp Int} {rows : List Str} {wd : Nat} {t1 t2 : Tok} {yw : Array Value} {kw : Nat} {P : List Int} (G : Gr (Fl.kH w.params) s.heap) (R : Room A 8) (F : FloorAt 271 s.heap fl l rows wd t1 t2) (Y : LayO s.heap ly fl d) (hod : s.heap.get? d = some od) (D : DG PP w RInt od m) (hds : (d == sysModules) = false) (M : LayM (mayB rows wd) m) (h64 : (cellsL rows wd).length < 64)
    (hlw : s.heap.get? lw = some (lst yw kw)) (hyw : IntsAre yw.toList P.reverse) (Z : Zig (mayB rows wd) m P) (nd : P.Nodup) (hb : ∀ x, P.head? = some x → mget m x = none) (hPl : P.length ≤ 1000)
    (h : ∀ ly' dx o2 d' od' m' k s', LayP s'.heap ly' dx o2 fl d' → s.heap.get? ly' = none → s.heap.get? dx = none → ly' ≠ d' → dx ≠ d' → DG PP w RInt od' m' → On (mayB rows wd) m P P.reverse k m' → P.reverse.length = 2 * k → s.heap.get? d' = none → s'.heap.get? d' = some od' → (d' == sysModules) = false → Keeps s s' → Q (.ref ly') s') : wpAny (model PP w) A (call (.ref 193) [.ref ly, .ref lw]) Q E s := by
  refine' callP [(Str.ofString "laying", some (.ref ly)), (Str.ofString "way", some (.ref lw)), (Str.ofString "made", none), (Str.ofString "cell", none), (Str.ofString "k", none)] G (by walk_at "room") ?z_ho ?z_hcd ?z_hbind ?z_hd ?z_hb1 ?z_hb2 ?z_hρ ?_
  walk_at "enter"
  intro L s S
  have g := gph F.grid
  have cl := Z.closed' M hb
  obtain ⟨kk, hkk, hkk1⟩ := Z.even
  have hW : ∀ x ∈ P.reverse, x ∈ P := fun x hx => List.mem_reverse.mp hx
  have hWl : P.reverse.length = 2 * kk := by rw [List.length_reverse]; exact hkk
  have hnr : P.reverse.Nodup := (List.reverse_perm P).nodup_iff.mpr nd
  have hm64 := lay_len M
  walk_at "go"
  refine copied_spec (S.gr G) (R.in_ (by omega)) (F.mono S.base) (ObjAt.mono Y S.base) (S.atBase hod) D hds M (by omega) ?_
  intro ly' dx o2 d' od0 m0 s' P₀ n1 n2 ne1 ne2 D0 M0 ext _ hd' hd'' hds' hk
  obtain ⟨h₁, k₁, S', hall⟩ := S.adoptW hk hd' hd''
  have n1' := S.base.none n1
  have n2' := S.base.none n2
  have n3' := S.base.none hd'
  replace S := S'
  clear S'
  have P₁ : LayP h₁ ly' dx o2 fl d' := ⟨hall _ _ n1 ne1 P₀.a1, hall _ _ n2 ne2 P₀.a2, P₀.lk⟩
  clear P₀ hall hk Y
  replace G := G.mono k₁
  replace F := F.mono k₁
  have Y := P₁.obj
  have hlw₁ := k₁ _ _ hlw
  walk_at "go"
  refine it_list S R.handled hlw₁ rfl ⟨_, rfl⟩ ?_
  clear S
  intro it s I
  refine loop_it (fun i ρ Λ => ∃ a od1 m1, ρ = [(Str.ofString "laying", some (.ref ly)), (Str.ofString "way", some (.ref lw)), (Str.ofString "made", some (.ref ly')), (Str.ofString "cell", a), (Str.ofString "k", none)] ∧ Λ = [(d', od1)] ∧ DG PP w RInt od1 m1 ∧ Off (mayB rows wd) m P P.reverse i m1) I ⟨_, _, _, rfl, rfl, D0, M0, fun x _ => ext x, fun x hx => by simp at hx⟩ ?_ ?_ ?_
  · rintro i ρ' Λ' ⟨_, _, _, _, rfl, _⟩; rfl
  · rintro i v ρ₁ Λ₁ hi1 hv ⟨a, od1, m1, rfl, rfl, D1, O1⟩
    obtain ⟨x, tx, rfl, hx⟩ := hyw.at i v (by simpa using hv)
    have hl1 := lay_len O1.lay
    refine ⟨_, .tail (.tail (.tail .head)), ?_⟩
    walk_at "turn"
    replace F := F.mono k
    replace Y := ObjAt.mono Y k
    clear k
    walk_at "go"
    refine d_in S (S.atLed (List.mem_cons_self ..)) D1 hds' ?_; clear S; intro s S
    cases hv : mget m1 x with
    | none =>
      rw [Option.isSome_none]
      walk_at "go"
      exact hNx _ _ _ _ (Sub.refl _) S ⟨_, _, _, rfl, rfl, D1, O1.next hx hv⟩
    | some u =>
      rw [Option.isSome_some]
      walk_at "go"
      refine lift_spec S.base ((S.led (d', od1) (List.mem_cons_self ..)).2.2.2 rfl) G (R.in_ (by omega)) F Y (S.atLed (List.mem_cons_self ..)) D1 hds' O1.lay hv (by omega) ?_
      intro od2 s' D2 up
      replace S := S.upd (by walk_at "cf") up
      walk_at "go"
      exact hNx _ _ _ _ (Sub.refl _) S ⟨_, _, _, rfl, rfl, D2, O1.lift M cl hW hx hv⟩
  clear I
  rintro ρ' Λ' s ⟨a, od1, m1, rfl, rfl, D1, O1⟩ S
  have hyl : yw.size = P.reverse.length := by rw [← hyw.length, Array.length_toList]
  rw [hyl] at O1
  have hI := IntL.of hlw₁ hyw
  walk_at "go"
  refine l_len S (hI.mono S.base) (by rw [List.length_reverse]; omega) ?_; clear S; intro t s S
  rw [hWl]
  walk_at "go"
  have hdiv : ((2 * kk : Nat) : Int) / 2 = (kk : Int) := by omega
  rw [hdiv]
  refine r_range S ?_; clear S; intro r t1 t2 t3 s hr' S
  refine it_range S R.handled hr' (by omega) (by omega) ?_
  clear S
  intro it s I
  refine loop_it (fun i ρ Λ => ∃ a b od1 m1, ρ = [(Str.ofString "laying", some (.ref ly)), (Str.ofString "way", some (.ref lw)), (Str.ofString "made", some (.ref ly')), (Str.ofString "cell", a), (Str.ofString "k", b)] ∧ Λ = [(d', od1)] ∧ DG PP w RInt od1 m1 ∧ On (mayB rows wd) m P P.reverse i m1) I ⟨_, _, _, _, rfl, rfl, D1, O1.on⟩ ?_ ?_ ?_
  · rintro i ρ' Λ' ⟨_, _, _, _, _, rfl, _⟩; rfl
  · rintro i v ρ₁ Λ₁ hi1 ⟨tr, rfl⟩ ⟨a, b, od1, m1, rfl, rfl, D1, O1⟩
    have hik : i < kk := by omega
    obtain ⟨pa, hpa⟩ : ∃ x, P.reverse[2 * i]? = some x := ⟨_, List.getElem?_eq_getElem (by omega)⟩
    obtain ⟨pb, hpb⟩ : ∃ x, P.reverse[2 * i + 1]? = some x := ⟨_, List.getElem?_eq_getElem (by omega)⟩
    have hmay := zig_rev Z i pa pb hpa hpb
    have hl1 := lay_len O1.lay
    have O2 := O1.put g hnr hW hpa hpb hmay
    have ea : P.reverse.getD (2 * (i : Int)).toNat 0 = pa := by rw [show (2 * (i : Int)).toNat = 2 * i by omega, List.getD_eq_getElem?_getD, hpa]; rfl
    have eb : P.reverse.getD (2 * (i : Int) + 1).toNat 0 = pb := by rw [show (2 * (i : Int) + 1).toNat = 2 * i + 1 by omega, List.getD_eq_getElem?_getD, hpb]; rfl
    refine ⟨_, .tail (.tail (.tail (.tail .head))), ?_⟩
    walk_at "turn"
    replace F := F.mono k
    replace Y := ObjAt.mono Y k
    have hI2 := hI.mono k
    clear k
    walk_at "go"
    refine l_at (hI2.mono S.base) (by omega) (by rw [hWl]; omega) (by omega) (by rfl) ?_
    intro ta
    rw [ea]
    walk_at "go"
    refine l_at (hI2.mono S.base) (by omega) (by rw [hWl]; omega) (by omega) (by rfl) ?_
    intro tb
    rw [eb]
    walk_at "go"
    refine put_spec S.base ((S.led (d', od1) (List.mem_cons_self ..)).2.2.2 rfl) G (R.in_ (by omega)) F Y (S.atLed (List.mem_cons_self ..)) D1 hds' hmay (O1.off _ _ (Nat.le_refl _) hpa) (O1.off _ _ (by omega) hpb) (by omega) ?_
    intro od2 s' D2 up
    replace S := S.upd (by walk_at "cf") up
    walk_at "go"
    exact hNx _ _ _ _ (Sub.refl _) S ⟨_, _, _, _, rfl, rfl, D2, O2⟩
  clear I
  rintro ρ' Λ' s ⟨a, b, od1, m1, rfl, rfl, D1, O1⟩ S
  rw [Int.toNat_natCast] at O1
  walk_at "go"
  exact h ly' dx o2 d' od1 m1 kk s (P₁.mono S.base) n1' n2' ne1 ne2 D1 O1 hWl n3' (S.atLed (List.mem_cons_self ..)) hds' (S.outs k₁)


/-- what better hands back: nothing where no laying has fewer bare cells, or a laying with fewer -/
def Bet (w : World) (rows : List Str) (wd : Nat) (fl : Addr) (m : Mp Int) (s s' : Shared) (v : Value) : Prop :=
  (v = .none ∧ ((bareL m (cellsL rows wd)).length : Int) = few (mayB rows wd) (cellsL rows wd).length (cellsL rows wd)) ∨
  (∃ ly' dx o2 d' od' m', v = .ref ly' ∧ LayP s'.heap ly' dx o2 fl d' ∧ s.heap.get? ly' = none ∧ s.heap.get? dx = none ∧ s.heap.get? d' = none ∧ s'.heap.get? d' = some od' ∧ DG PP w RInt od' m' ∧ LayM (mayB rows wd) m' ∧ (d' == sysModules) = false ∧ (bareL m' (cellsL rows wd)).length < (bareL m (cellsL rows wd)).length)

theorem better_spec {w : World} {A : Around} {s : Shared} {Q E : Value → Shared → Prop} {ly fl l d : Addr} {od : Obj} {m : Mp Int} {rows : List Str} {wd : Nat} {t1 t2 : Tok} (G : Gr (Fl.kH w.params) s.heap) (R : Room A 10) (F : FloorAt 271 s.heap fl l rows wd t1 t2) (Y : LayO s.heap ly fl d) (hod : s.heap.get? d = some od) (D : DG PP w RInt od m) (hds : (d == sysModules) = false) (M : LayM (mayB rows wd) m) (h64 : (cellsL rows wd).length < 64)
    (h : ∀ v s', Keeps s s' → Bet w rows wd fl m s s' v → Q v s') : wpAny (model PP w) A (call (.ref 200) [.ref ly]) Q E s := by
  refine' callP [(Str.ofString "laying", some (.ref ly)), (Str.ofString "floor", none), (Str.ofString "found", none), (Str.ofString "cell", none)] G (by walk_at "room") ?z_ho ?z_hcd ?z_hbind ?z_hd ?z_hb1 ?z_hb2 ?z_hρ ?_
  walk_at "enter"
  intro L s S
  have g := gph F.grid
  have hC := lay_cells M
  have ndC := cells_nodup rows wd
  have hbl : (bareL m (cellsL rows wd)).length ≤ (cellsL rows wd).length := List.length_filter_le ..
  walk_at "go"
  refine reached_spec (S.gr G) (R.in_ (by omega)) (F.mono S.base) (ObjAt.mono Y S.base) (S.atBase hod) D hds M ?_
  intro dF odF Fm W s' hdF hdF' hdsF DF B0 hk
  obtain ⟨h₁, k₁, S', hN⟩ := CS.gnew S hk
  replace S := S'
  clear S'
  replace G := G.mono k₁
  replace F := F.mono k₁
  replace Y := ObjAt.mono Y k₁
  have hod₁ := k₁ _ _ hod
  have hoF := hN _ _ hdF hdF'
  clear hk hN hdF hdF'
  walk_at "go"
  refine bare_spec (S.gr G) (R.in_ (by omega)) (F.mono S.base) (ObjAt.mono Y S.base) (S.atBase hod₁) D hds ?_
  intro lb yb kb s' hlb hlb' hib hk
  obtain ⟨h₂, k₂, S', hN⟩ := CS.gnew S hk
  replace S := S'
  clear S'
  replace G := G.mono k₂
  replace F := F.mono k₂
  replace Y := ObjAt.mono Y k₂
  have hod₂ := k₂ _ _ hod₁
  have hoF₂ := k₂ _ _ hoF
  have hol := hN _ _ hlb hlb'
  have k₁₂ := k₁.trans k₂
  clear hk hN hlb hlb'
  refine it_list S R.handled hol rfl ⟨_, rfl⟩ ?_
  clear S
  intro it s I
  refine loop_it (fun i ρ Λ => (∃ a, ρ = [(Str.ofString "laying", some (.ref ly)), (Str.ofString "floor", some (.ref fl)), (Str.ofString "found", some (.ref dF)), (Str.ofString "cell", a)]) ∧ Λ = [] ∧ ∀ c ∈ (bareL m (cellsL rows wd)).take i, shadeN wd c = 1 → mget Fm c = none) I ⟨⟨_, rfl⟩, rfl, fun _ q => by simp at q⟩ ?_ ?_ ?_
  · rintro i ρ' Λ' ⟨_, rfl, _⟩; rfl
  · rintro i v ρ₁ Λ₁ hi1 hv ⟨⟨a, rfl⟩, rfl, hJ⟩
    obtain ⟨c, tc, rfl, hc⟩ := hib.at i v (by simpa using hv)
    have hcm := List.mem_filter.mp (List.mem_of_getElem? hc)
    have hcb : mget m c = none := by cases e : mget m c with | none => rfl | some y => rw [e] at hcm; simp at hcm
    have et : (bareL m (cellsL rows wd)).take (i + 1) = (bareL m (cellsL rows wd)).take i ++ [c] := by rw [List.take_add_one, hc]; rfl
    have hJ2 : (shadeN wd c = 1 → mget Fm c = none) → ∀ x ∈ (bareL m (cellsL rows wd)).take (i + 1), shadeN wd x = 1 → mget Fm x = none := fun q x hx => by
      rw [et] at hx
      rcases List.mem_append.mp hx with z | z
      · exact hJ x z
      · rw [List.mem_singleton.mp z]; exact q
    refine ⟨_, .tail (.tail (.tail .head)), ?_⟩
    walk_at "turn"
    have k₃ := k
    replace F := F.mono k
    replace Y := ObjAt.mono Y k
    have hod₃ := k _ _ hod₂
    have hoF₃ := k _ _ hoF₂
    clear k
    walk_at "go"
    refine shade_spec (S.gr G) (R.in_ (by omega)) (F.mono S.base) ?_
    walk_at "kpt"
    walk_at "go"
    refine i_eq (fun hs1 => ?_) (fun hs1 => ?_)
    · walk_at "go"
      refine d_in S (S.atBase hoF₃) DF hdsF ?_; clear S; intro s S
      cases hf : mget Fm c with
      | none =>
        rw [Option.isSome_none]
        walk_at "go"
        exact hNx _ _ _ _ (Sub.refl _) S ⟨⟨_, rfl⟩, rfl, hJ2 fun _ => hf⟩
      | some x =>
        rw [Option.isSome_some]
        obtain ⟨P, hPth⟩ := B0.wf.path g M c x hf
        obtain ⟨st1, st2⟩ := hPth.steps
        obtain ⟨Z, ndP⟩ := hPth.zig g M (by rw [hs1]; decide)
        have hPC : ∀ y ∈ P, y ∈ cellsL rows wd := fun y hy => by
          obtain ⟨u, hu⟩ := Option.isSome_iff_exists.mp (hPth.in_ y hy)
          exact B0.wf.cells g M (C := fun c => c ∈ cellsL rows wd) (fun a c h => may_cell h) (fun c x q e => B0.rt c (e ▸ q)) y u hu
        have hPl := nodup_len ndP hPC
        walk_at "go"
        refine way_spec (S.gr G) (R.in_ (by omega)) (S.atBase hoF₃) DF st1 st2 (by omega) ?_
        intro lw yw kw s' hlw hlw' hyw hk
        have hkeep := hk
        replace S := CS.keeps S hk
        clear hk
        walk_at "go"
        refine turned_spec (S.gr G) (R.in_ (by omega)) (F.mono S.base) (ObjAt.mono Y S.base) (S.atBase hod₃) D hds M h64 hlw' hyw Z ndP (fun y hy => ?_) (by omega) ?_
        · have : P[0]? = P.head? := by cases P <;> rfl
          rw [← this, st1] at hy; cases hy; exact hcb
        intro ly' dx o2 d' od' m' kk s' P₁ n1 n2 _ _ D' O' hkk n3 hd'' hds' hk
        have Bs := S.base
        replace S := CS.keeps S hk
        clear hk
        walk_at "go"
        refine h _ _ (S.outs (k₁₂.trans k₃)) (.inr ⟨ly', dx, o2, d', od', m', rfl, P₁, (k₁₂.trans k₃).none (Bs.none n1), (k₁₂.trans k₃).none (Bs.none n2), (k₁₂.trans k₃).none (Bs.none n3), hd'', D', O'.lay, hds', O'.less hkk (fun y hy => List.mem_reverse.mpr hy) ?_⟩)
        obtain ⟨y, hy1, hy2⟩ := Z.last
        have hyP := List.mem_of_getLast? hy1
        exact ⟨y, hPC y hyP, hyP, hy2⟩
    · walk_at "go"
      exact hNx _ _ _ _ (Sub.refl _) S ⟨⟨_, rfl⟩, rfl, hJ2 fun q => absurd q hs1⟩
  clear I
  rintro ρ' Λ' s ⟨⟨a, rfl⟩, rfl, hJ⟩ S
  have hyb : yb.size = (bareL m (cellsL rows wd)).length := by rw [← hib.length, Array.length_toList]
  rw [hyb, List.take_length] at hJ
  walk_at "go"
  refine h _ _ (S.outs k₁₂) (.inl ⟨rfl, ?_⟩)
  refine fewest_of (R := fun c => (mget Fm c).isSome) g M ndC hC (fun c hc hn hs => B0.r1 c hc hn hs) (fun a b ha hs hm => ?_) (fun b v hv => B0.wf.mates g M b v hv) (fun c hc hn hs => ?_)
  · have haW := (B0.wk a).mpr ⟨ha, hs⟩
    obtain ⟨i, hi, e⟩ := List.getElem_of_mem haW
    exact B0.done i a hi (by rw [List.getElem?_eq_getElem hi, e]) b hm
  · have hcb : c ∈ bareL m (cellsL rows wd) := List.mem_filter.mpr ⟨hc, by rw [hn]; rfl⟩
    show (mget Fm c).isSome = false
    rw [hJ c hcb hs]; rfl


theorem laid_spec {w : World} {A : Around} {s : Shared} {Q E : Value → Shared → Prop} {fl l : Addr} {rows : List Str} {wd : Nat} {t1 t2 : Tok} (G : Gr (Fl.kH w.params) s.heap) (R : Room A 12) (F : FloorAt 271 s.heap fl l rows wd t1 t2) (h64 : (cellsL rows wd).length < 64)
    (h : ∀ ly d od m s', LayO s'.heap ly fl d → s'.heap.get? d = some od → DG PP w RInt od m → (d == sysModules) = false → ((bareL m (cellsL rows wd)).length : Int) = few (mayB rows wd) (cellsL rows wd).length (cellsL rows wd) → Keeps s s' → Q (.ref ly) s') : wpAny (model PP w) A (call (.ref 207) [.ref fl]) Q E s := by
  refine' callP [(Str.ofString "floor", some (.ref fl)), (Str.ofString "made", none), (Str.ofString "more", none)] G (by walk_at "room") ?z_ho ?z_hcd ?z_hbind ?z_hd ?z_hb1 ?z_hb2 ?z_hρ ?_
  walk_at "enter"
  intro L s S
  walk_at "go"
  refine laying_spec (S.gr G) (R.in_ (by omega)) ?_
  intro ly dx o2 d od s' P₀ n1 n2 ne1 ne2 Dn hd hd' hds hk
  obtain ⟨h₁, k₁, S', hN⟩ := CS.gnew S hk
  replace S := S'
  clear S'
  have P₁ : LayP h₁ ly dx o2 fl d := ⟨hN _ _ n1 P₀.a1, hN _ _ n2 P₀.a2, P₀.lk⟩
  have hod₁ := hN _ _ hd hd'
  clear hk hN n1 n2 hd hd' P₀
  replace G := G.mono k₁
  replace F := F.mono k₁
  walk_at "go"
  refine better_spec (m := []) (S.gr G) (R.in_ (by omega)) (F.mono S.base) (P₁.mono S.base).obj (S.atBase hod₁) (Dn _ _) hds (LayM.nil _) h64 ?_
  intro v s' hk bt
  obtain ⟨h₂, k₂, S', hN⟩ := CS.gnew S hk
  have hb2 : ∀ {m : Mp Int}, Bet w rows wd fl m s s' v → (v = .none ∧ ((bareL m (cellsL rows wd)).length : Int) = few (mayB rows wd) (cellsL rows wd).length (cellsL rows wd)) ∨ ∃ ly' dx o2 d' od' m', v = .ref ly' ∧ LayP h₂ ly' dx o2 fl d' ∧ h₂.get? d' = some od' ∧ DG PP w RInt od' m' ∧ LayM (mayB rows wd) m' ∧ (d' == sysModules) = false ∧ (bareL m' (cellsL rows wd)).length < (bareL m (cellsL rows wd)).length := by
    rintro m (q | ⟨ly', dx, o2, d', od', m', e, q1, q2, q3, q4, q5, q6, q7, q8, q9⟩)
    · exact .inl q
    · exact .inr ⟨ly', dx, o2, d', od', m', e, ⟨hN _ _ q2 q1.a1, hN _ _ q3 q1.a2, q1.lk⟩, hN _ _ q4 q5, q6, q7, q8, q9⟩
  have bt' := hb2 bt
  replace S := S'
  clear S' hb2 bt hk hN
  replace G := G.mono k₂
  replace F := F.mono k₂
  replace P₁ := P₁.mono k₂
  have hod₂ := k₂ _ _ hod₁
  walk_at "go"
  refine x_while (n := (bareL [] (cellsL rows wd)).length + 1) (fun k hp ρ Λ => ∃ (ly dx : Addr) (o2 : Obj) (d : Addr) (od : Obj) (m : Mp Int) (v : Value), ρ = [(Str.ofString "floor", some (.ref fl)), (Str.ofString "made", some (.ref ly)), (Str.ofString "more", some v)] ∧ Λ = [] ∧ LayP hp ly dx o2 fl d ∧ hp.get? d = some od ∧ DG PP w RInt od m ∧ (d == sysModules) = false ∧
      ((v = .none ∧ ((bareL m (cellsL rows wd)).length : Int) = few (mayB rows wd) (cellsL rows wd).length (cellsL rows wd)) ∨ ∃ ly' dx o2 d' od' m', v = .ref ly' ∧ LayP hp ly' dx o2 fl d' ∧ hp.get? d' = some od' ∧ DG PP w RInt od' m' ∧ LayM (mayB rows wd) m' ∧ (d' == sysModules) = false ∧ (bareL m' (cellsL rows wd)).length < k)) S ⟨_, _, _, _, _, [], _, rfl, rfl, P₁, hod₂, Dn _ _, hds, ?_⟩ ?_
  · rcases bt' with q | ⟨a1, a2, a3, a4, a5, a6, q1, q2, q3, q4, q5, q6, q7⟩
    · exact .inl q
    · exact .inr ⟨a1, a2, a3, a4, a5, a6, q1, q2, q3, q4, q5, q6, by omega⟩
  clear S bt'
  rintro k h₃ ρ₁ Λ₁ s ⟨ly, dx, o2, d, od, m, v, rfl, rfl, P₃, hod₃, D₃, hds₃, hv⟩ k₃ S
  replace G := G.mono k₃
  replace F := F.mono k₃
  have kA := (k₁.trans k₂).trans k₃
  walk_at "go"
  rcases hv with ⟨rfl, hopt⟩ | ⟨ly', dx', o2', d', od', m', rfl, P₄, hod₄, D₄, M₄, hds₄, hlt⟩
  · refine w_isnone ?_
    walk_at "go"
    exact h ly d od m s (P₃.mono S.base).obj (S.atBase hod₃) D₃ hds₃ hopt (S.outs kA)
  · refine w_isnot (by intro q; cases q) ?_
    walk_at "go"
    refine better_spec (S.gr G) (R.in_ (by omega)) (F.mono S.base) (P₄.mono S.base).obj (S.atBase hod₄) D₄ hds₄ M₄ h64 ?_
    intro v s' hk bt
    obtain ⟨h₅, k₅, S', hN⟩ := CS.gnew S hk
    replace S := S'
    clear S'
    walk_at "go"
    refine loop_next ⟨(bareL m' (cellsL rows wd)).length, _, _, _, hlt, k₃.trans k₅, S, ly', dx', o2', d', od', m', v, rfl, rfl, P₄.mono k₅, k₅ _ _ hod₄, D₄, hds₄, ?_⟩
    rcases bt with q | ⟨a1, a2, a3, a4, a5, a6, e, q1, q2, q3, q4, q5, q6, q7, q8, q9⟩
    · exact .inl q
    · exact .inr ⟨a1, a2, a3, a4, a5, a6, e, ⟨hN _ _ q2 q1.a1, hN _ _ q3 q1.a2, q1.lk⟩, hN _ _ q4 q5, q6, q7, q8, q9⟩


theorem few_nil (may : Int → Int → Bool) : ∀ n, few may n [] = 0
  | 0 => rfl
  | _ + 1 => rfl
theorem fewest_spec {w : World} : ∀ (n : Nat) {A : Around} {s : Shared} {Q E : Value → Shared → Prop} {l ll : Addr} {rows : List Str} {wd : Nat} {ns : List Int} {ys : Array Value} {ky : Nat}, ns.length ≤ n → n ≤ 100 → Gr (Fl.kH w.params) s.heap → Room A (n + 3) → StrL s.heap l rows → Grid rows wd → s.heap.get? ll = some (lst ys ky) → IntsAre ys.toList ns →
    (∀ t s', Keeps s s' → Q (.int (few (mayB rows wd) n ns) t) s') → wpAny (model PP w) A (call (.ref 325) [.ref l, .ref ll]) Q E s := by
  intro n
  induction n with
  | zero =>
    intro A s Q E l ll rows wd ns ys ky hn hn2 G R hl g hll hys h
    have e0 : ns = [] := List.length_eq_zero_iff.mp (by omega)
    subst e0
    refine' callP [(Str.ofString "_law_rows_here", some (.ref l)), (Str.ofString "_law_left", some (.ref ll)), (Str.ofString "_law_best", none), (Str.ofString "_law_other", none)] G (by walk_at "room") ?z_ho ?z_hcd ?z_hbind ?z_hd ?z_hb1 ?z_hb2 ?z_hρ ?_
    walk_at "enter"
    intro L s S
    walk_at "go"
    refine l_len S ((IntL.of hll hys).mono S.base) (by simp) ?_; clear S; intro t s S
    walk_at "go"
    refine i_eq (fun _ => ?_) (fun q => absurd rfl q)
    walk_at "go"
    rw [few_nil] at h
    exact h _ _ S.out
  | succ n ih =>
    intro A s Q E l ll rows wd ns ys ky hn hn2 G R hl g hll hys h
    have hysz : ys.size = ns.length := by rw [← hys.length, Array.length_toList]
    refine' callP [(Str.ofString "_law_rows_here", some (.ref l)), (Str.ofString "_law_left", some (.ref ll)), (Str.ofString "_law_best", none), (Str.ofString "_law_other", none)] G (by walk_at "room") ?z_ho ?z_hcd ?z_hbind ?z_hd ?z_hb1 ?z_hb2 ?z_hρ ?_
    walk_at "enter"
    intro L s S
    walk_at "go"
    refine l_len S ((IntL.of hll hys).mono S.base) (by omega) ?_; clear S; intro t s S
    walk_at "go"
    cases ns with
    | nil =>
      refine i_eq (fun _ => ?_) (fun q => absurd rfl q)
      walk_at "go"
      rw [few_nil] at h
      exact h _ _ S.out
    | cons a r =>
      have hrl : r.length ≤ n := by simp at hn; omega
      have e1 : slicePick ys (some 1) none none = (ys.toList.drop 1).toArray := slicePick_from' ys 1
      have hdr : IntsAre (ys.toList.drop 1).toArray.toList r := by simpa using hys.drop 1
      refine i_eq (fun q => ?_) (fun _ => ?_)
      · rw [List.length_cons] at q; omega
      walk_at "go"
      refine sl_list S (S.atBase hll) (.int _ _) .none (by omega) ?_; clear S; intro D1 s S _
      rw [e1] at S
      walk_at "go"
      refine ih hrl (by omega) (S.gr G) (R.in_ (by omega)) (hl.mono S.base) g (S.atLed (List.mem_cons_self ..)) hdr ?_
      walk_at "kpt"
      replace S := S.tl rfl
      walk_at "go"
      refine sl_list S (S.atBase hll) (.int _ _) .none (by omega) ?_; clear S; intro D2 s S _
      rw [e1] at S
      obtain ⟨h₁, k₁, hD2, S'⟩ := S.freeze
      replace S := S'
      clear S'
      replace G := G.mono k₁
      replace hl := hl.mono k₁
      have hll₁ := k₁ _ _ hll
      have hI := IntL.of hll₁ hys
      refine it_list S R.handled hD2 rfl ⟨_, rfl⟩ ?_
      clear S
      intro it s I
      refine loop_it (fun i ρ Λ => (∃ o tb, ρ = [(Str.ofString "_law_rows_here", some (.ref l)), (Str.ofString "_law_left", some (.ref ll)), (Str.ofString "_law_best", some (.int (((r.take i).filter (mayB rows wd a)).foldl (fun b c => min b (few (mayB rows wd) n (r.filter (fun x => x != c)))) (1 + few (mayB rows wd) n r)) tb)), (Str.ofString "_law_other", o)]) ∧ Λ = []) I ⟨⟨_, _, rfl⟩, rfl⟩ ?_ ?_ ?_
      · rintro i ρ' Λ' ⟨_, rfl⟩; rfl
      · rintro i v ρ₁ Λ₁ hi1 hv ⟨⟨o, tb, rfl⟩, rfl⟩
        obtain ⟨c, tc, rfl, hc⟩ := hdr.at i v (by simpa using hv)
        have et : r.take (i + 1) = r.take i ++ [c] := by rw [List.take_add_one, hc]; rfl
        refine ⟨_, .tail (.tail (.tail .head)), ?_⟩
        walk_at "turn"
        replace hl := hl.mono k
        have hI2 := hI.mono k
        have hll₂ := k _ _ hll₁
        clear k
        walk_at "go"
        refine l_at (hI2.mono S.base) (by omega) (by rw [List.length_cons]; omega) (by rw [List.length_cons] at hn ⊢; omega) (by rfl) ?_
        intro ta
        rw [show (a :: r).getD (0 : Int).toNat 0 = a from rfl]
        walk_at "go"
        refine lmay_spec (S.gr G) (R.in_ (by omega)) (hl.mono S.base) g ?_
        walk_at "kp"
        rw [← may_eq g]
        walk_at "go"
        refine i_bool (fun hm => ?_) (fun hm => ?_)
        · walk_at "go"
          refine' lc [(Str.ofString "_law_other", some (.int c tc))] (onI (fun x => x != c)) (FII id) S ?z_ok ?z_sel ?_ ?z_hs
          case z_ok => kernel_rfl
          case z_sel => exact Sel.cons (by walk_at "lk") Sel.nil
          case z_hs => intro _; rfl
          walk_at "go"
          refine sl_list S (S.atBase hll₂) (.int _ _) .none (by omega) ?_
          intro D3 s' S3 hD3
          have hno : ¬ CS.own _ [] D3 := fun q => by obtain ⟨o', e⟩ := S.own_at q; rw [hD3] at e; cases e
          clear S
          have hD3' := S3.atLed (List.mem_cons_self ..)
          rw [e1] at hD3'
          replace S := S3.tl rfl
          clear S3
          refine it_listN S R.handled hD3' hno ?_
          intro it s I
          refine comp_it I (by simp; omega) ?_ ?_ ?_
          · intro C j v s E' hlt hv S
            obtain ⟨y, ty, rfl, hy⟩ := hdr.at j v (by simpa using hv)
            refine tests1 ?_
            walk_at "go"
            exact ⟨rfl, S.quiet⟩
          · intro C j v s E' hlt hv hp S
            obtain ⟨y, ty, rfl, hy⟩ := hdr.at j v (by simpa using hv)
            walk_at "go"
            exact ⟨⟨_, _, _, rfl, rfl⟩, S.quiet⟩
          intro D4 k4 y4 vs h1 h2 h3 hD4 s S
          have hf : IntsAre y4.toList (r.filter fun x => x != c) := by
            have hv := vs_list h1 h2
            subst hv
            have := pairII (filtI hdr) h3
            rw [List.map_id] at this
            exact this
          have hfl : (r.filter fun x => x != c).length ≤ r.length := List.length_filter_le ..
          walk_at "go"
          refine ih (by omega) (by omega) (S.gr G) (R.in_ (by omega)) (hl.mono S.base) g (S.atLed (List.mem_cons_self ..)) hf ?_
          walk_at "kpt"
          replace S := S.tl rfl
          walk_at "go"
          have eb : ((r.take (i + 1)).filter (mayB rows wd a)).foldl (fun b c => min b (few (mayB rows wd) n (r.filter (fun x => x != c)))) (1 + few (mayB rows wd) n r) = min (((r.take i).filter (mayB rows wd a)).foldl (fun b c => min b (few (mayB rows wd) n (r.filter (fun x => x != c)))) (1 + few (mayB rows wd) n r)) (few (mayB rows wd) n (r.filter (fun x => x != c))) := by
            rw [et, List.filter_append, List.foldl_append]
            simp [hm]
          rw [← eb] at S
          exact hNx _ _ _ _ (Sub.refl _) S ⟨⟨_, _, rfl⟩, rfl⟩
        · walk_at "go"
          have eb : ((r.take (i + 1)).filter (mayB rows wd a)).foldl (fun b c => min b (few (mayB rows wd) n (r.filter (fun x => x != c)))) (1 + few (mayB rows wd) n r) = ((r.take i).filter (mayB rows wd a)).foldl (fun b c => min b (few (mayB rows wd) n (r.filter (fun x => x != c)))) (1 + few (mayB rows wd) n r) := by
            rw [et, List.filter_append, List.foldl_append]
            simp [hm]
          rw [← eb] at S
          exact hNx _ _ _ _ (Sub.refl _) S ⟨⟨_, _, rfl⟩, rfl⟩
      clear I
      rintro ρ' Λ' s ⟨⟨o, tb, rfl⟩, rfl⟩ S
      have hsz : (ys.toList.drop 1).toArray.size = r.length := by have := hdr.length; simpa using this
      rw [hsz, List.take_length] at S
      walk_at "go"
      exact h _ _ (S.outs k₁)


theorem keeps_refl (s : Shared) : Keeps s s := ⟨s.heap, s.toks, rfl, fun _ _ e => e⟩
def menus : List Str := [⟨#[46]⟩, ⟨#[46, 46, 46, 46, 45, 124, 35, 46]⟩, ⟨#[46, 45, 124, 35]⟩, ⟨#[46, 46, 35]⟩, ⟨#[46, 46, 46, 45, 124, 124]⟩, ⟨#[46, 35, 45, 46, 45, 46]⟩]
theorem menus_ok : ∀ m ∈ menus, 0 < m.length ∧ m.length ≤ 8 ∧ ∀ c ∈ m.cps.toList, c = 46 ∨ c = 45 ∨ c = 124 ∨ c = 35 := by decide +kernel
theorem getD_mem {α : Type} {l : List α} {k : Nat} {d : α} (h : k < l.length) : l.getD k d ∈ l := by
  have : l.getD k d = l[k] := by simp [List.getD, h]
  rw [this]; exact List.getElem_mem h
theorem agetD_mem {l : Array Nat} {k : Nat} {d : Nat} (h : k < l.size) : l.getD k d ∈ l.toList := by
  have : l.getD k d = l[k] := by simp [Array.getD, h]
  rw [this]; simp

theorem rows_spec {w : World} {A : Around} {s : Shared} {Q E : Value → Shared → Prop} {l : Addr} {ns : List Int} (G : Gr (Fl.kH w.params) s.heap) (R : Room A 2) (hl : IntL s.heap l ns) (hn : ns.length ≤ 63)
    (h : ∀ D ys k rows wd s', s.heap.get? D = none → s'.heap.get? D = some (lst ys k) → StrsAre ys.toList rows → Grid rows wd → rows.length * wd ≤ 25 → Keeps s s' → Q (.ref D) s') : wpAny (model PP w) A (call (.ref 320) [.ref l]) Q E s := by
  refine' callP [(Str.ofString "_law_script", some (.ref l)), (Str.ofString "_law_first", none), (Str.ofString "_law_high", none), (Str.ofString "_law_wide", none), (Str.ofString "_law_menu", none), (Str.ofString "_law_rows_here", none), (Str.ofString "_law_row", none), (Str.ofString "_law_signs", none)] G (by walk_at "room") ?z_ho ?z_hcd ?z_hbind ?z_hd ?z_hb1 ?z_hb2 ?z_hρ ?_
  walk_at "enter"
  intro L s S
  walk_at "go"
  refine cell_at_spec (S.gr G) (R.in_ (by omega)) (hl.mono S.base) hn (by omega) ?_
  walk_at "kpt"
  generalize cellAt ns 0 = first at S ⊢
  walk_at "gu"
  refine x_cutS S (fun ρ Λ => (∃ hi wi t u v, 0 ≤ hi ∧ hi ≤ 5 ∧ 0 ≤ wi ∧ wi ≤ 5 ∧ ρ = [(Str.ofString "_law_script", some (.ref l)), (Str.ofString "_law_first", some (.int first v)), (Str.ofString "_law_high", some (.int hi t)), (Str.ofString "_law_wide", some (.int wi u)), (Str.ofString "_law_menu", none), (Str.ofString "_law_rows_here", none), (Str.ofString "_law_row", none), (Str.ofString "_law_signs", none)]) ∧ Λ = []) ?_ ?_
  · intro Q' hQ
    walk_at "go"
    refine i_dec (fun hd => ?_) (fun hd => ?_)
    · walk_at "go"
      exact hQ _ _ _ ⟨⟨_, _, _, _, _, by omega, by omega, by omega, by omega, rfl⟩, rfl⟩ S
    · walk_at "go"
      exact hQ _ _ _ ⟨⟨_, _, _, _, _, by omega, by omega, by omega, by omega, rfl⟩, rfl⟩ S
  clear S
  rintro ρ' Λ' s ⟨⟨hi, wi, t, u, v, h0, h1, h2, h3, rfl⟩, rfl⟩ S
  refine x_cutS S (fun ρ Λ => (∃ hi wi t u v, 0 ≤ hi ∧ hi ≤ 5 ∧ 0 ≤ wi ∧ wi ≤ 5 ∧ ρ = [(Str.ofString "_law_script", some (.ref l)), (Str.ofString "_law_first", some (.int first v)), (Str.ofString "_law_high", some (.int hi t)), (Str.ofString "_law_wide", some (.int wi u)), (Str.ofString "_law_menu", none), (Str.ofString "_law_rows_here", none), (Str.ofString "_law_row", none), (Str.ofString "_law_signs", none)]) ∧ Λ = []) ?_ ?_
  · intro Q' hQ
    walk_at "go"
    refine i_dec (fun hd => ?_) (fun hd => ?_)
    · refine' x_unpack ?_ ?z_hs ?z_hw
      case z_hs => rfl
      case z_hw => rfl
      walk_at "go"
      refine u_new S (by simp) ?_; clear S; intro tu s S _
      refine u_two (S.tl rfl) R.handled (S.atLed (List.mem_cons_self ..)) (by walk_at "pt") (by walk_at "pt") ?_; clear S; intro s S
      walk_at "go"
      exact hQ _ _ _ ⟨⟨_, _, _, _, _, by omega, by omega, by omega, by omega, rfl⟩, rfl⟩ S
    · walk_at "go"
      exact hQ _ _ _ ⟨⟨_, _, _, _, _, by omega, by omega, by omega, by omega, rfl⟩, rfl⟩ S
  clear S h0 h1 h2 h3
  rintro ρ' Λ' s ⟨⟨hi, wi, th, tw, tf, h0, h1, h2, h3, rfl⟩, rfl⟩ S
  walk_at "go"
  refine l_new S (by simp) ?_; clear S; intro lm s S _
  walk_at "go"
  refine cell_at_spec (S.gr G) (R.in_ (by omega)) (hl.mono S.base) hn (by omega) ?_
  walk_at "kpt"
  walk_at "go"
  have hmk : (cellAt ns 1 % 6).toNat < menus.length := by show _ < 6; omega
  refine l_atS (ns := menus) (StrL.of (S.atLed (List.mem_cons_self ..)) (.cons _ _ (.cons _ _ (.cons _ _ (.cons _ _ (.cons _ _ (.cons _ _ .nil))))))) (by omega) (by show _ < ((6 : Nat) : Int); omega) (by decide) (by rfl) ?_
  intro tm
  obtain ⟨hm1, hm2, hm3⟩ := menus_ok _ (getD_mem (d := Str.empty) hmk)
  generalize menus.getD (cellAt ns 1 % 6).toNat Str.empty = menu at hm1 hm2 hm3 S ⊢
  replace S := S.tl rfl
  walk_at "go"
  refine l_new S (by decide) ?_; clear S; intro D s S _
  walk_at "go"
  refine r_range S ?_; clear S; intro r t1 t2 t3 s hr S
  refine it_range S R.handled hr (by omega) (by omega) ?_
  intro it s I
  refine loop_it (fun i ρ Λ => (∃ a b, ρ = [(Str.ofString "_law_script", some (.ref l)), (Str.ofString "_law_first", some (.int first tf)), (Str.ofString "_law_high", some (.int hi th)), (Str.ofString "_law_wide", some (.int wi tw)), (Str.ofString "_law_menu", some (.str menu tm)), (Str.ofString "_law_rows_here", some (.ref D)), (Str.ofString "_law_row", a), (Str.ofString "_law_signs", b)]) ∧
    ∃ ys k rows, Λ = [(D, lst ys k)] ∧ StrsAre ys.toList rows ∧ rows.length = i ∧ ∀ r ∈ rows, r.length = wi.toNat ∧ ∀ c ∈ r.cps.toList, four c) I ⟨⟨_, _, rfl⟩, _, _, [], rfl, .nil, rfl, fun _ h => nomatch h⟩ ?_ ?_ ?_
  · rintro i ρ' Λ' ⟨_, ys, k, rows, rfl, _⟩; rfl
  · rintro i v' ρ₁ Λ₁ hi1 ⟨tr, rfl⟩ ⟨⟨a, b, rfl⟩, ys, ky, rows, rfl, hys, hlen, hrows⟩
    refine ⟨_, .tail (.tail (.tail (.tail (.tail (.tail .head))))), ?_⟩
    walk_at "turn"
    refine' x_lc [(Str.ofString "_law_menu", some (.str menu tm)), (Str.ofString "_law_script", some (.ref l)), (Str.ofString "_law_row", some (.int i tr)), (Str.ofString "_law_wide", some (.int wi tw))] (fun _ => true) (FS fun x => ∃ c, x = ⟨#[c]⟩ ∧ four c) ?z_sw S ?z_ok ?z_hy ?z_ek ?z_sel ?_ ?z_hs
    case z_sw => rfl
    case z_ok => kernel_rfl
    case z_hy => kernel_rfl
    case z_ek => rfl
    case z_sel => exact Sel.cons (by walk_at "lk") (Sel.cons (by walk_at "lk") (Sel.cons (by walk_at "lk") (Sel.cons (by walk_at "lk") Sel.nil)))
    case z_hs => intro _; rfl
    walk_at "go"
    refine r_range S ?_; clear S; intro r t1 t2 t3 s hr S
    refine it_range S R.handled hr (by omega) (by omega) ?_
    intro it s I
    refine comp_it I (by omega) ?_ ?_ ?_
    · intro C j v s E' hlt hv S
      exact tests0 ⟨rfl, keeps_refl _⟩
    · intro C j v s E' hlt hv hp S
      obtain ⟨t, rfl⟩ := hv
      walk_at "go"
      refine number_spec (S.gr G) (R.in_ (by omega)) (hl.mono (k.trans S.base)) hn ?_ ?_
      · have := Int.mul_nonneg (show 0 ≤ (i : Int) by omega) h2
        omega
      intro n t s' hn0 hk; replace S := CS.keeps S hk; clear hk
      walk_at "go"
      refine t_len S (by omega) ?_; clear S; intro t s S
      have hml : 0 < (menu.length : Int) := by omega
      walk_at "go"
      have e1 := Int.emod_nonneg n (Int.ne_of_gt hml)
      have e2 := Int.emod_lt_of_pos n hml
      refine t_at S e1 e2 (by omega) (by rfl) ?_; clear S; intro t s S
      exact ⟨⟨_, _, rfl, _, rfl, hm3 _ (agetD_mem (by have : menu.cps.size = menu.length := rfl; omega))⟩, S.quiet⟩
    · intro Ds ks yss vs g1 g2 g3 hD
      refine ⟨_, by walk_at "pt", fun s S => ?_⟩
      obtain ⟨xs, hx1, hx2, hx3⟩ := pairS g3
      rw [filt_true, g1] at hx2
      obtain ⟨j1, j2⟩ := join_signs xs hx3
      walk_at "go"
      have hsum : (xs.map (·.length)).sum + xs.length * (Str.ofString "").length ≤ 16777216 := by
        have e0 : (Str.ofString "").length = 0 := rfl
        have : (xs.map (·.length)).sum = xs.length := by
          clear hx1 hx2 j1 j2
          induction xs with
          | nil => rfl
          | cons x r ih =>
            obtain ⟨c, rfl, _⟩ := hx3 x (List.mem_cons_self ..)
            rw [List.map_cons, List.sum_cons, ih fun y hy => hx3 y (List.mem_cons_of_mem _ hy), List.length_cons]
            show 1 + _ = _
            omega
        rw [e0, this, hx2]; omega
      refine t_join S (StrL.of (S.atLed (List.mem_cons_self ..)) hx1) hsum ?_; clear S; intro tj s S
      walk_at "go"
      have hysz : ys.size = rows.length := by rw [← hys.length, Array.length_toList]
      refine l_append S (by walk_at "cf") (by omega) ?_; clear S; intro k' s S
      walk_at "go"
      refine hNx _ _ _ _ (Sub.refl _) (S.tl rfl) ⟨⟨_, _, rfl⟩, _, _, rows ++ [Txt.join (Str.ofString "") xs], rfl, ?_, ?_, ?_⟩
      · rw [Array.toList_push]; exact hys.append' (.cons _ _ .nil)
      · simp [hlen]
      · intro r hr
        rcases List.mem_append.mp hr with q | q
        · exact hrows r q
        · rw [List.mem_singleton.mp q]
          exact ⟨by rw [j1, hx2], j2⟩
  · rintro ρ' Λ' s ⟨⟨a, b, rfl⟩, ys, ky, rows, rfl, hys, hlen, hrows⟩ S
    walk_at "go"
    refine h D ys ky rows (if rows = [] then 0 else wi.toNat) s ((S.led (D, _) (List.mem_cons_self ..)).2.2.2 rfl) (S.atLed (List.mem_cons_self ..)) hys ⟨by omega, by split <;> omega, fun r hr => ?_, fun e => if_pos e, fun r hr => (hrows r hr).2⟩ ?_ S.out
    · rw [if_neg (List.ne_nil_of_mem hr)]
      exact (hrows r hr).1
    · have a1 : rows.length ≤ 5 := by omega
      have a2 : (if rows = [] then 0 else wi.toNat) ≤ 5 := by split <;> omega
      exact Nat.le_trans (Nat.mul_le_mul a1 a2) (by decide)


theorem law_spec {w : World} {A : Around} {s : Shared} {R' : Result → Shared → Prop} {l : Addr} {ns : List Int} (hfr : A.frames = some []) (G : Gr (Fl.kH w.params) s.heap) (R : Room A 40) (hl : IntL s.heap l ns) (hn : ns.length ≤ 63)
    (h : ∀ s', Keeps s s' → R' (.ok (.ret (.bool true))) s') : codeAny (model PP w) A (.call (.ref 332) ⟨[.ref l], []⟩) R' s := by
  refine' callC [(Str.ofString "_law_script", some (.ref l)), (Str.ofString "_law_rows_here", none), (Str.ofString "_law_cells_here", none)] G (by walk_at "room") ?z_ho ?z_hcd ?z_hbind ?z_hd ?z_hb1 ?z_hb2 ?z_hρ ?_
  walk_at "enter"
  intro L s S
  walk_at "go"
  refine rows_spec (S.gr G) (R.in_ (by omega)) (hl.mono S.base) hn ?_
  intro lr ys ky rows wd s' hD hD' hys g h25 hk
  obtain ⟨h₁, k₁, S', hN⟩ := CS.gnew S hk
  replace S := S'
  clear S'
  replace G := G.mono k₁
  have hoR := hN _ _ hD hD'
  have hr : StrL h₁ lr rows := StrL.of hoR hys
  clear hk hN hD hD'
  have hysz : ys.size = rows.length := by rw [← hys.length, Array.length_toList]
  have hh := g.high
  have hcl := cells_len rows wd
  walk_at "go"
  refine lcells_spec (S.gr G) (R.in_ (by omega)) (hr.mono S.base) g ?_
  intro lc yc kc s' hD hD' hi hk
  obtain ⟨h₂, k₂, S', hN⟩ := CS.gnew S hk
  replace S := S'
  clear S'
  replace G := G.mono k₂
  replace hr := hr.mono k₂
  have hoR₂ := k₂ _ _ hoR
  have hoC := hN _ _ hD hD'
  clear hk hN hD hD'
  walk_at "go"
  refine l_copy S (S.atBase hoR₂) rfl rfl (by omega) ?_; clear S; intro lh c s S _
  walk_at "go"
  refine floor_spec (S.gr G) (R.in_ (by omega)) (StrL.of (S.atLed (by walk_at "mm")) hys) g ?_
  intro fl l' t1 t2 s' hF _ hk
  obtain ⟨h₃, k₃, S', hN⟩ := CS.gnew S hk
  replace S := S'.tl rfl
  clear S'
  replace G := G.mono k₃
  replace hr := hr.mono k₃
  have hoC₃ := k₃ _ _ hoC
  have F := hF h₃ hN
  clear hk hN hF
  have kA := (k₁.trans k₂).trans k₃
  walk_at "go"
  refine laid_spec (S.gr G) (R.in_ (by omega)) (F.mono S.base) (by omega) ?_
  intro ly d od m s' Y hod D hds hopt hk
  replace S := CS.keeps S hk
  clear hk
  walk_at "go"
  refine m_get (S.gr G).X Y (me_bare _) (by kernel_rfl) ?_
  walk_at "go"
  refine bare_spec (S.gr G) (R.in_ (by omega)) (F.mono S.base) Y hod D hds ?_
  intro lb yb kb s' hlb hlb' hib hk
  replace S := CS.keeps S hk
  clear hk
  have hbl : (bareL m (cellsL rows wd)).length ≤ (cellsL rows wd).length := List.length_filter_le ..
  walk_at "go"
  refine l_len S (IntL.of hlb' hib) (by omega) ?_; clear S; intro t s S
  rw [hopt]
  walk_at "go"
  refine l_new S (by simp) ?_; clear S; intro la s S _
  walk_at "go"
  refine fewest_spec (cellsL rows wd).length (Nat.le_refl _) (by omega) (S.gr G) (R.in_ (by omega)) (hr.mono S.base) g (S.atBase hoC₃) hi ?_
  walk_at "kpt"
  walk_at "go"
  refine l_new S (by simp) ?_; clear S; intro lb2 s S _
  walk_at "go"
  refine listed_spec (ns := [few (mayB rows wd) (cellsL rows wd).length (cellsL rows wd)]) (S.gr G) (R.in_ (by omega)) (IntL.of (S.atLed (by walk_at "mm")) (.cons _ _ .nil)) (IntL.of (S.atLed (by walk_at "mm")) (.cons _ _ .nil)) (by simp) ?_
  walk_at "kp"
  walk_at "go"
  exact h _ (S.outs kA)

end Fl
open PySem PySem.W PyProof.Rows
theorem PySem.Challenge.cw_uf030040_12_holds : PySem.Challenge.rw_uf030040_12.Holds := by
  refine Fl.hd ?_
  k_fill
  intro w s₀ s₁ mg mb G Y fa o pm cd doc dV kV ho hd hcd hD hmg hg args vals as hpre hlay hrd hwl hlo
  have KX := kIn_of Y
  refine Ground.open G ?_
  intro T B D TE TW
  wrow_args hpre hlay hrd hwl hlo
  refine enter_call ?_
  refine codeAny_mono ?_ (fun _ _ g => GoodW.toG g)
  have e := mg_of KX T.g (show nsIn (Fl.kH w.params) mainGlobals (Str.ofString "law") = some (some (.ref 332)) by kernel_rfl)
  have hfa : fa = 332 := by
    have := Option.some.inj (hmg.symm.trans e)
    cases this; rfl
  subst hfa
  refine Fl.law_spec rfl (Fl.Gr.of KX T) ⟨by decide, by decide, rfl⟩ ⟨_, by assumption, by assumption⟩ (by omega) ?_
  intro s' hk
  obtain ⟨h', tk, rfl, hk'⟩ := hk
  exact ⟨.inl ⟨.bool true, .bool true, [], rfl, fun _ => rfl, .bool _, by kernel_rfl, fun _ => ⟨List.nodup_nil, fun _ h => nomatch h⟩⟩, hk', rfl, hg⟩
