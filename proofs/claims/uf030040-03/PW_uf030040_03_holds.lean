import PyProof.Rows.All
import Wide.All
import OpenK.AllK
import Flt.Ops
import KE.KIsNot
import Wide.FinOn
import PySem.Challenge.RW_uf030040_03

set_option maxRecDepth 100000
set_option autoImplicit false
set_option Elab.async false
set_option linter.all false
set_option maxHeartbeats 4000000

namespace Fl
open PySem PyProof.Rows

/-- the names of a frame and what they hold, where it is known -/
abbrev Rho := List (Str × Option Value)
inductive Look (x : Str) (v : Value) : Rho → Prop
  | head {r} : Look x v ((x, some v) :: r)
  | tail {p r} : Look x v r → Look x v (p :: r)
inductive Put (x : Str) (v : Value) : Rho → Rho → Prop
  | head {w r} : Put x v ((x, w) :: r) ((x, some v) :: r)
  | tail {p r r'} : Put x v r r' → Put x v (p :: r) (p :: r')
theorem Look.mem {x : Str} {v : Value} {ρ : Rho} (h : Look x v ρ) : x ∈ ρ.map (·.1) := by
  induction h with
  | head => exact List.mem_cons_self ..
  | tail _ ih => exact List.mem_cons_of_mem _ ih
theorem Look.in_ {x : Str} {v : Value} {ρ : Rho} (h : Look x v ρ) : (x, some v) ∈ ρ := by
  induction h with
  | head => exact List.mem_cons_self ..
  | tail _ ih => exact List.mem_cons_of_mem _ ih
theorem Look.of_in {x : Str} {v : Value} : ∀ {ρ : Rho}, (x, some v) ∈ ρ → Look x v ρ
  | _ :: _, h => by
    rcases List.mem_cons.mp h with rfl | h
    · exact .head
    · exact .tail (Look.of_in h)
theorem Put.names {x : Str} {v : Value} {ρ ρ' : Rho} (h : Put x v ρ ρ') : ρ'.map (·.1) = ρ.map (·.1) := by
  induction h with
  | head => rfl
  | tail _ ih => simp only [List.map_cons, ih]
theorem Put.mem {x : Str} {v : Value} {ρ ρ' : Rho} (h : Put x v ρ ρ') : x ∈ ρ.map (·.1) := by
  induction h with
  | head => exact List.mem_cons_self ..
  | tail _ ih => exact List.mem_cons_of_mem _ ih
/-- what is looked up behind a store: the name stored, or another name as before -/
theorem Put.look {x : Str} {v : Value} {ρ ρ' : Rho} (h : Put x v ρ ρ') (nd : (ρ.map (·.1)).Nodup) {y : Str} {u : Value} (hy : Look y u ρ') : (y = x ∧ u = v) ∨ (y ≠ x ∧ Look y u ρ) := by
  induction h with
  | head =>
    cases hy with
    | head => exact .inl ⟨rfl, rfl⟩
    | tail hy =>
      refine .inr ⟨fun e => ?_, .tail hy⟩
      rw [List.map_cons, List.nodup_cons] at nd
      exact nd.1 (e ▸ hy.mem)
  | tail hp ih =>
    rw [List.map_cons, List.nodup_cons] at nd
    cases hy with
    | head => exact .inr ⟨fun e => nd.1 (e ▸ hp.mem), .head⟩
    | tail hy =>
      rcases ih nd.2 hy with h | ⟨h1, h2⟩
      · exact .inl h
      · exact .inr ⟨h1, .tail h2⟩

/-- all that stands in h stands in h' -/
abbrev Sub (h h' : Heap) : Prop := ∀ b o, h.get? b = some o → h'.get? b = some o
theorem Sub.refl (h : Heap) : Sub h h := fun _ _ e => e
theorem Sub.trans {h₁ h₂ h₃ : Heap} (x : Sub h₁ h₂) (y : Sub h₂ h₃) : Sub h₁ h₃ := fun b o e => y b o (x b o e)
theorem Sub.none {h h' : Heap} (x : Sub h h') {a : Addr} (e : h'.get? a = none) : h.get? a = none := by
  cases q : h.get? a with
  | none => rfl
  | some o => rw [x _ _ q] at e; cases e

/-- the state of a frame in its run: b whether it may store; s₀ the state that it was entered in, h₀ a part of the heap that stays, ρ what its names hold, Λ objects that may be changed -/
structure CS (b : Bool) (s₀ : Shared) (h₀ : Heap) (env : Env) (ρ : Rho) (Λ : List (Addr × Obj)) (s : Shared) : Prop where
  kind : env.scope.kind = .function
  same : ∃ h tk, s = { s₀ with heap := h, toks := tk }
  base : Sub h₀ s.heap
  all : b = false → Sub s₀.heap s.heap
  ns : ∃ m, s.heap.Ns env.locals m ∧ ∀ x v, Look x v ρ → env.kindOf x = some .local → m x = some v
  cell : ∀ x v c, Look x v ρ → env.kindOf x = some .cell → env.cells.lookup x = some c → s.heap.IsCell c (some v)
  cells : ∀ n c, env.cells.lookup n = some c → (∃ v, s.heap.IsCell c v) ∧ c ≠ env.locals ∧ (b = true → h₀.get? c = none)
  apart : ∀ n n' c, env.cells.lookup n = some c → env.cells.lookup n' = some c → n = n'
  kinds : ∀ x, x ∈ ρ.map (·.1) → env.kindOf x = some .local ∨ (env.kindOf x = some .cell ∧ ∃ c, env.cells.lookup x = some c)
  locs : b = true → h₀.get? env.locals = none
  nd : (ρ.map (·.1)).Nodup
  led : ∀ p ∈ Λ, s.heap.get? p.1 = some p.2 ∧ p.1 ≠ env.locals ∧ (∀ n, env.cells.lookup n ≠ some p.1) ∧ (b = true → h₀.get? p.1 = none)
  lnd : (Λ.map (·.1)).Nodup

namespace CS
variable {b : Bool} {s₀ s s' : Shared} {h₀ h₁ : Heap} {env : Env} {ρ ρ' : Rho} {Λ Λ' : List (Addr × Obj)}

theorem keeps (S : CS b s₀ h₀ env ρ Λ s) (k : Keeps s s') : CS b s₀ h₀ env ρ Λ s' := by
  obtain ⟨h', tk, rfl, hk⟩ := k
  refine ⟨S.kind, ?_, S.base.trans hk, fun q => (S.all q).trans hk, ?_, fun x v c a b d => (S.cell x v c a b d).keeps hk, fun n c e => ?_, S.apart, S.kinds, S.locs, S.nd, fun p hp => ?_, S.lnd⟩
  · obtain ⟨h, t, rfl⟩ := S.same; exact ⟨h', tk, rfl⟩
  · obtain ⟨m, hn, hm⟩ := S.ns; exact ⟨m, hn.keeps hk, hm⟩
  · obtain ⟨⟨v, hv⟩, r⟩ := S.cells n c e; exact ⟨⟨v, hv.keeps hk⟩, r⟩
  · obtain ⟨a, r⟩ := S.led p hp; exact ⟨hk _ _ a, r⟩
theorem tok (S : CS b s₀ h₀ env ρ Λ s) (tk : Nat) : CS b s₀ h₀ env ρ Λ { s with toks := tk } := S.keeps ⟨s.heap, tk, rfl, fun _ _ e => e⟩
/-- a frame that changes nothing that stood: behind it all stands as before -/
theorem out (S : CS b s₀ s₀.heap env ρ Λ s) : Keeps s₀ s := by
  obtain ⟨h, tk, e⟩ := S.same
  refine ⟨h, tk, e, fun b o q => ?_⟩
  have := S.base b o q
  rw [e] at this; exact this
theorem quiet (S : CS false s₀ h₀ env ρ Λ s) : Keeps s₀ s := by
  obtain ⟨h, tk, e⟩ := S.same
  refine ⟨h, tk, e, fun b o q => ?_⟩
  have := S.all rfl b o q
  rw [e] at this; exact this
/-- a smaller part that stays -/
theorem drop (S : CS b s₀ h₁ env ρ Λ s) (k : Sub h₀ h₁) : CS b s₀ h₀ env ρ Λ s :=
  ⟨S.kind, S.same, k.trans S.base, S.all, S.ns, S.cell, fun n c e => let ⟨a, b, c⟩ := S.cells n c e; ⟨a, b, fun q => k.none (c q)⟩, S.apart, S.kinds, fun q => k.none (S.locs q), S.nd,
    fun p hp => let ⟨a, b, c, d⟩ := S.led p hp; ⟨a, b, c, fun q => k.none (d q)⟩, S.lnd⟩

theorem look {x : Str} {v : Value} {Q : Value → Shared → Prop} {M : Model} {A : Around} {E : Value → Shared → Prop} (S : CS b s₀ h₀ env ρ Λ s) (hx : Look x v ρ) (h : Q v s) : wpAny M A (loadName env x) Q E s := by
  rcases S.kinds x hx.mem with hl | ⟨hc, c, hcl⟩
  · obtain ⟨m, hn, hm⟩ := S.ns
    exact wpAny_loadName_local S.kind hl hn (hm x v hx hl) h
  · exact wpAny_loadName_cell S.kind hc hcl (S.cell x v c hx hc hcl) h

theorem put {x : Str} {v : Value} {Q : Unit → Shared → Prop} {M : Model} {A : Around} {E : Value → Shared → Prop} (S : CS true s₀ h₀ env ρ Λ s) (hx : Put x v ρ ρ')
    (h : ∀ s', CS true s₀ h₀ env ρ' Λ s' → Q () s') : wpAny M A (storeName env x v) Q E s := by
  have nd' : (ρ'.map (·.1)).Nodup := hx.names ▸ S.nd
  have kinds' : ∀ y, y ∈ ρ'.map (·.1) → env.kindOf y = some .local ∨ (env.kindOf y = some .cell ∧ ∃ c, env.cells.lookup y = some c) := fun y hy => S.kinds y (hx.names ▸ hy)
  rcases S.kinds x hx.mem with hl | ⟨hc, c, hcl⟩
  · obtain ⟨m, hn, hm⟩ := S.ns
    refine wpAny_storeName_local hl hn (fun h' hn' hs' => h _ ?_) (by rw [S.kind]; rfl)
    have up : ∀ b o, b ≠ env.locals → s.heap.get? b = some o → h'.get? b = some o := fun b o hb e => hs'.extBut b o hb e
    refine ⟨S.kind, ?_, fun b o e => up b o (fun q => ?_) (S.base b o e), (fun q => nomatch q), ⟨_, hn', fun y u hy hk => ?_⟩, fun y u c hy hk hc => ?_, fun n c e => ?_, S.apart, kinds', S.locs, nd', fun p hp => ?_, S.lnd⟩
    · obtain ⟨h, t, rfl⟩ := S.same; exact ⟨h', _, rfl⟩
    · rw [q, S.locs rfl] at e; cases e
    · rcases hx.look S.nd hy with ⟨rfl, rfl⟩ | ⟨h1, h2⟩
      · exact if_pos rfl
      · exact (if_neg h1).trans (hm y u h2 hk)
    · rcases hx.look S.nd hy with ⟨rfl, rfl⟩ | ⟨h1, h2⟩
      · rw [hl] at hk; cases hk
      · exact (S.cell y u c h2 hk hc).sameBut hs' (S.cells y c hc).2.1
    · obtain ⟨⟨w, hw⟩, r⟩ := S.cells n c e
      exact ⟨⟨w, hw.sameBut hs' r.1⟩, r⟩
    · obtain ⟨a, b, r⟩ := S.led p hp
      exact ⟨up _ _ b a, b, r⟩
  · obtain ⟨⟨v₀, hv₀⟩, hcL, hc0⟩ := S.cells x c hcl
    refine wpAny_storeName_cell S.kind hc hcl hv₀ (fun h' hn' hs' => h _ ?_)
    have up : ∀ b o, b ≠ c → s.heap.get? b = some o → h'.get? b = some o := fun b o hb e => hs'.extBut b o hb e
    obtain ⟨m, hn, hm⟩ := S.ns
    refine ⟨S.kind, ?_, fun b o e => up b o (fun q => ?_) (S.base b o e), (fun q => nomatch q), ⟨m, hn.sameBut hs' hcL.symm, fun y u hy hk => ?_⟩, fun y u c' hy hk hc' => ?_, fun n c' e => ?_, S.apart, kinds', S.locs, nd', fun p hp => ?_, S.lnd⟩
    · obtain ⟨h, t, rfl⟩ := S.same; exact ⟨h', _, rfl⟩
    · rw [q, hc0 rfl] at e; cases e
    · rcases hx.look S.nd hy with ⟨rfl, rfl⟩ | ⟨h1, h2⟩
      · rw [hc] at hk; cases hk
      · exact hm y u h2 hk
    · rcases hx.look S.nd hy with ⟨rfl, rfl⟩ | ⟨h1, h2⟩
      · rw [hcl] at hc'; cases hc'; exact hn'
      · refine (S.cell y u c' h2 hk hc').sameBut hs' fun q => h1 ?_
        subst q; exact S.apart _ _ _ hc' hcl
    · obtain ⟨⟨w, hw⟩, r⟩ := S.cells n c' e
      by_cases q : c' = c
      · exact ⟨⟨_, q ▸ hn'⟩, r⟩
      · exact ⟨⟨w, hw.sameBut hs' q⟩, r⟩
    · obtain ⟨a, b, c', d⟩ := S.led p hp
      exact ⟨up _ _ (fun q => c' x (q ▸ hcl)) a, b, c', d⟩

/-- less said of the names -/
theorem less (S : CS b s₀ h₀ env ρ Λ s) (hn : ρ'.map (·.1) = ρ.map (·.1)) (hl : ∀ x v, Look x v ρ' → Look x v ρ) : CS b s₀ h₀ env ρ' Λ s := by
  refine ⟨S.kind, S.same, S.base, S.all, ?_, fun x v c a b d => S.cell x v c (hl _ _ a) b d, S.cells, S.apart, hn ▸ S.kinds, S.locs, hn ▸ S.nd, S.led, S.lnd⟩
  obtain ⟨m, a, b⟩ := S.ns
  exact ⟨m, a, fun x v hx => b x v (hl _ _ hx)⟩

/-- the objects' addresses of a frame's own -/
def own (env : Env) (Λ : List (Addr × Obj)) (a : Addr) : Prop := a = env.locals ∨ (∃ n, env.cells.lookup n = some a) ∨ a ∈ Λ.map (·.1)
theorem own_at (S : CS b s₀ h₀ env ρ Λ s) {a : Addr} (h : own env Λ a) : ∃ o, s.heap.get? a = some o := by
  rcases h with rfl | ⟨n, e⟩ | h
  · obtain ⟨m, ⟨o, _, _, q, _⟩, _⟩ := S.ns; exact ⟨o, q⟩
  · obtain ⟨⟨v, o, q, _⟩, _⟩ := S.cells n a e; exact ⟨o, q⟩
  · obtain ⟨p, hp, rfl⟩ := List.mem_map.mp h; exact ⟨_, (S.led p hp).1⟩
theorem own_no (S : CS true s₀ h₀ env ρ Λ s) {a : Addr} (h : own env Λ a) : h₀.get? a = none := by
  rcases h with rfl | ⟨n, e⟩ | h
  · exact S.locs rfl
  · exact (S.cells n a e).2.2 rfl
  · obtain ⟨p, hp, rfl⟩ := List.mem_map.mp h; exact (S.led p hp).2.2.2 rfl
/-- another part that stays: any part of the heap that holds none of the frame's own -/
theorem rebase (S : CS b s₀ h₀ env ρ Λ s) (k : Sub h₁ s.heap) (n : ∀ a, own env Λ a → h₁.get? a = none) : CS b s₀ h₁ env ρ Λ s :=
  ⟨S.kind, S.same, k, S.all, S.ns, S.cell, fun x c e => let ⟨a, b, _⟩ := S.cells x c e; ⟨a, b, fun _ => n _ (.inr (.inl ⟨x, e⟩))⟩, S.apart, S.kinds, fun _ => n _ (.inl rfl), S.nd,
    fun p hp => let ⟨a, b, c, _⟩ := S.led p hp; ⟨a, b, c, fun _ => n _ (.inr (.inr (List.mem_map_of_mem hp)))⟩, S.lnd⟩
end CS
end Fl

namespace Fl
open PySem PyProof.Rows

open Classical in
/-- the heap without the objects at some addresses -/
noncomputable def without (h : Heap) (P : Addr → Prop) : Heap := { h with objs := h.objs.mapIdx fun i o => if P i then { o with data := .freed } else o }
theorem without_none {h : Heap} {P : Addr → Prop} {a : Addr} (p : P a) : (without h P).get? a = none := by
  cases q : (without h P).get? a with
  | none => rfl
  | some o =>
    obtain ⟨h1, h2⟩ := Heap.get?_some_iff.mp q
    unfold without at h1
    rw [Array.getElem?_mapIdx] at h1
    cases e : h.objs[a]? with
    | none => rw [e] at h1; cases h1
    | some o' => rw [e] at h1; simp only [Option.map_some, if_pos p, Option.some.injEq] at h1; subst h1; cases h2
theorem without_get {h : Heap} {P : Addr → Prop} {a : Addr} {o : Obj} (p : ¬ P a) (e : h.get? a = some o) : (without h P).get? a = some o := by
  obtain ⟨h1, h2⟩ := Heap.get?_some_iff.mp e
  refine Heap.get?_some_iff.mpr ⟨?_, h2⟩
  unfold without
  rw [Array.getElem?_mapIdx, h1]
  simp only [Option.map_some, if_neg p]
theorem of_without {h : Heap} {P : Addr → Prop} {a : Addr} {o : Obj} (e : (without h P).get? a = some o) : h.get? a = some o ∧ ¬ P a := by
  by_cases p : P a
  · rw [without_none p] at e; cases e
  · refine ⟨?_, p⟩
    obtain ⟨h1, h2⟩ := Heap.get?_some_iff.mp e
    refine Heap.get?_some_iff.mpr ⟨?_, h2⟩
    unfold without at h1
    rw [Array.getElem?_mapIdx] at h1
    cases q : h.objs[a]? with
    | none => rw [q] at h1; cases h1
    | some o' => rw [q] at h1; simp only [Option.map_some, if_neg p] at h1; exact h1
theorem without_sub (h : Heap) (P : Addr → Prop) : Sub (without h P) h := fun _ _ e => (of_without e).1

theorem fresh_none {h : Heap} {a : Addr} (k : h.objs.size ≤ a) : h.get? a = none := by
  cases q : h.get? a with
  | none => rfl
  | some o => exact absurd (Heap.lt_size q) (Nat.not_lt.mpr k)

namespace CS
variable {b : Bool} {s₀ s s' : Shared} {h₀ h₁ : Heap} {env : Env} {ρ ρ' : Rho} {Λ Λ' : List (Addr × Obj)}
/-- all that stands but the frame's own stays from now on -/
theorem wide (S : CS true s₀ h₀ env ρ Λ s) : ∃ h₁, Sub h₀ h₁ ∧ CS true s₀ h₁ env ρ Λ s ∧ ∀ a o, s.heap.get? a = some o → ¬ own env Λ a → h₁.get? a = some o := by
  refine ⟨without s.heap (own env Λ), fun a o e => without_get (fun h => ?_) (S.base a o e), S.rebase (without_sub _ _) fun a h => without_none h, fun a o e h => without_get h e⟩
  rw [S.own_no h] at e; cases e
/-- what a call has made newly (it changed nothing that stood) stays from now on -/
theorem grow (S : CS true s₀ h₀ env ρ Λ s) (k : Keeps s s') : ∃ h₁, Sub h₀ h₁ ∧ CS true s₀ h₁ env ρ Λ s' ∧ ∀ a o, s.heap.get? a = none → s'.heap.get? a = some o → h₁.get? a = some o := by
  obtain ⟨h₁, h1, h2, h3⟩ := (S.keeps k).wide
  refine ⟨h₁, h1, h2, fun a o e q => h3 a o q fun w => ?_⟩
  obtain ⟨o', w⟩ := S.own_at w
  rw [w] at e; cases e
end CS

/-- the names of a def's frame at its start -/
def rho0 (names : List (Str × NameKind)) (binds : List (Str × Value)) : Rho := names.filterMap fun x => if x.2 = .local ∨ x.2 = .cell then some (x.1, binds.lookup x.1) else none

theorem lookup_of_nodup {α : Type} : ∀ {l : List (Str × α)} {x : Str} {v : α}, (l.map (·.1)).Nodup → (x, v) ∈ l → l.lookup x = some v
  | (y, u) :: r, x, v, nd, h => by
    rw [List.map_cons, List.nodup_cons] at nd
    rw [List.lookup_cons]
    rcases List.mem_cons.mp h with e | h'
    · cases e; simp
    · have : (x == y) = false := by
        rw [beq_eq_false_iff_ne]
        intro q
        exact nd.1 (List.mem_map.mpr ⟨(x, v), h', q⟩)
      rw [this]
      exact lookup_of_nodup nd.2 h'

theorem bindL_look {kindOf : Str → Option NameKind} : ∀ {binds : List (Str × Value)} {m : Str → Option Value} {x : Str}, (binds.map (·.1)).Nodup → kindOf x = some .local →
    bindL kindOf binds m x = (match binds.lookup x with | some v => some v | none => m x)
  | [], _, _, _, _ => rfl
  | (n, v) :: r, m, x, nd, hk => by
    rw [List.map_cons, List.nodup_cons] at nd
    simp only [bindL, List.lookup_cons]
    rw [bindL_look nd.2 hk]
    by_cases e : x = n
    · subst e
      have hr : r.lookup x = none := by
        cases q : r.lookup x with
        | none => rfl
        | some u => exact absurd (List.mem_map.mpr ⟨(x, u), mem_of_lookup q, rfl⟩) nd.1
      simp [hr, hk]
    · have hb : (x == n) = false := beq_eq_false_iff_ne.mpr e
      rw [hb]
      cases r.lookup x with
      | some u => rfl
      | none =>
        show (if kindOf n = some .local then fun y => if y = n then some v else m y else m) x = m x
        split
        · exact if_neg e
        · rfl
theorem bindC_look {kindOf : Str → Option NameKind} : ∀ {binds : List (Str × Value)} {m : Str → Option Value} {x : Str}, (binds.map (·.1)).Nodup → kindOf x = some .cell →
    bindC kindOf binds m x = (match binds.lookup x with | some v => some v | none => m x)
  | [], _, _, _, _ => rfl
  | (n, v) :: r, m, x, nd, hk => by
    rw [List.map_cons, List.nodup_cons] at nd
    simp only [bindC, List.lookup_cons]
    rw [bindC_look nd.2 hk]
    by_cases e : x = n
    · subst e
      have hr : r.lookup x = none := by
        cases q : r.lookup x with
        | none => rfl
        | some u => exact absurd (List.mem_map.mpr ⟨(x, u), mem_of_lookup q, rfl⟩) nd.1
      simp [hr, hk]
    · have hb : (x == n) = false := beq_eq_false_iff_ne.mpr e
      rw [hb]
      cases r.lookup x with
      | some u => rfl
      | none =>
        show (if kindOf n = some .local then m else fun y => if y = n then some v else m y) x = m x
        split
        · rfl
        · exact if_neg e

theorem rho0_in {names : List (Str × NameKind)} {binds : List (Str × Value)} {x : Str} {v : Option Value} (h : (x, v) ∈ rho0 names binds) : ∃ k, (x, k) ∈ names ∧ (k = .local ∨ k = .cell) ∧ binds.lookup x = v := by
  obtain ⟨⟨y, k⟩, h1, h2⟩ := List.mem_filterMap.mp h
  split at h2
  · rename_i hk
    cases h2
    exact ⟨k, h1, hk, rfl⟩
  · cases h2
theorem rho0_nodup : ∀ {names : List (Str × NameKind)} {binds : List (Str × Value)}, (names.map (·.1)).Nodup → ((rho0 names binds).map (·.1)).Nodup
  | [], _, _ => List.nodup_nil
  | (y, k) :: r, binds, nd => by
    rw [List.map_cons, List.nodup_cons] at nd
    unfold rho0
    rw [List.filterMap_cons]
    split
    · exact rho0_nodup nd.2
    · rename_i b hb
      split at hb
      · cases hb
        rw [List.map_cons, List.nodup_cons]
        refine ⟨fun h => nd.1 ?_, rho0_nodup nd.2⟩
        obtain ⟨⟨x, v⟩, h1, h2⟩ := List.mem_map.mp h
        obtain ⟨k', h3, _⟩ := rho0_in h1
        exact List.mem_map.mpr ⟨(x, k'), h3, h2⟩
      · cases hb

/-- the frame of a def at its start -/
theorem enterCS {s s₁ : Shared} {fd : FuncData} {a : Addr} {binds : List (Str × Value)} {h₀ : Heap} {Λ : List (Addr × Obj)}
    (x : InCallC s (callEnvC fd s.heap.objs.size a).locals (bindL (callEnvC fd s.heap.objs.size a).kindOf binds fun _ => none) (callEnvC fd s.heap.objs.size a).cells (bindC (callEnvC fd s.heap.objs.size a).kindOf binds fun _ => none) s₁)
    (hk : fd.scope.kind = .function) (hnd : (fd.scope.names.map (·.1)).Nodup) (hbd : (binds.map (·.1)).Nodup) (hcs : ∀ n, fd.scope.names.lookup n = some .cell → ∃ c, (callEnvC fd s.heap.objs.size a).cells.lookup n = some c)
    (hb : Sub h₀ s.heap) (hΛ : ∀ p ∈ Λ, s.heap.get? p.1 = some p.2 ∧ h₀.get? p.1 = none) (hΛn : (Λ.map (·.1)).Nodup) : CS true s h₀ (callEnvC fd s.heap.objs.size a) (rho0 fd.scope.names binds) Λ s₁ := by
  have kin : ∀ {y : Str} {v : Option Value}, (y, v) ∈ rho0 fd.scope.names binds → ((callEnvC fd s.heap.objs.size a).kindOf y = some .local ∨ (callEnvC fd s.heap.objs.size a).kindOf y = some .cell) ∧ binds.lookup y = v := fun h => by
    obtain ⟨k, h1, h2, h3⟩ := rho0_in h
    refine ⟨?_, h3⟩
    show fd.scope.names.lookup _ = _ ∨ fd.scope.names.lookup _ = _
    rw [lookup_of_nodup hnd h1]
    rcases h2 with rfl | rfl
    · exact .inl rfl
    · exact .inr rfl
  have up : ∀ {c : Addr}, s.heap.objs.size ≤ c → h₀.get? c = none := fun h => hb.none (fresh_none h)
  have hL : (callEnvC fd s.heap.objs.size a).locals = s.heap.objs.size := rfl
  refine ⟨hk, x.toInCall.same, hb.trans x.toInCall.keep, (fun q => nomatch q), ⟨_, x.toInCall.ns, fun y v hy hl => ?_⟩, fun y v c hy hl hc => ?_, fun n c e => ⟨⟨_, x.cell n c e⟩, ?_, fun _ => up ?_⟩, fun n n' c e e' => ?_, fun y hy => ?_, fun _ => up (Nat.le_refl _), rho0_nodup hnd,
    fun p hp => ⟨x.toInCall.keep _ _ (hΛ p hp).1, ?_, fun n e => ?_, fun _ => (hΛ p hp).2⟩, hΛn⟩
  · rw [bindL_look hbd hl, (kin hy.in_).2]
  · have := x.cell y c hc
    rw [bindC_look hbd hl, (kin hy.in_).2] at this
    exact this
  · exact Nat.ne_of_gt (x.above n c (mem_of_lookup e))
  · exact Nat.le_of_lt (x.above n c (mem_of_lookup e))
  · exact name_of_addr x.apart (mem_of_lookup e) (mem_of_lookup e')
  · obtain ⟨⟨y', v⟩, h1, rfl⟩ := List.mem_map.mp hy
    rcases (kin h1).1 with h | h
    · exact .inl h
    · exact .inr ⟨h, hcs _ h⟩
  · exact Nat.ne_of_lt (Heap.lt_size (hΛ p hp).1)
  · exact absurd (Heap.lt_size (hΛ p hp).1) (Nat.not_lt.mpr (Nat.le_of_lt (x.above n p.1 (mem_of_lookup e))))

theorem cellsFrom_has {x : Str} : ∀ (names : List (Str × NameKind)) (n : Nat) (acc : List (Str × Addr)), names.lookup x = some .cell ∨ (∃ c, acc.lookup x = some c) → ∃ c, (cellsFrom n names acc).lookup x = some c
  | [], _, _, h => h.elim (fun e => by cases e) id
  | (y, k) :: r, n, acc, h => by
    unfold cellsFrom
    by_cases hk : (k == .cell) = true
    · rw [if_pos hk]
      refine cellsFrom_has r (n + 1) ((y, n) :: acc) ?_
      by_cases hy : (x == y) = true
      · exact .inr ⟨n, by rw [List.lookup_cons, hy]⟩
      · rcases h with h | ⟨c, h⟩
        · rw [List.lookup_cons] at h; simp only [hy] at h; exact .inl h
        · exact .inr ⟨c, by rw [List.lookup_cons]; simp only [hy]; exact h⟩
    · rw [if_neg hk]
      refine cellsFrom_has r n acc ?_
      rcases h with h | h
      · by_cases hy : (x == y) = true
        · rw [List.lookup_cons, hy] at h
          exact absurd (by rw [Option.some.inj h]; rfl) hk
        · rw [List.lookup_cons] at h; simp only [hy] at h; exact .inl h
      · exact .inr h

/-- a def of the text called: its body in a frame of its own -/
theorem call_def {prog : Program} {w : World} {A : Around} {s : Shared} {R : Result → Shared → Prop} {a : Addr} {o : Obj} {fd : FuncData} {body : List Stmt} {vals : List Value} {binds : List (Str × Value)} {ρ : Rho} {h₀ : Heap} {Λ : List (Addr × Obj)}
    (hroom : A.depth < recursionLimit) (ho : s.heap.get? a = some o) (hdata : o.data = .func fd) (hlim : s.heap.NoLimit) (hcd : s.heap.CodeRec fd.code fd.qualname)
    (hbody : fd.body = .stmts body) (hbind : bindArgs fd ⟨vals, []⟩ = pure binds) (hclo : fd.closure = [])
    (hb1 : (binds.all fun y => fd.scope.names.lookup y.1 == some .local || fd.scope.names.lookup y.1 == some .cell) = true) (hb2 : (binds.map (·.1)).Nodup) (hnd : (fd.scope.names.map (·.1)).Nodup) (hρ : rho0 fd.scope.names binds = ρ)
    (hb : Sub h₀ s.heap) (hΛ : ∀ p ∈ Λ, s.heap.get? p.1 = some p.2 ∧ h₀.get? p.1 = none) (hΛn : (Λ.map (·.1)).Nodup)
    (h : ∀ s₁, CS true s h₀ (callEnvC fd s.heap.objs.size a) ρ Λ s₁ →
      wpAny (model prog w) (A.deeper (callEnvC fd s.heap.objs.size a)) (execs body (callEnvC fd s.heap.objs.size a)) (fun f s' => R (.ok (.ret (match f with | .ret v => v | _ => .none))) s')
        (fun e s' => wpAny (model prog w) (A.deeper (callEnvC fd s.heap.objs.size a)) (leaving (callEnvC fd s.heap.objs.size a) e) (fun _ s'' => R (.error e) s'') (fun e' s'' => R (.error e') s'') s') s₁)
    (hco : fd.scope.isCoroutine = false) (hgen : fd.scope.isGenerator = false) (hk : fd.scope.kind = .function) :
    codeAny (model prog w) A (.call (.ref a) ⟨vals, []⟩) R s := by
  have hcs : ∀ n m, fd.scope.names.lookup n = some .cell → ∃ c, (cellsFrom m fd.scope.names []).lookup n = some c := fun n m e => cellsFrom_has _ _ _ (.inl e)
  refine codeAny_call_cells hroom ho hdata hlim hcd hbody hbind hclo (fun x hx => ?_) (fun s₁ x => ?_) hco hgen hk
  · have := List.all_eq_true.mp hb1 x hx
    rcases Bool.or_eq_true_iff.mp this with q | q
    · exact .inl (beq_iff_eq.mp q)
    · refine .inr ⟨beq_iff_eq.mp q, ?_⟩
      obtain ⟨c, e⟩ := hcs x.1 (s.heap.objs.size + 1) (beq_iff_eq.mp q)
      rw [e]; rfl
  · have := enterCS x hk hnd hb2 (fun n e => hcs n _ e) hb hΛ hΛn
    exact h s₁ (hρ ▸ this)
end Fl

namespace Fl
open PySem PyProof.Rows

namespace CS
variable {b : Bool} {s₀ s s' : Shared} {h₀ h₁ : Heap} {env : Env} {ρ ρ' : Rho} {Λ Λ' : List (Addr × Obj)}
/-- some objects are changed that are neither the frame's own nor of the part that stays -/
theorem but (S : CS true s₀ h₀ env ρ Λ s) {wr : List Addr} {h' : Heap} {tk : Nat} (hk : ∀ a o, a ∉ wr → s.heap.get? a = some o → h'.get? a = some o) (h1 : ∀ a ∈ wr, h₀.get? a = none) (h2 : ∀ a ∈ wr, ¬ own env Λ a) :
    CS true s₀ h₀ env ρ Λ { s with heap := h', toks := tk } := by
  have hL : env.locals ∉ wr := fun h => h2 _ h (.inl rfl)
  have hC : ∀ n c, env.cells.lookup n = some c → c ∉ wr := fun n c e h => h2 _ h (.inr (.inl ⟨n, e⟩))
  refine ⟨S.kind, ?_, fun a o e => hk a o (fun h => ?_) (S.base a o e), (fun q => nomatch q), ?_, fun x v c a1 a2 a3 => ?_, fun n c e => ?_, S.apart, S.kinds, S.locs, S.nd, fun p hp => ?_, S.lnd⟩
  · obtain ⟨h, t, rfl⟩ := S.same; exact ⟨h', tk, rfl⟩
  · rw [h1 a h] at e; cases e
  · obtain ⟨m, hn, hm⟩ := S.ns; exact ⟨m, hn.at' fun o e => hk _ o hL e, hm⟩
  · obtain ⟨o, e, r⟩ := S.cell x v c a1 a2 a3; exact ⟨o, hk _ o (hC x c a3) e, r⟩
  · obtain ⟨⟨v, o, e', r'⟩, r⟩ := S.cells n c e; exact ⟨⟨v, o, hk _ o (hC n c e) e', r'⟩, r⟩
  · obtain ⟨a, r⟩ := S.led p hp; exact ⟨hk _ _ (fun h => h2 _ h (.inr (.inr (List.mem_map_of_mem hp)))) a, r⟩
theorem own_adr (e : Λ'.map (·.1) = Λ.map (·.1)) {a : Addr} : own env Λ' a ↔ own env Λ a := by unfold own; rw [e]
end CS

section
variable {prog : Program} {w : World} {A : Around} {s s₀ : Shared} {h₀ : Heap} {env : Env} {ρ : Rho} {Λ : List (Addr × Obj)} {E : Value → Shared → Prop} {Q : Flow → Shared → Prop}

/-- a for loop over what an iterator hands out, by what holds of the names and of the changed objects between the turns -/
theorem loop_inv {body : List Stmt} {x : Str} {px : Pos} {I : Addr} {fp wr : List Addr} {n : Nat} {P : Nat → Value → Prop} {St : Nat → Heap → Prop}
    (J : Nat → Rho → List (Addr × Obj) → Prop) (W : Walks prog w A I fp wr n P St) (S : CS true s₀ h₀ env ρ Λ s) (hst : St 0 s.heap) (hfp : ∀ a ∈ fp, ¬ CS.own env Λ a) (hwr : ∀ a ∈ wr, h₀.get? a = none) (hJ : J 0 ρ Λ)
    (hadr : ∀ i ρ' Λ', J i ρ' Λ' → Λ'.map (·.1) = Λ.map (·.1))
    (turn : ∀ i v ρ₁ Λ₁, i < n → P i v → J i ρ₁ Λ₁ → ∃ ρ₂, Put x v ρ₁ ρ₂ ∧ ∀ h₁ s₁, Sub h₀ h₁ → CS true s₀ h₁ env ρ₂ Λ₁ s₁ →
      wpAny (model prog w) A (execs body env) (fun f s₂ => match f with
        | .next | .cont => ∃ h' ρ' Λ', Sub h₁ h' ∧ CS true s₀ h' env ρ' Λ' s₂ ∧ J (i + 1) ρ' Λ'
        | .brk => Q .next s₂
        | .ret v => Q (.ret v) s₂) (notedBy (model prog w) A env fun e s' => cameBackBy (model prog w) A env E e s') s₁)
    (done : ∀ ρ' Λ' s', J n ρ' Λ' → CS true s₀ h₀ env ρ' Λ' s' → Q .next s') :
    codeAny (model prog w) A (.forLoop (.Name x px) (.ref I) body [] env) (fun r s' => match r with | .ok f => Q f s' | .error e => cameBackBy (model prog w) A env E e s') s := by
  refine codeAny_forLoop_any (fun k s' => ∃ i ρ' Λ', k = n - i ∧ i ≤ n ∧ J i ρ' Λ' ∧ CS true s₀ h₀ env ρ' Λ' s' ∧ St i s'.heap) ?_ n ⟨0, ρ, Λ, rfl, Nat.zero_le _, hJ, S, hst⟩
  rintro k s' ⟨i, ρ', Λ', rfl, hi, hJ', S', st'⟩
  have off : ∀ a ∈ fp, ¬ CS.own env Λ' a := fun a ha h => hfp a ha ((CS.own_adr (hadr _ _ _ hJ')).mp h)
  have off2 : ∀ a ∈ wr, ¬ CS.own env Λ' a := fun a ha => off a (W.sub a ha)
  by_cases hlt : i < n
  · refine W.item i s' _ _ hlt st' fun v h' tk hP st₁ hk => ?_
    have S₁ : CS true s₀ h₀ env ρ' Λ' { s' with heap := h', toks := tk } := S'.but hk hwr off2
    obtain ⟨h₁, k1, S₂, k3⟩ := S₁.wide
    obtain ⟨ρ₂, hput, hbody⟩ := turn i v ρ' Λ' hlt hP hJ'
    refine wpAny_of_eq (rfl : letOwnedTupleGo (.Name x px) (.ref I) v = pure ()) (wpAny_assign_Name (S₂.put hput fun s₁ S₃ => ?_))
    refine wpAny_mono (hbody h₁ s₁ k1 S₃) (fun f s₂ hf => ?_) fun _ _ e => e
    have nx : (∃ h' ρ' Λ', Sub h₁ h' ∧ CS true s₀ h' env ρ' Λ' s₂ ∧ J (i + 1) ρ' Λ') → ∃ m, m < n - i ∧ ∃ i ρ' Λ', m = n - i ∧ i ≤ n ∧ J i ρ' Λ' ∧ CS true s₀ h₀ env ρ' Λ' s₂ ∧ St i s₂.heap := by
      rintro ⟨h2, ρ3, Λ3, k4, S4, hJ4⟩
      refine ⟨n - (i + 1), by omega, i + 1, ρ3, Λ3, rfl, hlt, hJ4, S4.drop (k1.trans k4), W.frame _ _ _ st₁ fun a ha o e => ?_⟩
      exact S4.base _ _ (k4 _ _ (k3 a o e (off a ha)))
    cases f with
    | next => exact nx hf
    | cont => exact nx hf
    | brk => exact hf
    | ret v => exact hf
  · have hin : i = n := by omega
    subst hin
    refine W.done s' _ _ st' fun h' tk hk => ?_
    exact wpAny_execs_nil (done _ _ _ hJ' (S'.but hk hwr off2))

/-- a while loop: between the turns, and what every turn lowers -/
theorem while_inv {test : Expr} {body : List Stmt} (J : Nat → Heap → Rho → List (Addr × Obj) → Prop) (S : CS true s₀ h₀ env ρ Λ s) {n : Nat} (hJ : J n h₀ ρ Λ)
    (turn : ∀ k h₁ ρ₁ Λ₁ s₁, J k h₁ ρ₁ Λ₁ → Sub h₀ h₁ → CS true s₀ h₁ env ρ₁ Λ₁ s₁ →
      wpAny (model prog w) A (isTrue test env (eval test env)) (fun b s₂ =>
        if b then wpAny (model prog w) A (execs body env) (fun f s₃ => match f with
            | .next | .cont => ∃ m h' ρ' Λ', m < k ∧ Sub h₀ h' ∧ CS true s₀ h' env ρ' Λ' s₃ ∧ J m h' ρ' Λ'
            | .brk => Q .next s₃
            | .ret v => Q (.ret v) s₃) (notedBy (model prog w) A env fun e s' => cameBackBy (model prog w) A env E e s') s₂
        else Q .next s₂) (notedBy (model prog w) A env fun e s' => cameBackBy (model prog w) A env E e s') s₁) {pos : Pos} :
    wpAny (model prog w) A (exec (.While test body [] pos) env) Q E s := by
  refine wpAny_While (codeAny_whileLoop (fun k s' => ∃ h' ρ' Λ', Sub h₀ h' ∧ CS true s₀ h' env ρ' Λ' s' ∧ J k h' ρ' Λ') ?_ n ⟨h₀, ρ, Λ, Sub.refl _, S, hJ⟩)
  rintro k s' ⟨h₁, ρ₁, Λ₁, k1, S₁, hJ₁⟩
  refine wpAny_mono (turn k h₁ ρ₁ Λ₁ s' hJ₁ k1 S₁) (fun b s₂ hb => ?_) fun _ _ e => e
  cases b with
  | false => exact wpAny_execs_nil hb
  | true =>
    refine wpAny_mono hb (fun f s₃ hf => ?_) fun _ _ e => e
    cases f with
    | next => obtain ⟨m, h', ρ', Λ', a, b, c, d⟩ := hf; exact ⟨m, a, h', ρ', Λ', b, c, d⟩
    | cont => obtain ⟨m, h', ρ', Λ', a, b, c, d⟩ := hf; exact ⟨m, a, h', ρ', Λ', b, c, d⟩
    | brk => exact hf
    | ret v => exact hf
end
end Fl

namespace Fl
open PySem PyProof.Rows

/-- the cells that a comprehension's block takes over -/
def closGo (env : Env) : List (Str × NameKind) → List (Str × Addr) → List (Str × Addr)
  | [], acc => acc
  | (n, k) :: r, acc => if k == .free then closGo env r ((n, (env.cells.lookup n).getD 0) :: acc) else closGo env r acc
theorem closureFor_go {scope : Scope} {env : Env} (h : ∀ n, (n, NameKind.free) ∈ scope.names → ∃ c, env.cells.lookup n = some c) : closureFor scope env = pure (closGo env scope.names []) := by
  unfold closureFor
  have go : ∀ (names : List (Str × NameKind)) (acc : List (Str × Addr)), (∀ n, (n, NameKind.free) ∈ names → ∃ c, env.cells.lookup n = some c) →
      (forIn names acc fun (x : Str × NameKind) (r : List (Str × Addr)) => (if (x.2 == NameKind.free) = true then do let a ← cellOf env x.1; pure (ForInStep.yield ((x.1, a) :: r)) else pure (ForInStep.yield r) : Sem (ForInStep (List (Str × Addr)))))
        = pure (closGo env names acc) := by
    intro names
    induction names with
    | nil => intro acc _; rfl
    | cons p r ih =>
      obtain ⟨n, k⟩ := p
      intro acc hh
      rw [List.forIn_cons, closGo]
      by_cases hk : (k == NameKind.free) = true
      · have hk' : k = .free := by cases k <;> first | rfl | cases hk
        subst hk'
        obtain ⟨c, e⟩ := hh n (List.mem_cons_self ..)
        have hc : cellOf env n = pure c := by unfold cellOf; rw [e]
        simp only [hk, if_true, hc, pure_bind]
        rw [e]
        exact ih _ fun m hm => hh m (List.mem_cons_of_mem _ hm)
      · simp only [hk, if_false, pure_bind, Bool.false_eq_true]
        exact ih _ fun m hm => hh m (List.mem_cons_of_mem _ hm)
  have := go scope.names [] h
  simp only [bind_pure]
  exact this
theorem closGo_look {env : Env} {n : Str} {c : Addr} : ∀ (names : List (Str × NameKind)) (acc : List (Str × Addr)), (∀ n c, acc.lookup n = some c → env.cells.lookup n = some c) → (∀ n, (n, NameKind.free) ∈ names → ∃ c, env.cells.lookup n = some c) →
    (closGo env names acc).lookup n = some c → env.cells.lookup n = some c
  | [], _, h, _, e => h _ _ e
  | (m, k) :: r, acc, h, hf, e => by
    unfold closGo at e
    by_cases hk : (k == NameKind.free) = true
    · rw [if_pos hk] at e
      have hk' : k = .free := by cases k <;> first | rfl | cases hk
      subst hk'
      obtain ⟨c', e'⟩ := hf m (List.mem_cons_self ..)
      refine closGo_look r _ (fun n' c'' q => ?_) (fun n' hn => hf n' (List.mem_cons_of_mem _ hn)) e
      rw [List.lookup_cons] at q
      split at q
      · rename_i hb
        have := beq_iff_eq.mp hb
        subst this
        rw [e'] at q
        cases q
        exact e'
      · exact h _ _ q
    · rw [if_neg hk] at e
      exact closGo_look r _ h (fun n' hn => hf n' (List.mem_cons_of_mem _ hn)) e
theorem closGo_has {env : Env} {n : Str} : ∀ (names : List (Str × NameKind)) (acc : List (Str × Addr)), ((n, NameKind.free) ∈ names ∨ ∃ c, acc.lookup n = some c) → ∃ c, (closGo env names acc).lookup n = some c
  | [], _, h => h.elim (fun h => nomatch h) id
  | (m, k) :: r, acc, h => by
    unfold closGo
    by_cases hk : (k == NameKind.free) = true
    · rw [if_pos hk]
      refine closGo_has r _ ?_
      by_cases hm : (n == m) = true
      · exact .inr ⟨_, by rw [List.lookup_cons, hm]⟩
      · rcases h with h | ⟨c, h⟩
        · rcases List.mem_cons.mp h with q | q
          · cases q; simp at hm
          · exact .inl q
        · refine .inr ⟨c, ?_⟩
          rw [List.lookup_cons]; simp only [hm]; exact h
    · rw [if_neg hk]
      refine closGo_has r _ ?_
      rcases h with h | h
      · rcases List.mem_cons.mp h with q | q
        · cases q; exact absurd rfl hk
        · exact .inl q
      · exact .inr h

theorem lookup_relabel {env : Env} {y : Str} : ∀ {names : List (Str × NameKind)}, names.lookup y = some .free → env.scope.kind = .function → env.kindOf y = some .cell →
    (names.map fun (n, k) => if (k == NameKind.free && env.scope.kind == .function && env.kindOf n == some .cell) then (n, NameKind.cell) else (n, k)).lookup y = some .cell
  | [], h, _, _ => by cases h
  | (n, k) :: r, h, hk, hc => by
    rw [List.lookup_cons] at h
    rw [List.map_cons]
    by_cases hy : (y == n) = true
    · have := beq_iff_eq.mp hy
      subst this
      simp only [beq_self_eq_true] at h
      cases h
      simp [hk, hc]
    · simp only [hy] at h
      have ih := lookup_relabel h hk hc
      by_cases hq : (k == NameKind.free && env.scope.kind == .function && env.kindOf n == some .cell) = true
      · simp only [hq, if_true, List.lookup_cons, hy]; exact ih
      · simp only [hq, Bool.false_eq_true, if_false, List.lookup_cons, hy]; exact ih

section
variable {prog : Program} {w : World} {A : Around} {s s₀ s₂ s₃ : Shared} {h₀ : Heap} {env : Env} {ρ ρc : Rho} {Λ : List (Addr × Obj)} {E : Value → Shared → Prop}

/-- the block of a comprehension: its own name, and the names of the frame's that it takes over -/
theorem compCS {scope : Scope} {x : Str} {v : Value} {C : Addr} {m : Str → Option Value} {wr : List Addr} (S : CS true s₀ h₀ env ρ Λ s₂) (hC : s₂.heap.objs.size ≤ C) (hns : s₃.heap.Ns C m) (hm : m x = some v)
    (hk : ∀ a o, a ∉ wr → s₂.heap.get? a = some o → s₃.heap.get? a = some o) (h1 : ∀ a ∈ wr, h₀.get? a = none) (h2 : ∀ a ∈ wr, ¬ CS.own env Λ a)
    (hkind : scope.kind = .function) (hx : scope.names.lookup x = some .local) (hfree : ∀ n, (n, NameKind.free) ∈ scope.names → ∃ c, env.cells.lookup n = some c)
    (hc1 : ∀ y, y ∈ ρc.map (·.1) → scope.names.lookup y = some .free ∧ env.kindOf y = some .cell) (hc2 : ∀ y u, Look y u ρc → Look y u ρ) (hnd : ((x :: ρc.map (·.1))).Nodup) :
    CS false s₃ h₀ (compEnvC scope (closGo env scope.names []) C env) ((x, some v) :: ρc) Λ s₃ := by
  have hC' : ∀ n c, env.cells.lookup n = some c → c ∉ wr := fun n c e h => h2 _ h (.inr (.inl ⟨n, e⟩))
  have lk : ∀ {n c}, (closGo env scope.names []).lookup n = some c → env.cells.lookup n = some c := fun e => closGo_look _ _ (fun _ _ q => by cases q) hfree e
  have hcell : ∀ y u c, Look y u ρ → env.kindOf y = some .cell → env.cells.lookup y = some c → s₃.heap.IsCell c (some u) := fun y u c a b e => by
    obtain ⟨o, q, r⟩ := S.cell y u c a b e; exact ⟨o, hk _ o (hC' y c e) q, r⟩
  have kc : ∀ y, y ∈ ρc.map (·.1) → (compEnvC scope (closGo env scope.names []) C env).kindOf y = some .cell := fun y hy => lookup_relabel (hc1 y hy).1 S.kind (hc1 y hy).2
  have kx : (compEnvC scope (closGo env scope.names []) C env).kindOf x = some .local := lookup_relabel_local hx
  rw [List.nodup_cons] at hnd
  refine ⟨hkind, ⟨s₃.heap, s₃.toks, rfl⟩, fun a o e => hk a o (fun h => by rw [h1 a h] at e; cases e) (S.base a o e), fun _ => Sub.refl _, ⟨m, hns, fun y u hy hl => ?_⟩, fun y u c hy hl hc => ?_, fun n c e => ?_, fun n n' c e e' => S.apart _ _ _ (lk e) (lk e'),
    fun y hy => ?_, (fun q => nomatch q), ?_, fun p hp => ?_, S.lnd⟩
  · cases hy with
    | head => exact hm
    | tail hy => rw [kc y hy.mem] at hl; cases hl
  · cases hy with
    | head => rw [kx] at hl; cases hl
    | tail hy => exact hcell y u c (hc2 y u hy) (hc1 y hy.mem).2 (lk hc)
  · obtain ⟨⟨u, o, q, r⟩, _, _⟩ := S.cells n c (lk e)
    refine ⟨⟨u, o, hk _ o (hC' n c (lk e)) q, r⟩, Nat.ne_of_lt (Nat.lt_of_lt_of_le (Heap.lt_size q) hC), (fun q => nomatch q)⟩
  · rcases List.mem_cons.mp hy with rfl | hy
    · exact .inl kx
    · refine .inr ⟨kc y hy, closGo_has _ _ (.inl (mem_of_lookup (hc1 y hy).1))⟩
  · rw [List.map_cons, List.nodup_cons]; exact hnd
  · obtain ⟨a, b, c, _⟩ := S.led p hp
    exact ⟨hk _ _ (fun h => h2 _ h (.inr (.inr (List.mem_map_of_mem hp)))) a, Nat.ne_of_lt (Nat.lt_of_lt_of_le (Heap.lt_size a) hC), fun n e => c n (lk e), (fun q => nomatch q)⟩

abbrev lst (ys : Array Value) (k : Nat) : Obj := { cls := .type "list", data := .seq ys k }
theorem CS.new (S : CS true s₀ h₀ env ρ Λ s) {s' : Shared} {wr : List Addr} {h' : Heap} {tk : Nat} {D : Addr} {o : Obj} (e : s' = { s with heap := h', toks := tk }) (hk : ∀ a o, a ∉ wr → s.heap.get? a = some o → h'.get? a = some o) (h1 : ∀ a ∈ wr, h₀.get? a = none) (h2 : ∀ a ∈ wr, ¬ CS.own env Λ a)
    (hD : s.heap.get? D = none) (ho : h'.get? D = some o) : CS true s₀ h₀ env ρ ((D, o) :: Λ) s' := by
  subst e
  have S' : CS true s₀ h₀ env ρ Λ { s with heap := h', toks := tk } := S.but hk h1 h2
  have hno : ¬ CS.own env Λ D := fun h => by obtain ⟨o', q⟩ := S.own_at h; rw [hD] at q; cases q
  refine ⟨S'.kind, S'.same, S'.base, S'.all, S'.ns, S'.cell, S'.cells, S'.apart, S'.kinds, S'.locs, S'.nd, fun p hp => ?_, ?_⟩
  · rcases List.mem_cons.mp hp with rfl | hp
    · exact ⟨ho, fun q => hno (.inl q), fun n q => hno (.inr (.inl ⟨n, q⟩)), fun _ => S.base.none hD⟩
    · exact S'.led p hp
  · rw [List.map_cons, List.nodup_cons]
    exact ⟨fun h => hno (.inr (.inr h)), S.lnd⟩
/-- an object of the changed ones is changed no more: it is of the part that stays from now on -/
theorem CS.freeze {a : Addr} {o : Obj} (S : CS true s₀ h₀ env ρ ((a, o) :: Λ) s) : ∃ h₁, Sub h₀ h₁ ∧ h₁.get? a = some o ∧ CS true s₀ h₁ env ρ Λ s := by
  obtain ⟨e, h1, h2, h3⟩ := S.led (a, o) (List.mem_cons_self ..)
  have nd := S.lnd
  rw [List.map_cons, List.nodup_cons] at nd
  have S' : CS true s₀ h₀ env ρ Λ s := ⟨S.kind, S.same, S.base, S.all, S.ns, S.cell, S.cells, S.apart, S.kinds, S.locs, S.nd, fun p hp => S.led p (List.mem_cons_of_mem _ hp), nd.2⟩
  obtain ⟨h₁, k1, k2, k3⟩ := S'.wide
  refine ⟨h₁, k1, k3 a o e ?_, k2⟩
  rintro (q | ⟨n, q⟩ | q)
  · exact h1 q
  · exact h2 n q
  · exact nd.1 q

/-- a list comprehension of one clause over what an iterator hands out -/
def CompK (prog : Program) (w : World) (A : Around) (s₀ : Shared) (h₀ : Heap) (env : Env) (ρ ρc : Rho) (Λ : List (Addr × Obj)) (scope : Scope) (x : Str) (ifs : List Expr) (elt : Expr) (p : Value → Bool) (F : Value → Value → Prop) (Fin : Addr → Obj → Prop) (it : Value) (s₂ : Shared) : Prop :=
  ∃ I fp wr n P St, it = .ref I ∧ Walks prog w A I fp wr n P St ∧ n ≤ sizeLine ∧ St 0 s₂.heap ∧ (∀ b ∈ fp, b < s₂.heap.objs.size) ∧ CS true s₀ h₀ env ρ Λ s₂ ∧ (∀ a ∈ wr, h₀.get? a = none) ∧ (∀ a ∈ wr, ¬ CS.own env Λ a) ∧
  (∀ C i v s₃ E', P i v → CS false s₃ h₀ (compEnvC scope (closGo env scope.names []) C env) ((x, some v) :: ρc) Λ s₃ →
    wpAny (model prog w) A (forIn ifs true fun c r => if r = true then do let ok ← isTrue c (compEnvC scope (closGo env scope.names []) C env) (eval c (compEnvC scope (closGo env scope.names []) C env)); pure (ForInStep.yield ok) else pure (ForInStep.yield r))
      (fun ok s₄ => ok = p v ∧ Keeps s₃ s₄) E' s₃) ∧
  (∀ C i v s₃ E', P i v → p v = true → CS false s₃ h₀ (compEnvC scope (closGo env scope.names []) C env) ((x, some v) :: ρc) Λ s₃ →
    wpAny (model prog w) A (eval elt (compEnvC scope (closGo env scope.names []) C env)) (fun y s₄ => F v y ∧ Keeps s₃ s₄) E' s₃) ∧
  (∀ D k ys (vs : List Value), vs.length = n → (∀ j v, vs[j]? = some v → P j v) → Paired F (vs.filter p) ys.toList → s₂.heap.get? D = none → Fin D (lst ys k))

theorem QuietOnC.ofCS {scope : Scope} {x : Str} {ifs : List Expr} {elt : Expr} {wr : List Addr} {P : Nat → Value → Prop} {p : Value → Bool} {F : Value → Value → Prop} (S : CS true s₀ h₀ env ρ Λ s₂) (h1 : ∀ a ∈ wr, h₀.get? a = none) (h2 : ∀ a ∈ wr, ¬ CS.own env Λ a)
    (hkind : scope.kind = .function) (hx : scope.names.lookup x = some .local) (hfree : ∀ n, (n, NameKind.free) ∈ scope.names → ∃ c, env.cells.lookup n = some c)
    (hc1 : ∀ y, y ∈ ρc.map (·.1) → scope.names.lookup y = some .free ∧ env.kindOf y = some .cell) (hc2 : ∀ y u, Look y u ρc → Look y u ρ) (hnd : ((x :: ρc.map (·.1))).Nodup)
    (ht : ∀ C i v s₃ E', P i v → CS false s₃ h₀ (compEnvC scope (closGo env scope.names []) C env) ((x, some v) :: ρc) Λ s₃ →
      wpAny (model prog w) A (forIn ifs true fun c r => if r = true then do let ok ← isTrue c (compEnvC scope (closGo env scope.names []) C env) (eval c (compEnvC scope (closGo env scope.names []) C env)); pure (ForInStep.yield ok) else pure (ForInStep.yield r))
        (fun ok s₄ => ok = p v ∧ Keeps s₃ s₄) E' s₃)
    (he : ∀ C i v s₃ E', P i v → p v = true → CS false s₃ h₀ (compEnvC scope (closGo env scope.names []) C env) ((x, some v) :: ρc) Λ s₃ →
      wpAny (model prog w) A (eval elt (compEnvC scope (closGo env scope.names []) C env)) (fun y s₄ => F v y ∧ Keeps s₃ s₄) E' s₃) :
    QuietOnC prog w A env scope (closGo env scope.names []) x ifs elt wr P p F s₂ where
  tests := fun C i v s₃ _ E' hC hP hns hm hk _ => ht C i v s₃ E' hP (compCS S hC hns hm hk h1 h2 hkind hx hfree hc1 hc2 hnd)
  elt := fun C i v s₃ _ E' hC hP hp hns hm hk _ => he C i v s₃ E' hP hp (compCS S hC hns hm hk h1 h2 hkind hx hfree hc1 hc2 hnd)

theorem ListComp_CS {elt iter : Expr} {x : Str} {px : Pos} {ifs : List Expr} {scope : Scope} {pos : Pos} {Q : Value → Shared → Prop} (ρc : Rho) (p : Value → Bool) (F : Value → Value → Prop)
    (hfree : ∀ n, (n, NameKind.free) ∈ scope.names → ∃ c, env.cells.lookup n = some c) (hcell : ∀ y ∈ scope.names, y.2 ≠ .cell) (hkind : scope.kind = .function)
    (hnames : ∀ y ∈ scope.names, y.2 = .local → scope.names.lookup y.1 = some .local) (hx : scope.names.lookup x = some .local)
    (hc1 : ∀ y, y ∈ ρc.map (·.1) → scope.names.lookup y = some .free ∧ env.kindOf y = some .cell) (hc2 : ∀ y u, Look y u ρc → Look y u ρ) (hnd : ((x :: ρc.map (·.1))).Nodup)
    (h : wpAny (model prog w) A (eval iter env) (fun xv s₁ => wpAny (model prog w) A (pyIter xv) (CompK prog w A s₀ h₀ env ρ ρc Λ scope x ifs elt p F (fun D o => ∀ s', CS true s₀ h₀ env ρ ((D, o) :: Λ) s' → Q (.ref D) s')) E s₁) E s)
    (hs : ∀ x, foldedSetIterable iter env x = pure x) :
    wpAny (model prog w) A (eval (.ListComp elt [⟨.Name x px, iter, ifs, 0⟩] scope pos) env) Q E s := by
  refine wpAny_ListComp_free p F (closureFor_go hfree) hcell hkind hnames hx (wpAny_mono h (fun xv s₁ h₁ => wpAny_mono h₁ (fun it s₂ h₂ => ?_) fun _ _ e => e) fun _ _ e => e) hs
  obtain ⟨I, fp, wr, n, P, St, e, W, hsz, hst, hfp, S, h1, h2, ht, he, hQ⟩ := h₂
  refine ⟨I, fp, wr, n, P, St, e, W, hsz, hst, hfp, QuietOnC.ofCS S h1 h2 hkind hx hfree hc1 hc2 hnd ht he, ?_⟩
  intro D h' tk ys vs hD _ hpl hlen hP hF hk
  obtain ⟨k, hpl⟩ := hpl
  exact hQ D k ys vs hlen hP hF hD _ (S.new rfl hk h1 h2 hD hpl)

/-- the same, stored at once (the comprehension's own names are let go behind the store) -/
theorem Assign_ListComp_CS {elt iter : Expr} {x y : Str} {px py : Pos} {ifs : List Expr} {scope : Scope} {pos spos : Pos} {Q : Flow → Shared → Prop} (ρc : Rho) (p : Value → Bool) (F : Value → Value → Prop)
    (hsw : swapsWith (.ListComp elt [⟨.Name x px, iter, ifs, 0⟩] scope pos) (some (.Name y py)) spos.line env = pure true)
    (hfree : ∀ n, (n, NameKind.free) ∈ scope.names → ∃ c, env.cells.lookup n = some c) (hcell : ∀ y ∈ scope.names, y.2 ≠ .cell) (hkind : scope.kind = .function)
    (hnames : ∀ y ∈ scope.names, y.2 = .local → scope.names.lookup y.1 = some .local) (hx : scope.names.lookup x = some .local) (hy : env.kindOf y = some .local) (hek : env.scope.kind = .function)
    (hc1 : ∀ y, y ∈ ρc.map (·.1) → scope.names.lookup y = some .free ∧ env.kindOf y = some .cell) (hc2 : ∀ y u, Look y u ρc → Look y u ρ) (hnd : ((x :: ρc.map (·.1))).Nodup)
    (h : wpAny (model prog w) A (eval iter env) (fun xv s₁ => wpAny (model prog w) A (pyIter xv) (CompK prog w A s₀ h₀ env ρ ρc Λ scope x ifs elt p F
      (fun D o => ∃ ρ', Put y (.ref D) ρ ρ' ∧ ∀ s', CS true s₀ h₀ env ρ' ((D, o) :: Λ) s' → Q .next s')) E s₁) E s)
    (hs : ∀ x, foldedSetIterable iter env x = pure x) :
    wpAny (model prog w) A (exec (.Assign [.Name y py] (.ListComp elt [⟨.Name x px, iter, ifs, 0⟩] scope pos) spos) env) Q E s := by
  refine wpAny_Assign_ListComp_free p F hsw (closureFor_go hfree) hcell hkind hnames hx hy (by rw [hek]; rfl) (wpAny_mono h (fun xv s₁ h₁ => wpAny_mono h₁ (fun it s₂ h₂ => ?_) fun _ _ e => e) fun _ _ e => e) hs
  obtain ⟨I, fp, wr, n, P, St, e, W, hsz, hst, hfp, S, h1, h2, ht, he, hQ⟩ := h₂
  obtain ⟨m, hm, hm'⟩ := S.ns
  refine ⟨I, fp, wr, n, P, St, m, e, W, hsz, hst, hfp, fun q => h2 _ q (.inl rfl), hm, QuietOnC.ofCS S h1 h2 hkind hx hfree hc1 hc2 hnd ht he, ?_⟩
  intro D h' tk ys vs hD _ hpl hlen hP hF hns hk
  obtain ⟨k, hpl⟩ := hpl
  have hDL : D ≠ env.locals := fun q => by obtain ⟨o, _, _, e, _⟩ := hm; rw [q] at hD; rw [hD] at e; cases e
  -- the heap with the frame's names as they were: only for the facts
  have hno : ¬ CS.own env Λ D := fun h => by obtain ⟨o', q⟩ := S.own_at h; rw [hD] at q; cases q
  have hC' : ∀ n c, env.cells.lookup n = some c → c ∉ wr := fun n c e h => h2 _ h (.inr (.inl ⟨n, e⟩))
  have mk : ∀ ρ', Put y (.ref D) ρ ρ' → CS true s₀ h₀ env ρ' ((D, lst ys k) :: Λ) { s₂ with heap := h', toks := tk } := fun ρ' hput => by
    refine ⟨S.kind, ?_, fun a o e => hk a o (fun q => ?_) (fun q => ?_) (S.base a o e), (fun q => nomatch q), ⟨_, hns, fun z u hz hl => ?_⟩, fun z u c hz hl hc => ?_, fun n c e => ?_, S.apart, fun z hz => S.kinds z (hput.names ▸ hz), S.locs, hput.names ▸ S.nd, fun q hq => ?_, ?_⟩
    · obtain ⟨h, t, rfl⟩ := S.same; exact ⟨h', tk, rfl⟩
    · rw [q, S.locs rfl] at e; cases e
    · rw [h1 a q] at e; cases e
    · rcases hput.look S.nd hz with ⟨rfl, rfl⟩ | ⟨q1, q2⟩
      · exact if_pos rfl
      · exact (if_neg q1).trans (hm' z u q2 hl)
    · rcases hput.look S.nd hz with ⟨rfl, rfl⟩ | ⟨q1, q2⟩
      · rw [hy] at hl; cases hl
      · obtain ⟨o, e, r⟩ := S.cell z u c q2 hl hc
        exact ⟨o, hk _ o (S.cells z c hc).2.1 (hC' z c hc) e, r⟩
    · obtain ⟨⟨u, o, e', r'⟩, r⟩ := S.cells n c e
      exact ⟨⟨u, o, hk _ o r.1 (hC' n c e) e', r'⟩, r⟩
    · rcases List.mem_cons.mp hq with rfl | hq
      · exact ⟨hpl, hDL, fun n q => hno (.inr (.inl ⟨n, q⟩)), fun _ => S.base.none hD⟩
      · obtain ⟨a, b, r⟩ := S.led q hq
        exact ⟨hk _ _ b (fun h => h2 _ h (.inr (.inr (List.mem_map_of_mem hq)))) a, b, r⟩
    · rw [List.map_cons, List.nodup_cons]
      exact ⟨fun h => hno (.inr (.inr h)), S.lnd⟩
  obtain ⟨ρ', hput, hq⟩ := hQ D k ys vs hlen hP hF hD
  exact hq _ (mk ρ' hput)
end
end Fl

namespace Fl
open PySem PySem.W PySem.Calls PyProof.Rows

/-- what of the text's own objects, of its names and of the built-in names stands -/
structure Gr (K : Frag) (h : Heap) : Prop where
  X : K.In h
  g : ∃ mg, h.Ns mainGlobals mg
  b : ∃ mb, h.Ns builtinsNs mb ∧ ∀ x : Str, x ≠ "__name__" → mb x = bootBuiltins x
  lim : h.NoLimit
  tr : ∃ p loose mg mb, TopRead p loose mg mb h
theorem Gr.mono {K : Frag} {h h' : Heap} (G : Gr K h) (k : Sub h h') : Gr K h' :=
  ⟨G.X.keeps k, let ⟨m, a⟩ := G.g; ⟨m, a.keeps k⟩, let ⟨m, a, b⟩ := G.b; ⟨m, a.keeps k, b⟩, G.lim.keeps k, let ⟨p, l, m, n, a⟩ := G.tr; ⟨p, l, m, n, a.keeps k⟩⟩
theorem Gr.of {K : Frag} {h : Heap} {p : Program} {loose : List Str} {mean : ExcName → Option Value} {mg mb : Str → Option Value} (X : K.In h) (T : Top p loose mean mg mb h) : Gr K h :=
  ⟨X, ⟨_, T.g⟩, ⟨_, T.b, T.builtins⟩, T.nolimit, ⟨_, _, _, _, topRead_of T⟩⟩

/-- room for n more frames; nothing is being handled -/
structure Room (A : Around) (n : Nat) : Prop where
  depth : A.depth + n < recursionLimit
  units : A.units + 8 * n + 200 < cLine
  handled : A.handled = none
theorem Room.in_ {A : Around} {n k : Nat} {env : Env} (r : Room A n) (h : k + 1 ≤ n) : Room (A.deeper env) k :=
  ⟨by have := r.depth; show A.depth + 1 + k < _; omega, by have := r.units; show A.units + 3 + 8 * k + 200 < _; omega, r.handled⟩
theorem Room.le {A : Around} {n k : Nat} (r : Room A n) (h : k ≤ n) : Room A k := ⟨by have := r.depth; omega, by have := r.units; omega, r.handled⟩

section
variable {prog : Program} {w : World} {A : Around} {E : Value → Shared → Prop} {s s₀ : Shared} {h₀ : Heap} {env : Env} {ρ ρ' : Rho} {Λ : List (Addr × Obj)} {b : Bool} {K : Frag}

-- names
theorem n_var {x : Str} {pos : Pos} {v : Value} {Q : Value → Shared → Prop} (S : CS b s₀ h₀ env ρ Λ s) (hx : Look x v ρ) (hd : (x == ("__debug__" : Str)) = false) (h : Q v s) : wpAny (model prog w) A (eval (.Name x pos) env) Q E s :=
  wpAny_Name (S.look hx h) hd
theorem n_glob {x : Str} {pos : Pos} {v : Value} {Q : Value → Shared → Prop} (S : CS b s₀ h₀ env ρ Λ s) (G : Gr K h₀) (e : nsIn K mainGlobals x = some (some v)) (hx : env.kindOf x = some .globalImplicit) (hg : env.globals = mainGlobals) (hd : (x == ("__debug__" : Str)) = false) (h : Q v s) :
    wpAny (model prog w) A (eval (.Name x pos) env) Q E s := by
  refine Calls.Name_function_global S.kind hx ?_ hd
  unfold loadGlobal
  refine wpAny_bind ?_
  rw [hg]
  refine looks_nsIn G.X e _ _ _ _ S.base ?_
  exact wpAny_pure h
theorem n_built {x : Str} {pos : Pos} {v : Value} {Q : Value → Shared → Prop} (S : CS b s₀ h₀ env ρ Λ s) (G : Gr K h₀) (e : nsIn K mainGlobals x = some none) (hv : bootBuiltins x = some v) (hn : x ≠ "__name__") (hx : env.kindOf x = some .globalImplicit) (hg : env.globals = mainGlobals)
    (hb : env.builtins = builtinsNs) (hd : (x == ("__debug__" : Str)) = false) (h : Q v s) : wpAny (model prog w) A (eval (.Name x pos) env) Q E s := by
  obtain ⟨mg, hm⟩ := G.g
  obtain ⟨mb, hb1, hb2⟩ := G.b
  exact Calls.Name_function_global S.kind hx (Calls.loadGlobal_builtin (by rw [hg]; exact hm.keeps S.base) (mg_none_of G.X hm e) (by rw [hb]; exact hb1.keeps S.base) ((hb2 x hn).trans hv) h) hd

-- constants
theorem c_int {i : Int} {k : Nat} {pos : Pos} {Q : Value → Shared → Prop} (S : CS b s₀ h₀ env ρ Λ s) (h : ∀ t s', CS b s₀ h₀ env ρ Λ s' → Q (.int i t) s') : wpAny (model prog w) A (eval (.Constant (.int i) k pos) env) Q E s := wpAny_Constant_int (h _ _ (S.tok _))
theorem c_str {x : Str} {k : Nat} {pos : Pos} {Q : Value → Shared → Prop} (S : CS b s₀ h₀ env ρ Λ s) (h : ∀ t s', CS b s₀ h₀ env ρ Λ s' → Q (.str x t) s') : wpAny (model prog w) A (eval (.Constant (.str x) k pos) env) Q E s := wpAny_Constant_str (h _ _ (S.tok _))

-- ints
theorem o_add {x y : Int} {t u : Tok} {Q : Value → Shared → Prop} (S : CS b s₀ h₀ env ρ Λ s) (h : ∀ t s', CS b s₀ h₀ env ρ Λ s' → Q (.int (x + y) t) s') : wpAny (model prog w) A (binaryOp .Add (.int x t) (.int y u)) Q E s := PyProof.Rows.add_int (h _ _ (S.tok _))
theorem o_sub {x y : Int} {t u : Tok} {Q : Value → Shared → Prop} (S : CS b s₀ h₀ env ρ Λ s) (h : ∀ t s', CS b s₀ h₀ env ρ Λ s' → Q (.int (x - y) t) s') : wpAny (model prog w) A (binaryOp .Sub (.int x t) (.int y u)) Q E s := PySem.P.sub_int (h _ _ (S.tok _))
theorem o_mul {x y : Int} {t u : Tok} {Q : Value → Shared → Prop} (S : CS b s₀ h₀ env ρ Λ s) (hm : IntMulOk x y) (h : ∀ t s', CS b s₀ h₀ env ρ Λ s' → Q (.int (x * y) t) s') : wpAny (model prog w) A (binaryOp .Mult (.int x t) (.int y u)) Q E s := PyProof.Rows.mul_int (h _ _ (S.tok _)) hm
theorem o_div {x y : Int} {t u : Tok} {Q : Value → Shared → Prop} (S : CS b s₀ h₀ env ρ Λ s) (hy : 0 < y) (hy2 : y < 1073741824) (h : ∀ t s', CS b s₀ h₀ env ρ Λ s' → Q (.int (x / y) t) s') : wpAny (model prog w) A (binaryOp .FloorDiv (.int x t) (.int y u)) Q E s :=
  PyProof.Rows.floordiv_int (by omega) (by rw [Int.fdiv_eq_ediv_of_nonneg _ (by omega)]; exact h _ _ (S.tok _)) (.inl (PyProof.noPylong_small (by omega)))
theorem o_mod {x y : Int} {t u : Tok} {Q : Value → Shared → Prop} (S : CS b s₀ h₀ env ρ Λ s) (hy : 0 < y) (h : ∀ t s', CS b s₀ h₀ env ρ Λ s' → Q (.int (x % y) t) s') : wpAny (model prog w) A (binaryOp .Mod (.int x t) (.int y u)) Q E s :=
  PyProof.Rows.mod_int (by omega) (by rw [Int.fmod_eq_emod_of_nonneg _ (by omega)]; exact h _ _ (S.tok _))
theorem o_neg {x : Int} {t : Tok} {Q : Value → Shared → Prop} (S : CS b s₀ h₀ env ρ Λ s) (h : ∀ t s', CS b s₀ h₀ env ρ Λ s' → Q (.int (-x) t) s') : wpAny (model prog w) A (unaryOp .USub (.int x t)) Q E s := PySem.P.neg_int (h _ _ (S.tok _))

-- branches
theorem i_dec {c : Prop} [Decidable c] {P Q : Prop} (ht : c → P) (hf : ¬ c → Q) : if decide c = true then P else Q := by
  by_cases h : c
  · rw [if_pos (decide_eq_true h)]; exact ht h
  · rw [if_neg (by rw [decide_eq_false h]; exact Bool.false_ne_true)]; exact hf h
theorem i_eq {α : Type} [BEq α] [LawfulBEq α] {x y : α} {P Q : Prop} (ht : x = y → P) (hf : x ≠ y → Q) : if (x == y) = true then P else Q := by
  by_cases h : (x == y) = true
  · rw [if_pos h]; exact ht (beq_iff_eq.mp h)
  · rw [if_neg h]; exact hf fun q => h (beq_iff_eq.mpr q)
theorem i_ne {α : Type} [BEq α] [LawfulBEq α] {x y : α} {P Q : Prop} (ht : x ≠ y → P) (hf : x = y → Q) : if (x != y) = true then P else Q := by
  by_cases h : x = y
  · rw [if_neg (by rw [h]; simp)]; exact hf h
  · rw [if_pos (by simpa using h)]; exact ht h
theorem i_not {c : Bool} {P Q : Prop} (h : if c = true then Q else P) : if (!c) = true then P else Q := by cases c <;> exact h
theorem i_tt {P Q : Prop} (h : P) : if true = true then P else Q := h
theorem i_ff {P Q : Prop} (h : Q) : if false = true then P else Q := h
theorem i_bool {c : Bool} {P Q : Prop} (ht : c = true → P) (hf : c = false → Q) : if c = true then P else Q := by
  cases c
  · exact hf rfl
  · exact ht rfl

-- an object of a class of the text: what its fields hold
structure ObjAt (h : Heap) (C x : Addr) (flds : List (Str × Value)) : Prop where
  nd : (flds.map (·.1)).Nodup
  at_ : ∃ ox od, W.InstAt h x ox C (some od) ∧ ∀ n, lookIn n od = some (flds.lookup n)
theorem InstAt.mono {h h' : Heap} {x C : Addr} {ox : Obj} {od : Option Obj} (I : W.InstAt h x ox C od) (k : Sub h h') : W.InstAt h' x ox C od := by
  refine ⟨k _ _ I.at_, I.cls, I.no, ?_⟩
  have := I.dict
  revert this
  cases ox.dict <;> cases od <;> first | exact id | exact fun e => k _ _ e
theorem ObjAt.mono {h h' : Heap} {C x : Addr} {flds : List (Str × Value)} (O : ObjAt h C x flds) (k : Sub h h') : ObjAt h' C x flds := by
  obtain ⟨ox, od, I, l⟩ := O.at_
  exact ⟨O.nd, ox, od, InstAt.mono I k, l⟩

/-- a name that is no attribute of the class: it is read from the object alone -/
def fieldIn (K : Frag) (C : Addr) (name : Str) : Bool :=
  findIn K (.ref C) "__getattribute__" == some (some (.builtin "object.__getattribute__")) && findIn K (.ref C) name == some none && (clsIn K C).any (·.hasDict)
theorem a_field {C x : Addr} {flds : List (Str × Value)} {name : Str} {v : Value} {expr : Bool} {Q : Value → Shared → Prop} (S : CS b s₀ h₀ env ρ Λ s) (X : K.In s.heap) (O : ObjAt s.heap C x flds) (hc : fieldIn K C name = true) (hl : flds.lookup name = some v) (hh : handedIn v = true)
    (h : ∀ s', CS b s₀ h₀ env ρ Λ s' → Q v s') : wpAny (model prog w) A (getAttr (.ref x) name expr) Q E s := by
  obtain ⟨ox, od, I, l⟩ := O.at_
  unfold fieldIn at hc
  simp only [Bool.and_eq_true, beq_iff_eq] at hc
  obtain ⟨⟨h1, h2⟩, h3⟩ := hc
  refine get_value X I h1 ?_ hh (h _ (S.tok _))
  cases hcd : clsIn K C with
  | none => rw [hcd] at h3; cases h3
  | some cd =>
    rw [hcd] at h3
    have h3' : cd.hasDict = true := h3
    unfold findObj
    rw [hcd]
    simp only [Option.bind_some, h2, W.ownOf, h3', if_true, l, hl]
theorem a_fld {C x : Addr} {flds : List (Str × Value)} {name : Str} {v : Value} {expr : Bool} {Q : Value → Shared → Prop} (S : CS b s₀ h₀ env ρ Λ s) (G : Gr K h₀) (O : ObjAt s.heap C x flds) (hc : fieldIn K C name = true) (hl : (name, v) ∈ flds) (hh : handedIn v = true)
    (h : ∀ s', CS b s₀ h₀ env ρ Λ s' → Q v s') : wpAny (model prog w) A (getAttr (.ref x) name expr) Q E s := a_field S (G.mono S.base).X O hc (lookup_of_nodup O.nd hl) hh h
def methIn (K : Frag) (C : Addr) (name : Str) (f : Addr) : Bool :=
  findIn K (.ref C) "__getattribute__" == some (some (.builtin "object.__getattribute__")) && findIn K (.ref C) "__getattr__" == some none && findIn K (.ref C) name == some (some (.ref f)) && typeIn K (.ref f) == some (.type "function") && keepIn K (.ref f)
theorem m_get {C x f : Addr} {flds : List (Str × Value)} {name : Str} {pl : Sem Bool} {Q : Value × List Value → Shared → Prop} (X : K.In s.heap) (O : ObjAt s.heap C x flds) (hc : methIn K C name f = true) (hl : flds.lookup name = none)
    (h : Q (.ref f, [.ref x]) s) : wpAny (model prog w) A (getMethod (.ref x) name pl) Q E s := by
  obtain ⟨ox, od, I, l⟩ := O.at_
  unfold methIn at hc
  simp only [Bool.and_eq_true, beq_iff_eq] at hc
  obtain ⟨⟨⟨⟨h1, h2⟩, h3⟩, h4⟩, h5⟩ := hc
  refine method_fn X I h1 h2 h3 h4 ?_ h
  unfold shadowIn
  simp only [l, hl]; rfl
theorem methIn_keep {C f : Addr} {name : Str} (hc : methIn K C name f = true) : keepIn K (.ref f) = true := by
  unfold methIn at hc
  simp only [Bool.and_eq_true] at hc
  exact hc.2

/-- a def or a class of the text, called by its name -/
structure GF (K : Frag) (x : Str) (f : Addr) : Prop where
  ns : nsIn K mainGlobals x = some (some (.ref f))
  keep : keepIn K (.ref f) = true
  nd : (x == ("__debug__" : Str)) = false
/-- a global name that holds a plain value -/
structure GV (K : Frag) (x : Str) (v : Value) : Prop where
  ns : nsIn K mainGlobals x = some (some v)
  nd : (x == ("__debug__" : Str)) = false
/-- a built-in name that the text leaves alone -/
structure GB (K : Frag) (x : Str) (v : Value) : Prop where
  ns : nsIn K mainGlobals x = some none
  boot : bootBuiltins x = some v
  nn : x ≠ "__name__"
  nd : (x == ("__debug__" : Str)) = false
theorem n_gv {x : Str} {pos : Pos} {v : Value} {Q : Value → Shared → Prop} (S : CS b s₀ h₀ env ρ Λ s) (G : Gr K h₀) (g : GV K x v) (hx : env.kindOf x = some .globalImplicit) (hg : env.globals = mainGlobals) (h : Q v s) :
    wpAny (model prog w) A (eval (.Name x pos) env) Q E s := n_glob S G g.ns hx hg g.nd h
theorem n_gf {x : Str} {pos : Pos} {f : Addr} {Q : Value → Shared → Prop} (S : CS b s₀ h₀ env ρ Λ s) (G : Gr K h₀) (g : GF K x f) (hx : env.kindOf x = some .globalImplicit) (hg : env.globals = mainGlobals) (h : Q (.ref f) s) :
    wpAny (model prog w) A (eval (.Name x pos) env) Q E s := n_glob S G g.ns hx hg g.nd h
theorem n_gb {x : Str} {pos : Pos} {v : Value} {Q : Value → Shared → Prop} (S : CS b s₀ h₀ env ρ Λ s) (G : Gr K h₀) (g : GB K x v) (hx : env.kindOf x = some .globalImplicit) (hg : env.globals = mainGlobals) (hb : env.builtins = builtinsNs) (h : Q v s) :
    wpAny (model prog w) A (eval (.Name x pos) env) Q E s := n_built S G g.ns g.boot g.nn hx hg hb g.nd h
theorem callN {x : Str} {f : Addr} {np pos : Pos} {e : Expr} {rest : List Expr} {Q : Value → Shared → Prop} (S : CS b s₀ h₀ env ρ Λ s) (G : Gr K h₀) (g : GF K x f) (hx : env.kindOf x = some .globalImplicit) (hg : env.globals = mainGlobals)
    (h : wpAny (model prog w) A (spliced (backTo pos (starEach (e :: rest) env))) (fun vs s₁ => K.In s₁.heap ∧ wpAny (model prog w) A (call (.ref f) vs) Q E s₁) E s)
    (he : starEach (e :: rest) env = (false, eval e env) :: starEach rest env) (hplain : (backTo pos (starEach rest env)).any (·.1) = false) :
    wpAny (model prog w) A (eval (.Call (.Name x np) (e :: rest) [] pos) env) Q E s :=
  PyProof.Rows.Call_ (n_glob S G g.ns hx hg g.nd (callWith_K G.X g.keep h he hplain))
/-- a built-in function, or a built-in class, called by its name -/
theorem callB {x : Str} {id : String} {np pos : Pos} {e : Expr} {rest : List Expr} {Q : Value → Shared → Prop} (S : CS b s₀ h₀ env ρ Λ s) (G : Gr K h₀) (g : GB K x (.builtin id)) (hx : env.kindOf x = some .globalImplicit) (hg : env.globals = mainGlobals) (hb : env.builtins = builtinsNs)
    (h : wpAny (model prog w) A (spliced (backTo pos (starEach (e :: rest) env))) (fun vs s₁ => wpAny (model prog w) A (call (.builtin id) vs) Q E s₁) E s)
    (he : starEach (e :: rest) env = (false, eval e env) :: starEach rest env) (hplain : (backTo pos (starEach rest env)).any (·.1) = false) :
    wpAny (model prog w) A (eval (.Call (.Name x np) (e :: rest) [] pos) env) Q E s := by
  refine PyProof.Rows.Call_ (n_gb S G g hx hg hb ?_)
  have hb' : backTo pos (starEach (e :: rest) env) = (false, eval e env) :: backTo pos (starEach rest env) := by rw [he]; rfl
  rw [hb'] at h ⊢
  exact Calls.callWith_builtin (by rw [List.any_cons]; exact hplain) (Calls.evalArgs_plain h)
theorem callT {x : Str} {T : String} {np pos : Pos} {e : Expr} {rest : List Expr} {Q : Value → Shared → Prop} (S : CS b s₀ h₀ env ρ Λ s) (G : Gr K h₀) (g : GB K x (.type T)) (hx : env.kindOf x = some .globalImplicit) (hg : env.globals = mainGlobals) (hb : env.builtins = builtinsNs)
    (h : wpAny (model prog w) A (spliced (backTo pos (starEach (e :: rest) env))) (fun vs s₁ => wpAny (model prog w) A (call (.type T) vs) Q E s₁) E s)
    (he : starEach (e :: rest) env = (false, eval e env) :: starEach rest env) (hplain : (backTo pos (starEach rest env)).any (·.1) = false) :
    wpAny (model prog w) A (eval (.Call (.Name x np) (e :: rest) [] pos) env) Q E s := by
  refine PyProof.Rows.Call_ (n_gb S G g hx hg hb ?_)
  have hb' : backTo pos (starEach (e :: rest) env) = (false, eval e env) :: backTo pos (starEach rest env) := by rw [he]; rfl
  rw [hb'] at h ⊢
  exact PySem.callWith_type (by rw [List.any_cons]; exact hplain) (Calls.evalArgs_plain h)
/-- a method of a built-in object -/
theorem cw_meth {id : String} {self : Value} {pos : Pos} {e : Expr} {rest : List Expr} {Q : Value → Shared → Prop}
    (h : wpAny (model prog w) A (spliced (backTo pos (starEach (e :: rest) env))) (fun vs s₁ => wpAny (model prog w) A (call (.builtin id) (self :: vs)) Q E s₁) E s)
    (he : starEach (e :: rest) env = (false, eval e env) :: starEach rest env) (hplain : (backTo pos (starEach rest env)).any (·.1) = false) :
    wpAny (model prog w) A (callWith pos (.builtin id) [self] (backTo pos (starEach (e :: rest) env)) []) Q E s := by
  have hb' : backTo pos (starEach (e :: rest) env) = (false, eval e env) :: backTo pos (starEach rest env) := by rw [he]; rfl
  rw [hb'] at h ⊢
  exact Calls.callWith_builtin (by rw [List.any_cons]; exact hplain) (Calls.evalArgs_plain h)
theorem cw_meth0 {id : String} {self : Value} {pos : Pos} {Q : Value → Shared → Prop} (h : wpAny (model prog w) A (call (.builtin id) [self]) Q E s) :
    wpAny (model prog w) A (callWith pos (.builtin id) [self] (backTo pos (starEach [] env)) []) Q E s :=
  Calls.callWith_builtin rfl (PySem.evalArgs_none h)
/-- a method of the text's own -/
theorem cw_own {f : Addr} {self : Value} {pos : Pos} {e : Expr} {rest : List Expr} {Q : Value → Shared → Prop} (G : Gr K h₀) (hk : keepIn K (.ref f) = true)
    (h : wpAny (model prog w) A (spliced (backTo pos (starEach (e :: rest) env))) (fun vs s₁ => K.In s₁.heap ∧ wpAny (model prog w) A (call (.ref f) (self :: vs)) Q E s₁) E s)
    (he : starEach (e :: rest) env = (false, eval e env) :: starEach rest env) (hplain : (backTo pos (starEach rest env)).any (·.1) = false) :
    wpAny (model prog w) A (callWith pos (.ref f) [self] (backTo pos (starEach (e :: rest) env)) []) Q E s := callWith_K G.X hk h he hplain
theorem cw_own0 {f : Addr} {self : Value} {pos : Pos} {Q : Value → Shared → Prop} (X : K.In s.heap) (hk : keepIn K (.ref f) = true) (h : wpAny (model prog w) A (call (.ref f) [self]) Q E s) :
    wpAny (model prog w) A (callWith pos (.ref f) [self] (backTo pos (starEach [] env)) []) Q E s := callWith_K0 X hk h
end
end Fl

namespace Fl
open PySem PySem.W PySem.Calls PyProof.Rows

/-- an object of the changed ones is changed -/
inductive Chg (a : Addr) (o o' : Obj) : List (Addr × Obj) → List (Addr × Obj) → Prop
  | head {r} : Chg a o o' ((a, o) :: r) ((a, o') :: r)
  | tail {p r r'} : Chg a o o' r r' → Chg a o o' (p :: r) (p :: r')
theorem Chg.adr {a : Addr} {o o' : Obj} {Λ Λ' : List (Addr × Obj)} (h : Chg a o o' Λ Λ') : Λ'.map (·.1) = Λ.map (·.1) := by
  induction h with
  | head => rfl
  | tail _ ih => simp only [List.map_cons, ih]
theorem Chg.mem {a : Addr} {o o' : Obj} {Λ Λ' : List (Addr × Obj)} (h : Chg a o o' Λ Λ') : (a, o) ∈ Λ := by
  induction h with
  | head => exact List.mem_cons_self ..
  | tail _ ih => exact List.mem_cons_of_mem _ ih
theorem Chg.look {a : Addr} {o o' : Obj} {Λ Λ' : List (Addr × Obj)} (h : Chg a o o' Λ Λ') (nd : (Λ.map (·.1)).Nodup) {p : Addr × Obj} (hp : p ∈ Λ') : p = (a, o') ∨ (p.1 ≠ a ∧ p ∈ Λ) := by
  induction h with
  | head =>
    rw [List.map_cons, List.nodup_cons] at nd
    rcases List.mem_cons.mp hp with rfl | hp
    · exact .inl rfl
    · refine .inr ⟨fun q => nd.1 ?_, List.mem_cons_of_mem _ hp⟩
      have := List.mem_map_of_mem (f := (·.1)) hp
      rw [q] at this; exact this
  | tail hc ih =>
    rw [List.map_cons, List.nodup_cons] at nd
    rcases List.mem_cons.mp hp with rfl | hp
    · refine .inr ⟨fun q => nd.1 ?_, List.mem_cons_self ..⟩
      have := List.mem_map_of_mem (f := (·.1)) hc.mem
      rw [q]; exact this
    · rcases ih nd.2 hp with q | ⟨q1, q2⟩
      · exact .inl q
      · exact .inr ⟨q1, List.mem_cons_of_mem _ q2⟩

namespace CS
variable {b : Bool} {s₀ s s' : Shared} {h₀ h₁ : Heap} {env : Env} {ρ ρ' : Rho} {Λ Λ' : List (Addr × Obj)}
theorem chg (S : CS true s₀ h₀ env ρ Λ s) {a : Addr} {o o' : Obj} {h' : Heap} {tk : Nat} (U : Chg a o o' Λ Λ') (hs : ∀ c x, c ≠ a → s.heap.get? c = some x → h'.get? c = some x) (ho : h'.get? a = some o') : CS true s₀ h₀ env ρ Λ' { s with heap := h', toks := tk } := by
  obtain ⟨e, e1, e2, e3⟩ := S.led (a, o) U.mem
  refine ⟨S.kind, ?_, fun c x q => hs c x (fun w => ?_) (S.base c x q), (fun q => nomatch q), ?_, fun x v c a1 a2 a3 => ?_, fun n c q => ?_, S.apart, S.kinds, S.locs, S.nd, fun p hp => ?_, U.adr ▸ S.lnd⟩
  · obtain ⟨h, t, rfl⟩ := S.same; exact ⟨h', tk, rfl⟩
  · rw [w, e3 rfl] at q; cases q
  · obtain ⟨m, hn, hm⟩ := S.ns; exact ⟨m, hn.at' fun o q => hs _ o e1.symm q, hm⟩
  · obtain ⟨o, q, r⟩ := S.cell x v c a1 a2 a3; exact ⟨o, hs _ o (fun w => e2 x (w ▸ a3)) q, r⟩
  · obtain ⟨⟨v, o, q', r'⟩, r⟩ := S.cells n c q; exact ⟨⟨v, o, hs _ o (fun w => e2 n (w ▸ q)) q', r'⟩, r⟩
  · rcases U.look S.lnd hp with rfl | ⟨q1, q2⟩
    · exact ⟨ho, e1, e2, e3⟩
    · obtain ⟨x, r⟩ := S.led p q2; exact ⟨hs _ _ q1 x, r⟩
theorem atLed (S : CS b s₀ h₀ env ρ Λ s) {a : Addr} {o : Obj} (h : (a, o) ∈ Λ) : s.heap.get? a = some o := (S.led _ h).1
theorem atBase (S : CS b s₀ h₀ env ρ Λ s) {a : Addr} {o : Obj} (h : h₀.get? a = some o) : s.heap.get? a = some o := S.base _ _ h
theorem gr {K : Frag} (S : CS b s₀ h₀ env ρ Λ s) (G : Gr K h₀) : Gr K s.heap := G.mono S.base
/-- a new object, among the changed ones -/
theorem push (S : CS true s₀ h₀ env ρ Λ s) (o : Obj) (tk : Nat) (hf : o.isFreed = false) : CS true s₀ h₀ env ρ ((s.heap.objs.size, o) :: Λ) { s with heap := s.heap.push o, toks := tk } :=
  S.new (wr := []) rfl (fun _ _ _ e => Heap.get?_push_of_some _ e) (fun _ h => nomatch h) (fun _ h => nomatch h) (fresh_none (Nat.le_refl _)) (Heap.get?_push_size _ hf)
theorem pushK (S : CS b s₀ h₀ env ρ Λ s) (o : Obj) (tk : Nat) : CS b s₀ h₀ env ρ Λ { s with heap := s.heap.push o, toks := tk } :=
  S.keeps ⟨_, tk, rfl, fun _ _ e => Heap.get?_push_of_some _ e⟩
/-- a changed object that is no longer of interest -/
theorem forget (S : CS true s₀ h₀ env ρ Λ s) (h : ∀ p ∈ Λ', p ∈ Λ) (nd : (Λ'.map (·.1)).Nodup) : CS true s₀ h₀ env ρ Λ' s :=
  ⟨S.kind, S.same, S.base, S.all, S.ns, S.cell, S.cells, S.apart, S.kinds, S.locs, S.nd, fun p hp => S.led p (h p hp), nd⟩
theorem tl (S : CS true s₀ h₀ env ρ Λ s) {p : Addr × Obj} (h : p :: Λ' = Λ) : CS true s₀ h₀ env ρ Λ' s := by
  subst h
  have := S.lnd
  rw [List.map_cons, List.nodup_cons] at this
  exact S.forget (fun p hp => List.mem_cons_of_mem _ hp) this.2
end CS

section
variable {prog : Program} {w : World} {A : Around} {E : Value → Shared → Prop} {s s₀ : Shared} {h₀ : Heap} {env : Env} {ρ ρ' : Rho} {Λ Λ' : List (Addr × Obj)} {b : Bool} {K : Frag}

/-- an iterator just made: it hands out n values, the i-th as P says -/
def It (prog : Program) (w : World) (A : Around) (s₀ : Shared) (h₀ : Heap) (env : Env) (ρ : Rho) (Λ : List (Addr × Obj)) (n : Nat) (P : Nat → Value → Prop) (it : Value) (s : Shared) : Prop :=
  ∃ I fp wr St, it = .ref I ∧ Walks prog w A I fp wr n P St ∧ St 0 s.heap ∧ (∀ a ∈ fp, a < s.heap.objs.size) ∧ (∀ a ∈ wr, h₀.get? a = none) ∧ (∀ a ∈ fp, ¬ CS.own env Λ a) ∧ CS true s₀ h₀ env ρ Λ s

theorem it_list {l : Addr} {ys : Array Value} {o : Obj} {Q : Value → Shared → Prop} (S : CS true s₀ h₀ env ρ Λ s) (hh : A.handled = none) (ho : h₀.get? l = some o) (hl : o.cls = .type "list") (hd : ∃ n, o.data = .seq ys n)
    (h : ∀ it s', It prog w A s₀ h₀ env ρ Λ ys.size (fun i v => ys[i]? = some v) it s' → Q it s') : wpAny (model prog w) A (pyIter (.ref l)) Q E s := by
  have hL : s.heap.IsList l ys := ⟨o, S.atBase ho, hl, hd⟩
  have hlt : l < s.heap.objs.size := Heap.lt_size (S.atBase ho)
  refine wpAny_pyIter_list hL (h _ _ ⟨s.heap.objs.size, _, _, _, rfl, Walks.list hh _ l (Nat.ne_of_lt hlt) ys, ⟨⟨_, Heap.get?_push_size _ rfl, rfl, rfl⟩, hL.at fun o e => Heap.get?_push_of_some _ e⟩, ?_, ?_, ?_, S.pushK _ _⟩)
  · intro a ha
    rw [Heap.size_push]
    rcases List.mem_cons.mp ha with rfl | ha
    · exact Nat.lt_succ_self _
    · rw [List.mem_singleton.mp ha]; exact Nat.lt_succ_of_lt hlt
  · intro a ha
    rw [List.mem_singleton.mp ha]
    exact S.base.none (fresh_none (Nat.le_refl _))
  · intro a ha ho'
    rcases List.mem_cons.mp ha with rfl | ha
    · obtain ⟨o', q⟩ := S.own_at ho'
      exact absurd (Heap.lt_size q) (Nat.lt_irrefl _)
    · rw [List.mem_singleton.mp ha] at ho'
      rw [S.own_no ho'] at ho; cases ho

theorem it_str {x : Str} {t : Tok} {Q : Value → Shared → Prop} (S : CS true s₀ h₀ env ρ Λ s) (hh : A.handled = none)
    (h : ∀ it s', It prog w A s₀ h₀ env ρ Λ x.cps.size (SignAt x) it s' → Q it s') : wpAny (model prog w) A (pyIter (.str x t)) Q E s := by
  refine wpAny_pyIter_str fun o St W hst => h _ _ ⟨s.heap.objs.size, _, _, _, rfl, W A hh, hst, ?_, ?_, ?_, S.pushK _ _⟩
  · intro a ha
    rw [List.mem_singleton.mp ha, Heap.size_push]; exact Nat.lt_succ_self _
  · intro a ha
    rw [List.mem_singleton.mp ha]
    exact S.base.none (fresh_none (Nat.le_refl _))
  · intro a ha ho'
    rw [List.mem_singleton.mp ha] at ho'
    obtain ⟨o', q⟩ := S.own_at ho'
    exact absurd (Heap.lt_size q) (Nat.lt_irrefl _)

theorem range_size {n : Int} : Builtin.Range.rangeSize 0 n 1 = n.toNat := by
  unfold Builtin.Range.rangeSize
  simp only [show (1 : Int) > 0 from by decide, if_true]
  split
  · rw [show n - 0 - 1 = n - 1 by omega, Int.ediv_one]; omega
  · omega
theorem r_range {n : Int} {t : Tok} {Q : Value → Shared → Prop} (S : CS b s₀ h₀ env ρ Λ s) (h : ∀ r t₁ u₁ v₁ s', IsRange s'.heap r 0 n 1 t₁ u₁ v₁ → CS b s₀ h₀ env ρ Λ s' → Q (.ref r) s') : wpAny (model prog w) A (call (.type "range") [.int n t]) Q E s :=
  PySem.call_range_1 (h _ _ _ _ _ (Heap.get?_push_size _ rfl) (S.pushK _ _))
theorem it_range {r : Addr} {n : Int} {t u v : Tok} {Q : Value → Shared → Prop} (S : CS true s₀ h₀ env ρ Λ s) (hh : A.handled = none) (hr : IsRange s.heap r 0 n 1 t u v) (hn : n < 2 ^ 62) (hn' : -(2 ^ 62) ≤ n)
    (h : ∀ it s', It prog w A s₀ h₀ env ρ Λ n.toNat (fun i v => ∃ t, v = .int (i : Int) t) it s' → Q it s') : wpAny (model prog w) A (pyIter (.ref r)) Q E s := by
  have hsm : Builtin.Range.small 0 n 1 = true := small_one (by decide) (by decide) hn' hn
  refine wpAny_pyIter_range hr hsm (h _ _ ⟨s.heap.objs.size, [s.heap.objs.size], [s.heap.objs.size], (fun i h => IsRangeIter h s.heap.objs.size (0 + (i : Nat) * 1) ((n.toNat : Int) - (i : Nat)) 1), rfl, ?W, ?st, ?_, ?_, ?_, S.pushK _ _⟩)
  case W =>
    have := Walks.range (prog := prog) (w := w) hh s.heap.objs.size 0 1 n.toNat
    exact ⟨this.sub, this.frame, fun i s Q E hi st hQ => this.item i s Q E hi st fun v h' tk hP => hQ v h' tk (by obtain ⟨t, e⟩ := hP; exact ⟨t, by rw [e]; congr 1; omega⟩), this.done, this.self⟩
  case st =>
    show IsRangeIter _ _ _ _ _
    have e := range_size (n := n)
    rw [e]
    have : (0 : Int) + ((0 : Nat) : Int) * 1 = 0 := by omega
    rw [this]
    have : ((n.toNat : Nat) : Int) - ((0 : Nat) : Int) = ((n.toNat : Nat) : Int) := by omega
    rw [this]
    exact Heap.get?_push_size _ rfl
  · intro a ha
    rw [List.mem_singleton.mp ha, Heap.size_push]; exact Nat.lt_succ_self _
  · intro a ha
    rw [List.mem_singleton.mp ha]
    exact S.base.none (fresh_none (Nat.le_refl _))
  · intro a ha ho'
    rw [List.mem_singleton.mp ha] at ho'
    obtain ⟨o', q⟩ := S.own_at ho'
    exact absurd (Heap.lt_size q) (Nat.lt_irrefl _)
end
end Fl

namespace Fl
open PySem PySem.W PySem.Calls PyProof.Rows

abbrev envF (qual : Str) (scope : Scope) (L f : Addr) (cdv : Value) : Env :=
  { scope := scope, locals := L, globals := mainGlobals, cells := cellsFrom (L + 1) scope.names [], qual := qual ++ ".<locals>.", func := some f, code := cdv, frame := some L, builtins := builtinsNs }

def bindsOk (scope : Scope) (binds : List (Str × Value)) : Bool := binds.all fun y => scope.names.lookup y.1 == some .local || scope.names.lookup y.1 == some .cell
def nodupS : List Str → Bool
  | [] => true
  | x :: r => !r.contains x && nodupS r
theorem nodupS_nodup : ∀ {l : List Str}, nodupS l = true → l.Nodup
  | [], _ => List.nodup_nil
  | x :: r, h => by
    simp only [nodupS, Bool.and_eq_true, Bool.not_eq_true', List.contains_eq_mem, decide_eq_false_iff_not] at h
    exact List.nodup_cons.mpr ⟨h.1, nodupS_nodup h.2⟩
/-- what is asked of a def to be entered, all of it by evaluation -/
def defOk (scope : Scope) : Bool := nodupS (scope.names.map (·.1)) && !scope.isCoroutine && !scope.isGenerator && (match scope.kind with | .function => true | _ => false)

/-- behind a body: what it hands back -/
def RetQ (Q : Value → Shared → Prop) (f : Flow) (s' : Shared) : Prop := Q (match f with | .ret v => v | _ => .none) s'
/-- an exception that leaves a frame -/
def OutE (M : Model) (A : Around) (env : Env) (E : Value → Shared → Prop) (e : Value) (s' : Shared) : Prop := wpAny M (A.deeper env) (leaving env e) (fun _ s'' => E e s'') (fun e' s'' => E e' s'') s'
/-- behind a statement: the rest, where it goes on -/
def SeqQ (M : Model) (A : Around) (env : Env) (E : Value → Shared → Prop) (rest : List Stmt) (Q : Flow → Shared → Prop) (f : Flow) (s' : Shared) : Prop := match f with | .next => wpAny M A (execs rest env) Q E s' | f => Q f s'
/-- behind a loop's turn -/
def LoopQ (N : Shared → Prop) (Q : Flow → Shared → Prop) (f : Flow) (s₂ : Shared) : Prop := match f with
  | .next | .cont => N s₂
  | .brk => Q .next s₂
  | .ret v => Q (.ret v) s₂
/-- an exception within a loop -/
def NoteE (M : Model) (A : Around) (env : Env) (E : Value → Shared → Prop) : Value → Shared → Prop := notedBy M A env fun e s' => cameBackBy M A env E e s'

theorem ret_ret {Q : Value → Shared → Prop} {v : Value} {s : Shared} (h : Q v s) : RetQ Q (.ret v) s := h
theorem ret_next {Q : Value → Shared → Prop} {s : Shared} (h : Q .none s) : RetQ Q .next s := h
theorem seq_ret {M : Model} {A : Around} {env : Env} {E : Value → Shared → Prop} {rest : List Stmt} {Q : Flow → Shared → Prop} {v : Value} {s : Shared} (h : Q (.ret v) s) : SeqQ M A env E rest Q (.ret v) s := h
theorem seq_next {M : Model} {A : Around} {env : Env} {E : Value → Shared → Prop} {rest : List Stmt} {Q : Flow → Shared → Prop} {s : Shared} (h : wpAny M A (execs rest env) Q E s) : SeqQ M A env E rest Q .next s := h
theorem loop_ret {N : Shared → Prop} {Q : Flow → Shared → Prop} {v : Value} {s : Shared} (h : Q (.ret v) s) : LoopQ N Q (.ret v) s := h
theorem loop_next {N : Shared → Prop} {Q : Flow → Shared → Prop} {s : Shared} (h : N s) : LoopQ N Q .next s := h

section
variable {M : Model} {A : Around} {env : Env} {E : Value → Shared → Prop} {Q : Flow → Shared → Prop} {rest : List Stmt} {s : Shared}
theorem x_nil (h : Q .next s) : wpAny M A (execs [] env) Q E s := wpAny_execs_nil h
theorem x_ret {e : Expr} {pos : Pos} (h : wpAny M A (eval e env) (fun v s' => Q (.ret v) s') E s) : wpAny M A (execs (.Return (some e) pos :: rest) env) Q E s := wpAny_execs_cons (wpAny_Return_some h)
theorem x_assign {x : Str} {pos' pos : Pos} {value : Expr} (h : wpAny M A (eval value env) (fun v s₁ => wpAny M A (storeName env x v) (fun _ s₂ => wpAny M A (execs rest env) Q E s₂) E s₁) E s)
    (hs : swapsWith value (some (.Name x pos')) pos.line env = pure false) : wpAny M A (execs (.Assign [.Name x pos'] value pos :: rest) env) Q E s := wpAny_execs_cons (wpAny_Assign_Name h hs)
theorem x_if {test : Expr} {body orelse : List Stmt} {pos : Pos} (h : wpAny M A (isTrue test env (eval test env)) (fun b s₂ => if b = true then wpAny M A (execs body env) (SeqQ M A env E rest Q) E s₂ else wpAny M A (execs orelse env) (SeqQ M A env E rest Q) E s₂) E s) :
    wpAny M A (execs (.If test body orelse pos :: rest) env) Q E s := wpAny_execs_cons (wpAny_If h)
/-- an expression of no use: a plain value, or an object let go -/
theorem x_expr {e : Expr} {pos : Pos} (h : wpAny M A (eval e env) (fun v s' => match v with | .ref _ => False | _ => wpAny M A (execs rest env) Q E s') E s)
    (hi : interactive env = false) (hs : swapsWith e none pos.line env = pure false) : wpAny M A (execs (.Expr e pos :: rest) env) Q E s := wpAny_execs_cons (wpAny_Expr (wpAny_mono h (fun v s' q => by cases v <;> exact q) fun _ _ q => q) hi hs)
/-- a statement by what holds behind it, where it always goes on -/
theorem x_cut {st : Stmt} (P : Shared → Prop) (h1 : wpAny M A (exec st env) (fun f s' => f = .next ∧ P s') E s) (h2 : ∀ s', P s' → wpAny M A (execs rest env) Q E s') : wpAny M A (execs (st :: rest) env) Q E s := by
  refine wpAny_execs_cons (wpAny_mono h1 (fun f s' h => ?_) fun _ _ e => e)
  obtain ⟨rfl, p⟩ := h
  exact h2 s' p
theorem x_one {st : Stmt} {Q' : Flow → Shared → Prop} (h : wpAny M A (execs [st] env) Q' E s) : wpAny M A (exec st env) Q' E s := by
  have := h
  rw [show execs [st] env = (exec st env >>= fun f => match f with | .next => execs [] env | f => pure f) from rfl] at this
  have e : (exec st env >>= fun f => match f with | .next => execs [] env | f => pure f) = exec st env >>= pure := by
    congr 1; funext f; cases f <;> rfl
  rw [e, bind_pure] at this
  exact this
end

section
variable {prog : Program} {w : World} {A : Around} {s s₀ : Shared} {h₀ : Heap} {env : Env} {ρ : Rho} {Λ : List (Addr × Obj)} {E : Value → Shared → Prop} {Q : Flow → Shared → Prop}
/-- a for loop over a fresh iterator -/
theorem loop_it {body : List Stmt} {x : Str} {px : Pos} {n : Nat} {P : Nat → Value → Prop} {it : Value} (J : Nat → Rho → List (Addr × Obj) → Prop) (I : It prog w A s₀ h₀ env ρ Λ n P it s) (hJ : J 0 ρ Λ)
    (hadr : ∀ i ρ' Λ', J i ρ' Λ' → Λ'.map (·.1) = Λ.map (·.1))
    (turn : ∀ i v ρ₁ Λ₁, i < n → P i v → J i ρ₁ Λ₁ → ∃ ρ₂, Put x v ρ₁ ρ₂ ∧ ∀ h₁ s₁, Sub h₀ h₁ → CS true s₀ h₁ env ρ₂ Λ₁ s₁ → ∀ Q' : Flow → Shared → Prop,
      (∀ h' ρ' Λ' s₂, Sub h₁ h' → CS true s₀ h' env ρ' Λ' s₂ → J (i + 1) ρ' Λ' → Q' .next s₂) → (∀ v s₂, Q (.ret v) s₂ → Q' (.ret v) s₂) → wpAny (model prog w) A (execs body env) Q' (NoteE (model prog w) A env E) s₁)
    (done : ∀ ρ' Λ' s', J n ρ' Λ' → CS true s₀ h₀ env ρ' Λ' s' → Q .next s') :
    codeAny (model prog w) A (.forLoop (.Name x px) it body [] env) (fun r s' => match r with | .ok f => Q f s' | .error e => cameBackBy (model prog w) A env E e s') s := by
  obtain ⟨I, fp, wr, St, rfl, W, hst, _, hwr, hfp, S⟩ := I
  refine loop_inv J W S hst hfp hwr hJ hadr (fun i v ρ₁ Λ₁ a b c => ?_) done
  obtain ⟨ρ₂, p, q⟩ := turn i v ρ₁ Λ₁ a b c
  exact ⟨ρ₂, p, fun h₁ s₁ k S => q h₁ s₁ k S _ (fun h' ρ' Λ' s₂ a b c => ⟨h', ρ', Λ', a, b, c⟩) fun v s₂ z => z⟩
theorem x_for {target iter : Expr} {body rest : List Stmt} {pos : Pos} (hs : ∀ x, foldedSetIterable iter env x = pure x)
    (h : wpAny (model prog w) A (eval iter env) (fun x s₁ => wpAny (model prog w) A (pyIter x) (fun it s₂ =>
      codeAny (model prog w) A (.forLoop target it body [] env) (fun r s' => match r with | .ok f => SeqQ (model prog w) A env E rest Q f s' | .error e => cameBackBy (model prog w) A env E e s') s₂) E s₁) E s) :
    wpAny (model prog w) A (execs (.For target iter body [] pos :: rest) env) Q E s := wpAny_execs_cons (wpAny_For h hs)
end

section
variable {prog : Program} {w : World} {A : Around} {E : Value → Shared → Prop} {s : Shared} {h₀ : Heap} {Λ : List (Addr × Obj)} {K : Frag}
/-- a def of the text is called -/
theorem callK {Q : Value → Shared → Prop} {f : Addr} {name qual : Str} {params : Arguments} {body : List Stmt} {scope : Scope} {dV kV doc pm cdv ct oc : Value} {an od : Option Addr} {osl : Array (Option Value)} {vals : List Value} {binds : List (Str × Value)} (ρ : Rho)
    (G : Gr K s.heap) (hroom : A.depth < recursionLimit)
    (ho : K.lookup f = some ⟨oc, od, .func (fnOf name qual params body scope dV kV doc pm an cdv ct), osl⟩) (hcd : codeIn K cdv qual = true)
    (hbind : bindArgs (fnOf name qual params body scope dV kV doc pm an cdv ct) ⟨vals, []⟩ = pure binds) (hd : defOk scope = true) (hb1 : bindsOk scope binds = true) (hb2 : nodupS (binds.map (·.1)) = true) (hρ : rho0 scope.names binds = ρ)
    (hb : Sub h₀ s.heap) (hΛ : ∀ p ∈ Λ, s.heap.get? p.1 = some p.2 ∧ h₀.get? p.1 = none) (hΛn : (Λ.map (·.1)).Nodup)
    (h : ∀ L s₁, CS true s h₀ (envF qual scope L f cdv) ρ Λ s₁ →
      wpAny (model prog w) (A.deeper (envF qual scope L f cdv)) (execs body (envF qual scope L f cdv)) (RetQ Q) (OutE (model prog w) A (envF qual scope L f cdv) E) s₁) :
    wpAny (model prog w) A (call (.ref f) vals) Q E s := by
  unfold defOk at hd
  simp only [Bool.and_eq_true, Bool.not_eq_true'] at hd
  obtain ⟨⟨⟨h1, h2⟩, h3⟩, h4⟩ := hd
  have h4' : scope.kind = .function := by
    cases hk : scope.kind <;> first | rfl | (rw [hk] at h4; cases h4)
  exact wpAny_call (call_def (fd := fnOf name qual params body scope dV kV doc pm an cdv ct) hroom (G.X _ _ ho) rfl G.lim (codeRec_of G.X hcd) rfl hbind rfl hb1 (nodupS_nodup hb2) (nodupS_nodup h1) hρ hb hΛ hΛn (h _) h2 h3 h4')

/-- a def that changes nothing of what stood -/
theorem callP {Q : Value → Shared → Prop} {f : Addr} {name qual : Str} {params : Arguments} {body : List Stmt} {scope : Scope} {dV kV doc pm cdv ct oc : Value} {an od : Option Addr} {osl : Array (Option Value)} {vals : List Value} {binds : List (Str × Value)} (ρ : Rho)
    (G : Gr K s.heap) (hroom : A.depth < recursionLimit)
    (ho : K.lookup f = some ⟨oc, od, .func (fnOf name qual params body scope dV kV doc pm an cdv ct), osl⟩) (hcd : codeIn K cdv qual = true)
    (hbind : bindArgs (fnOf name qual params body scope dV kV doc pm an cdv ct) ⟨vals, []⟩ = pure binds) (hd : defOk scope = true) (hb1 : bindsOk scope binds = true) (hb2 : nodupS (binds.map (·.1)) = true) (hρ : rho0 scope.names binds = ρ)
    (h : ∀ L s₁, CS true s s.heap (envF qual scope L f cdv) ρ [] s₁ →
      wpAny (model prog w) (A.deeper (envF qual scope L f cdv)) (execs body (envF qual scope L f cdv)) (RetQ Q) (OutE (model prog w) A (envF qual scope L f cdv) E) s₁) :
    wpAny (model prog w) A (call (.ref f) vals) Q E s :=
  callK (Λ := []) ρ G hroom ho hcd hbind hd hb1 hb2 hρ (Sub.refl _) (fun _ h => nomatch h) List.nodup_nil h

-- lists and texts read
variable {b : Bool} {s₀ : Shared} {env : Env} {ρ : Rho}
theorem b_len_list {l : Addr} {ys : Array Value} {Q : Value → Shared → Prop} (S : CS b s₀ h₀ env ρ Λ s) (hl : s.heap.IsList l ys) (hn : ys.size ≤ 16777216) (h : ∀ t s', CS b s₀ h₀ env ρ Λ s' → Q (.int ys.size t) s') : wpAny (model prog w) A (call (.builtin "len") [.ref l]) Q E s :=
  Calls.call_len_list hl (by omega) (h _ _ (S.tok _))
theorem b_len_str {x : Str} {t : Tok} {Q : Value → Shared → Prop} (S : CS b s₀ h₀ env ρ Λ s) (hn : x.length ≤ 16777216) (h : ∀ t s', CS b s₀ h₀ env ρ Λ s' → Q (.int x.length t) s') : wpAny (model prog w) A (call (.builtin "len") [.str x t]) Q E s :=
  PySem.P.len_str (by omega) (h _ _ (S.tok _))
theorem s_list {value slice : Expr} {l : Addr} {ys : Array Value} {k : Int} {u : Tok} {v : Value} {Q : Value → Shared → Prop} (hl : s.heap.IsList l ys) (h0 : 0 ≤ k) (hf : k < 2 ^ 63) (hv : ys[k.toNat]? = some v)
    (hs : subscripted slice false (.ref l) (.int k u) = operate [.ref l, .int k u] (getItem (.ref l) (.int k u))) (h : Q v s) : wpAny (model prog w) A (subscriptTail value slice (.ref l) (.int k u)) Q E s :=
  tail_any hl.typeIs slot_list_getitem.lookup (wpAny_getItem_list hl h0 hf hv h) hs
end
end Fl

namespace Fl
open PySem PySem.W PySem.Calls PyProof.Rows

/-- a dict by names, of k entries at most -/
def NsO (o : Obj) (m : Str → Option Value) (k : Nat) : Prop := ∃ es ep, o = ⟨.type "dict", none, .dict es ep, #[]⟩ ∧ StrKeys es ∧ (∀ n, nsFind es n = m n) ∧ es.size ≤ k
theorem NsO.nil : NsO (dictOf [] 0) (fun _ => none) 0 := ⟨#[], 0, rfl, fun e h => by simp at h, fun n => rfl, Nat.le_refl _⟩
theorem NsO.put {o : Obj} {m : Str → Option Value} {k : Nat} (h : NsO o m k) (name : Str) (hash : Int) (t : Tok) (v : Value) : NsO (o.putName name hash (.str name t) v) (fun y => if y = name then some v else m y) (k + 1) := by
  obtain ⟨es, ep, rfl, hk, hm, hz⟩ := h
  cases hi : es.findIdx? (fun e => e.key.isStr name) with
  | some i =>
    refine ⟨es.modify i fun e => { e with val := v }, ep, by simp only [Obj.putName_eq, Obj.putNameByArray, hi], hk.modify _ _, fun x => ?_, by simpa using Nat.le_succ_of_le hz⟩
    show _ = if x = name then some v else m x
    rw [← hm x]
    exact findBy_modify (fun n v => v.isStr n) Value.isStr_inj es name x v i hi
  | none =>
    refine ⟨es.push ⟨hash, .str name t, v⟩, ep + 1, by simp only [Obj.putName_eq, Obj.putNameByArray, hi], hk.push _ _ _ _, fun x => ?_, by simpa using hz⟩
    show _ = if x = name then some v else m x
    rw [← hm x]
    exact findBy_push (fun n v => v.isStr n) es name x hash (.str name t) v (fun y => by
      show (name == y) = decide (y = name)
      by_cases h : y = name
      · subst h; simp
      · have : ¬ name = y := fun e => h e.symm
        simp [h, this]) hi
theorem NsO.look {o : Obj} {m : Str → Option Value} {k : Nat} (h : NsO o m k) (n : Str) : lookIn n o = some (m n) := by
  obtain ⟨es, ep, rfl, hk, hm, _⟩ := h
  rw [← hm n]
  unfold lookIn nsFind findBy
  dsimp only
  rw [← Array.find?_toList]
  cases hf : es.toList.find? (fun x => x.key.isStr n) with
  | some e => rfl
  | none =>
    have : es.toList.any (·.refKey) = false := by
      rw [List.any_eq_false]
      intro e he
      obtain ⟨x, t, q⟩ := hk e (by simpa using he)
      simp [DictEntry.refKey, q]
    simp [this]

/-- as Chg, for any new object -/
inductive ChgF (a : Addr) (o : Obj) : List (Addr × Obj) → (Obj → List (Addr × Obj)) → Prop
  | head {r} : ChgF a o ((a, o) :: r) (fun o' => (a, o') :: r)
  | tail {p r g} : ChgF a o r g → ChgF a o (p :: r) (fun o' => p :: g o')
theorem ChgF.to {a : Addr} {o : Obj} {Λ : List (Addr × Obj)} {g : Obj → List (Addr × Obj)} (h : ChgF a o Λ g) (o' : Obj) : Chg a o o' Λ (g o') := by
  induction h with
  | head => exact .head
  | tail _ ih => exact .tail ih

/-- a field that is stored into the own dict -/
def storeIn (K : Frag) (C : Addr) (name : Str) : Bool :=
  findIn K (.ref C) "__setattr__" == some (some (.builtin "object.__setattr__")) && plainOver K C && takerIn K C name == some none && (clsIn K C).any (·.hasDict)

section
variable {prog : Program} {w : World} {A : Around} {E : Value → Shared → Prop} {s s₀ : Shared} {h₀ : Heap} {env : Env} {ρ ρ' : Rho} {Λ Λ' : List (Addr × Obj)} {b : Bool} {K : Frag}

theorem a_store {C x dx : Addr} {name : Str} {v : Value} {od : Obj} {m : Str → Option Value} {k : Nat} {g : Obj → List (Addr × Obj)} {Q : Unit → Shared → Prop} (S : CS true s₀ h₀ env ρ Λ s) (X : K.In s.heap) (hx : s.heap.get? x = some (instObj C dx)) (hc : storeIn K C name = true)
    (U : ChgF dx od Λ g) (hn : NsO od m k) (hk : k < 1000)
    (h : ∀ o' s', NsO o' (fun y => if y = name then some v else m y) (k + 1) → CS true s₀ h₀ env ρ (g o') s' → Q () s') : wpAny (model prog w) A (setAttr (.ref x) name v) Q E s := by
  unfold storeIn at hc
  simp only [Bool.and_eq_true, beq_iff_eq] at hc
  obtain ⟨⟨⟨h1, h2⟩, h3⟩, h4⟩ := hc
  have D := S.atLed (U.to od).mem
  have I : W.InstAt s.heap x (instObj C dx) C (some od) := ⟨hx, rfl, rfl, D⟩
  refine set_plain X I h1 ?_
  have S' := S.tok (s.toks + 1)
  refine osa_open (s := { s with toks := s.toks + 1 }) X I h2 h3 fun b => ?_
  obtain ⟨cd, hcd, hd'⟩ := any_some h4
  refine wpAny_bind (wpAny_pure (wpAny_bind (wpAny_bind (wpAny_loadPart hx (wpAny_bind (Looks.here (s := { s with toks := s.toks + 1 }) (looks_clsIn X hcd) ?_))))))
  rw [hd']
  refine wpAny_pure (a := some dx) (wpAny_bind (wpAny_pure (wpAny_bind ?_)))
  unfold nsSet
  refine wpAny_bind (wpAny_bind (wpAny_askSetting (wpAny_pure (wpAny_bind (wpAny_mkText (wpAny_bind (wpAny_loadPart D ?_)))))))
  have hn' := hn.put name (PyData.keyHash w.params name) (s.toks + 1) v
  obtain ⟨es, ep, rfl, hkk, hm, hz⟩ := hn
  dsimp only
  have hany : es.any (·.refKey) = false := by
    rw [Array.any_eq_false']; intro e he; obtain ⟨n, t, h⟩ := hkk e he; simp [DictEntry.refKey, h]
  rw [aRefKeyMayBeTheName_at, hany, Bool.and_false]
  refine wpAny_updatePart D ?_
  have hself : (s.heap.update dx (Obj.putName name (PyData.keyHash w.params name) (.str name (s.toks + 1)) v)).get? dx = some _ := Heap.get?_update_self _ D (by obtain ⟨es', ep', e, _⟩ := hn'; rw [e]; rfl)
  refine wpAny_bind (wpAny_lookBehind hself ?_ ?_)
  · obtain ⟨es', ep', e, _, _, hz'⟩ := hn'
    rw [e]
    exact pastItsLine_dict (by rw [sizeLine_eq]; omega)
  · refine wpAny_pure (h _ _ hn' ?_)
    exact S'.chg (U.to _) (fun c x hc e => (Heap.get?_update_ne _ _ _ _ hc).trans e) hself
end
end Fl

namespace Fl
open PySem PySem.W PySem.Calls PyProof.Rows

/-- a list of ints, a list of texts -/
def IntL (h : Heap) (l : Addr) (ns : List Int) : Prop := ∃ vs, h.IsList l vs.toArray ∧ IntsAre vs ns
def StrL (h : Heap) (l : Addr) (xs : List Str) : Prop := ∃ vs, h.IsList l vs.toArray ∧ StrsAre vs xs
theorem isList_mono {h h' : Heap} {l : Addr} {ys : Array Value} (x : h.IsList l ys) (k : Sub h h') : h'.IsList l ys := x.at fun o e => k _ o e
theorem IntL.mono {h h' : Heap} {l : Addr} {ns : List Int} (x : IntL h l ns) (k : Sub h h') : IntL h' l ns := let ⟨vs, a, b⟩ := x; ⟨vs, isList_mono a k, b⟩
theorem StrL.mono {h h' : Heap} {l : Addr} {ns : List Str} (x : StrL h l ns) (k : Sub h h') : StrL h' l ns := let ⟨vs, a, b⟩ := x; ⟨vs, isList_mono a k, b⟩
theorem IntL.of {h : Heap} {l : Addr} {ys : Array Value} {k : Nat} {ns : List Int} (e : h.get? l = some (lst ys k)) (hi : IntsAre ys.toList ns) : IntL h l ns := ⟨ys.toList, ⟨_, e, rfl, k, by simp⟩, hi⟩
theorem StrL.of {h : Heap} {l : Addr} {ys : Array Value} {k : Nat} {ns : List Str} (e : h.get? l = some (lst ys k)) (hi : StrsAre ys.toList ns) : StrL h l ns := ⟨ys.toList, ⟨_, e, rfl, k, by simp⟩, hi⟩

section
variable {prog : Program} {w : World} {A : Around} {E : Value → Shared → Prop} {s s₀ : Shared} {h₀ : Heap} {env : Env} {ρ ρ' : Rho} {Λ Λ' : List (Addr × Obj)} {b : Bool} {K : Frag}

theorem l_len {l : Addr} {ns : List Int} {Q : Value → Shared → Prop} (S : CS b s₀ h₀ env ρ Λ s) (hl : IntL s.heap l ns) (hn : ns.length ≤ 16777216) (h : ∀ t s', CS b s₀ h₀ env ρ Λ s' → Q (.int ns.length t) s') : wpAny (model prog w) A (call (.builtin "len") [.ref l]) Q E s := by
  obtain ⟨vs, a, hi⟩ := hl
  have := hi.length
  refine b_len_list S a (by simpa [this] using hn) fun t s' S' => ?_
  simpa [this] using h t s' S'
theorem l_lenS {l : Addr} {ns : List Str} {Q : Value → Shared → Prop} (S : CS b s₀ h₀ env ρ Λ s) (hl : StrL s.heap l ns) (hn : ns.length ≤ 16777216) (h : ∀ t s', CS b s₀ h₀ env ρ Λ s' → Q (.int ns.length t) s') : wpAny (model prog w) A (call (.builtin "len") [.ref l]) Q E s := by
  obtain ⟨vs, a, hi⟩ := hl
  have := hi.length
  refine b_len_list S a (by simpa [this] using hn) fun t s' S' => ?_
  simpa [this] using h t s' S'
theorem l_at {value slice : Expr} {l : Addr} {ns : List Int} {k : Int} {u : Tok} {Q : Value → Shared → Prop} (hl : IntL s.heap l ns) (h0 : 0 ≤ k) (h1 : k < ns.length) (hn : ns.length ≤ 16777216)
    (hs : subscripted slice false (.ref l) (.int k u) = operate [.ref l, .int k u] (getItem (.ref l) (.int k u))) (h : ∀ t, Q (.int (ns.getD k.toNat 0) t) s) : wpAny (model prog w) A (subscriptTail value slice (.ref l) (.int k u)) Q E s := by
  obtain ⟨vs, a, hi⟩ := hl
  have hk : k.toNat < ns.length := by omega
  obtain ⟨t, e⟩ := hi.get k.toNat ns[k.toNat] (by simp [hk])
  have : ns.getD k.toNat 0 = ns[k.toNat] := by simp [List.getD, hk]
  exact s_list a h0 (by omega) (by simpa using e) hs (this ▸ h t)
theorem l_atS {value slice : Expr} {l : Addr} {ns : List Str} {k : Int} {u : Tok} {Q : Value → Shared → Prop} (hl : StrL s.heap l ns) (h0 : 0 ≤ k) (h1 : k < ns.length) (hn : ns.length ≤ 16777216)
    (hs : subscripted slice false (.ref l) (.int k u) = operate [.ref l, .int k u] (getItem (.ref l) (.int k u))) (h : ∀ t, Q (.str (ns.getD k.toNat Str.empty) t) s) : wpAny (model prog w) A (subscriptTail value slice (.ref l) (.int k u)) Q E s := by
  obtain ⟨vs, a, hi⟩ := hl
  have hk : k.toNat < ns.length := by omega
  obtain ⟨t, e⟩ := hi.get k.toNat ns[k.toNat] (by simp [hk])
  have : ns.getD k.toNat Str.empty = ns[k.toNat] := by simp [List.getD, hk]
  exact s_list a h0 (by omega) (by simpa using e) hs (this ▸ h t)
/-- a sign of a text -/
theorem t_at {value slice : Expr} {x : Str} {t u : Tok} {k : Int} {Q : Value → Shared → Prop} (S : CS b s₀ h₀ env ρ Λ s) (h0 : 0 ≤ k) (h1 : k < x.length) (hn : x.length ≤ 16777216)
    (hs : subscripted slice false (.str x t) (.int k u) = operate [.str x t, .int k u] (getItem (.str x t) (.int k u)))
    (h : ∀ t s', CS b s₀ h₀ env ρ Λ s' → Q (.str ⟨#[x.cps.getD k.toNat 0]⟩ t) s') : wpAny (model prog w) A (subscriptTail value slice (.str x t) (.int k u)) Q E s := by
  have hk : k.toNat < x.cps.size := by have : (x.length : Int) = x.cps.size := rfl; omega
  refine tail_any (T := "str") (typeIs_str s x t) slot_str_getitem.lookup (PyProof.Rows.getItem_str (c := x.cps.getD k.toNat 0) ?_ ?_ (h _ _ (S.tok _))) hs
  · simp; omega
  · have e : seqIndex? k x.length = some k.toNat := PySem.seqIndex_of h0 h1
    rw [e]
    simp [Array.getD, hk]

theorem t_len {x : Str} {t : Tok} {Q : Value → Shared → Prop} (S : CS b s₀ h₀ env ρ Λ s) (hn : x.length ≤ 16777216) (h : ∀ t s', CS b s₀ h₀ env ρ Λ s' → Q (.int x.length t) s') : wpAny (model prog w) A (call (.builtin "len") [.str x t]) Q E s := b_len_str S hn h
theorem t_in {x : Str} {c : Nat} {t u : Tok} {Q : Value → Shared → Prop} (h : Q (.bool (decide (c ∈ x.cps.toList))) s) : wpAny (model prog w) A (compareOp .In (.str ⟨#[c]⟩ u) (.str x t)) Q E s := PyProof.Rows.in_str (by rw [StrLaws.found_one]; exact h)
theorem t_notin {x : Str} {c : Nat} {t u : Tok} {Q : Value → Shared → Prop} (h : Q (.bool (!decide (c ∈ x.cps.toList))) s) : wpAny (model prog w) A (compareOp .NotIn (.str ⟨#[c]⟩ u) (.str x t)) Q E s := PyProof.Rows.notIn_str (by rw [StrLaws.found_one]; exact h)
theorem t_eq {x y : Str} {t u : Tok} {Q : Value → Shared → Prop} (h : Q (.bool (x == y)) s) : wpAny (model prog w) A (compareOp .Eq (.str x t) (.str y u)) Q E s := PyProof.Rows.eq_str h
theorem t_ne {x y : Str} {t u : Tok} {Q : Value → Shared → Prop} (h : Q (.bool (x != y)) s) : wpAny (model prog w) A (compareOp .NotEq (.str x t) (.str y u)) Q E s := PyProof.Rows.ne_str h
theorem t_join {D : Addr} {ys : List Str} {x : Str} {t : Tok} {Q : Value → Shared → Prop} (S : CS b s₀ h₀ env ρ Λ s) (hl : StrL s.heap D ys) (hok : (ys.map (·.length)).sum + ys.length * x.length ≤ 16777216)
    (h : ∀ t s', CS b s₀ h₀ env ρ Λ s' → Q (.str (Txt.join x ys) t) s') : wpAny (model prog w) A (call (.builtin "str.join") [.str x t, .ref D]) Q E s := by
  obtain ⟨vs, a, hi⟩ := hl
  exact PyProof.Rows.join_list a (by simpa using hi) hok fun t' k => h _ _ (S.tok _)

theorem l_in {l : Addr} {ns : List Int} {k : Int} {t : Tok} {Q : Value → Shared → Prop} (hl : IntL s.heap l ns) (h : Q (.bool (decide (k ∈ ns))) s) : wpAny (model prog w) A (compareOp .In (.int k t) (.ref l)) Q E s := by
  obtain ⟨vs, a, hi⟩ := hl
  have e : ns.any (· == k) = decide (k ∈ ns) := by rw [Bool.eq_iff_iff]; simp [List.any_eq_true]
  exact PyProof.Rows.in_list_ints a hi (e ▸ h)
theorem l_notin {l : Addr} {ns : List Int} {k : Int} {t : Tok} {Q : Value → Shared → Prop} (hl : IntL s.heap l ns) (h : Q (.bool (!decide (k ∈ ns))) s) : wpAny (model prog w) A (compareOp .NotIn (.int k t) (.ref l)) Q E s := by
  obtain ⟨vs, a, hi⟩ := hl
  have e : ns.any (· == k) = decide (k ∈ ns) := by rw [Bool.eq_iff_iff]; simp [List.any_eq_true]
  exact PyProof.Rows.notin_list_ints a hi (e ▸ h)
theorem l_eq {l l' : Addr} {ns ms : List Int} {Q : Value → Shared → Prop} (hl : IntL s.heap l ns) (hl' : IntL s.heap l' ms) (hu : A.units + 64 < cLine) (h : Q (.bool (decide (ns = ms))) s) : wpAny (model prog w) A (compareOp .Eq (.ref l) (.ref l')) Q E s := by
  obtain ⟨vs, a, hi⟩ := hl
  obtain ⟨vs', a', hi'⟩ := hl'
  exact W.eq_intsK a hi a' hi' hu h
theorem l_ne {l l' : Addr} {ns ms : List Int} {Q : Value → Shared → Prop} (hl : IntL s.heap l ns) (hl' : IntL s.heap l' ms) (hu : A.units + 64 < cLine) (h : Q (.bool (!decide (ns = ms))) s) : wpAny (model prog w) A (compareOp .NotEq (.ref l) (.ref l')) Q E s := by
  obtain ⟨vs, a, hi⟩ := hl
  obtain ⟨vs', a', hi'⟩ := hl'
  exact W.ne_intsK a hi a' hi' hu h

/-- a new list, among the changed objects -/
theorem CS.pushL (S : CS b s₀ h₀ env ρ Λ s) (o : Obj) (tk : Nat) (hf : o.isFreed = false) : CS b s₀ h₀ env ρ ((s.heap.objs.size, o) :: Λ) { s with heap := s.heap.push o, toks := tk } := by
  have S' := S.pushK o tk
  have hno : ¬ CS.own env Λ s.heap.objs.size := fun h => by obtain ⟨o', q⟩ := S.own_at h; exact absurd (Heap.lt_size q) (Nat.lt_irrefl _)
  refine ⟨S'.kind, S'.same, S'.base, S'.all, S'.ns, S'.cell, S'.cells, S'.apart, S'.kinds, S'.locs, S'.nd, fun p hp => ?_, ?_⟩
  · rcases List.mem_cons.mp hp with rfl | hp
    · exact ⟨Heap.get?_push_size _ hf, fun q => hno (.inl q), fun n q => hno (.inr (.inl ⟨n, q⟩)), fun _ => S.base.none (fresh_none (Nat.le_refl _))⟩
    · exact S'.led p hp
  · rw [List.map_cons, List.nodup_cons]
    exact ⟨fun h => hno (.inr (.inr h)), S.lnd⟩
theorem l_new {vs : List Value} {Q : Value → Shared → Prop} (S : CS b s₀ h₀ env ρ Λ s) (hn : vs.length ≤ 16777216) (h : ∀ l s', CS b s₀ h₀ env ρ ((l, lst vs.toArray 0) :: Λ) s' → s.heap.get? l = none → Q (.ref l) s') : wpAny (model prog w) A (newList vs) Q E s :=
  wpAny_newList (h _ _ (S.pushL _ _ rfl) (fresh_none (Nat.le_refl _))) (by rw [sizeLine_eq]; exact hn)
abbrev tup (ys : Array Value) : Obj := { cls := .type "tuple", data := .seq ys }
theorem u_new {vs : List Value} {Q : Value → Shared → Prop} (S : CS b s₀ h₀ env ρ Λ s) (hn : vs.length ≤ 16777216) (h : ∀ l s', CS b s₀ h₀ env ρ ((l, tup vs.toArray) :: Λ) s' → s.heap.get? l = none → Q (.ref l) s') : wpAny (model prog w) A (newTuple vs) Q E s :=
  wpAny_newObj_type (h _ _ (S.pushL _ _ rfl) (fresh_none (Nat.le_refl _))) (by show vs.toArray.size ≤ sizeLine; rw [sizeLine_eq, List.size_toArray]; exact hn)
/-- list(xs) -/
theorem l_copy {l : Addr} {o : Obj} {items : Array Value} {n : Nat} {Q : Value → Shared → Prop} (S : CS true s₀ h₀ env ρ Λ s) (ho : s.heap.get? l = some o) (hc : o.cls = .type "list") (hd : o.data = .seq items n) (hn : items.size ≤ 16777216)
    (h : ∀ D c s', CS true s₀ h₀ env ρ ((D, lst items c) :: Λ) s' → s.heap.get? D = none → Q (.ref D) s') : wpAny (model prog w) A (call (.type "list") [.ref l]) Q E s :=
  PySem.call_list_seq (hsz := by rw [sizeLine_eq]; exact hn) l (.inl rfl) ho hc hd fun h' c' hk hD => h _ c' _ (S.new (wr := []) (tk := s.toks) rfl (fun a o _ e => hk a o e) (fun _ h => nomatch h) (fun _ h => nomatch h) (fresh_none (Nat.le_refl _)) hD) (fresh_none (Nat.le_refl _))
theorem l_append {l : Addr} {ys : Array Value} {k : Nat} {x : Value} {g : Obj → List (Addr × Obj)} {Q : Value → Shared → Prop} (S : CS true s₀ h₀ env ρ Λ s) (U : ChgF l (lst ys k) Λ g) (hn : ys.size ≤ 16777215)
    (h : ∀ k' s', CS true s₀ h₀ env ρ (g (lst (ys.push x) k')) s' → Q .none s') : wpAny (model prog w) A (call (.builtin "list.append") [.ref l, x]) Q E s := by
  refine wpAny_list_append_plain ⟨k, S.atLed (U.to (lst ys k)).mem⟩ (fun h' hp hs => ?_) (by rw [sizeLine_eq]; omega)
  obtain ⟨k', e⟩ := hp
  have := S.chg (h' := h') (tk := s.toks) (U.to _) (fun c x hc q => hs.extBut c x hc q) e
  exact h k' _ this
/-- a, b = t -/
theorem x_unpack {elts : List Expr} {k : Nat} {tpos pos : Pos} {value : Expr} {rest : List Stmt} {Q : Flow → Shared → Prop}
    (h : wpAny (model prog w) A (eval value env) (fun v s₁ => wpAny (model prog w) A (assign (.Tuple elts k tpos) env v) (fun _ s₂ => wpAny (model prog w) A (execs rest env) Q E s₂) E s₁) E s)
    (hs : swapsWithSole [.Tuple elts k tpos] value pos.line env = pure false) (hw : swappedStores [.Tuple elts k tpos] value env = pure none) :
    wpAny (model prog w) A (execs (.Assign [.Tuple elts k tpos] value pos :: rest) env) Q E s := wpAny_execs_cons (Assign_Tuple h hs hw)
end
end Fl

namespace Fl
open PySem PySem.W PySem.Calls PyProof.Rows

theorem CS.since {s₀ s₁ s : Shared} {h₀ : Heap} {env : Env} {ρ : Rho} {Λ : List (Addr × Obj)} (S : CS true s₁ h₀ env ρ Λ s) (e : ∃ h tk, s₁ = { s₀ with heap := h, toks := tk }) : CS true s₀ h₀ env ρ Λ s := by
  refine ⟨S.kind, ?_, S.base, (fun q => nomatch q), S.ns, S.cell, S.cells, S.apart, S.kinds, S.locs, S.nd, S.led, S.lnd⟩
  obtain ⟨h, tk, rfl⟩ := e
  obtain ⟨h', tk', rfl⟩ := S.same
  exact ⟨h', tk', rfl⟩

section
variable {prog : Program} {w : World} {A : Around} {E : Value → Shared → Prop} {s s₀ : Shared} {h₀ : Heap} {env : Env} {ρ ρ' : Rho} {Λ Λ' : List (Addr × Obj)} {b : Bool} {K : Frag}

theorem u_two {x y : Str} {px py tpos : Pos} {k : Nat} {t : Addr} {v1 v2 : Value} {ρ1 ρ2 : Rho} {Q : Unit → Shared → Prop} (S : CS true s₀ h₀ env ρ Λ s) (hh : A.handled = none) (ho : s.heap.get? t = some (tup [v1, v2].toArray)) (hx : Put x v1 ρ ρ1) (hy : Put y v2 ρ1 ρ2)
    (h : ∀ s', CS true s₀ h₀ env ρ2 Λ s' → Q () s') : wpAny (model prog w) A (assign (.Tuple [.Name x px, .Name y py] k tpos) env (.ref t)) Q E s := by
  refine wpAny_assign_Tuple hh (items := #[v1, v2]) ⟨_, ho, rfl, _, rfl⟩ rfl rfl fun h' hk => ?_
  have S' : CS true s₀ h₀ env ρ Λ { s with heap := h' } := S.keeps ⟨h', s.toks, rfl, fun a o e => hk a o (Nat.ne_of_lt (Heap.lt_size e)) e⟩
  refine wpAny_assignInOrder_more (wpAny_assign_Name (S'.put hx fun s₁ S₁ => ?_))
  refine wpAny_assignInOrder_more (wpAny_assign_Name (S₁.put hy fun s₂ S₂ => ?_))
  exact wpAny_assignInOrder_none (h _ S₂)

/-- an object of a class of the text is made: its __init__ in a frame of its own -/
theorem makeK {Q : Value → Shared → Prop} {C f : Addr} {name qual : Str} {params : Arguments} {body : List Stmt} {scope : Scope} {dV kV doc pm cdv ct oc : Value} {an od : Option Addr} {osl : Array (Option Value)} {vals : List Value} (bnd : Value → List (Str × Value)) (ρ : Value → Rho)
    (G : Gr K s.heap) (hroom : A.depth + 1 < recursionLimit) (hm : makesIn K C = true) (hi : findIn K (.ref C) "__init__" = some (some (.ref f))) (hf : typeIn K (.ref f) = some (.type "function"))
    (ho : K.lookup f = some ⟨oc, od, .func (fnOf name qual params body scope dV kV doc pm an cdv ct), osl⟩) (hcd : codeIn K cdv qual = true)
    (hbind : ∀ v, bindArgs (fnOf name qual params body scope dV kV doc pm an cdv ct) ⟨v :: vals, []⟩ = pure (bnd v)) (hd : defOk scope = true) (hb1 : ∀ v, bindsOk scope (bnd v) = true) (hb2 : ∀ v, nodupS ((bnd v).map (·.1)) = true) (hρ : ∀ v, rho0 scope.names (bnd v) = ρ v)
    (h : ∀ x dx L s₁, s.heap.get? x = none → s.heap.get? dx = none → CS true s s.heap (envF qual scope L f cdv) (ρ (.ref x)) [(x, instObj C dx), (dx, dictOf [] 0)] s₁ →
      wpAny (model prog w) ((A.under (.builtin "type.__call__" ⟨.ref C :: vals, []⟩)).deeper (envF qual scope L f cdv)) (execs body (envF qual scope L f cdv)) (RetQ (fun v s' => v = .none ∧ Q (.ref x) s')) (OutE (model prog w) (A.under (.builtin "type.__call__" ⟨.ref C :: vals, []⟩)) (envF qual scope L f cdv) E) s₁) :
    wpAny (model prog w) A (call (.ref C) vals) Q E s := by
  unfold defOk at hd
  simp only [Bool.and_eq_true, Bool.not_eq_true'] at hd
  obtain ⟨⟨⟨h1, h2⟩, h3⟩, h4⟩ := hd
  have h4' : scope.kind = .function := by
    cases hk : scope.kind <;> first | rfl | (rw [hk] at h4; cases h4)
  have G' := G
  obtain ⟨hp, g, d, t, os⟩ := s
  have hX : K.In hp := G.X
  refine wpAny_call (make_core (makes_of hX hm) (looks_findIn hX hi) (fun self => bind_fn hX self hf) (.inl (by rfl)) ?_)
  have k1 : Sub hp ((hp.push emptyDict).push (instObj C hp.objs.size)) := fun a o e => Heap.get?_push_of_some _ (Heap.get?_push_of_some _ e)
  have sz : (hp.push emptyDict).objs.size = hp.objs.size + 1 := Heap.size_push _ _
  have n1 : hp.get? hp.objs.size = none := fresh_none (Nat.le_refl _)
  have n2 : hp.get? (hp.objs.size + 1) = none := fresh_none (Nat.le_succ _)
  have g1 : ((hp.push emptyDict).push (instObj C hp.objs.size)).get? (hp.objs.size + 1) = some (instObj C hp.objs.size) := by
    have := Heap.get?_push_size (hp.push emptyDict) (o := instObj C hp.objs.size) rfl
    rw [sz] at this; exact this
  have g2 : ((hp.push emptyDict).push (instObj C hp.objs.size)).get? hp.objs.size = some (dictOf [] 0) := Heap.get?_push_of_some _ (Heap.get?_push_size _ rfl)
  have GG : Gr K ((hp.push emptyDict).push (instObj C hp.objs.size)) := Gr.mono G' k1
  refine call_def (h₀ := hp) (Λ := [(hp.objs.size + 1, instObj C hp.objs.size), (hp.objs.size, dictOf [] 0)]) (fd := fnOf name qual params body scope dV kV doc pm an cdv ct) ?_ (GG.X _ _ ho) rfl GG.lim (codeRec_of GG.X hcd) rfl (hbind _) rfl (hb1 _) (nodupS_nodup (hb2 _)) (nodupS_nodup h1) (hρ _) k1 ?_ ?_ ?_ h2 h3 h4'
  · exact hroom
  · intro p hp'
    rcases List.mem_cons.mp hp' with rfl | hp'
    · exact ⟨g1, n2⟩
    · rw [List.mem_singleton.mp hp']; exact ⟨g2, n1⟩
  · simp
  · intro s₁ S
    have := h (hp.objs.size + 1) hp.objs.size _ s₁ n2 n1 (S.since ⟨_, t, rfl⟩)
    refine wpAny_mono this (fun fl s' q => ?_) fun e s' q => ?_
    · exact q
    · exact q
end
end Fl

namespace Fl
open PySem PySem.W PySem.Calls PyProof.Rows

/-- rows of a floor: at most twelve, of one length, at most twelve, of the four signs -/
structure Grid (rows : List Str) (wd : Nat) : Prop where
  high : rows.length ≤ 12
  wide : wd ≤ 12
  len : ∀ r ∈ rows, r.length = wd
  none : rows = [] → wd = 0
  sign : ∀ r ∈ rows, ∀ c ∈ r.cps.toList, c = 46 ∨ c = 45 ∨ c = 124 ∨ c = 35
/-- the sign at a place -/
def sg (rows : List Str) (wd : Nat) (p : Int) : Nat := (rows.getD (p / wd).toNat Str.empty).cps.getD (p % wd).toNat 0
def inB (rows : List Str) (wd : Nat) (p : Int) : Bool := decide (0 ≤ p) && decide (p < rows.length * wd)
def hasB (rows : List Str) (wd : Nat) (p : Int) : Bool := inB rows wd p && sg rows wd p != 35
def alongB (c : Nat) : Bool := c == 46 || c == 45
def acrossB (c : Nat) : Bool := c == 46 || c == 124
/-- what Floor.may reckons -/
def mayB (rows : List Str) (wd : Nat) (a c : Int) : Bool :=
  hasB rows wd a && hasB rows wd c &&
    (if max a c - min a c = 1 ∧ min a c / wd = max a c / wd then alongB (sg rows wd (min a c)) && alongB (sg rows wd (max a c))
     else if max a c - min a c = wd then acrossB (sg rows wd (min a c)) && acrossB (sg rows wd (max a c)) else false)
/-- what the laws reckon -/
def mayL (rows : List Str) (wd : Nat) (a c : Int) : Bool :=
  inB rows wd a && inB rows wd c &&
    (if a / wd = c / wd ∧ (a - c).natAbs = 1 then alongB (sg rows wd a) && alongB (sg rows wd c)
     else if a % wd = c % wd ∧ (a / wd - c / wd).natAbs = 1 then acrossB (sg rows wd a) && acrossB (sg rows wd c) else false)
def cellsL (rows : List Str) (wd : Nat) : List Int := ((List.range (rows.length * wd)).map fun (i : Nat) => (i : Int)).filter (hasB rows wd)

theorem Grid.at_ {rows : List Str} {wd : Nat} (g : Grid rows wd) {p : Int} (h0 : 0 ≤ p) (h1 : p < rows.length * wd) : 0 < wd ∧ 0 ≤ p / wd ∧ p / wd < rows.length ∧ 0 ≤ p % wd ∧ p % wd < wd := by
  have hw : 0 < (wd : Int) := by
    rcases Nat.eq_zero_or_pos wd with h | h
    · subst h; simp at h1; omega
    · omega
  refine ⟨by omega, Int.ediv_nonneg h0 (by omega), ?_, Int.emod_nonneg _ (by omega), Int.emod_lt_of_pos _ hw⟩
  exact Int.ediv_lt_of_lt_mul hw h1

/-- a floor of the program's own -/
structure FloorAt (C : Addr) (h : Heap) (fl l : Addr) (rows : List Str) (wd : Nat) (t1 t2 : Tok) : Prop where
  obj : ObjAt h C fl [(Str.ofString "rows", .ref l), (Str.ofString "high", .int rows.length t1), (Str.ofString "wide", .int wd t2)]
  texts : StrL h l rows
  grid : Grid rows wd
theorem FloorAt.mono {C : Addr} {h h' : Heap} {fl l : Addr} {rows : List Str} {wd : Nat} {t1 t2 : Tok} (F : FloorAt C h fl l rows wd t1 t2) (k : Sub h h') : FloorAt C h' fl l rows wd t1 t2 := ⟨F.obj.mono k, F.texts.mono k, F.grid⟩

theorem row_len {rows : List Str} {wd : Nat} (g : Grid rows wd) {k : Nat} (h : k < rows.length) : (rows.getD k Str.empty).length = wd := by
  have : rows.getD k Str.empty = rows[k] := by simp [List.getD, h]
  rw [this]; exact g.len _ (List.getElem_mem h)
end Fl
namespace Fl
open PySem
theorem one_eq (c d : Nat) : ((⟨#[c]⟩ : Str) == ⟨#[d]⟩) = (c == d) := by rw [Bool.eq_iff_iff]; simp
theorem one_ne (c d : Nat) : ((⟨#[c]⟩ : Str) != ⟨#[d]⟩) = (c != d) := by simp only [bne, one_eq]
end Fl

namespace Fl
open PySem PySem.W PySem.Calls PyProof.Rows PyProof.V PySem.Spec PySem.SeqAt

def nsStr (K : Frag) (x : Str) : Option Str := match nsIn K mainGlobals x with | some (some (.str y _)) => some y | _ => none
def nsInt (K : Frag) (x : Str) : Option Int := match nsIn K mainGlobals x with | some (some (.int y _)) => some y | _ => none
/-- a global name that holds a text, an int -/
structure GS (K : Frag) (x y : Str) : Prop where
  ns : nsStr K x = some y
  nd : (x == ("__debug__" : Str)) = false
structure GI (K : Frag) (x : Str) (y : Int) : Prop where
  ns : nsInt K x = some y
  nd : (x == ("__debug__" : Str)) = false
theorem GS.get {K : Frag} {x y : Str} (g : GS K x y) : ∃ t, nsIn K mainGlobals x = some (some (.str y t)) := by
  have := g.ns
  unfold nsStr at this
  split at this
  · rename_i a b e; cases this; exact ⟨_, e⟩
  · cases this
theorem GI.get {K : Frag} {x : Str} {y : Int} (g : GI K x y) : ∃ t, nsIn K mainGlobals x = some (some (.int y t)) := by
  have := g.ns
  unfold nsInt at this
  split at this
  · rename_i a b e; cases this; exact ⟨_, e⟩
  · cases this

theorem readsAll_strs {h : Heap} : ∀ {vs : List Value} {xs : List Str}, StrsAre vs xs → ReadsAll h vs (xs.map PyData.str) []
  | _, _, .nil => .nil
  | _, _, .cons k t r => by
    have := ReadsAll.cons (Reads.str (h := h) k t) (readsAll_strs (h := h) r)
    simpa using this
theorem reads_strs {h : Heap} {a : Addr} {xs : List Str} (hl : StrL h a xs) : Reads h (.ref a) (.list (xs.map PyData.str)) [a] := by
  obtain ⟨vs, ⟨o, ho, hc, n, hd⟩, hi⟩ := hl
  exact Reads.list ho hc hd (by simpa using readsAll_strs hi)
def okS (x : Str) : Prop := PyData.strOk x = true
theorem canLayAll0_strs : ∀ xs : List Str, (∀ x ∈ xs, okS x) → PyData.canLayAll0 (xs.map PyData.str) = true
  | [], _ => by simp [PyData.canLayAll0]
  | n :: r, h => by
    have h1 : PyData.strOk n = true := h n (List.mem_cons_self ..)
    simp [PyData.canLayAll0, PyData.canLay0, h1, canLayAll0_strs r fun x hx => h x (List.mem_cons_of_mem _ hx)]
theorem depthAll_strs : ∀ xs : List Str, PyData.depthAll (xs.map PyData.str) ≤ 1
  | [] => by simp [PyData.depthAll]
  | n :: r => by
    have := depthAll_strs r
    simp only [List.map_cons, PyData.depthAll, PyData.depth]
    omega
theorem shaped_strs (xs : List Str) (h : ∀ x ∈ xs, okS x) : shaped (.list (xs.map PyData.str)) = true := by
  have h1 := depthAll_strs xs
  have h2 : PyData.depth (.list (xs.map PyData.str)) ≤ 64 := by simp only [PyData.depth]; omega
  show (PyData.canLay0 (.list (xs.map PyData.str)) && decide (PyData.depth (.list (xs.map PyData.str)) ≤ 64)) = true
  rw [Bool.and_eq_true]
  exact ⟨by simp only [PyData.canLay0]; exact canLayAll0_strs xs h, decide_eq_true h2⟩
theorem noMix_strs : ∀ ns ms : List Str, noMixAll (ns.map PyData.str) (ms.map PyData.str) = true
  | [], [] => by simp [noMixAll]
  | [], _ :: _ => by simp [noMixAll]
  | _ :: _, [] => by simp [noMixAll]
  | _ :: r, _ :: q => by simp [noMixAll, noMix, noMix_strs r q]
theorem same_strs : ∀ ns ms : List Str, PySem.Spec.sameAll (ns.map PyData.str) (ms.map PyData.str) = decide (ns = ms)
  | [], [] => by simp [PySem.Spec.sameAll]
  | [], _ :: _ => by simp [PySem.Spec.sameAll]
  | _ :: _, [] => by simp [PySem.Spec.sameAll]
  | n :: r, k :: q => by
    simp only [List.map_cons, PySem.Spec.sameAll, PySem.Spec.same, same_strs r q]
    by_cases h : n = k <;> simp [h]

section
variable {prog : Program} {w : World} {A : Around} {E : Value → Shared → Prop} {s s₀ : Shared} {h₀ : Heap} {env : Env} {ρ ρ' : Rho} {Λ Λ' : List (Addr × Obj)} {b : Bool} {K : Frag}
theorem n_gs {x y : Str} {pos : Pos} {Q : Value → Shared → Prop} (S : CS b s₀ h₀ env ρ Λ s) (G : Gr K h₀) (g : GS K x y) (hx : env.kindOf x = some .globalImplicit) (hg : env.globals = mainGlobals) (h : ∀ t, Q (.str y t) s) :
    wpAny (model prog w) A (eval (.Name x pos) env) Q E s := by
  obtain ⟨t, e⟩ := g.get
  exact n_glob S G e hx hg g.nd (h t)
theorem n_gi {x : Str} {y : Int} {pos : Pos} {Q : Value → Shared → Prop} (S : CS b s₀ h₀ env ρ Λ s) (G : Gr K h₀) (g : GI K x y) (hx : env.kindOf x = some .globalImplicit) (hg : env.globals = mainGlobals) (h : ∀ t, Q (.int y t) s) :
    wpAny (model prog w) A (eval (.Name x pos) env) Q E s := by
  obtain ⟨t, e⟩ := g.get
  exact n_glob S G e hx hg g.nd (h t)
theorem b_min {x y : Int} {t u : Tok} {Q : Value → Shared → Prop} (S : CS b s₀ h₀ env ρ Λ s) (hh : A.handled = none) (h : ∀ t s', CS b s₀ h₀ env ρ Λ s' → Q (.int (min x y) t) s') : wpAny (model prog w) A (call (.builtin "min") [.int x t, .int y u]) Q E s := by
  refine PySem.Flt.min_two_num hh (.int _ _) (.int _ _) fun h' tk hk => ?_
  have S' : CS b s₀ h₀ env ρ Λ { s with heap := h', toks := tk } := S.keeps ⟨_, _, rfl, hk⟩
  show Q (if decide (y < x) = true then _ else _) _
  by_cases q : y < x
  · rw [if_pos (decide_eq_true q), ← show min x y = y by omega]; exact h _ _ S'
  · rw [if_neg (by simpa using q), ← show min x y = x by omega]; exact h _ _ S'
theorem b_max {x y : Int} {t u : Tok} {Q : Value → Shared → Prop} (S : CS b s₀ h₀ env ρ Λ s) (hh : A.handled = none) (h : ∀ t s', CS b s₀ h₀ env ρ Λ s' → Q (.int (max x y) t) s') : wpAny (model prog w) A (call (.builtin "max") [.int x t, .int y u]) Q E s := by
  refine PySem.Flt.max_two_num hh (.int _ _) (.int _ _) fun h' tk hk => ?_
  have S' : CS b s₀ h₀ env ρ Λ { s with heap := h', toks := tk } := S.keeps ⟨_, _, rfl, hk⟩
  show Q (if decide (x < y) = true then _ else _) _
  by_cases q : x < y
  · rw [if_pos (decide_eq_true q), ← show max x y = y by omega]; exact h _ _ S'
  · rw [if_neg (by simpa using q), ← show max x y = x by omega]; exact h _ _ S'
theorem b_abs {x : Int} {t : Tok} {Q : Value → Shared → Prop} (S : CS b s₀ h₀ env ρ Λ s) (h : ∀ t s', CS b s₀ h₀ env ρ Λ s' → Q (.int x.natAbs t) s') : wpAny (model prog w) A (call (.builtin "abs") [.int x t]) Q E s := by
  refine PyProof.Rows.call_abs_int fun u tk => ?_
  have e : (if x < 0 then -x else x) = (x.natAbs : Int) := by omega
  rw [e]
  exact h _ _ (S.tok _)
theorem y_int_int {x : Int} {t : Tok} {Q : Value → Shared → Prop} (h : Q (.bool true) s) : wpAny (model prog w) A (call (.builtin "isinstance") [.int x t, .type "int"]) Q E s := PySem.IsiPair.int_int h
theorem y_int_bool {x : Int} {t : Tok} {Q : Value → Shared → Prop} (S : CS b s₀ h₀ env ρ Λ s) (h : ∀ s', CS b s₀ h₀ env ρ Λ s' → Q (.bool false) s') : wpAny (model prog w) A (call (.builtin "isinstance") [.int x t, .type "bool"]) Q E s := PySem.IsiPair.int_bool (h _ (S.tok _))
theorem y_list_list {l : Addr} {ys : Array Value} {Q : Value → Shared → Prop} (hl : s.heap.IsList l ys) (h : Q (.bool true) s) : wpAny (model prog w) A (call (.builtin "isinstance") [.ref l, .type "list"]) Q E s := by
  obtain ⟨o, a, b, _⟩ := hl
  exact PySem.IsiPair.list_list a b h
theorem w_is {x y : Bool} {Q : Value → Shared → Prop} (h : Q (.bool (x == y)) s) : wpAny (model prog w) A (compareOp .Is (.bool x) (.bool y)) Q E s := by
  refine wpAny_is_plain rfl ?_
  have : (Value.bool x == Value.bool y) = (x == y) := by cases x <;> cases y <;> rfl
  rw [this]; exact h
theorem l_eqS {l l' : Addr} {ns ms : List Str} {Q : Value → Shared → Prop} (hl : StrL s.heap l ns) (hl' : StrL s.heap l' ms) (h1 : ∀ x ∈ ns, okS x) (h2 : ∀ x ∈ ms, okS x) (hu : A.units + 64 < cLine) (h : Q (.bool (decide (ns = ms))) s) :
    wpAny (model prog w) A (compareOp .Eq (.ref l) (.ref l')) Q E s :=
  eq_dataH_same (reads_strs hl) (reads_strs hl') (shaped_strs ns h1) (shaped_strs ms h2) hu (by simp only [noMix]; exact noMix_strs ns ms) (by simp only [PySem.Spec.same]; rw [same_strs]; exact h)
theorem l_neS {l l' : Addr} {ns ms : List Str} {Q : Value → Shared → Prop} (hl : StrL s.heap l ns) (hl' : StrL s.heap l' ms) (h1 : ∀ x ∈ ns, okS x) (h2 : ∀ x ∈ ms, okS x) (hu : A.units + 64 < cLine) (h : Q (.bool (!decide (ns = ms))) s) :
    wpAny (model prog w) A (compareOp .NotEq (.ref l) (.ref l')) Q E s :=
  ne_dataH_same (reads_strs hl) (reads_strs hl') (shaped_strs ns h1) (shaped_strs ms h2) hu (by simp only [noMix]; exact noMix_strs ns ms) (by simp only [PySem.Spec.same]; rw [same_strs]; exact h)
/-- a method of a list -/
theorem m_list {l : Addr} {ys : Array Value} {k : Nat} {name : Str} {id : String} {pl : Sem Bool} {Q : Value × List Value → Shared → Prop} (hl : s.heap.get? l = some (lst ys k)) (slot : Slot "list" name id) (hty : typeOf (.builtin id) = pure (.type "method_descriptor"))
    (h : Q (.builtin id, [.ref l]) s) : wpAny (model prog w) A (getMethod (.ref l) name pl) Q E s :=
  getMethod_builtin ⟨_, hl, rfl⟩ PySem.F.plainAttrs_list slot hty (fun a e => by cases e; exact ⟨_, hl, rfl⟩) h
theorem type_list_clear : typeOf (.builtin "list.clear") = pure (.type "method_descriptor") := by show builtinType _ = _; rw [builtinType_eq_fast]; kernel_rfl
theorem l_clear {l : Addr} {ys : Array Value} {k : Nat} {Q : Value → Shared → Prop} (S : CS true s₀ h₀ env ρ ((l, lst ys k) :: Λ) s) (hn : ys.size ≤ 16777216)
    (h : ∀ s', CS true s₀ h₀ env ρ Λ s' → Q .none s') : wpAny (model prog w) A (call (.builtin "list.clear") [.ref l]) Q E s := by
  have z := S.atLed (List.mem_cons_self ..)
  refine call_meets PySem.F.slot_list_clear ⟨_, z, rfl⟩ PySem.F.entry_list_clear (PySem.F.args_list_clear_1 _) (PySem.AutoSeq1.list_clear_list_0 l ys k (by rw [sizeLine_eq]; exact hn)) ⟨z, h _ ?_⟩
  have := S.chg (tk := s.toks) (h' := s.heap.update l (Obj.mapSeq fun _ => #[])) (Chg.head (o' := Obj.mapSeq (fun _ => #[]) (lst ys k))) (fun c x hc e => (Heap.get?_update_ne _ _ _ _ hc).trans e) (Heap.get?_update_self _ z (by rfl))
  exact this.tl rfl
theorem rep_size (a : Array Nat) : ∀ (n : Nat) (acc : Array Nat), ((List.replicate n a).foldl (· ++ ·) acc).size = acc.size + n * a.size
  | 0, acc => by simp
  | n + 1, acc => by
    rw [List.replicate_succ, List.foldl_cons, rep_size a n, Array.size_append, Nat.succ_mul]; omega
theorem o_mulS {x : Str} {t u : Tok} {n : Int} {Q : Value → Shared → Prop} (S : CS b s₀ h₀ env ρ Λ s) (h0 : 0 ≤ n) (h1 : n * x.length ≤ 1000) (h2 : n ≤ 1000) (h : ∀ y t s', CS b s₀ h₀ env ρ Λ s' → Q (.str y t) s') : wpAny (model prog w) A (binaryOp .Mult (.str x t) (.int n u)) Q E s := by
  have hm : (x.length * n.toNat : Nat) ≤ 1000 := by
    have : ((x.length * n.toNat : Nat) : Int) = n * x.length := by rw [Int.natCast_mul, Int.toNat_of_nonneg h0, Int.mul_comm]
    omega
  refine PySem.P.mul_str ?_ ?_ ?_ ?_
  · simp; omega
  · intro q _ q2
    have h3 : 1 ≤ n := by omega
    have : (x.length : Int) ≤ 1000 := by
      have : x.length ≤ x.length * n.toNat := Nat.le_mul_of_pos_right _ (by omega)
      omega
    have h4 : (2 ^ 63 - 1 : Int) / 1000 ≤ (2 ^ 63 - 1 : Int) / n := by
      apply Int.le_ediv_of_mul_le (by omega)
      have := Int.mul_le_mul_of_nonneg_left h2 (show (0:Int) ≤ (2 ^ 63 - 1 : Int) / 1000 by decide)
      omega
    omega
  · intro _ _
    show decide (_ > _) = false
    rw [decide_eq_false_iff_not]
    have : (1000 : Nat) < 2 ^ 63 - 1 := by decide
    first | omega | (rw [sizeLine_eq]; omega) | skip
  · split
    · exact ⟨by decide +kernel, h Str.empty _ _ (S.tok _)⟩
    · split
      · exact h x _ _ S
      · refine ⟨?_, h _ s.toks { s with toks := s.toks + 1 } (S.tok _)⟩
        show Array.size _ ≤ _
        rw [rep_size, sizeLine_eq]
        have : x.cps.size = x.length := rfl
        rw [this, Nat.mul_comm]
        simp; omega
end
end Fl

namespace Fl
open PySem PySem.W PySem.Calls PyProof.Rows

def upTo (n : Nat) : List Int := (List.range n).map fun (i : Nat) => (i : Int)
theorem upTo_len (n : Nat) : (upTo n).length = n := by simp [upTo]
def onI (q : Int → Bool) : Value → Bool
  | .int i _ => q i
  | _ => false
def onS (q : Str → Bool) : Value → Bool
  | .str i _ => q i
  | _ => false
theorem ints_of_gets : ∀ (vs : List Value) (k : Nat), (∀ (j : Nat) (v : Value), vs[j]? = some v → ∃ t, v = .int ((k + j : Nat) : Int) t) → IntsAre vs ((List.range' k vs.length).map fun (i : Nat) => (i : Int))
  | [], _, _ => .nil
  | v :: r, k, h => by
    obtain ⟨t, rfl⟩ := h 0 v rfl
    refine .cons _ t (ints_of_gets r (k + 1) fun j v hv => ?_)
    obtain ⟨t, e⟩ := h (j + 1) v hv
    exact ⟨t, by rw [e]; congr 2; omega⟩
theorem vs_range {vs : List Value} {n : Nat} (h : vs.length = n) (h2 : ∀ (j : Nat) (v : Value), vs[j]? = some v → ∃ t, v = .int (j : Int) t) : IntsAre vs (upTo n) := by
  have := ints_of_gets vs 0 fun j v hv => by obtain ⟨t, e⟩ := h2 j v hv; exact ⟨t, by rw [e]; congr 2; omega⟩
  rw [h] at this
  rw [upTo, List.range_eq_range']; exact this
theorem vs_list {vs : List Value} {ys : Array Value} (h : vs.length = ys.size) (h2 : ∀ (j : Nat) (v : Value), vs[j]? = some v → ys[j]? = some v) : vs = ys.toList := by
  apply List.ext_getElem? 
  intro j
  cases e : vs[j]? with
  | some v => rw [Array.getElem?_toList]; exact (h2 j v e).symm
  | none =>
    rw [List.getElem?_eq_none_iff] at e
    symm
    rw [List.getElem?_eq_none_iff, Array.length_toList]; omega
theorem filtI {q : Int → Bool} : ∀ {vs : List Value} {ns : List Int}, IntsAre vs ns → IntsAre (vs.filter (onI q)) (ns.filter q)
  | _, _, .nil => .nil
  | _, _, .cons n t r => by
    rw [List.filter_cons, List.filter_cons]
    show IntsAre (if q n = true then _ else _) _
    split
    · exact .cons n t (filtI r)
    · exact filtI r
theorem filtS {q : Str → Bool} : ∀ {vs : List Value} {ns : List Str}, StrsAre vs ns → StrsAre (vs.filter (onS q)) (ns.filter q)
  | _, _, .nil => .nil
  | _, _, .cons n t r => by
    rw [List.filter_cons, List.filter_cons]
    show StrsAre (if q n = true then _ else _) _
    split
    · exact .cons n t (filtS r)
    · exact filtS r
theorem filt_true (vs : List Value) : vs.filter (fun _ => true) = vs := by simp
/-- what a comprehension's element is -/
def FII (f : Int → Int) (v y : Value) : Prop := ∃ i t u, v = .int i t ∧ y = .int (f i) u
def FIS (f : Int → Str) (v y : Value) : Prop := ∃ i t u, v = .int i t ∧ y = .str (f i) u
def FS (P : Str → Prop) (_ y : Value) : Prop := ∃ x u, y = .str x u ∧ P x
theorem pairII {f : Int → Int} : ∀ {vs ys : List Value} {ns : List Int}, IntsAre vs ns → Paired (FII f) vs ys → IntsAre ys (ns.map f)
  | _, _, _, .nil, .nil => .nil
  | _, _, _, .cons n t r, .cons h p => by
    obtain ⟨i, t', u, e1, rfl⟩ := h
    cases e1
    exact .cons _ u (pairII r p)
theorem pairIS {f : Int → Str} : ∀ {vs ys : List Value} {ns : List Int}, IntsAre vs ns → Paired (FIS f) vs ys → StrsAre ys (ns.map f)
  | _, _, _, .nil, .nil => .nil
  | _, _, _, .cons n t r, .cons h p => by
    obtain ⟨i, t', u, e1, rfl⟩ := h
    cases e1
    exact .cons _ u (pairIS r p)
theorem pairS {P : Str → Prop} : ∀ {vs ys : List Value}, Paired (FS P) vs ys → ∃ xs, StrsAre ys xs ∧ xs.length = vs.length ∧ ∀ x ∈ xs, P x
  | _, _, .nil => ⟨[], .nil, rfl, fun _ h => nomatch h⟩
  | _, _, .cons h p => by
    obtain ⟨x, u, rfl, hx⟩ := h
    obtain ⟨xs, a, b, c⟩ := pairS p
    refine ⟨x :: xs, .cons x u a, by simp [b], fun y hy => ?_⟩
    rcases List.mem_cons.mp hy with rfl | hy
    · exact hx
    · exact c y hy

/-- what is asked of a comprehension's block, by evaluation -/
def compOk (scope : Scope) (env : Env) (x : Str) (ys : List Str) : Bool :=
  scope.names.all (fun y => (decide (y.2 ≠ .free) || (env.cells.lookup y.1).isSome) && decide (y.2 ≠ .cell) && (decide (y.2 ≠ .local) || decide (scope.names.lookup y.1 = some .local))) && decide (scope.names.lookup x = some .local) &&
    (match scope.kind with | .function => true | _ => false) && ys.all (fun y => decide (scope.names.lookup y = some .free) && decide (env.kindOf y = some .cell)) && nodupS (x :: ys)
def Sel (ρc ρ : Rho) : Prop := ∀ y u, Look y u ρc → Look y u ρ
theorem Sel.nil {ρ : Rho} : Sel [] ρ := fun _ _ h => by cases h
theorem Sel.cons {x : Str} {v : Value} {ρc ρ : Rho} (h : Look x v ρ) (r : Sel ρc ρ) : Sel ((x, some v) :: ρc) ρ := fun y u q => by
  cases q with
  | head => exact h
  | tail q => exact r y u q
section
variable {prog : Program} {w : World} {A : Around} {E : Value → Shared → Prop} {s s₀ : Shared} {h₀ : Heap} {env : Env} {ρ ρ' ρc : Rho} {Λ Λ' : List (Addr × Obj)} {K : Frag}
theorem compOk_of {scope : Scope} {x : Str} {ys : List Str} (h : compOk scope env x ys = true) : (∀ n, (n, NameKind.free) ∈ scope.names → ∃ c, env.cells.lookup n = some c) ∧ (∀ y ∈ scope.names, y.2 ≠ .cell) ∧ scope.kind = .function ∧
    (∀ y ∈ scope.names, y.2 = .local → scope.names.lookup y.1 = some .local) ∧ scope.names.lookup x = some .local ∧ (∀ y ∈ ys, scope.names.lookup y = some .free ∧ env.kindOf y = some .cell) ∧ (x :: ys).Nodup := by
  unfold compOk at h
  simp only [Bool.and_eq_true, List.all_eq_true, Bool.or_eq_true, decide_eq_true_eq] at h
  obtain ⟨⟨⟨⟨h1, h2⟩, h3⟩, h4⟩, h5⟩ := h
  refine ⟨fun n hn => ?_, fun y hy => (h1 y hy).1.2, ?_, fun y hy q => ?_, h2, h4, nodupS_nodup h5⟩
  · rcases (h1 _ hn).1.1 with q | q
    · exact absurd rfl q
    · exact Option.isSome_iff_exists.mp q
  · cases hk : scope.kind <;> first | rfl | (rw [hk] at h3; cases h3)
  · rcases (h1 y hy).2 with e | e
    · exact absurd q e
    · exact e
theorem lc {elt iter : Expr} {x : Str} {px : Pos} {ifs : List Expr} {scope : Scope} {pos : Pos} {Q : Value → Shared → Prop} (ρc : Rho) (p : Value → Bool) (F : Value → Value → Prop)
    (_ : CS true s₀ h₀ env ρ Λ s) (hok : compOk scope env x (ρc.map (·.1)) = true) (hc2 : Sel ρc ρ)
    (h : wpAny (model prog w) A (eval iter env) (fun xv s₁ => wpAny (model prog w) A (pyIter xv) (CompK prog w A s₀ h₀ env ρ ρc Λ scope x ifs elt p F (fun D o => ∀ s', CS true s₀ h₀ env ρ ((D, o) :: Λ) s' → Q (.ref D) s')) E s₁) E s)
    (hs : ∀ x, foldedSetIterable iter env x = pure x) :
    wpAny (model prog w) A (eval (.ListComp elt [⟨.Name x px, iter, ifs, 0⟩] scope pos) env) Q E s := by
  obtain ⟨h1, h2, h3, h4, h5, h6, h7⟩ := compOk_of hok
  exact ListComp_CS ρc p F h1 h2 h3 h4 h5 h6 hc2 h7 h hs
theorem x_lc {elt iter : Expr} {x y : Str} {px py : Pos} {ifs : List Expr} {scope : Scope} {pos spos : Pos} {rest : List Stmt} {Q : Flow → Shared → Prop} (ρc : Rho) (p : Value → Bool) (F : Value → Value → Prop)
    (hsw : swapsWith (.ListComp elt [⟨.Name x px, iter, ifs, 0⟩] scope pos) (some (.Name y py)) spos.line env = pure true)
    (_ : CS true s₀ h₀ env ρ Λ s) (hok : compOk scope env x (ρc.map (·.1)) = true) (hy : env.kindOf y = some .local) (hek : env.scope.kind = .function) (hc2 : Sel ρc ρ)
    (h : wpAny (model prog w) A (eval iter env) (fun xv s₁ => wpAny (model prog w) A (pyIter xv) (CompK prog w A s₀ h₀ env ρ ρc Λ scope x ifs elt p F
      (fun D o => ∃ ρ', Put y (.ref D) ρ ρ' ∧ ∀ s', CS true s₀ h₀ env ρ' ((D, o) :: Λ) s' → wpAny (model prog w) A (execs rest env) Q E s')) E s₁) E s)
    (hs : ∀ x, foldedSetIterable iter env x = pure x) :
    wpAny (model prog w) A (execs (.Assign [.Name y py] (.ListComp elt [⟨.Name x px, iter, ifs, 0⟩] scope pos) spos :: rest) env) Q E s := by
  obtain ⟨h1, h2, h3, h4, h5, h6, h7⟩ := compOk_of hok
  exact wpAny_execs_cons (Assign_ListComp_CS ρc p F hsw h1 h2 h3 h4 h5 hy hek h6 hc2 h7 h hs)
theorem comp_it {scope : Scope} {x : Str} {ifs : List Expr} {elt : Expr} {p : Value → Bool} {F : Value → Value → Prop} {Fin : Addr → Obj → Prop} {it : Value} {n : Nat} {P : Nat → Value → Prop} (I : It prog w A s₀ h₀ env ρ Λ n P it s) (hn : n ≤ 16777216)
    (ht : ∀ C i v s₃ E', i < n → P i v → CS false s₃ h₀ (compEnvC scope (closGo env scope.names []) C env) ((x, some v) :: ρc) Λ s₃ →
      wpAny (model prog w) A (forIn ifs true fun c r => if r = true then do let ok ← isTrue c (compEnvC scope (closGo env scope.names []) C env) (eval c (compEnvC scope (closGo env scope.names []) C env)); pure (ForInStep.yield ok) else pure (ForInStep.yield r))
        (fun ok s₄ => ok = p v ∧ Keeps s₃ s₄) E' s₃)
    (he : ∀ C i v s₃ E', i < n → P i v → p v = true → CS false s₃ h₀ (compEnvC scope (closGo env scope.names []) C env) ((x, some v) :: ρc) Λ s₃ →
      wpAny (model prog w) A (eval elt (compEnvC scope (closGo env scope.names []) C env)) (fun y s₄ => F v y ∧ Keeps s₃ s₄) E' s₃)
    (fin : ∀ D k ys (vs : List Value), vs.length = n → (∀ j v, vs[j]? = some v → P j v) → Paired F (vs.filter p) ys.toList → s.heap.get? D = none → Fin D (lst ys k)) :
    CompK prog w A s₀ h₀ env ρ ρc Λ scope x ifs elt p F Fin it s := by
  obtain ⟨I, fp, wr, St, rfl, W, hst, hfp, hwr, hown, S⟩ := I
  have W' : Walks prog w A I fp wr n (fun i v => i < n ∧ P i v) St := ⟨W.sub, W.frame, fun i s Q E hi st hQ => W.item i s Q E hi st fun v h' tk hP => hQ v h' tk ⟨hi, hP⟩, W.done, W.self⟩
  exact ⟨I, fp, wr, n, (fun i v => i < n ∧ P i v), St, rfl, W', by rw [sizeLine_eq]; exact hn, hst, hfp, S, hwr, fun a ha => hown a (W.sub a ha), fun C i v s₃ E' h => ht C i v s₃ E' h.1 h.2, fun C i v s₃ E' h => he C i v s₃ E' h.1 h.2,
    fun D k ys vs h1 h2 => fin D k ys vs h1 fun j v hv => (h2 j v hv).2⟩
theorem tests0 {M : Model} {e : Env} {Q : Bool → Shared → Prop} (h : Q true s) :
    wpAny M A (forIn ([] : List Expr) true fun c r => if r = true then do let ok ← isTrue c e (eval c e); pure (ForInStep.yield ok) else pure (ForInStep.yield r)) Q E s := by
  rw [List.forIn_nil]; exact wpAny_pure h
theorem tests1 {M : Model} {c : Expr} {e : Env} {Q : Bool → Shared → Prop} (h : wpAny M A (isTrue c e (eval c e)) Q E s) :
    wpAny M A (forIn [c] true fun c r => if r = true then do let ok ← isTrue c e (eval c e); pure (ForInStep.yield ok) else pure (ForInStep.yield r)) Q E s := by
  rw [List.forIn_cons, if_pos rfl]
  refine wpAny_bind (wpAny_bind (wpAny_mono h (fun v s' q => wpAny_pure ?_) fun _ _ q => q))
  show wpAny _ _ (forIn ([] : List Expr) _ _) _ _ _
  rw [List.forIn_nil]; exact wpAny_pure q
theorem x_attr {o value : Expr} {attr : Str} {pos' pos : Pos} {rest : List Stmt} {M : Model} {Q : Flow → Shared → Prop}
    (h : wpAny M A (eval value env) (fun v s₁ => wpAny M A (eval o env) (fun ov s₂ => wpAny M A (setAttr ov attr v) (fun _ s₃ => wpAny M A (execs rest env) Q E s₃) E s₂) E s₁) E s)
    (hs : swapsWith value (some (.Attribute o attr pos')) pos.line env = pure false) : wpAny M A (execs (.Assign [.Attribute o attr pos'] value pos :: rest) env) Q E s :=
  wpAny_execs_cons (plainObj_wpAny_Assign_Attribute h hs)
end
theorem join_toList : ∀ (l : List Str), (Str.join (Str.ofString "") l).cps.toList = l.flatMap fun x => x.cps.toList
  | [] => rfl
  | [x] => by simp [Str.join]
  | x :: y :: r => by
    have h := join_toList (y :: r)
    rw [List.flatMap_cons, ← h]
    show (x.cps ++ (Str.ofString "").cps ++ (Str.join (Str.ofString "") (y :: r)).cps).toList = _
    rw [show (Str.ofString "").cps = #[] from rfl]
    simp
theorem joined_toList (l : List Str) : (Txt.join (Str.ofString "") l).cps.toList = l.flatMap fun x => x.cps.toList := by
  rw [← join_toList]
  show (Builtin.Str.glued (Str.ofString "") l).cps.toList = _
  rw [StrLaws.glued_eq_join]
end Fl

namespace Fl
open PySem PySem.W PySem.Calls PyProof.Rows

/-- what a call has made newly stands in h₁ -/
def Newer (s s' : Shared) (h₁ : Heap) : Prop := ∀ a o, s.heap.get? a = none → s'.heap.get? a = some o → h₁.get? a = some o
section
variable {prog : Program} {w : World} {A : Around} {E : Value → Shared → Prop} {s s' s₀ : Shared} {h₀ h₁ : Heap} {env : Env} {ρ ρ' ρc : Rho} {Λ Λ' : List (Addr × Obj)} {K : Frag}
theorem Newer.self (s s' : Shared) : Newer s s' s'.heap := fun _ _ _ e => e
theorem It.cs {n : Nat} {P : Nat → Value → Prop} {it : Value} (I : It prog w A s₀ h₀ env ρ Λ n P it s) : CS true s₀ h₀ env ρ Λ s := by
  obtain ⟨_, _, _, _, _, _, _, _, _, _, S⟩ := I; exact S
theorem CS.newAt (S : CS true s₀ h₀ env ρ Λ s) (k : Sub s₀.heap h₀) {a : Addr} {o : Obj} (hm : (a, o) ∈ Λ) (hn : Newer s₀ s h₁) : h₁.get? a = some o := hn _ _ (k.none ((S.led _ hm).2.2.2 rfl)) (S.led _ hm).1
theorem CS.adopt {D : Addr} {o : Obj} (S : CS true s₀ h₀ env ρ Λ s) (hk : Keeps s s') (hD : s.heap.get? D = none) (hD' : s'.heap.get? D = some o) : CS true s₀ h₀ env ρ ((D, o) :: Λ) s' := by
  obtain ⟨h', tk, rfl, k⟩ := hk
  exact S.new (wr := []) rfl (fun a o _ e => k a o e) (fun _ h => nomatch h) (fun _ h => nomatch h) hD hD'
theorem CS.gnew (S : CS true s₀ h₀ env ρ Λ s) (k : Keeps s s') : ∃ h₁, Sub h₀ h₁ ∧ CS true s₀ h₁ env ρ Λ s' ∧ Newer s s' h₁ := S.grow k
/-- behind a call: all that it left stands -/
theorem CS.outs (S : CS true s₀ h₀ env ρ Λ s) (k : Sub s₀.heap h₀) : Keeps s₀ s := (S.drop k).out
theorem Room.under {n k : Nat} {C : Addr} {vals : List Value} (r : Room A n) (h : k + 2 ≤ n) : Room (A.under (.builtin "type.__call__" ⟨.ref C :: vals, []⟩)) k := by
  have hd := depth_under_make A C vals
  have hd' : (Code.builtin "type.__call__" ⟨.ref C :: vals, []⟩).frames ≤ 1 := by
    first | exact Nat.le_of_eq (show _ = 1 from rfl) | (have h0 : (Code.builtin "type.__call__" ⟨.ref C :: vals, []⟩).frames = 0 := rfl; omega) | (have h0 : (Code.builtin "type.__call__" ⟨.ref C :: vals, []⟩).frames = 0 := (by simp [Code.frames]); omega)
  have hu : (A.under (.builtin "type.__call__" ⟨.ref C :: vals, []⟩)).units ≤ A.units + 10 := by
    show A.units + Code.cUnits (.builtin "type.__call__" ⟨.ref C :: vals, []⟩) ≤ _
    have : Code.cUnits (.builtin "type.__call__" ⟨.ref C :: vals, []⟩) = 1 + 3 * (Code.builtin "type.__call__" ⟨.ref C :: vals, []⟩).frames := rfl
    omega
  refine ⟨?_, ?_, r.handled⟩
  · have := r.depth; omega
  · have := r.units; omega
theorem x_e {e : Expr} {pos : Pos} {rest : List Stmt} {Q : Flow → Shared → Prop} (h : wpAny (model prog w) A (eval e env) (fun _ s' => wpAny (model prog w) A (execs rest env) Q E s') E s)
    (hi : interactive env = false) (hs : swapsWith e none pos.line env = pure false) : wpAny (model prog w) A (execs (.Expr e pos :: rest) env) Q E s := wpAny_execs_cons (wpAny_Expr_any h hi hs)
end
end Fl

namespace Fl
open PySem PySem.W PySem.Calls PyProof.Rows

section
variable {prog : Program} {w : World} {A : Around} {E : Value → Shared → Prop} {s s₀ : Shared} {h₀ : Heap} {env : Env} {ρ : Rho} {Λ : List (Addr × Obj)}
/-- a statement that always goes on, by what holds behind it -/
theorem x_cutS {st : Stmt} {rest : List Stmt} {Q : Flow → Shared → Prop} (_ : CS true s₀ h₀ env ρ Λ s) (P : Rho → List (Addr × Obj) → Prop)
    (h1 : ∀ Q' : Flow → Shared → Prop, (∀ ρ' Λ' s', P ρ' Λ' → CS true s₀ h₀ env ρ' Λ' s' → Q' .next s') → wpAny (model prog w) A (execs [st] env) Q' E s)
    (h2 : ∀ ρ' Λ' s', P ρ' Λ' → CS true s₀ h₀ env ρ' Λ' s' → wpAny (model prog w) A (execs rest env) Q E s') : wpAny (model prog w) A (execs (st :: rest) env) Q E s :=
  x_cut (fun s' => ∃ ρ' Λ', P ρ' Λ' ∧ CS true s₀ h₀ env ρ' Λ' s') (x_one (h1 _ fun ρ' Λ' s' a b => ⟨rfl, ρ', Λ', a, b⟩)) fun s' ⟨ρ', Λ', a, b⟩ => h2 ρ' Λ' s' a b
end

theorem test_lastE {M : Model} {A : Around} {E : Value → Shared → Prop} {s : Shared} {env : Env} {pos : Pos} {a : Value} {op : CmpOp} {r : Sem Value} {Q : Bool → Shared → Prop}
    (h : wpAny M A r (fun b s₁ => wpAny M A (compareOp op a b) (fun c s₂ => wpAny M A (truthy c) Q E s₂) E s₁) E s) : wpAny M A (testChain pos a [op] (r :: evalEach [] env)) Q E s := test_last h
/-- as callP, for the code of a call -/
theorem callC {prog : Program} {w : World} {A : Around} {s : Shared} {K : Frag} {R : Result → Shared → Prop} {f : Addr} {name qual : Str} {params : Arguments} {body : List Stmt} {scope : Scope} {dV kV doc pm cdv ct oc : Value} {an od : Option Addr} {osl : Array (Option Value)} {vals : List Value} {binds : List (Str × Value)} (ρ : Rho)
    (G : Gr K s.heap) (hroom : A.depth < recursionLimit)
    (ho : K.lookup f = some ⟨oc, od, .func (fnOf name qual params body scope dV kV doc pm an cdv ct), osl⟩) (hcd : codeIn K cdv qual = true)
    (hbind : bindArgs (fnOf name qual params body scope dV kV doc pm an cdv ct) ⟨vals, []⟩ = pure binds) (hd : defOk scope = true) (hb1 : bindsOk scope binds = true) (hb2 : nodupS (binds.map (·.1)) = true) (hρ : rho0 scope.names binds = ρ)
    (h : ∀ L s₁, CS true s s.heap (envF qual scope L f cdv) ρ [] s₁ →
      wpAny (model prog w) (A.deeper (envF qual scope L f cdv)) (execs body (envF qual scope L f cdv)) (RetQ fun v s' => R (.ok (.ret v)) s') (OutE (model prog w) A (envF qual scope L f cdv) fun e s' => R (.error e) s') s₁) :
    codeAny (model prog w) A (.call (.ref f) ⟨vals, []⟩) R s := by
  unfold defOk at hd
  simp only [Bool.and_eq_true, Bool.not_eq_true'] at hd
  obtain ⟨⟨⟨h1, h2⟩, h3⟩, h4⟩ := hd
  have h4' : scope.kind = .function := by
    cases hk : scope.kind <;> first | rfl | (rw [hk] at h4; cases h4)
  exact call_def (Λ := []) (fd := fnOf name qual params body scope dV kV doc pm an cdv ct) hroom (G.X _ _ ho) rfl G.lim (codeRec_of G.X hcd) rfl hbind rfl hb1 (nodupS_nodup hb2) (nodupS_nodup h1) hρ (Sub.refl _) (fun _ h => nomatch h) List.nodup_nil (h _) h2 h3 h4'
def four (c : Nat) : Prop := c = 46 ∨ c = 45 ∨ c = 124 ∨ c = 35
theorem join_signs (xs : List Str) (h : ∀ x ∈ xs, ∃ c, x = ⟨#[c]⟩ ∧ four c) : (Txt.join (Str.ofString "") xs).length = xs.length ∧ ∀ c ∈ (Txt.join (Str.ofString "") xs).cps.toList, four c := by
  have e := joined_toList xs
  have h1 : (xs.flatMap fun x => x.cps.toList).length = xs.length ∧ ∀ c ∈ (xs.flatMap fun x => x.cps.toList), four c := by
    clear e
    induction xs with
    | nil => exact ⟨rfl, fun _ h => nomatch h⟩
    | cons x r ih =>
      obtain ⟨c, rfl, hc⟩ := h x (List.mem_cons_self ..)
      obtain ⟨i1, i2⟩ := ih fun y hy => h y (List.mem_cons_of_mem _ hy)
      rw [List.flatMap_cons]
      refine ⟨by simp [i1] , fun d hd => ?_⟩
      rcases List.mem_append.mp hd with q | q
      · rw [show d = c by simpa using q]; exact hc
      · exact i2 d q
  rw [← e] at h1
  refine ⟨?_, h1.2⟩
  rw [← h1.1]
  exact Array.length_toList.symm

/-- a place in the rows joined -/
theorem flat_get {wd : Nat} : ∀ (rows : List (List Nat)) (p : Nat), (∀ r ∈ rows, r.length = wd) → 0 < wd → (rows.flatMap id)[p]?.getD 0 = ((rows[p / wd]?).getD [])[p % wd]?.getD 0
  | [], p, _, _ => by simp
  | r :: rs, p, h, hw => by
    have hr := h r (List.mem_cons_self ..)
    rw [List.flatMap_cons, id, List.getElem?_append]
    by_cases hp : p < wd
    · rw [if_pos (by omega), Nat.div_eq_of_lt hp, Nat.mod_eq_of_lt hp]; rfl
    · rw [if_neg (by omega), hr, flat_get rs (p - wd) (fun x hx => h x (List.mem_cons_of_mem _ hx)) hw]
      have e1 : p / wd = (p - wd) / wd + 1 := by
        rw [Nat.div_eq p wd, if_pos ⟨hw, by omega⟩]
      have e2 : p % wd = (p - wd) % wd := by rw [Nat.mod_eq_sub_mod (by omega)]
      rw [e1, e2]; simp
theorem joined_get {rows : List Str} {wd : Nat} (g : Grid rows wd) (p : Nat) (hw : 0 < wd) : (Txt.join (Str.ofString "") rows).cps.getD p 0 = sg rows wd p := by
  have e := joined_toList rows
  have e' : (rows.flatMap fun x => x.cps.toList) = (rows.map fun x => x.cps.toList).flatMap id := by rw [List.flatMap_map]; rfl
  have : (Txt.join (Str.ofString "") rows).cps.getD p 0 = (Txt.join (Str.ofString "") rows).cps.toList[p]?.getD 0 := by
    simp [Array.getD_eq_getD_getElem?]
  rw [this, e, e', flat_get _ _ (wd := wd) (fun r hr => ?_) hw]
  · unfold sg
    have h1 : ((p : Int) / (wd : Int)).toNat = p / wd := by rw [← Int.natCast_ediv, Int.toNat_natCast]
    have h2 : ((p : Int) % (wd : Int)).toNat = p % wd := by rw [← Int.natCast_emod, Int.toNat_natCast]
    rw [h1, h2, List.getElem?_map]
    cases q : rows[p / wd]? with
    | none => simp [List.getD, q, Str.empty]
    | some r => simp [List.getD, q, Array.getD_eq_getD_getElem?]
  · obtain ⟨x, hx, rfl⟩ := List.mem_map.mp hr
    rw [Array.length_toList]; exact g.len x hx
theorem joined_len {rows : List Str} {wd : Nat} (g : Grid rows wd) : (Txt.join (Str.ofString "") rows).length = rows.length * wd := by
  have e := joined_toList rows
  have hl := g.len
  have : (rows.flatMap fun x => x.cps.toList).length = rows.length * wd := by
    clear e g
    induction rows with
    | nil => simp
    | cons x r ih =>
      have := hl x (List.mem_cons_self ..)
      have h2 : x.cps.toList.length = wd := by rw [Array.length_toList]; exact this
      rw [List.flatMap_cons, List.length_append, ih fun y hy => hl y (List.mem_cons_of_mem _ hy), h2, List.length_cons, Nat.succ_mul]; omega
  rw [← e, Array.length_toList] at this
  exact this
theorem cells_mem {rows : List Str} {wd : Nat} (p : Int) : decide (p ∈ cellsL rows wd) = hasB rows wd p := by
  rw [Bool.eq_iff_iff, decide_eq_true_iff]
  unfold cellsL
  rw [List.mem_filter]
  refine ⟨fun h => h.2, fun h => ⟨?_, h⟩⟩
  have : 0 ≤ p ∧ p < rows.length * wd := by
    simp [hasB, inB] at h; exact h.1
  have e : ((rows.length : Int) * wd) = ((rows.length * wd : Nat) : Int) := by rw [Int.natCast_mul]
  exact List.mem_map.mpr ⟨p.toNat, List.mem_range.mpr (by omega), by omega⟩

theorem div_step {a c w : Int} (hw : 0 < w) : c - a = w ↔ (a % w = c % w ∧ c / w - a / w = 1) := by
  have e1 := Int.emod_add_mul_ediv a w
  have e2 := Int.emod_add_mul_ediv c w
  constructor
  · intro h
    have : c = a + 1 * w := by omega
    subst this
    rw [Int.add_mul_emod_self_right, Int.add_mul_ediv_right a 1 (by omega)]
    exact ⟨rfl, by omega⟩
  · rintro ⟨h1, h2⟩
    have h3 : c / w = a / w + 1 := by omega
    rw [h3, Int.mul_add, Int.mul_one] at e2
    omega
theorem may_eq {rows : List Str} {wd : Nat} (g : Grid rows wd) (a c : Int) : mayB rows wd a c = mayL rows wd a c := by
  unfold mayB mayL
  by_cases h1 : inB rows wd a = true
  · by_cases h2 : inB rows wd c = true
    · have g1 : 0 ≤ a ∧ a < rows.length * wd := by simpa [inB] using h1
      have g2 : 0 ≤ c ∧ c < rows.length * wd := by simpa [inB] using h2
      obtain ⟨hw, _⟩ := g.at_ g1.1 g1.2
      have hw2 := g.wide
      simp only [hasB, h1, h2, Bool.true_and]
      have k1 : (max a c - min a c = 1 ∧ min a c / wd = max a c / wd) ↔ (a / wd = c / wd ∧ (a - c).natAbs = 1) := by
        rcases Int.le_total a c with q | q
        · rw [Int.max_eq_right q, Int.min_eq_left q]; omega
        · rw [Int.max_eq_left q, Int.min_eq_right q]; omega
      have k2 : (max a c - min a c = wd) ↔ (a % wd = c % wd ∧ (a / wd - c / wd).natAbs = 1) := by
        have d1 := div_step (a := a) (c := c) (w := wd) (by omega)
        have d2 := div_step (a := c) (c := a) (w := wd) (by omega)
        have e : (a / (wd : Int) - c / (wd : Int)).natAbs = 1 ↔ (c / (wd : Int) - a / (wd : Int) = 1 ∨ a / (wd : Int) - c / (wd : Int) = 1) := by omega
        rw [e]
        have m : max a c - min a c = wd ↔ (c - a = wd ∨ a - c = wd) := by omega
        rw [m, d1, d2]
        exact ⟨fun h => h.elim (fun h => ⟨h.1, .inl h.2⟩) (fun h => ⟨h.1.symm, .inr h.2⟩), fun h => h.2.elim (fun q => .inl ⟨h.1, q⟩) (fun q => .inr ⟨h.1.symm, q⟩)⟩
      have sw : ∀ f : Nat → Bool, (f (sg rows wd (min a c)) && f (sg rows wd (max a c))) = (f (sg rows wd a) && f (sg rows wd c)) := fun f => by
        rcases Int.le_total a c with q | q
        · rw [Int.max_eq_right q, Int.min_eq_left q]
        · rw [Int.max_eq_left q, Int.min_eq_right q, Bool.and_comm]
      have al : ∀ c, alongB c = true → (c != 35) = true := fun c h => by simp [alongB] at h; simp; omega
      have ac : ∀ c, acrossB c = true → (c != 35) = true := fun c h => by simp [acrossB] at h; simp; omega
      rw [sw alongB, sw acrossB]
      by_cases q1 : (a / wd = c / wd ∧ (a - c).natAbs = 1)
      · rw [if_pos q1, if_pos (k1.mpr q1)]
        cases e1 : alongB (sg rows wd a) <;> cases e2 : alongB (sg rows wd c) <;> simp_all
      · rw [if_neg q1, if_neg (fun q => q1 (k1.mp q))]
        by_cases q2 : (a % wd = c % wd ∧ (a / wd - c / wd).natAbs = 1)
        · rw [if_pos q2, if_pos (k2.mpr q2)]
          cases e1 : acrossB (sg rows wd a) <;> cases e2 : acrossB (sg rows wd c) <;> simp_all
        · rw [if_neg q2, if_neg (fun q => q2 (k2.mp q))]; simp
    · have h2' : inB rows wd c = false := by simpa using h2
      simp [hasB, h2']
  · have h1' : inB rows wd a = false := by simpa using h1
    simp [hasB, h1']
end Fl

namespace Fl
open PySem PySem.W PySem.Calls PyProof.Rows PyProof.V PySem.Spec Builtin Builtin.ObjectAttr Builtin.Getset_descriptor

abbrev vmro : List Value := [.type "ValueError", .type "Exception", .type "BaseException", .type "object"]
/-- what is asked of an exception class of the text, by evaluation -/
structure ExcK (K : Frag) (C : Addr) : Prop where
  is : excIn K C vmro "ValueError.__new__" = true
  ga : findIn K (.ref C) "__getattribute__" = some (some (.builtin "BaseException.__getattribute__"))
  gh : findIn K (.ref C) "__getattr__" = some none
  cl : findIn K (.ref C) "__class__" = some (some (.builtin "object.__class__"))
  sp : specialIn K (.builtin "object.__class__") "__get__" = some (some (.builtin "getset_descriptor.__get__"))
  tk : takesIn K (.builtin "object.__class__") = some true
  mr : mroIn K C (.type "object") = some true
  bs : subIn K (.ref C) (.type "BaseException") = some true
  cs : (clsIn K C).isSome = true

/-- an exception object of a class of the text -/
def ExcAt (h : Heap) (e C : Addr) : Prop := ∃ oe, h.get? e = some oe ∧ oe.cls = .ref C
theorem ExcAt.mono {h h' : Heap} {e C : Addr} (x : ExcAt h e C) (k : Sub h h') : ExcAt h' e C := let ⟨o, a, b⟩ := x; ⟨o, k _ _ a, b⟩
theorem ExcAt.type {h : Heap} {e C : Addr} (x : ExcAt h e C) (M : Model) : Looks M h (typeOf (.ref e)) (.ref C) := by
  obtain ⟨o, a, b⟩ := x
  exact b ▸ (Looks.ld a).andThen .now

section
variable {prog : Program} {w : World} {A : Around} {E : Value → Shared → Prop} {s : Shared} {K : Frag} {e C D : Addr}
theorem exc_find {M : Model} {h : Heap} (X : K.In h) (k : ExcK K C) : Looks M h (Builtin.ObjectAttr.find (.ref e) (.ref C) "__class__") (.bind (.builtin "getset_descriptor.__get__") (.builtin "object.__class__")) := by
  have L1 := looks_findIn (M := M) X k.cl
  have L2 : Looks M h (Builtin.ObjectAttr.getOf (some (.builtin "object.__class__"))) (some (.builtin "getset_descriptor.__get__")) := looks_specialIn X k.sp
  unfold Builtin.ObjectAttr.find
  refine L1.andThen (L2.andThen ?_)
  unfold Builtin.ObjectAttr.dataDescriptor?
  have L3 := looks_takesIn (M := M) X k.tk
  refine Looks.andThen (a := some (.builtin "getset_descriptor.__get__", .builtin "object.__class__")) (L3.andThen .now) ?_
  exact Looks.tag .now
theorem exc_class_get {R : Result → Shared → Prop} {tp : Value} (X : K.In s.heap) (x : ExcAt s.heap e C) (hm : mroIn K C (.type "object") = some true)
    (h : R (.ok (.ret (.ref C))) s) : codeAny (model prog w) A (.call (.builtin "getset_descriptor.__get__") ⟨[.builtin "object.__class__", .ref e, tp], []⟩) R s := by
  obtain ⟨hh, g, dr, t, os⟩ := s
  have L0 := x.type (model prog w)
  have L1 := looks_mroIn (M := model prog w) X hm
  refine codeAny_call_builtin KF.slot_gs.plain KF.entry_gs (KF.slot_gs.check _ _ _ _ _ _ _ _ KF.type_class (KF.args_gs _ _ _) ?_)
  unfold Builtin.«getset_descriptor.__get__» descrGet
  rw [dga_obj]
  refine wpAny_bind (wpAny_pure ?_)
  unfold descrGetter descrCheckInstance descrNameAndClass isInstance
  simp only [KF.owner_class]
  repeat lk
  refine ⟨Code.quiet_builtin _ (by decide +kernel), codeAny_builtin KF.entry_class ?_⟩
  unfold Builtin.«object.__class__» shownTypeOf
  repeat lk
  exact h

theorem exc_check {M : Model} {nameV : Value} {Q : Unit → Shared → Prop} (X : K.In s.heap) (x : ExcAt s.heap e C) (k : ExcK K C) (hq : Q () s) : wpAny M A (checkBuiltinCall "BaseException.__getattribute__" ⟨[.ref e, nameV], []⟩) Q E s := by
  have hk : builtinKind "BaseException.__getattribute__" = some .slot := by decide +kernel
  have hsplit : splitId "BaseException.__getattribute__" = some ("BaseException", "__getattribute__") := by decide +kernel
  have ha := F.args_bexc_ga (.ref e) nameV
  obtain ⟨hh, g, d, t, os⟩ := s
  have L0 := x.type M
  have LI : Looks M hh (isInstance (.ref e) (.type "BaseException")) true := L0.andThen (looks_subIn X k.bs)
  simp only [checkBuiltinCall, hk, hsplit]
  refine wpAny_bind (LI.at ?_)
  repeat (first | assumption | wp_step)
theorem exc_class {Q : Option Value → Shared → Prop} (X : K.In s.heap) (x : ExcAt s.heap e C) (k : ExcK K C) (h : Q (some (.ref C)) { s with toks := s.toks + 1 }) : wpAny (model prog w) A (getAttr? (.ref e) "__class__") Q E s := by
  obtain ⟨hh, g, d, t, os⟩ := s
  have L0 := x.type (model prog w)
  have L1 := looks_findIn (M := model prog w) X k.ga
  have L2 := looks_findIn (M := model prog w) X k.gh
  have LF := exc_find (e := e) (M := model prog w) X k
  unfold getAttr? getAttrBy? getAttrBy
  refine wpAny_bind (wpAny_mkText (wpAny_bind (wpAny_attempt (wpAny_holding (wpAny_bind (L0.at (wpAny_bind (L1.at ?_))))))))
  have hx2 : (Value.builtin "BaseException.__getattribute__" == Value.builtin "object.__getattribute__") = false := by decide +kernel
  have hx1 : (onTheHeap (Value.ref C) && Value.builtin "BaseException.__getattribute__" == Value.builtin "object.__getattribute__") = false := by rw [hx2]; rfl
  simp only [hx1, Bool.false_eq_true, if_false]
  unfold getAttrByItsOwn
  refine wpAny_bind (L2.at ?_)
  refine wpAny_bind (wpAny_attempt (wpAny_holding ?_))
  unfold callGetattribute boundAndCalled
  simp only [Bool.false_and, Bool.false_eq_true, if_false]
  rw [F.excAttr_ValueError.ga.bind (.ref e)]
  refine wpAny_bind (wpAny_pure ?_)
  refine wpAny_call (codeAny_call_builtin F.excAttr_ValueError.ga.plain F.entry_bexc_ga (exc_check (K := K) X x k ?_))
  unfold Builtin.«object.__getattribute__»
  refine wpAny_bind (wpAny_pure (a := (Value.ref e, [Value.str (Str.ofString "__class__") t])) ?_)
  refine wpAny_bind (wpAny_pure (a := Str.ofString "__class__") ?_)
  refine wpAny_bind (L0.at (wpAny_bind (LF.at ?_)))
  show wpAny _ _ (holding [Value.builtin "object.__class__"] (call (.builtin "getset_descriptor.__get__") [.builtin "object.__class__", .ref e, .ref C]) >>= ret) _ _ _
  refine wpAny_bind (wpAny_holding (wpAny_call (exc_class_get (K := K) X x k.mr ?_)))
  refine wpAny_pure ?_
  refine handed_on rfl ?_
  exact wpAny_pure h
theorem exc_nested {c : Value} {dep : Int} {tk : Tok} {Q : Fin → Shared → Prop} (X : K.In s.heap) (x : ExcAt s.heap e C) (k : ExcK K C) (hty : Looks (model prog w) s.heap (typeOf c) (.type "type")) (his : Looks (model prog w) s.heap (isType c) true)
    (hne : (Value.ref C == c) = false) (hsub : Looks (model prog w) s.heap (isSubtype (.ref C) c) false) (h : Q (.done (.ret (.bool false))) { s with toks := s.toks + 1 }) :
    wpAny (model prog w) A (Builtin.«isinstance.nested» ⟨[.ref e, c, .int dep tk], []⟩) Q E s := by
  obtain ⟨cdD, hcD⟩ := Option.isSome_iff_exists.mp k.cs
  have hisD : Looks (model prog w) s.heap (isType (.ref C)) true := by
    unfold clsIn at hcD
    split at hcD
    · rename_i c' d' cd' sl' ho
      intro A' Q' E' s' k q
      unfold isType loadHead
      exact wpAny_bind (wpAny_loadPart (k _ _ (X _ _ ho)) (wpAny_pure q))
    · cases hcD
  obtain ⟨h0, g, d, tt, os⟩ := s
  have L0 := x.type (model prog w)
  have LI : Looks (model prog w) h0 (isInstance (.ref e) c) false := L0.andThen hsub
  unfold Builtin.«isinstance.nested»
  refine wpAny_bind (L0.at ?_)
  rw [if_neg (fun q => by rw [hne] at q; exact Bool.noConfusion q)]
  refine wpAny_bind (hty.at ?_)
  rw [if_pos (by decide)]
  k_delta "plainIsInstance"
  refine wpAny_bind (wpAny_bind (his.at ?_))
  simp only [Bool.not_true, Bool.false_eq_true, if_false]
  refine wpAny_bind (LI.at ?_)
  simp only [Bool.false_eq_true, if_false]
  refine wpAny_bind (exc_class (K := K) X x k ?_)
  refine wpAny_bind (hisD.at ?_)
  simp only [Bool.not_true, Bool.false_eq_true, if_false]
  refine wpAny_bind (wpAny_rule ?_)
  refine hsub.at ?_
  first
    | exact wpAny_pure h
    | exact wpAny_pure (wpAny_pure h)
    | exact wpAny_bind (wpAny_pure (wpAny_pure h))
theorem y_exc_no {Q : Value → Shared → Prop} (X : K.In s.heap) (x : ExcAt s.heap e C) (k : ExcK K C) (hn : kin_not K C D = true) (h : Q (.bool false) { s with toks := s.toks + 1 }) :
    wpAny (model prog w) A (call (.builtin "isinstance") [.ref e, .ref D]) Q E s := by
  unfold kin_not at hn
  rw [Bool.and_eq_true, Bool.and_eq_true, Bool.and_eq_true] at hn
  obtain ⟨⟨⟨e0, e1⟩, e2⟩, e3⟩ := hn
  have ty : ∀ (M : Model) h', K.In h' → Looks M h' (typeOf (.ref D)) (.type "type") := fun _ h' X' => looks_typeIn X' (beq_iff_eq.mp e2)
  have it : ∀ (M : Model) h', K.In h' → Looks M h' (isType (.ref D)) true := fun _ h' X' => by
    unfold clsIn at e1
    split at e1
    · rename_i c' d' cd' sl' ho
      intro A' Q' E' s' k q
      unfold isType loadHead
      exact wpAny_bind (wpAny_loadPart (k _ _ (X' _ _ ho)) (wpAny_pure q))
    · cases e1
  have ne : (Value.ref C == Value.ref D) = false := Bool.eq_false_iff.mpr fun q => of_decide_eq_true e0 (Value.ref.inj (beq_iff_eq.mp q))
  have sb : ∀ (M : Model) h', K.In h' → Looks M h' (isSubtype (.ref C) (.ref D)) false := fun _ h' X' => looks_subIn X' (beq_iff_eq.mp e3)
  exact call_isinstance (S := fun _ R s => (K.In s.heap ∧ ExcAt s.heap e C) ∧ R (.ok (.ret (.bool false))) { s with toks := s.toks + 1 })
    (fun _ _ _ _ _ hs => isinstance_outer (exc_nested hs.1.1 hs.1.2 k (ty _ _ hs.1.1) (it _ _ hs.1.1) ne (sb _ _ hs.1.1) hs.2) (by intro q; cases q)) ⟨⟨X, x⟩, h⟩
theorem y_exc_yes {Q : Value → Shared → Prop} (X : K.In s.heap) (x : ExcAt s.heap e C) (hy : isIn K (.ref C) D = true) (h : Q (.bool true) s) : wpAny (model prog w) A (call (.builtin "isinstance") [.ref e, .ref D]) Q E s :=
  isi_call X (fun M => x.type M) hy (by intro q; cases q) h
end
end Fl

namespace Fl
open PySem PySem.W PySem.Calls PyProof.Rows

/-- the frames that stand around: B is a part of the heap that holds none of their names' objects -/
structure Stk (A : Around) (B : Heap) (outer : List Env) (h : Heap) : Prop where
  frames : A.frames = some outer
  funs : h.FunFrames B outer
  stays : Sub B h
theorem Stk.go {A : Around} {B : Heap} {outer : List Env} {h h' : Heap} (k : Stk A B outer h) (u : h.UpToSlots h') (st : Sub B h') : Stk A B outer h' :=
  ⟨k.frames, Heap.FunFrames.of_keeps (fun b o e hn => let ⟨sl, q⟩ := u b o e hn; ⟨_, q, rfl⟩) k.funs, st⟩
theorem Stk.mono {A : Around} {B : Heap} {outer : List Env} {h h' : Heap} (k : Stk A B outer h) (s : Sub h h') : Stk A B outer h' := k.go (Heap.UpToSlots.of_keeps s) (k.stays.trans s)

/-- an exception of the class C that has come out of a call -/
structure Fly (B : Heap) (outer : List Env) (e C : Addr) (s s' : Shared) : Prop where
  same : ∃ h tk, s' = { s with heap := h, toks := tk }
  fly : ∃ a0, Heap.FlyingW B outer e (.ref C) a0 s'.heap
  up : s.heap.UpToSlots s'.heap

section
variable {M : Model} {prog : Program} {w : World} {A : Around} {E : Value → Shared → Prop} {s s' s₀ : Shared} {h₀ B : Heap} {env : Env} {ρ : Rho} {Λ : List (Addr × Obj)} {outer : List Env} {e C : Addr} {K : Frag}
theorem Stk.deeper (k : Stk A B outer s.heap) (S : CS true s₀ h₀ env ρ Λ s) (hB : Sub B h₀) (hf : env.frame = some env.locals) : Stk (A.deeper env) B (env :: outer) s.heap := by
  obtain ⟨m, hn, _⟩ := S.ns
  exact ⟨Around.frames_deeper k.frames, Heap.FunFrames.cons (by rw [S.kind]; intro q; cases q) hf hn (hB.none (S.locs rfl)) k.funs, hB.trans S.base⟩
theorem out_first {h' : Heap} {args : List Value} (k : Stk A B outer s₀.heap) (S : CS true s₀ h₀ env ρ Λ s) (hB : Sub B h₀) (hf : env.frame = some env.locals) (u : s₀.heap.UpToSlots s.heap) (hx : Heap.MadeExcOf s.heap h' e (.ref C) args)
    (hE : ∀ s', Fly B outer e C s₀ s' → E (.ref e) s') : OutE M A env E (.ref e) { s with heap := h' } := by
  have kd : Sub s.heap h' := hx.keeps
  have ks : Stk A B outer s.heap := k.go u (hB.trans S.base)
  have k2 : Stk (A.deeper env) B (env :: outer) h' := (ks.deeper S hB hf).mono kd
  obtain ⟨t, ho, _⟩ := hx.there
  have hen : B.get? e = none := by
    refine (hB.trans S.base).none ?_
    exact hx.new
  refine wpAny_leaving_firstW (base := B) k2.frames k2.funs hf ho k2.stays hen rfl rfl rfl fun h'' L => hE _ ?_
  obtain ⟨l1, l2, l3, l4⟩ := L
  obtain ⟨hs, tks, rfl⟩ := S.same
  exact ⟨⟨h'', _, rfl⟩, ⟨_, l1, hen, l2.2.2, l3⟩, u.trans ((Heap.UpToSlots.of_keeps kd).trans l4)⟩
theorem out_next (k : Stk A B outer s₀.heap) (S : CS true s₀ h₀ env ρ Λ s) (hB : Sub B h₀) (hf : env.frame = some env.locals) (u : s₀.heap.UpToSlots s.heap) (fl : Fly B (env :: outer) e C s s')
    (hE : ∀ s', Fly B outer e C s₀ s' → E (.ref e) s') : OutE M A env E (.ref e) s' := by
  obtain ⟨⟨h', tk, rfl⟩, ⟨a0, f1, f2, f3, f4⟩, up⟩ := fl
  refine wpAny_leaving_nextW (base := B) (Around.frames_deeper k.frames) f3 hf f4 f1 f2 fun h'' L => hE _ ?_
  obtain ⟨l1, l2, l3, l4⟩ := L
  obtain ⟨hs, tks, rfl⟩ := S.same
  exact ⟨⟨h'', _, rfl⟩, ⟨_, l1, f2, l2.2.2, l3⟩, u.trans (up.trans l4)⟩
theorem note_out {v : Value} (h : OutE M A env E v s) : NoteE M (A.deeper env) env (OutE M A env E) v s := PassesOwn.leaving v s h
theorem note_note {A' : Around} {E' : Value → Shared → Prop} {v : Value} (h : NoteE M A' env E' v s) : NoteE M A' env (NoteE M A' env E') v s := PassesOwn.looking (K := fun e s' => cameBackBy M A' env E' e s') v s h

theorem x_raise {x m : Str} {np cpos pos cp : Pos} {ck : Nat} {rest : List Stmt} {Q : Flow → Shared → Prop} (S : CS true s₀ h₀ env ρ Λ s) (G : Gr K h₀) (g : GF K x C) (k : ExcK K C) (hh : A.handled = none)
    (hx : env.kindOf x = some .globalImplicit) (hg : env.globals = mainGlobals)
    (h : ∀ h' e args s', CS true s₀ h₀ env ρ Λ s' → Heap.MadeExcOf s'.heap h' e (.ref C) args → E (.ref e) { s' with heap := h' }) :
    wpAny (model prog w) A (execs (.Raise (some (.Call (.Name x np) [.Constant (.str m) ck cp] [] cpos)) none pos :: rest) env) Q E s := by
  obtain ⟨p, l, mg, mb, T⟩ := G.tr
  obtain ⟨bm, N, nm, q, bs, hdct, sn, sub, ab, col, dd, k0, k1, k2, k3, k5, mN, hC, hN, hni, TL⟩ := (own_of_in G.X T g.ns k.is).obj
  refine wpAny_execs_cons (wpAny_Raise_call_subT (nm := nm) (q := q) (N := N) (bs := bs) (hdct := hdct) (sn := sn) (sub := sub) (ab := ab) (col := col) (dd := dd) (k0 := k0) (k1 := k1) (k2 := k2) (k3 := k3) (k5 := k5) F.excBase_ValueError (TL.hasType rfl) hh rfl hni (n_glob S G g.ns hx hg g.nd ⟨rfl, ?_⟩))
  refine Calls.evalArgs_plain (args_cons (c_str S fun t s' S' => args_nil ?_) rfl)
  exact ⟨rfl, by show 1 ≤ sizeLine; rw [sizeLine_eq]; decide, S'.base _ _ hC, hN.keeps S'.base, TL.keeps S'.base, fun h' e hx => h h' e _ s' S' hx⟩

/-- objects that are the same but for their slots -/
inductive Slk : List (Addr × Obj) → List (Addr × Obj) → Prop
  | nil : Slk [] []
  | cons {a o sl r r'} : Slk r r' → Slk ((a, o) :: r) ((a, { o with slots := sl }) :: r')
theorem Slk.refl : ∀ Λ : List (Addr × Obj), Slk Λ Λ
  | [] => .nil
  | (a, o) :: r => Slk.cons (sl := o.slots) (Slk.refl r)
theorem Slk.trans {Λ₁ Λ₂ Λ₃ : List (Addr × Obj)} (x : Slk Λ₁ Λ₂) (y : Slk Λ₂ Λ₃) : Slk Λ₁ Λ₃ := by
  induction x generalizing Λ₃ with
  | nil => exact y
  | cons _ ih => cases y with | cons y => exact .cons (ih y)
theorem Slk.adr {Λ Λ' : List (Addr × Obj)} (x : Slk Λ Λ') : Λ'.map (·.1) = Λ.map (·.1) := by
  induction x with
  | nil => rfl
  | cons _ ih => simp only [List.map_cons, ih]
theorem slk_of {h : Heap} : ∀ {Λ : List (Addr × Obj)}, (∀ p ∈ Λ, ∃ sl, h.get? p.1 = some { p.2 with slots := sl }) → ∃ Λ', Slk Λ Λ' ∧ ∀ p ∈ Λ', h.get? p.1 = some p.2
  | [], _ => ⟨[], .nil, fun _ h => nomatch h⟩
  | (a, o) :: r, k => by
    obtain ⟨sl, e⟩ := k (a, o) (List.mem_cons_self ..)
    obtain ⟨Λ', x, y⟩ := slk_of (Λ := r) fun p hp => k p (List.mem_cons_of_mem _ hp)
    refine ⟨(a, { o with slots := sl }) :: Λ', .cons x, fun p hp => ?_⟩
    rcases List.mem_cons.mp hp with rfl | hp
    · exact e
    · exact y p hp
theorem CS.fly (S : CS true s₀ B env ρ Λ s) (hd : ∀ p ∈ Λ, ∀ vs, p.2.data ≠ .fields vs) (same : ∃ h tk, s' = { s with heap := h, toks := tk }) (st : Sub B s'.heap) (u : s.heap.UpToSlots s'.heap) : ∃ Λ', Slk Λ Λ' ∧ CS true s₀ B env ρ Λ' s' := by
  obtain ⟨Λ', x, y⟩ := slk_of (h := s'.heap) (Λ := Λ) fun p hp => u p.1 p.2 (S.led p hp).1 (hd p hp)
  have hadr : ∀ p ∈ Λ', ∃ q ∈ Λ, q.1 = p.1 := fun p hp => by
    have : p.1 ∈ Λ'.map (·.1) := List.mem_map_of_mem hp
    rw [x.adr] at this
    obtain ⟨q, a, b⟩ := List.mem_map.mp this
    exact ⟨q, a, b⟩
  have cel : ∀ {c : Addr} {v : Option Value}, s.heap.IsCell c v → s'.heap.IsCell c v := fun {c v} ⟨o, a, b⟩ => by
    obtain ⟨sl, q⟩ := u c o a (fun vs z => by rw [b] at z; cases z)
    exact ⟨_, q, b⟩
  refine ⟨Λ', x, S.kind, ?_, st, (fun q => nomatch q), ?_, fun y v c a b d => cel (S.cell y v c a b d), fun n c e => ?_, S.apart, S.kinds, S.locs, S.nd, fun p hp => ?_, ?_⟩
  · obtain ⟨h, tk, rfl⟩ := same; obtain ⟨h0, t0, rfl⟩ := S.same; exact ⟨h, tk, rfl⟩
  · obtain ⟨m, hn, hm⟩ := S.ns; exact ⟨m, u.ns hn, hm⟩
  · obtain ⟨⟨v, a⟩, r⟩ := S.cells n c e; exact ⟨⟨v, cel a⟩, r⟩
  · obtain ⟨q, hq, e⟩ := hadr p hp
    obtain ⟨_, r⟩ := S.led q hq
    rw [e] at r
    exact ⟨y p hp, r⟩
  · rw [x.adr]; exact S.lnd
/-- an object with fields, among the changed ones -/
theorem CS.take {oe : Obj} {vs : Array Value} (S : CS true s₀ B env ρ Λ s) (hd : ∀ p ∈ Λ, ∀ vs, p.2.data ≠ .fields vs) (he : s.heap.get? e = some oe) (hv : oe.data = .fields vs) (hB : B.get? e = none) : CS true s₀ B env ρ ((e, oe) :: Λ) s := by
  refine ⟨S.kind, S.same, S.base, S.all, S.ns, S.cell, S.cells, S.apart, S.kinds, S.locs, S.nd, fun p hp => ?_, ?_⟩
  · rcases List.mem_cons.mp hp with rfl | hp
    · refine ⟨he, fun q => ?_, fun n q => ?_, fun _ => hB⟩
      · obtain ⟨m, ⟨o, es, ep, a, b, _⟩, _⟩ := S.ns
        have q' : e = env.locals := q
        rw [q', a] at he
        cases he
        rw [b] at hv; cases hv
      · obtain ⟨⟨v, o, a, b⟩, _⟩ := S.cells n e q
        rw [a] at he; cases he
        rw [b] at hv; cases hv
    · exact S.led p hp
  · rw [List.map_cons, List.nodup_cons]
    refine ⟨fun h => ?_, S.lnd⟩
    obtain ⟨p, hp, q⟩ := List.mem_map.mp h
    have a := (S.led p hp).1
    rw [q, he] at a
    cases a
    exact hd p hp _ hv

theorem caught {hs : List ExceptHandler} {Q : Flow → Shared → Prop} (hfr : A.frames = some (env :: outer)) (S : CS true s₀ B env ρ Λ s) (hd : ∀ p ∈ Λ, ∀ vs, p.2.data ≠ .fields vs) (hf : env.frame = some env.locals) (fl : Fly B (env :: outer) e C s s')
    (h : ∀ Λ' s₃, Slk Λ Λ' → CS true s₀ B env ρ Λ' s₃ → (∃ a0, Heap.FlyingW B (env :: outer) e (.ref C) a0 s₃.heap) → wpAny M A (handleBy (.ref e) env hs) Q E s₃) :
    wpAny M A (noteFrame (.ref e) env) (fun _ s₂ => wpAny M A (setFlight (.ref e) none) (fun _ s₃ => wpAny M A (handleBy (.ref e) env hs) Q E s₃) E s₂) E s' := by
  obtain ⟨⟨h', tk, rfl⟩, ⟨a0, f⟩, up⟩ := fl
  refine wpAny_looks_onW hfr hf f fun h₄ g₄ u₄ => ?_
  refine wpAny_landsW g₄ fun h₅ g₅ u₅ => ?_
  obtain ⟨Λ', x, S'⟩ := S.fly hd ⟨h₅, tk, rfl⟩ g₅.1 (up.trans (u₄.trans u₅))
  exact h Λ' _ x S' ⟨a0, g₅⟩
end
end Fl

namespace Fl
open PySem PySem.W PySem.Calls PyProof.Rows

/-- whether an exception of the class C falls to a clause for the class D -/
structure MatchK (K : Frag) (C D : Addr) (b : Bool) : Prop where
  ty : typeIn K (.ref D) = some (.type "type")
  cs : (clsIn K D).isSome = true
  bs : subIn K (.ref D) (.type "BaseException") = some true
  su : subIn K (.ref C) (.ref D) = some b
section
variable {M : Model} {prog : Program} {w : World} {A : Around} {E : Value → Shared → Prop} {s s' s₀ : Shared} {h₀ B : Heap} {env : Env} {ρ : Rho} {Λ : List (Addr × Obj)} {outer : List Env} {e C D : Addr} {K : Frag}
theorem exc_match {b : Bool} {Q : Bool → Shared → Prop} (X : K.In s.heap) (x : ExcAt s.heap e C) (m : MatchK K C D b) (hq : Q b s) : wpAny M A (excMatches (.ref e) (.ref D)) Q E s := by
  obtain ⟨cdD, hcD⟩ := Option.isSome_iff_exists.mp m.cs
  obtain ⟨h, g, d, t, os⟩ := s
  have hisD : Looks M h (isType (.ref D)) true := by
    unfold clsIn at hcD
    split at hcD
    · rename_i c' d' cd' sl' ho
      intro A' Q' E' s' k q
      unfold isType loadHead
      exact wpAny_bind (wpAny_loadPart (k _ _ (X _ _ ho)) (wpAny_pure q))
    · cases hcD
  have LE := x.type M
  have LT : Looks M h (isInstance (.ref D) (.type "tuple")) false := (looks_typeIn (M := M) X m.ty).andThen (Looks.of_pure tc_notTuple)
  have L1 : Looks M h (isExcClass (.ref D)) true := by
    unfold isExcClass
    exact hisD.andThen (looks_subIn X m.bs)
  have L2 := looks_subIn (M := M) X m.su
  unfold excMatches
  refine wpAny_bind (LT.at ?_)
  simp only [Bool.false_eq_true, if_false]
  refine wpAny_bind (wpAny_pure ?_)
  simp only [List.forIn_cons, List.forIn_nil]
  refine wpAny_bind (wpAny_bind (wpAny_bind (L1.at ?_)))
  simp only [Bool.not_true, Bool.false_eq_true, if_false]
  refine wpAny_pure (wpAny_pure ?_)
  refine wpAny_bind (LE.at (wpAny_bind (wpAny_bind (wpAny_bind (L2.at ?_)))))
  cases b
  · simp only [Bool.false_eq_true, if_false]
    exact wpAny_pure (wpAny_pure (wpAny_pure hq))
  · simp only [if_true]
    exact wpAny_pure (wpAny_pure (wpAny_pure hq))

theorem h_miss {x : Str} {np pos : Pos} {nm : Option Str} {body : List Stmt} {rest : List ExceptHandler} {Q : Flow → Shared → Prop} (S : CS true s₀ B env ρ Λ s) (G : Gr K B) (g : GF K x D) (m : MatchK K C D false) (y : ExcAt s.heap e C)
    (hx : env.kindOf x = some .globalImplicit) (hg : env.globals = mainGlobals) (h : wpAny (model prog w) A (handleBy (.ref e) env rest) Q E s) :
    wpAny (model prog w) A (handleBy (.ref e) env (.ExceptHandler (some (.Name x np)) nm body pos :: rest)) Q E s :=
  wpAny_handleBy_cons (codeAny_handlers_test (n_glob S G g.ns hx hg g.nd (exc_match (S.gr G).X y m h))) (by intro q; cases q)
theorem h_hit {x n : Str} {np pos : Pos} {b₀ : Stmt} {suite : List Stmt} {rest : List ExceptHandler} {l : List Env} {ρ' : Rho} {Q : Flow → Shared → Prop} (S : CS true s₀ B env ρ Λ s) (hd : ∀ p ∈ Λ, ∀ vs, p.2.data ≠ .fields vs) (G : Gr K B) (g : GF K x D) (m : MatchK K C D true)
    (fl : ∃ a0, Heap.FlyingW B l e (.ref C) a0 s.heap) (hx : env.kindOf x = some .globalImplicit) (hg : env.globals = mainGlobals) (hp : Put n (.ref e) ρ ρ')
    (h : ∀ Λ' oe s' E'', Slk Λ Λ' → oe.cls = .ref C → CS true s₀ B env ρ' ((e, oe) :: Λ') s' →
      wpAny (model prog w) (A.mark (some (.ref e))) (execs (b₀ :: suite) env) (fun f s₄ => wpAny (model prog w) A (do bindName env n .none; unbindBehindTheSuite env n pos) (fun _ s₅ => Q f s₅) E s₄) E'' s') :
    wpAny (model prog w) A (handleBy (.ref e) env (.ExceptHandler (some (.Name x np)) (some n) (b₀ :: suite) pos :: rest)) Q E s := by
  obtain ⟨a0, f⟩ := fl
  have y : ExcAt s.heap e C := f.there
  refine wpAny_handleBy_cons (codeAny_handlers_test (n_glob S G g.ns hx hg g.nd (exc_match (S.gr G).X y m ?_))) (by intro q; cases q)
  refine codeAny_handlers_suite_as ?_
  refine lands_againW f fun h₆ f₆ u₆ => ?_
  obtain ⟨Λ', x', S'⟩ := S.fly (s' := { s with heap := h₆ }) hd ⟨h₆, s.toks, rfl⟩ f₆.1 u₆
  obtain ⟨oe, vs, T, oT, ts, e1, ⟨e2, e3⟩, e4, _⟩ := f₆.2.2.2
  have hd' : ∀ p ∈ Λ', ∀ vs, p.2.data ≠ .fields vs := by
    clear S S' h
    induction x' with
    | nil => exact fun _ h => nomatch h
    | cons _ ih =>
      intro p hp
      rcases List.mem_cons.mp hp with rfl | hp
      · exact fun vs z => hd (_, _) (List.mem_cons_self ..) vs z
      · exact ih (fun q hq => hd q (List.mem_cons_of_mem _ hq)) p hp
  have S'' := S'.take hd' e1 e4 f₆.2.1
  exact S''.put hp fun s' S3 => h Λ' oe s' _ x' e2 S3

/-- a name that is let go -/
def unset (n : Str) (ρ : Rho) : Rho := ρ.map fun p => if p.1 = n then (p.1, none) else p
theorem unset_names (n : Str) : ∀ ρ : Rho, (unset n ρ).map (·.1) = ρ.map (·.1)
  | [] => rfl
  | p :: r => by
    have := unset_names n r
    unfold unset at this ⊢
    simp only [List.map_cons, this]
    split <;> rfl
theorem unset_look {n y : Str} {v : Value} : ∀ {ρ : Rho}, Look y v (unset n ρ) → y ≠ n ∧ Look y v ρ
  | [], h => by cases h
  | (z, u) :: r, h => by
    unfold unset at h
    rw [List.map_cons] at h
    by_cases q : z = n
    · simp only [q, if_true] at h
      cases h with
      | tail h => have := unset_look (ρ := r) h; exact ⟨this.1, .tail this.2⟩
    · simp only [q, if_false] at h
      cases h with
      | head => exact ⟨q, .head⟩
      | tail h => have := unset_look (ρ := r) h; exact ⟨this.1, .tail this.2⟩
theorem x_unbind {n : Str} {pos : Pos} {ρ1 : Rho} {Q : Unit → Shared → Prop} (S : CS true s₀ h₀ env ρ Λ s) (hp : Put n .none ρ ρ1) (hl : env.kindOf n = some .local) (h : ∀ s', CS true s₀ h₀ env (unset n ρ1) Λ s' → Q () s') :
    wpAny M A (do bindName env n .none; unbindBehindTheSuite env n pos) Q E s := by
  unfold bindName unbindBehindTheSuite
  refine wpAny_bind (wpAny_bind (wpAny_holding (wpAny_point (wpAny_bind (S.put hp fun s₁ S₁ => wpAny_point ?_)))))
  refine wpAny_onRaise ?_
  obtain ⟨m, hn, hm⟩ := S₁.ns
  have hv : Look n .none ρ1 := by
    clear h S S₁ hm
    induction hp with
    | head => exact .head
    | tail _ ih => exact .tail ih
  refine wpAny_unbindName_local hl hn (hm n .none hv hl) (by rw [S.kind]; rfl) fun h' u hn' hs' => h _ ?_
  have up : ∀ b o, b ≠ env.locals → s₁.heap.get? b = some o → h'.get? b = some o := fun b o hb e => hs'.extBut b o hb e
  refine ⟨S₁.kind, ?_, fun b o e => up b o (fun q => ?_) (S₁.base b o e), (fun q => nomatch q), ⟨_, hn', fun y u hy hk => ?_⟩, fun y u c hy hk hc => ?_, fun n c e => ?_, S₁.apart, fun x hx => S₁.kinds x (unset_names n ρ1 ▸ hx), S₁.locs, unset_names n ρ1 ▸ S₁.nd, fun p hp => ?_, S₁.lnd⟩
  · obtain ⟨h, t, rfl⟩ := S₁.same; exact ⟨h', _, rfl⟩
  · rw [q, S₁.locs rfl] at e; cases e
  · obtain ⟨a, b⟩ := unset_look hy
    exact (if_neg a).trans (hm y u b hk)
  · obtain ⟨a, b⟩ := unset_look hy
    exact (S₁.cell y u c b hk hc).sameBut hs' (S₁.cells y c hc).2.1
  · obtain ⟨⟨w, hw⟩, r⟩ := S₁.cells n c e
    exact ⟨⟨w, hw.sameBut hs' r.1⟩, r⟩
  · obtain ⟨a, b, r⟩ := S₁.led p hp
    exact ⟨up _ _ b a, b, r⟩
end
end Fl

namespace Fl
open PySem PySem.W PySem.Calls PyProof.Rows

/-- as Room, where something may be being handled -/
structure RoomH (A : Around) (n : Nat) : Prop where
  depth : A.depth + n < recursionLimit
  units : A.units + 8 * n + 200 < cLine
theorem Room.h {A : Around} {n : Nat} {v : Option Value} (r : Room A n) : RoomH (A.mark v) n := ⟨r.depth, r.units⟩
theorem Room.toH {A : Around} {n : Nat} (r : Room A n) : RoomH A n := ⟨r.depth, r.units⟩
theorem RoomH.in_ {A : Around} {n k : Nat} {env : Env} (r : RoomH A n) (h : k + 1 ≤ n) : RoomH (A.deeper env) k :=
  ⟨by have := r.depth; show A.depth + 1 + k < _; omega, by have := r.units; show A.units + 3 + 8 * k + 200 < _; omega⟩

/-- whether an exception of the class C is one of the class D -/
def isB (K : Frag) (C D : Addr) (b : Bool) : Prop := (if b then isIn K (.ref C) D else kin_not K C D) = true

def boolsV (bs : List Bool) : List Value := bs.map .bool
theorem readsAll_bools {h : Heap} : ∀ bs : List Bool, ReadsAll h (boolsV bs) (bs.map PyData.bool) []
  | [] => .nil
  | b :: r => by
    have := ReadsAll.cons (Reads.bool (h := h) b) (readsAll_bools (h := h) r)
    simpa [boolsV] using this
theorem all_bools : ∀ bs : List Bool, (bs.map PyData.bool).all Spec.Shape.bool.has = true
  | [] => rfl
  | b :: r => by rw [List.map_cons, List.all_cons, all_bools r, Bool.and_true]; simp [Spec.Shape.has]
theorem count_bools (k : Bool) : ∀ bs : List Bool, PySem.Spec.countIn (.bool k) (bs.map PyData.bool) = (bs.count k : Nat)
  | [] => rfl
  | b :: r => by
    rw [List.map_cons, PySem.Spec.countIn, count_bools k r, List.count_cons]
    have : PySem.Spec.same (.bool b) (.bool k) = (b == k) := by simp [PySem.Spec.same]
    rw [this]
    cases h : (b == k) <;> simp <;> omega

section
variable {prog : Program} {w : World} {A : Around} {E : Value → Shared → Prop} {s s₀ : Shared} {h₀ : Heap} {env : Env} {ρ ρ' : Rho} {Λ Λ' : List (Addr × Obj)} {b : Bool} {K : Frag} {e C D : Addr}
theorem y_exc {c : Bool} {Q : Value → Shared → Prop} (S : CS b s₀ h₀ env ρ Λ s) (G : Gr K h₀) (x : ExcAt s.heap e C) (k : ExcK K C) (hb : isB K C D c) (h : ∀ s', CS b s₀ h₀ env ρ Λ s' → Q (.bool c) s') : wpAny (model prog w) A (call (.builtin "isinstance") [.ref e, .ref D]) Q E s := by
  cases c
  · exact y_exc_no (S.gr G).X x k hb (h _ (S.tok _))
  · exact y_exc_yes (S.gr G).X x hb (h _ S)
theorem y_excT {T : String} {Q : Value → Shared → Prop} (S : CS b s₀ h₀ env ρ Λ s) (G : Gr K h₀) (x : ExcAt s.heap e C) (hs : subIn K (.ref C) (.type T) = some true) (hty : typeOf (.type T) = pure (.type "type"))
    (h : ∀ s', CS b s₀ h₀ env ρ Λ s' → Q (.bool true) s') : wpAny (model prog w) A (call (.builtin "isinstance") [.ref e, .type T]) Q E s := by
  refine call_isinstance (S := fun _ R s => (K.In s.heap ∧ ExcAt s.heap e C) ∧ R (.ok (.ret (.bool true))) s) (fun prog w A R s hs' => isinstance_outer ?_ (by intro q; cases q)) ⟨⟨(S.gr G).X, x⟩, h _ S⟩
  obtain ⟨⟨X, y⟩, hq⟩ := hs'
  obtain ⟨hh, g, d, tt, os⟩ := s
  have L0 := y.type (model prog w)
  have L3 : Looks (model prog w) hh (isInstance (.ref e) (.type T)) true := L0.andThen (looks_subIn X hs)
  unfold Builtin.«isinstance.nested»
  refine wpAny_bind (L0.at ?_)
  rw [if_neg (by intro q; cases q)]
  rw [hty]
  refine wpAny_bind (wpAny_pure ?_)
  rw [if_pos (by decide)]
  k_delta "plainIsInstance"
  refine wpAny_bind (wpAny_bind (wpAny_pure (a := true) ?_))
  simp only [Bool.not_true, Bool.false_eq_true, if_false]
  refine wpAny_bind (L3.at ?_)
  simp only [if_true]
  exact wpAny_pure (wpAny_pure hq)
theorem l_addL {l l' : Addr} {xs ys : Array Value} {k k' : Nat} {Q : Value → Shared → Prop} (S : CS b s₀ h₀ env ρ Λ s) (hl : s.heap.get? l = some (lst xs k)) (hl' : s.heap.get? l' = some (lst ys k')) (hn : xs.size + ys.size ≤ 16777216)
    (h : ∀ D s', CS b s₀ h₀ env ρ ((D, lst (xs ++ ys) 0) :: Λ) s' → s.heap.get? D = none → Q (.ref D) s') : wpAny (model prog w) A (binaryOp .Add (.ref l) (.ref l')) Q E s :=
  PySem.P.add_list hl hl' (h _ _ (S.pushL _ _ rfl) (fresh_none (Nat.le_refl _))) (by rw [sizeLine_eq]; exact hn)
theorem l_countB {l : Addr} {bs : List Bool} {k : Bool} {n : Nat} {Q : Value → Shared → Prop} (S : CS b s₀ h₀ env ρ Λ s) (hl : s.heap.get? l = some (lst (boolsV bs).toArray n)) (h : ∀ t s', CS b s₀ h₀ env ρ Λ s' → Q (.int (bs.count k : Nat) t) s') :
    wpAny (model prog w) A (call (.builtin "list.count") [.ref l, .bool k]) Q E s := by
  refine PyProof.Rows.count_list_bools ⟨_, hl, rfl, _, rfl⟩ (readsAll_bools (h := s.heap) bs) (all_bools bs) ?_
  rw [count_bools]
  exact h _ _ (S.tok _)
end
theorem type_list_count : typeOf (.builtin "list.count") = pure (.type "method_descriptor") := by show builtinType _ = _; rw [builtinType_eq_fast]; kernel_rfl
end Fl

namespace Fl
open PySem PySem.W PySem.Calls PyProof.Rows

theorem hasB_in {rows : List Str} {wd : Nat} {p : Int} (h : hasB rows wd p = true) : 0 ≤ p ∧ p < rows.length * wd := by
  simp [hasB, inB] at h
  exact h.1
def shadeN (wd : Nat) (p : Int) : Int := if wd = 0 then 0 else (p / wd + p % wd) % 2
/-- the candidates beside a cell, and what Floor.beside gathers of them -/
def nearL (wd : Nat) (p : Int) : List Int := [p - wd, p - 1, p + 1, p + wd]
def gath (m : Int → Bool) (xs : List Int) : List Int := xs.foldl (fun acc y => if y ∉ acc ∧ m y = true then acc ++ [y] else acc) []
theorem gath_snoc (m : Int → Bool) (xs : List Int) (y : Int) : gath m (xs ++ [y]) = if y ∉ gath m xs ∧ m y = true then gath m xs ++ [y] else gath m xs := by
  unfold gath; rw [List.foldl_append]; rfl
def besideL (rows : List Str) (wd : Nat) (p : Int) : List Int := gath (mayB rows wd p) (nearL wd p)
def lnearL (wd : Nat) (p : Int) : List Int := if wd > 1 then nearL wd p else [p - 1, p + 1]
theorem beside_eq {rows : List Str} {wd : Nat} (g : Grid rows wd) {p : Int} (h : hasB rows wd p = true) : besideL rows wd p = (lnearL wd p).filter (mayL rows wd p) := by
  obtain ⟨h0, h1⟩ := hasB_in h
  obtain ⟨hw, _⟩ := g.at_ h0 h1
  have hm : mayL rows wd p = mayB rows wd p := funext fun c => (may_eq g p c).symm
  rw [hm]
  unfold besideL gath lnearL nearL
  by_cases h2 : wd > 1
  · rw [if_pos h2]
    have n1 : ¬ (p - 1 = p - (wd : Int)) := by omega
    have n2 : ¬ (p + 1 = p - (wd : Int)) := by omega
    have n3 : ¬ (p + 1 = p - 1) := by omega
    have n4 : ¬ (p + (wd : Int) = p - (wd : Int)) := by omega
    have n5 : ¬ (p + (wd : Int) = p - 1) := by omega
    have n6 : ¬ (p + (wd : Int) = p + 1) := by omega
    simp only [List.foldl_cons, List.foldl_nil, List.filter_cons, List.filter_nil]
    generalize mayB rows wd p (p - wd) = b1
    generalize mayB rows wd p (p - 1) = b2
    generalize mayB rows wd p (p + 1) = b3
    generalize mayB rows wd p (p + wd) = b4
    generalize p - (wd : Int) = x1 at *
    generalize p + (wd : Int) = x4 at *
    generalize p - 1 = x2 at *
    generalize p + 1 = x3 at *
    cases b1 <;> cases b2 <;> cases b3 <;> cases b4 <;> simp [n1, n2, n3, n4, n5, n6]
  · have e : wd = 1 := by omega
    subst e
    rw [if_neg (by omega)]
    simp only [List.foldl_cons, List.foldl_nil, List.filter_cons, List.filter_nil, Int.natCast_one]
    have n3 : ¬ (p + 1 = p - 1) := by omega
    generalize mayB rows 1 p (p - 1) = b2
    generalize mayB rows 1 p (p + 1) = b3
    generalize p - 1 = x2 at *
    generalize p + 1 = x3 at *
    cases b2 <;> cases b3 <;> simp [n3]
theorem mayB_symm (rows : List Str) (wd : Nat) (a c : Int) : mayB rows wd a c = mayB rows wd c a := by
  rw [mayB, mayB, Int.max_comm, Int.min_comm, Bool.and_comm (hasB rows wd c)]
theorem mayB_has {rows : List Str} {wd : Nat} {a c : Int} (h : mayB rows wd a c = true) : hasB rows wd a = true ∧ hasB rows wd c = true := by
  unfold mayB at h
  simp only [Bool.and_eq_true] at h
  exact h.1
/-- two places of a slab are one apart, or a row -/
theorem mayB_near {rows : List Str} {wd : Nat} {a c : Int} (h : mayB rows wd a c = true) : (max a c - min a c = 1 ∧ min a c / wd = max a c / wd) ∨ max a c - min a c = wd := by
  unfold mayB at h
  simp only [Bool.and_eq_true] at h
  obtain ⟨_, h⟩ := h
  split at h
  · rename_i q; exact .inl q
  · split at h
    · rename_i q; exact .inr q
    · cases h
theorem mem_gath {m : Int → Bool} {c : Int} : ∀ (xs : List Int), c ∈ gath m xs ↔ (c ∈ xs ∧ m c = true) := by
  intro xs
  suffices h : ∀ (acc : List Int), c ∈ xs.foldl (fun acc y => if y ∉ acc ∧ m y = true then acc ++ [y] else acc) acc ↔ c ∈ acc ∨ (c ∈ xs ∧ m c = true) by
    have := h []; simpa [gath] using this
  induction xs with
  | nil => intro acc; simp
  | cons x r ih =>
    intro acc
    rw [List.foldl_cons, ih]
    by_cases q : x ∉ acc ∧ m x = true
    · rw [if_pos q]
      constructor
      · rintro (h | h)
        · rcases List.mem_append.mp h with h | h
          · exact .inl h
          · rw [List.mem_singleton] at h; subst h; exact .inr ⟨List.mem_cons_self .., q.2⟩
        · exact .inr ⟨List.mem_cons_of_mem _ h.1, h.2⟩
      · rintro (h | ⟨h, h2⟩)
        · exact .inl (List.mem_append.mpr (.inl h))
        · rcases List.mem_cons.mp h with rfl | h
          · exact .inl (List.mem_append.mpr (.inr (List.mem_singleton.mpr rfl)))
          · exact .inr ⟨h, h2⟩
    · rw [if_neg q]
      constructor
      · rintro (h | h)
        · exact .inl h
        · exact .inr ⟨List.mem_cons_of_mem _ h.1, h.2⟩
      · rintro (h | ⟨h, h2⟩)
        · exact .inl h
        · rcases List.mem_cons.mp h with rfl | h
          · refine .inl ?_
            by_cases z : c ∈ acc
            · exact z
            · exact absurd ⟨z, h2⟩ q
          · exact .inr ⟨h, h2⟩
theorem mem_beside {rows : List Str} {wd : Nat} {a c : Int} : c ∈ besideL rows wd a ↔ mayB rows wd a c = true := by
  unfold besideL
  rw [mem_gath]
  refine ⟨fun h => h.2, fun h => ⟨?_, h⟩⟩
  have := mayB_near h
  unfold nearL
  simp only [List.mem_cons, List.mem_nil_iff, or_false]
  rcases Int.le_total a c with q | q
  · rw [Int.max_eq_right q, Int.min_eq_left q] at this; omega
  · rw [Int.max_eq_left q, Int.min_eq_right q] at this; omega
theorem beside_symm {rows : List Str} {wd : Nat} {a c : Int} : c ∈ besideL rows wd a ↔ a ∈ besideL rows wd c := by rw [mem_beside, mem_beside, mayB_symm]
theorem gath_len (m : Int → Bool) (xs : List Int) : (gath m xs).length ≤ xs.length := by
  suffices h : ∀ (acc : List Int), (xs.foldl (fun acc y => if y ∉ acc ∧ m y = true then acc ++ [y] else acc) acc).length ≤ acc.length + xs.length by
    have := h []; simpa [gath] using this
  induction xs with
  | nil => intro acc; simp
  | cons x r ih =>
    intro acc
    rw [List.foldl_cons]
    refine Nat.le_trans (ih _) ?_
    split
    · simp <;> omega
    · simp <;> omega
theorem beside_len (rows : List Str) (wd : Nat) (p : Int) : (besideL rows wd p).length ≤ 4 := gath_len _ _
theorem shade_ne {rows : List Str} {wd : Nat} (g : Grid rows wd) {a c : Int} (h : mayB rows wd a c = true) : shadeN wd a ≠ shadeN wd c := by
  have h1 := hasB_in (mayB_has h).1
  have h2 := hasB_in (mayB_has h).2
  obtain ⟨hw, _⟩ := g.at_ h1.1 h1.2
  have hw2 := g.wide
  have n := mayB_near h
  unfold shadeN
  rw [if_neg (by omega), if_neg (by omega)]
  have key : ∀ x y : Int, ((y - x = 1 ∧ x / wd = y / wd) ∨ y - x = wd) → (x / wd + x % wd) % 2 ≠ (y / wd + y % wd) % 2 := by
    intro x y h
    rcases h with ⟨h1, h2⟩ | h
    · have e1 := Int.emod_add_mul_ediv x wd
      have e2 := Int.emod_add_mul_ediv y wd
      rw [h2] at e1 ⊢
      omega
    · obtain ⟨h1, h2⟩ := (div_step (by omega)).mp h
      omega
  rcases Int.le_total a c with q | q
  · rw [Int.max_eq_right q, Int.min_eq_left q] at n
    exact key a c n
  · rw [Int.max_eq_left q, Int.min_eq_right q] at n
    exact fun e => key c a n e.symm

theorem Stk.nil {A : Around} {B h : Heap} (hf : A.frames = some []) (k : Sub B h) : Stk A B [] h := ⟨hf, trivial, k⟩

/-- all that stands is of B, or of the list -/
structure Cov (B : Heap) (Λ : List (Addr × Obj)) (h : Heap) : Prop where
  sub : Sub B h
  led : ∀ p ∈ Λ, h.get? p.1 = some p.2 ∧ B.get? p.1 = none
  nd : (Λ.map (·.1)).Nodup
  nf : ∀ p ∈ Λ, ∀ vs, p.2.data ≠ .fields vs
  all : ∀ b o, h.get? b = some o → B.get? b = some o ∨ (b, o) ∈ Λ
/-- behind a call that has caught an exception: B stands, the rest but for its slots -/
structure Land (B : Heap) (s s' : Shared) : Prop where
  same : ∃ h tk, s' = { s with heap := h, toks := tk }
  sub : Sub B s'.heap
  up : s.heap.UpToSlots s'.heap
theorem Land.of_keeps {B : Heap} {s s' : Shared} (hB : Sub B s.heap) (k : Keeps s s') : Land B s s' := by
  obtain ⟨h', tk, rfl, hk⟩ := k
  exact ⟨⟨h', tk, rfl⟩, hB.trans hk, Heap.UpToSlots.of_keeps hk⟩
theorem Slk.mem {Λ Λ' : List (Addr × Obj)} (x : Slk Λ Λ') {a : Addr} {o : Obj} (h : (a, o) ∈ Λ) : ∃ sl, (a, { o with slots := sl }) ∈ Λ' := by
  induction x with
  | nil => cases h
  | cons _ ih =>
    rcases List.mem_cons.mp h with e | h
    · cases e; exact ⟨_, List.mem_cons_self ..⟩
    · obtain ⟨sl, q⟩ := ih h; exact ⟨sl, List.mem_cons_of_mem _ q⟩
theorem led_of {h : Heap} : ∀ as : List Addr, (∀ a ∈ as, ∃ o, h.get? a = some o) → ∃ Λ : List (Addr × Obj), (Λ.map (·.1)).Nodup ∧ (∀ p ∈ Λ, h.get? p.1 = some p.2 ∧ p.1 ∈ as) ∧ ∀ a ∈ as, ∃ o, (a, o) ∈ Λ
  | [], _ => ⟨[], List.nodup_nil, (fun _ h => nomatch h), (fun _ h => nomatch h)⟩
  | a :: r, k => by
    obtain ⟨Λ, h1, h2, h3⟩ := led_of r fun b hb => k b (List.mem_cons_of_mem _ hb)
    by_cases q : a ∈ r
    · refine ⟨Λ, h1, fun p hp => ⟨(h2 p hp).1, List.mem_cons_of_mem _ (h2 p hp).2⟩, fun b hb => ?_⟩
      rcases List.mem_cons.mp hb with rfl | hb
      · exact h3 _ q
      · exact h3 b hb
    · obtain ⟨o, e⟩ := k a (List.mem_cons_self ..)
      refine ⟨(a, o) :: Λ, ?_, fun p hp => ?_, fun b hb => ?_⟩
      · rw [List.map_cons, List.nodup_cons]
        refine ⟨fun z => q ?_, h1⟩
        obtain ⟨p, hp, e'⟩ := List.mem_map.mp z
        have e2 : p.1 = a := e'
        rw [← e2]; exact (h2 p hp).2
      · rcases List.mem_cons.mp hp with rfl | hp
        · exact ⟨e, List.mem_cons_self ..⟩
        · exact ⟨(h2 p hp).1, List.mem_cons_of_mem _ (h2 p hp).2⟩
      · rcases List.mem_cons.mp hb with rfl | hb
        · exact ⟨o, List.mem_cons_self ..⟩
        · obtain ⟨o', z⟩ := h3 b hb; exact ⟨o', List.mem_cons_of_mem _ z⟩
section
variable {M : Model} {prog : Program} {w : World} {A : Around} {E : Value → Shared → Prop} {s s' s₀ : Shared} {h₀ B : Heap} {env : Env} {ρ : Rho} {Λ Λ₀ Λ' Λ₂ : List (Addr × Obj)} {outer : List Env} {e C : Addr} {K : Frag}
/-- what stands around a call that may catch: all but the frame's own stays -/
theorem CS.cov (S : CS true s₀ h₀ env ρ Λ s) (hd : ∀ p ∈ Λ, ∀ vs, p.2.data ≠ .fields vs) : ∃ B Λ₀, Sub h₀ B ∧ CS true s₀ B env ρ Λ s ∧ Cov B Λ₀ s.heap := by
  obtain ⟨B, k1, S1, k3⟩ := S.wide
  have hmem : ∀ a, CS.own env Λ a ↔ a ∈ env.locals :: (env.cells.filterMap (fun p => env.cells.lookup p.1) ++ Λ.map (·.1)) := fun a => by
    unfold CS.own
    rw [List.mem_cons, List.mem_append]
    refine or_congr Iff.rfl (or_congr ?_ Iff.rfl)
    rw [List.mem_filterMap]
    exact ⟨fun ⟨n, q⟩ => ⟨(n, a), mem_of_lookup q, q⟩, fun ⟨p, _, q⟩ => ⟨p.1, q⟩⟩
  obtain ⟨Λ₀, h1, h2, h3⟩ := led_of (h := s.heap) _ fun a ha => S.own_at ((hmem a).mpr ha)
  refine ⟨B, Λ₀, k1, S1, S1.base, fun p hp => ⟨(h2 p hp).1, S1.own_no ((hmem _).mpr (h2 p hp).2)⟩, h1, fun p hp vs z => ?_, fun b o q => ?_⟩
  · have ha := (h2 p hp).1
    rcases (hmem _).mpr (h2 p hp).2 with q | ⟨n, q⟩ | q
    · obtain ⟨m, ⟨o, es, ep, a, b, _⟩, _⟩ := S.ns
      rw [q, a] at ha
      cases ha; rw [b] at z; cases z
    · obtain ⟨⟨v, o, a, b⟩, _⟩ := S.cells n _ q
      rw [a] at ha; cases ha
      rw [b] at z; cases z
    · obtain ⟨p', hp', e'⟩ := List.mem_map.mp q
      have := (S.led p' hp').1
      rw [e', ha] at this
      have e2 := Option.some.inj this
      rw [e2] at z
      exact hd p' hp' vs z
  · by_cases z : CS.own env Λ b
    · right
      obtain ⟨o', q'⟩ := h3 b ((hmem b).mp z)
      have := (h2 _ q').1
      rw [q] at this; cases this
      exact q'
    · exact .inl (k3 b o q z)
theorem Cov.land (c : Cov B Λ₀ s.heap) (x : Slk Λ₀ Λ') (hm : ∀ p ∈ Λ', p ∈ Λ₂) (S : CS true s h₀ env ρ Λ₂ s') (k : Sub B h₀) : Land B s s' := by
  refine ⟨S.same, k.trans S.base, fun b o q nf => ?_⟩
  rcases c.all b o q with z | z
  · exact ⟨o.slots, S.base _ _ (k _ _ z)⟩
  · obtain ⟨sl, z'⟩ := x.mem z
    exact ⟨sl, S.atLed (hm _ z')⟩
theorem CS.land (S : CS true s₀ B env ρ Λ s) (hd : ∀ p ∈ Λ, ∀ vs, p.2.data ≠ .fields vs) (l : Land B s s') : ∃ Λ', Slk Λ Λ' ∧ CS true s₀ B env ρ Λ' s' := S.fly hd l.same l.sub l.up
theorem Land.keeps_trans {s₁ s₂ : Shared} (l : Land B s s₁) (k : Keeps s₁ s₂) : Land B s s₂ := by
  obtain ⟨h1, t1, rfl⟩ := l.same
  obtain ⟨h2, t2, rfl, hk⟩ := k
  exact ⟨⟨h2, t2, rfl⟩, l.sub.trans hk, l.up.trans (Heap.UpToSlots.of_keeps hk)⟩

/-- behind a suite that is tried -/
def ElseQ (M : Model) (A : Around) (env : Env) (E : Value → Shared → Prop) (orelse : List Stmt) (Q : Flow → Shared → Prop) (f : Flow) (s' : Shared) : Prop := match f with | .next => wpAny M A (execs orelse env) Q E s' | f => Q f s'
/-- an exception out of a suite that is tried -/
def TryE (M : Model) (A : Around) (env : Env) (hs : List ExceptHandler) (Q : Flow → Shared → Prop) (E : Value → Shared → Prop) (e : Value) (s₁ : Shared) : Prop :=
  wpAny M A (noteFrame e env) (fun _ s₂ => wpAny M A (setFlight e none) (fun _ s₃ => wpAny M A (handleBy e env hs) Q E s₃) E s₂) E s₁
theorem else_next {orelse : List Stmt} {Q : Flow → Shared → Prop} (h : wpAny M A (execs orelse env) Q E s) : ElseQ M A env E orelse Q .next s := h
theorem else_ret {orelse : List Stmt} {Q : Flow → Shared → Prop} {v : Value} (h : Q (.ret v) s) : ElseQ M A env E orelse Q (.ret v) s := h
theorem x_try {body orelse rest : List Stmt} {h₁ : ExceptHandler} {hs : List ExceptHandler} {pos : Pos} {Q : Flow → Shared → Prop}
    (h : wpAny (model prog w) A (execs body env) (ElseQ (model prog w) A env E orelse (SeqQ (model prog w) A env E rest Q)) (TryE (model prog w) A env (h₁ :: hs) (SeqQ (model prog w) A env E rest Q) E) s) :
    wpAny (model prog w) A (execs (.Try body (h₁ :: hs) orelse [] pos :: rest) env) Q E s :=
  wpAny_execs_cons (wpAny_Try_except (wpAny_mono h (fun f s₁ q => by cases f <;> exact q) fun _ _ q => q))
theorem ints_arr {vs : List Value} {ns : List Int} {i : Nat} {v : Value} (hv : vs.toArray[i]? = some v) (hi : IntsAre vs ns) : ∃ n t, v = .int n t ∧ ns[i]? = some n := hi.at i v (by simpa using hv)
theorem CS.one {p q : Addr × Obj} (S : CS true s₀ h₀ env ρ (p :: q :: Λ) s) : CS true s₀ h₀ env ρ (p :: Λ) s := by
  have := S.lnd
  rw [List.map_cons, List.map_cons, List.nodup_cons, List.nodup_cons] at this
  refine S.forget (fun x hx => ?_) ?_
  · rcases List.mem_cons.mp hx with rfl | hx
    · exact List.mem_cons_self ..
    · exact List.mem_cons_of_mem _ (List.mem_cons_of_mem _ hx)
  · rw [List.map_cons, List.nodup_cons]
    exact ⟨fun z => this.1 (List.mem_cons_of_mem _ z), this.2.2⟩
theorem Slk.nf {Λ Λ' : List (Addr × Obj)} (x : Slk Λ Λ') (hd : ∀ p ∈ Λ, ∀ vs, p.2.data ≠ .fields vs) : ∀ p ∈ Λ', ∀ vs, p.2.data ≠ .fields vs := by
  induction x with
  | nil => exact fun _ h => nomatch h
  | cons _ ih =>
    intro p hp
    rcases List.mem_cons.mp hp with rfl | hp
    · exact fun vs z => hd (_, _) (List.mem_cons_self ..) vs z
    · exact ih (fun q hq => hd q (List.mem_cons_of_mem _ hq)) p hp
theorem o_pow {b : Bool} {x y : Int} {t u : Tok} {Q : Value → Shared → Prop} (S : CS b s₀ h₀ env ρ Λ s) (hc0 : y ≥ 0) (hc1 : ¬(y == 0) = true) (hc2 : ¬(x == 0 || x == 1) = true) (hc3 : ¬(x == -1) = true) (hc4 : ¬Builtin.Int.intTooBig (((Builtin.Int.intBits x : Nat) : Int) * y) = true)
    (h : ∀ t s', CS b s₀ h₀ env ρ Λ s' → Q (.int (x ^ y.toNat) t) s') : wpAny (model prog w) A (binaryOp .Pow (.int x t) (.int y u)) Q E s := PySem.AutoIntOps.pow_4 hc0 hc1 hc2 hc3 hc4 (h _ _ (S.tok _))
end
end Fl

namespace Fl
open PySem PySem.W PySem.Calls PyProof.Rows

theorem Stk.under {A : Around} {B h : Heap} {outer : List Env} {id : String} {a : Args} (k : Stk A B outer h) : Stk (A.under (.builtin id a)) B outer h := ⟨k.frames, k.funs, k.stays⟩

section
variable {prog : Program} {w : World} {A : Around} {E : Value → Shared → Prop} {s s₀ : Shared} {h₀ : Heap} {env : Env} {ρ ρ' : Rho} {Λ Λ' : List (Addr × Obj)} {b : Bool} {K : Frag}

/-- an iterator just made, whose objects stand throughout -/
def ItX (prog : Program) (w : World) (A : Around) (s₀ : Shared) (h₀ : Heap) (env : Env) (ρ : Rho) (Λ : List (Addr × Obj)) (n : Nat) (P : Nat → Value → Prop) (it : Value) (s : Shared) : Prop :=
  ∃ I fp wr St, it = .ref I ∧ Walks prog w A I fp wr n P St ∧ St 0 s.heap ∧ (∀ a ∈ wr, h₀.get? a = none) ∧ (∀ a ∈ fp, ¬ CS.own env Λ a) ∧ (∀ i h, St i h → ∀ a ∈ fp, ∃ o, h.get? a = some o) ∧ CS true s₀ h₀ env ρ Λ s
theorem itx_list {l : Addr} {ys : Array Value} {o : Obj} {Q : Value → Shared → Prop} (S : CS true s₀ h₀ env ρ Λ s) (hh : A.handled = none) (ho : h₀.get? l = some o) (hl : o.cls = .type "list") (hd : ∃ n, o.data = .seq ys n)
    (h : ∀ it s', ItX prog w A s₀ h₀ env ρ Λ ys.size (fun i v => ys[i]? = some v) it s' → Q it s') : wpAny (model prog w) A (pyIter (.ref l)) Q E s := by
  have hL : s.heap.IsList l ys := ⟨o, S.atBase ho, hl, hd⟩
  have hlt : l < s.heap.objs.size := Heap.lt_size (S.atBase ho)
  refine wpAny_pyIter_list hL (h _ _ ⟨s.heap.objs.size, _, _, _, rfl, Walks.list hh _ l (Nat.ne_of_lt hlt) ys, ⟨⟨_, Heap.get?_push_size _ rfl, rfl, rfl⟩, hL.at fun o e => Heap.get?_push_of_some _ e⟩, ?_, ?_, ?_, S.pushK _ _⟩)
  · intro a ha
    rw [List.mem_singleton.mp ha]
    exact S.base.none (fresh_none (Nat.le_refl _))
  · intro a ha ho'
    rcases List.mem_cons.mp ha with rfl | ha
    · obtain ⟨o', q⟩ := S.own_at ho'
      exact absurd (Heap.lt_size q) (Nat.lt_irrefl _)
    · rw [List.mem_singleton.mp ha] at ho'
      rw [S.own_no ho'] at ho; cases ho
  · rintro i h' ⟨⟨o1, e1, _⟩, ⟨o2, e2, _⟩⟩ a ha
    rcases List.mem_cons.mp ha with rfl | ha
    · exact ⟨o1, e1⟩
    · rw [List.mem_singleton.mp ha]; exact ⟨o2, e2⟩
theorem itx_range {r : Addr} {n : Int} {t u v : Tok} {Q : Value → Shared → Prop} (S : CS true s₀ h₀ env ρ Λ s) (hh : A.handled = none) (hr : IsRange s.heap r 0 n 1 t u v) (hn : n < 2 ^ 62) (hn' : -(2 ^ 62) ≤ n)
    (h : ∀ it s', ItX prog w A s₀ h₀ env ρ Λ n.toNat (fun i v => ∃ t, v = .int (i : Int) t) it s' → Q it s') : wpAny (model prog w) A (pyIter (.ref r)) Q E s := by
  have hsm : Builtin.Range.small 0 n 1 = true := small_one (by decide) (by decide) hn' hn
  refine wpAny_pyIter_range hr hsm (h _ _ ⟨s.heap.objs.size, [s.heap.objs.size], [s.heap.objs.size], (fun i h => IsRangeIter h s.heap.objs.size (0 + (i : Nat) * 1) ((n.toNat : Int) - (i : Nat)) 1), rfl, ?W, ?st, ?_, ?_, ?_, S.pushK _ _⟩)
  case W =>
    have := Walks.range (prog := prog) (w := w) hh s.heap.objs.size 0 1 n.toNat
    exact ⟨this.sub, this.frame, fun i s Q E hi st hQ => this.item i s Q E hi st fun v h' tk hP => hQ v h' tk (by obtain ⟨t, e⟩ := hP; exact ⟨t, by rw [e]; congr 1; omega⟩), this.done, this.self⟩
  case st =>
    show IsRangeIter _ _ _ _ _
    have e := range_size (n := n)
    rw [e]
    have : (0 : Int) + ((0 : Nat) : Int) * 1 = 0 := by omega
    rw [this]
    have : ((n.toNat : Nat) : Int) - ((0 : Nat) : Int) = ((n.toNat : Nat) : Int) := by omega
    rw [this]
    exact Heap.get?_push_size _ rfl
  · intro a ha
    rw [List.mem_singleton.mp ha]
    exact S.base.none (fresh_none (Nat.le_refl _))
  · intro a ha ho'
    rw [List.mem_singleton.mp ha] at ho'
    obtain ⟨o', q⟩ := S.own_at ho'
    exact absurd (Heap.lt_size q) (Nat.lt_irrefl _)
  · intro i h' e a ha
    rw [List.mem_singleton.mp ha]
    exact ⟨_, e⟩
/-- a for loop between whose turns the changed objects may become others -/
theorem loop_itx {body : List Stmt} {x : Str} {px : Pos} {n : Nat} {P : Nat → Value → Prop} {it : Value} {Q : Flow → Shared → Prop} (J : Nat → Rho → List (Addr × Obj) → Prop) (I : ItX prog w A s₀ h₀ env ρ Λ n P it s) (hJ : J 0 ρ Λ)
    (turn : ∀ i v ρ₁ Λ₁, i < n → P i v → J i ρ₁ Λ₁ → ∃ ρ₂, Put x v ρ₁ ρ₂ ∧ ∀ h₁ s₁, Sub h₀ h₁ → CS true s₀ h₁ env ρ₂ Λ₁ s₁ → ∀ Q' : Flow → Shared → Prop,
      (∀ h' ρ' Λ' s₂, Sub h₁ h' → CS true s₀ h' env ρ' Λ' s₂ → J (i + 1) ρ' Λ' → Q' .next s₂) → (∀ v s₂, Q (.ret v) s₂ → Q' (.ret v) s₂) → wpAny (model prog w) A (execs body env) Q' (NoteE (model prog w) A env E) s₁)
    (done : ∀ ρ' Λ' s', J n ρ' Λ' → CS true s₀ h₀ env ρ' Λ' s' → Q .next s') :
    codeAny (model prog w) A (.forLoop (.Name x px) it body [] env) (fun r s' => match r with | .ok f => Q f s' | .error e => cameBackBy (model prog w) A env E e s') s := by
  obtain ⟨I, fp, wr, St, rfl, W, hst, hwr, hfp, hex, S⟩ := I
  refine codeAny_forLoop_any (fun k s' => ∃ i ρ' Λ', k = n - i ∧ i ≤ n ∧ J i ρ' Λ' ∧ CS true s₀ h₀ env ρ' Λ' s' ∧ St i s'.heap ∧ ∀ a ∈ fp, ¬ CS.own env Λ' a) ?_ n ⟨0, ρ, Λ, rfl, Nat.zero_le _, hJ, S, hst, hfp⟩
  rintro k s' ⟨i, ρ', Λ', rfl, hi, hJ', S', st', off⟩
  have off2 : ∀ a ∈ wr, ¬ CS.own env Λ' a := fun a ha => off a (W.sub a ha)
  by_cases hlt : i < n
  · refine W.item i s' _ _ hlt st' fun v h' tk hP st₁ hk => ?_
    have S₁ : CS true s₀ h₀ env ρ' Λ' { s' with heap := h', toks := tk } := S'.but hk hwr off2
    obtain ⟨h₁, k1, S₂, k3⟩ := S₁.wide
    obtain ⟨ρ₂, hput, hbody⟩ := turn i v ρ' Λ' hlt hP hJ'
    refine wpAny_of_eq (rfl : letOwnedTupleGo (.Name x px) (.ref I) v = pure ()) (wpAny_assign_Name (S₂.put hput fun s₁ S₃ => ?_))
    have nx : ∀ s₂, (∃ h' ρ' Λ', Sub h₁ h' ∧ CS true s₀ h' env ρ' Λ' s₂ ∧ J (i + 1) ρ' Λ') → ∃ m, m < n - i ∧ ∃ i ρ' Λ', m = n - i ∧ i ≤ n ∧ J i ρ' Λ' ∧ CS true s₀ h₀ env ρ' Λ' s₂ ∧ St i s₂.heap ∧ ∀ a ∈ fp, ¬ CS.own env Λ' a := by
      rintro s₂ ⟨h2, ρ3, Λ3, k4, S4, hJ4⟩
      refine ⟨n - (i + 1), by omega, i + 1, ρ3, Λ3, rfl, hlt, hJ4, S4.drop (k1.trans k4), W.frame _ _ _ st₁ fun a ha o e => ?_, fun a ha q => ?_⟩
      · exact S4.base _ _ (k4 _ _ (k3 a o e (off a ha)))
      · obtain ⟨o, e⟩ := hex _ _ st₁ a ha
        have := k4 _ _ (k3 a o e (off a ha))
        rw [S4.own_no q] at this; cases this
    exact hbody h₁ s₁ k1 S₃ _ (fun h' ρ' Λ' s₂ a b c => nx s₂ ⟨h', ρ', Λ', a, b, c⟩) fun v s₂ z => z
  · have hin : i = n := by omega
    subst hin
    refine W.done s' _ _ st' fun h' tk hk => ?_
    exact wpAny_execs_nil (done _ _ _ hJ' (S'.but hk hwr off2))

-- slices
def SliceQ (prog : Program) (w : World) (A : Around) (E : Value → Shared → Prop) (o l u : Value) (Q : Value → Shared → Prop) (s₃ : Shared) : Prop :=
  ItemOn (model prog w) A E o (.ref s₃.heap.objs.size) Q { s₃ with heap := s₃.heap.push { cls := .type "slice", data := .fields #[l, u, .none] } }
theorem sl_ {value : Expr} {lower upper : Option Expr} {p pos : Pos} {Q : Value → Shared → Prop}
    (h : wpAny (model prog w) A (eval value env) (fun o s₁ => wpAny (model prog w) A (evalPart lower env) (fun l s₂ => wpAny (model prog w) A (evalPart upper env) (fun u s₃ => SliceQ prog w A E o l u Q s₃) E s₂) E s₁) E s)
    (ht : ∀ o r, letTemporaryGo value o r = pure ()) : wpAny (model prog w) A (eval (.Subscript value (.Slice lower upper none p) pos) env) Q E s :=
  Subscript_Slice (wpAny_mono h (fun o s₁ h₁ => wpAny_Slice (wpAny_mono h₁ (fun l s₂ h₂ => wpAny_mono h₂ (fun u s₃ h₃ => by rw [evalPart_none]; exact wpAny_pure h₃) fun _ _ e => e) fun _ _ e => e)) fun _ _ e => e) ht
theorem part_none {M : Model} {Q : Value → Shared → Prop} (h : Q .none s) : wpAny M A (evalPart none env) Q E s := wpAny_pure h
theorem part_some {M : Model} {e : Expr} {Q : Value → Shared → Prop} (h : wpAny M A (eval e env) Q E s) : wpAny M A (evalPart (some e) env) Q E s := h
theorem sl_str {x : Str} {t : Tok} {l u : Value} {lo hi : Option Int} {Q : Value → Shared → Prop} (S : CS b s₀ h₀ env ρ Λ s) (pl : IsPart l lo) (pu : IsPart u hi) (hn : x.length ≤ 16777216)
    (h : ∀ t s', CS b s₀ h₀ env ρ Λ s' → Q (.str (PySem.Txt.slice x lo hi) t) s') : SliceQ prog w A E (.str x t) l u Q s := by
  have hz : (PySem.Txt.slice x lo hi).length ≤ sizeLine := Nat.le_trans (PySem.Txt.slice_le x _ _) (by rw [sizeLine_eq]; exact hn)
  refine ⟨"str", _, F.slot_str_getitem.lookup, typeIs_str _ _ _, ?_⟩
  cases pl with
  | none => cases pu with
    | none => exact wpAny_getItem_str_slice (l := none) (u := none) (st := none) ⟨_, Heap.get?_push_size _ rfl, rfl, rfl⟩ rfl (post_val_or_str ⟨hz, fun t' k => h t' _ (S.pushK _ k)⟩)
    | int j uj => exact wpAny_getItem_str_slice (l := none) (u := some (j, uj)) (st := none) ⟨_, Heap.get?_push_size _ rfl, rfl, rfl⟩ rfl (post_val_or_str ⟨hz, fun t' k => h t' _ (S.pushK _ k)⟩)
  | int i ui => cases pu with
    | none => exact wpAny_getItem_str_slice (l := some (i, ui)) (u := none) (st := none) ⟨_, Heap.get?_push_size _ rfl, rfl, rfl⟩ rfl (post_val_or_str ⟨hz, fun t' k => h t' _ (S.pushK _ k)⟩)
    | int j uj => exact wpAny_getItem_str_slice (l := some (i, ui)) (u := some (j, uj)) (st := none) ⟨_, Heap.get?_push_size _ rfl, rfl, rfl⟩ rfl (post_val_or_str ⟨hz, fun t' k => h t' _ (S.pushK _ k)⟩)
theorem sl_list {a : Addr} {items : Array Value} {k : Nat} {l u : Value} {lo hi : Option Int} {Q : Value → Shared → Prop} (S : CS b s₀ h₀ env ρ Λ s) (hl : s.heap.get? a = some (lst items k)) (pl : IsPart l lo) (pu : IsPart u hi) (hn : items.size ≤ 16777216)
    (h : ∀ D s', CS b s₀ h₀ env ρ ((D, lst (slicePick items lo hi none) 0) :: Λ) s' → s.heap.get? D = none → Q (.ref D) s') : SliceQ prog w A E (.ref a) l u Q s := by
  have hL : s.heap.IsList a items := ⟨_, hl, rfl, _, rfl⟩
  have S1 := S.pushK { cls := .type "slice", data := .fields #[l, u, .none] } s.toks
  refine ⟨"list", _, list_getitem_lookup, Heap.IsList.typeIs (s := { s with heap := s.heap.push { cls := .type "slice", data := .fields #[l, u, .none] } }) (hL.push _), wpAny_getItem_list_slice (hL.push _) (Heap.IsSliceOf.new ..) pl pu .none (by simp) (h _ _ (S1.pushL _ _ rfl) (fresh_none ?_)) (by rw [sizeLine_eq]; exact hn)⟩
  show s.heap.objs.size ≤ (s.heap.push _).objs.size
  rw [Heap.size_push]; exact Nat.le_succ _
theorem o_addS {x y : Str} {t u : Tok} {Q : Value → Shared → Prop} (S : CS b s₀ h₀ env ρ Λ s) (hn : x.length + y.length ≤ 16777216) (h : ∀ t s', CS b s₀ h₀ env ρ Λ s' → Q (.str (x ++ y) t) s') : wpAny (model prog w) A (binaryOp .Add (.str x t) (.str y u)) Q E s :=
  PyProof.Rows.add_str (fun t' k => h t' _ (S.tok k)) (by rw [sizeLine_eq]; exact hn)
end
theorem okS_iff {x : Str} : okS x ↔ ∀ c ∈ x.cps.toList, c < 0x110000 := by
  show x.cps.all (· < 0x110000) = true ↔ _
  rw [Array.all_eq_true']
  constructor
  · intro h c hc; simpa using h c (by simpa using hc)
  · intro h c hc; simpa using h c (by simpa using hc)
theorem okS_append {x y : Str} (hx : okS x) (hy : okS y) : okS (x ++ y) := by
  rw [okS_iff] at *
  intro c hc
  have : (x ++ y).cps = x.cps ++ y.cps := rfl
  rw [this, Array.toList_append] at hc
  rcases List.mem_append.mp hc with q | q
  · exact hx c q
  · exact hy c q
theorem slice_mem {x : Str} {lo hi : Option Int} {c : Nat} (h : c ∈ (PySem.Txt.slice x lo hi).cps.toList) : c ∈ x.cps.toList := by
  unfold PySem.Txt.slice at h
  split at h
  · exact h
  · simp only [List.mem_filterMap] at h
    obtain ⟨i, _, e⟩ := h
    have := Array.mem_of_getElem? e
    simpa using this
theorem okS_slice {x : Str} {lo hi : Option Int} (hx : okS x) : okS (PySem.Txt.slice x lo hi) := by
  rw [okS_iff] at *
  exact fun c hc => hx c (slice_mem hc)
theorem rep_mem {c : Nat} (a : Array Nat) : ∀ (n : Nat) (acc : Array Nat), c ∈ ((List.replicate n a).foldl (· ++ ·) acc).toList → c ∈ acc.toList ∨ c ∈ a.toList
  | 0, acc, h => .inl (by simpa using h)
  | n + 1, acc, h => by
    rw [List.replicate_succ, List.foldl_cons] at h
    rcases rep_mem a n _ h with q | q
    · rw [Array.toList_append] at q
      exact List.mem_append.mp q
    · exact .inr q
theorem rep_list (v : Value) : ∀ (n : Nat) (acc : Array Value), ((List.replicate n #[v]).foldl (fun x1 x2 => x1 ++ x2) acc).toList = acc.toList ++ List.replicate n v
  | 0, acc => by simp
  | n + 1, acc => by
    rw [List.replicate_succ, List.foldl_cons, rep_list v n, Array.toList_append, List.append_assoc]
    rfl
theorem strs_rep (x : Str) (t : Tok) : ∀ n : Nat, StrsAre (List.replicate n (.str x t)) (List.replicate n x)
  | 0 => .nil
  | n + 1 => .cons x t (strs_rep x t n)
theorem paired_eq : ∀ {vs ys : List Value}, Paired (fun v y => y = v) vs ys → ys = vs
  | _, _, .nil => rfl
  | _, _, .cons h p => by rw [h, paired_eq p]
/-- texts of a list: how many, how long, of true signs -/
def RowsOk (xs : List Str) (n m : Nat) : Prop := xs.length ≤ n ∧ ∀ x ∈ xs, x.length ≤ m ∧ okS x

section
variable {prog : Program} {w : World} {A : Around} {E : Value → Shared → Prop} {s s₀ : Shared} {h₀ : Heap} {env : Env} {ρ ρ' : Rho} {Λ Λ' : List (Addr × Obj)} {b : Bool} {K : Frag}
theorem l_mul {l : Addr} {items : Array Value} {k : Nat} {x : Int} {u : Tok} {Q : Value → Shared → Prop} (S : CS b s₀ h₀ env ρ Λ s) (hl : s.heap.get? l = some (lst items k)) (hlo : -(2 ^ 63 : Int) ≤ x) (hhi : x < 2 ^ 63) (hsz : items.size * x.toNat ≤ 2 ^ 24)
    (h : ∀ D s', CS b s₀ h₀ env ρ ((D, lst (List.foldl (fun x1 x2 => x1 ++ x2) #[] (List.replicate (if items.isEmpty = true then 0 else x.toNat) items)) 0) :: Λ) s' → s.heap.get? D = none → Q (.ref D) s') : wpAny (model prog w) A (binaryOp .Mult (.ref l) (.int x u)) Q E s := by
  refine wpAny_binaryOp_repeat_ref (T := "list") (U := "int") (by decide) ⟨_, hl, rfl⟩ (fun s' => typeIs_int s' x u) noFill_list_mul F.fills_int_mul F.slot_int_rmul repeat_list F.slot_int_index.lookup ?_
  refine call_meets F.slot_int_rmul (typeIs_int s x u) F.entry_int_rmul (F.args_int_rmul_2 _ _) (int___rmul___int_list x u l items k) ⟨hl, rfl, ⟨_, hl, rfl⟩, ?_⟩
  refine call_meets F.slot_list_mul ⟨_, hl, rfl⟩ F.entry_list_mul (F.args_list_mul_2 _ _) (AutoListH.list___mul___list_int_3 l items k x u ?_ ?_ ?_) ⟨hl, h _ _ (S.pushL _ s.toks rfl) (fresh_none (Nat.le_refl _))⟩
  · simp [Builtin.List.listFitsIndex]; omega
  · omega
  · simp [Builtin.List.listTooLong, sizeLine]; omega
theorem o_mulT {x : Str} {t u : Tok} {n : Int} {Q : Value → Shared → Prop} (S : CS b s₀ h₀ env ρ Λ s) (h0 : 0 ≤ n) (h1 : n * x.length ≤ 1000) (h2 : n ≤ 1000) (hx : okS x) (h : ∀ y t s', y.length ≤ x.length * n.toNat → okS y → CS b s₀ h₀ env ρ Λ s' → Q (.str y t) s') : wpAny (model prog w) A (binaryOp .Mult (.str x t) (.int n u)) Q E s := by
  have hm : (x.length * n.toNat : Nat) ≤ 1000 := by
    have : ((x.length * n.toNat : Nat) : Int) = n * x.length := by rw [Int.natCast_mul, Int.toNat_of_nonneg h0, Int.mul_comm]
    omega
  refine PySem.P.mul_str ?_ ?_ ?_ ?_
  · simp; omega
  · intro q _ q2
    have h3 : 1 ≤ n := by omega
    have : (x.length : Int) ≤ 1000 := by
      have : x.length ≤ x.length * n.toNat := Nat.le_mul_of_pos_right _ (by omega)
      omega
    have h4 : (2 ^ 63 - 1 : Int) / 1000 ≤ (2 ^ 63 - 1 : Int) / n := by
      apply Int.le_ediv_of_mul_le (by omega)
      have := Int.mul_le_mul_of_nonneg_left h2 (show (0:Int) ≤ (2 ^ 63 - 1 : Int) / 1000 by decide)
      omega
    omega
  · intro _ _
    show decide (_ > _) = false
    rw [decide_eq_false_iff_not]
    have : (1000 : Nat) < 2 ^ 63 - 1 := by decide
    first | omega | (rw [sizeLine_eq]; omega) | skip
  · split
    · exact ⟨by decide +kernel, h Str.empty _ _ (Nat.zero_le _) (show PyData.strOk Str.empty = true by decide +kernel) (S.tok _)⟩
    · rename_i q
      split
      · rename_i q2
        refine h x _ _ ?_ hx S
        have : n = 1 ∨ x.length = 0 := by simpa using q2
        rcases this with e | e
        · rw [e]; simp
        · rw [e]; simp
      · have e : ∀ m : Nat, (⟨List.foldl (fun x1 x2 => x1 ++ x2) #[] (List.replicate m x.cps)⟩ : Str).length = m * x.length := fun m => by
          show Array.size _ = _
          rw [rep_size]; simp [Str.length]
        refine ⟨?_, h _ s.toks { s with toks := s.toks + 1 } ?_ ?_ (S.tok _)⟩
        · show Array.size _ ≤ _
          rw [rep_size, sizeLine_eq]
          have : x.cps.size = x.length := rfl
          rw [this, Nat.mul_comm]
          simp; omega
        · show Array.size _ ≤ _
          rw [rep_size]
          have : x.cps.size = x.length := rfl
          rw [this, Nat.mul_comm]
          simp
        · rw [okS_iff] at *
          intro c hc
          rcases rep_mem _ _ _ hc with q | q
          · simp at q
          · exact hx c q
end
end Fl

namespace Fl
open PySem PySem.W PyProof.Rows
abbrev PP : Program := PySem.Challenge.pw_uf030040_03
def stAt (i : Nat) : Stmt := (PP.main.body[i]?).getD default
def inAt (i j : Nat) : Stmt := match stAt i with
  | .ClassDef _ _ _ b _ _ _ _ _ _ _ => (b[j]?).getD default
  | _ => default
def fnD (st : Stmt) (qual : Str) (dV kV doc pm : Value) (an : Option Addr) (cd ct : Value) : FuncData := match st with
  | .FunctionDef n a b _ _ _ sc _ _ _ => { name := n, qualname := qual, params := a, body := .stmts b, scope := sc, globals := mainGlobals, closure := [], defaults := dV, kwdefaults := kV, doc := doc, pyModule := pm, annotations := an, code := cd, closureTuple := ct, builtins := builtinsNs }
  | _ => default
def kA : List Addr := [2, 3, 15, 17, 18, 20, 21, 22, 29, 30, 31, 32, 35, 42, 43, 44, 47, 54, 55, 56, 59, 66, 67, 68, 71, 78, 79, 80, 83, 90, 91, 92, 95, 102, 103, 104, 107, 114, 115, 116, 119, 126, 127, 128, 131, 133, 134, 136, 137, 145, 147, 148, 150, 151, 152, 154, 155, 157, 158, 159, 161, 162, 164, 165, 166, 169, 170, 171, 173, 174, 176, 177, 178, 180, 181, 183, 184, 185, 187, 188, 190, 191, 192, 193, 194, 195, 196, 199, 201, 202, 204, 205, 206, 208, 209, 211, 212, 213, 216, 217, 218, 220, 221, 223, 224, 225, 228, 229, 230, 232, 233, 235, 236, 237, 239, 240, 242, 243, 244, 246, 247, 249, 250]
def kH (P : Params) : Frag := (nat_lit 2, ⟨.none, none, (.dict #[] 0), #[]⟩) :: (nat_lit 3, ⟨(.type "dict"), none, (.dict #[⟨PyData.keyHash P (Str.ofString "__name__"), (.str (Str.ofString "__name__") 165), (.str (Str.ofString "law_uf030040_03") 446)⟩, ⟨PyData.keyHash P (Str.ofString "__doc__"), (.str (Str.ofString "__doc__") 166), .none⟩, ⟨PyData.keyHash P (Str.ofString "__package__"), (.str (Str.ofString "__package__") 167), .none⟩, ⟨PyData.keyHash P (Str.ofString "__loader__"), (.str (Str.ofString "__loader__") 168), (.builtin "__main__.__loader__#opaque")⟩, ⟨PyData.keyHash P (Str.ofString "__spec__"), (.str (Str.ofString "__spec__") 169), .none⟩, ⟨PyData.keyHash P (Str.ofString "__annotations__"), (.str (Str.ofString "__annotations__") 170), (.ref 6)⟩, ⟨PyData.keyHash P (Str.ofString "__builtins__"), (.str (Str.ofString "__builtins__") 171), (.ref 4)⟩, ⟨PyData.keyHash P (Str.ofString "__file__"), (.str (Str.ofString "__file__") 173), (.str (Str.ofString "/claim/cut.py") 172)⟩, ⟨PyData.keyHash P (Str.ofString "__cached__"), (.str (Str.ofString "__cached__") 174), .none⟩, ⟨PyData.keyHash P (Str.ofString "_wall"), (.str (Str.ofString "_wall") 193), (.ref 21)⟩, ⟨PyData.keyHash P (Str.ofString "FloorError"), (.str (Str.ofString "FloorError") 213), (.ref 31)⟩, ⟨PyData.keyHash P (Str.ofString "TooLarge"), (.str (Str.ofString "TooLarge") 229), (.ref 44)⟩, ⟨PyData.keyHash P (Str.ofString "Ragged"), (.str (Str.ofString "Ragged") 245), (.ref 56)⟩, ⟨PyData.keyHash P (Str.ofString "StrangeSign"), (.str (Str.ofString "StrangeSign") 261), (.ref 68)⟩, ⟨PyData.keyHash P (Str.ofString "NoCell"), (.str (Str.ofString "NoCell") 277), (.ref 80)⟩, ⟨PyData.keyHash P (Str.ofString "NotBeside"), (.str (Str.ofString "NotBeside") 293), (.ref 92)⟩, ⟨PyData.keyHash P (Str.ofString "Covered"), (.str (Str.ofString "Covered") 309), (.ref 104)⟩, ⟨PyData.keyHash P (Str.ofString "Uncovered"), (.str (Str.ofString "Uncovered") 325), (.ref 116)⟩, ⟨PyData.keyHash P (Str.ofString "NoDrawing"), (.str (Str.ofString "NoDrawing") 341), (.ref 128)⟩, ⟨PyData.keyHash P (Str.ofString "MOST"), (.str (Str.ofString "MOST") 345), (.int 12 344)⟩, ⟨PyData.keyHash P (Str.ofString "SIGNS"), (.str (Str.ofString "SIGNS") 347), (.str (Str.ofString ".-|#") 346)⟩, ⟨PyData.keyHash P (Str.ofString "ALONG"), (.str (Str.ofString "ALONG") 349), (.str (Str.ofString ".-") 348)⟩, ⟨PyData.keyHash P (Str.ofString "ACROSS"), (.str (Str.ofString "ACROSS") 351), (.str (Str.ofString ".|") 350)⟩, ⟨PyData.keyHash P (Str.ofString "look_at_sizes"), (.str (Str.ofString "look_at_sizes") 359), (.ref 137)⟩, ⟨PyData.keyHash P (Str.ofString "Floor"), (.str (Str.ofString "Floor") 445), (.ref 194)⟩, ⟨PyData.keyHash P (Str.ofString "_law_cell_at"), (.str (Str.ofString "_law_cell_at") 455), (.ref 205)⟩, ⟨PyData.keyHash P (Str.ofString "_law_number"), (.str (Str.ofString "_law_number") 464), (.ref 212)⟩, ⟨PyData.keyHash P (Str.ofString "_law_rows"), (.str (Str.ofString "_law_rows") 470), (.ref 217)⟩, ⟨PyData.keyHash P (Str.ofString "_law_faulty"), (.str (Str.ofString "_law_faulty") 486), (.ref 224)⟩, ⟨PyData.keyHash P (Str.ofString "_law_due"), (.str (Str.ofString "_law_due") 492), (.ref 229)⟩, ⟨PyData.keyHash P (Str.ofString "_law_one_class"), (.str (Str.ofString "_law_one_class") 500), (.ref 236)⟩, ⟨PyData.keyHash P (Str.ofString "_law_told"), (.str (Str.ofString "_law_told") 509), (.ref 243)⟩, ⟨PyData.keyHash P (Str.ofString "law"), (.str (Str.ofString "law") 519), (.ref 250)⟩] 33), #[]⟩) :: (nat_lit 15, ⟨(.type "tuple"), none, (.seq #[] 0), #[]⟩) :: (nat_lit 17, ⟨(.type "tuple"), none, (.seq #[(.str (Str.ofString "k") 190)] 0), #[]⟩) :: (nat_lit 18, ⟨(.type "tuple"), none, (.seq #[] 0), #[]⟩) :: (nat_lit 20, ⟨(.type "code"), none, (.fields #[(.str (Str.ofString "_wall") 187), (.str (Str.ofString "_wall") 188), (.str (Str.ofString "/claim/cut.py") 189), (.int 1 0), (.int 1 0), (.int 0 0), (.int 0 0), (.int 3 0), (.ref 15), (.bool true), (.int 181 0), (.ref 16), .none, (.ref 17), (.ref 18), (.ref 19), (.int 191 0), (.int 1 0), (.str (Str.ofString "/claim/cut.py") 192)]), #[]⟩) :: (nat_lit 21, ⟨(.type "function"), none, (.func (fnD (stAt 0) (Str.ofString "_wall") .none .none .none (.str (Str.ofString "__main__") 164) none (.ref 20) .none)), #[]⟩) :: (nat_lit 22, ⟨(.type "tuple"), none, (.seq #[(.type "ValueError")] 0), #[]⟩) :: (nat_lit 29, ⟨(.type "tuple"), none, (.seq #[] 0), #[]⟩) :: (nat_lit 30, ⟨(.type "dict"), none, (.dict #[⟨PyData.keyHash P (Str.ofString "__module__"), (.str (Str.ofString "__module__") 203), (.str (Str.ofString "slabfloor.errors") 194)⟩, ⟨PyData.keyHash P (Str.ofString "__firstlineno__"), (.str (Str.ofString "__firstlineno__") 207), (.int 5 206)⟩, ⟨PyData.keyHash P (Str.ofString "__static_attributes__"), (.str (Str.ofString "__static_attributes__") 208), (.ref 29)⟩, ⟨PyData.keyHash P (Str.ofString "__weakref__"), (.str (Str.ofString "__weakref__") 210), (.ref 32)⟩, ⟨PyData.keyHash P (Str.ofString "__doc__"), (.str (Str.ofString "__doc__") 211), .none⟩] 3), #[]⟩) :: (nat_lit 31, ⟨(.type "type"), none, (.cls { name := (Str.ofString "FloorError"), bases := [(.type "ValueError")], mro := [(.ref 31), (.type "ValueError"), (.type "Exception"), (.type "BaseException"), (.type "object")], ns := 30, qualname := (Str.ofString "FloorError"), hasDict := true, slotNames := [], subclasses := [(.ref 44), (.ref 56), (.ref 68), (.ref 80), (.ref 92), (.ref 104), (.ref 116), (.ref 128)], abstract := false, collection := none, hasDel := false }), #[(some (.ref 22)), none, (some (.str (Str.ofString "FloorError") 196)), (some (.str (Str.ofString "FloorError") 204)), (some (.builtin "ValueError.__new__")), (some (.bool true))]⟩) :: (nat_lit 32, ⟨(.type "getset_descriptor"), none, (.fields #[(.str (Str.ofString "__weakref__") 209), (.ref 31), (.builtin "ExceptionGroup.__weakref__"), .none]), #[]⟩) :: (nat_lit 35, ⟨(.type "tuple"), none, (.seq #[(.ref 31)] 0), #[]⟩) :: (nat_lit 42, ⟨(.type "tuple"), none, (.seq #[] 0), #[]⟩) :: (nat_lit 43, ⟨(.type "dict"), none, (.dict #[⟨PyData.keyHash P (Str.ofString "__module__"), (.str (Str.ofString "__module__") 221), (.str (Str.ofString "slabfloor.errors") 194)⟩, ⟨PyData.keyHash P (Str.ofString "__firstlineno__"), (.str (Str.ofString "__firstlineno__") 225), (.int 7 224)⟩, ⟨PyData.keyHash P (Str.ofString "__static_attributes__"), (.str (Str.ofString "__static_attributes__") 226), (.ref 42)⟩, ⟨PyData.keyHash P (Str.ofString "__doc__"), (.str (Str.ofString "__doc__") 227), .none⟩] 2), #[]⟩) :: (nat_lit 44, ⟨(.type "type"), none, (.cls { name := (Str.ofString "TooLarge"), bases := [(.ref 31)], mro := [(.ref 44), (.ref 31), (.type "ValueError"), (.type "Exception"), (.type "BaseException"), (.type "object")], ns := 43, qualname := (Str.ofString "TooLarge"), hasDict := true, slotNames := [], subclasses := [], abstract := false, collection := none, hasDel := false }), #[(some (.ref 35)), none, (some (.str (Str.ofString "TooLarge") 214)), (some (.str (Str.ofString "TooLarge") 222)), (some (.builtin "ValueError.__new__")), (some (.bool true))]⟩) :: (nat_lit 47, ⟨(.type "tuple"), none, (.seq #[(.ref 31)] 0), #[]⟩) :: (nat_lit 54, ⟨(.type "tuple"), none, (.seq #[] 0), #[]⟩) :: (nat_lit 55, ⟨(.type "dict"), none, (.dict #[⟨PyData.keyHash P (Str.ofString "__module__"), (.str (Str.ofString "__module__") 237), (.str (Str.ofString "slabfloor.errors") 194)⟩, ⟨PyData.keyHash P (Str.ofString "__firstlineno__"), (.str (Str.ofString "__firstlineno__") 241), (.int 9 240)⟩, ⟨PyData.keyHash P (Str.ofString "__static_attributes__"), (.str (Str.ofString "__static_attributes__") 242), (.ref 54)⟩, ⟨PyData.keyHash P (Str.ofString "__doc__"), (.str (Str.ofString "__doc__") 243), .none⟩] 2), #[]⟩) :: (nat_lit 56, ⟨(.type "type"), none, (.cls { name := (Str.ofString "Ragged"), bases := [(.ref 31)], mro := [(.ref 56), (.ref 31), (.type "ValueError"), (.type "Exception"), (.type "BaseException"), (.type "object")], ns := 55, qualname := (Str.ofString "Ragged"), hasDict := true, slotNames := [], subclasses := [], abstract := false, collection := none, hasDel := false }), #[(some (.ref 47)), none, (some (.str (Str.ofString "Ragged") 230)), (some (.str (Str.ofString "Ragged") 238)), (some (.builtin "ValueError.__new__")), (some (.bool true))]⟩) :: (nat_lit 59, ⟨(.type "tuple"), none, (.seq #[(.ref 31)] 0), #[]⟩) :: (nat_lit 66, ⟨(.type "tuple"), none, (.seq #[] 0), #[]⟩) :: (nat_lit 67, ⟨(.type "dict"), none, (.dict #[⟨PyData.keyHash P (Str.ofString "__module__"), (.str (Str.ofString "__module__") 253), (.str (Str.ofString "slabfloor.errors") 194)⟩, ⟨PyData.keyHash P (Str.ofString "__firstlineno__"), (.str (Str.ofString "__firstlineno__") 257), (.int 11 256)⟩, ⟨PyData.keyHash P (Str.ofString "__static_attributes__"), (.str (Str.ofString "__static_attributes__") 258), (.ref 66)⟩, ⟨PyData.keyHash P (Str.ofString "__doc__"), (.str (Str.ofString "__doc__") 259), .none⟩] 2), #[]⟩) :: (nat_lit 68, ⟨(.type "type"), none, (.cls { name := (Str.ofString "StrangeSign"), bases := [(.ref 31)], mro := [(.ref 68), (.ref 31), (.type "ValueError"), (.type "Exception"), (.type "BaseException"), (.type "object")], ns := 67, qualname := (Str.ofString "StrangeSign"), hasDict := true, slotNames := [], subclasses := [], abstract := false, collection := none, hasDel := false }), #[(some (.ref 59)), none, (some (.str (Str.ofString "StrangeSign") 246)), (some (.str (Str.ofString "StrangeSign") 254)), (some (.builtin "ValueError.__new__")), (some (.bool true))]⟩) :: (nat_lit 71, ⟨(.type "tuple"), none, (.seq #[(.ref 31)] 0), #[]⟩) :: (nat_lit 78, ⟨(.type "tuple"), none, (.seq #[] 0), #[]⟩) :: (nat_lit 79, ⟨(.type "dict"), none, (.dict #[⟨PyData.keyHash P (Str.ofString "__module__"), (.str (Str.ofString "__module__") 269), (.str (Str.ofString "slabfloor.errors") 194)⟩, ⟨PyData.keyHash P (Str.ofString "__firstlineno__"), (.str (Str.ofString "__firstlineno__") 273), (.int 13 272)⟩, ⟨PyData.keyHash P (Str.ofString "__static_attributes__"), (.str (Str.ofString "__static_attributes__") 274), (.ref 78)⟩, ⟨PyData.keyHash P (Str.ofString "__doc__"), (.str (Str.ofString "__doc__") 275), .none⟩] 2), #[]⟩) :: (nat_lit 80, ⟨(.type "type"), none, (.cls { name := (Str.ofString "NoCell"), bases := [(.ref 31)], mro := [(.ref 80), (.ref 31), (.type "ValueError"), (.type "Exception"), (.type "BaseException"), (.type "object")], ns := 79, qualname := (Str.ofString "NoCell"), hasDict := true, slotNames := [], subclasses := [], abstract := false, collection := none, hasDel := false }), #[(some (.ref 71)), none, (some (.str (Str.ofString "NoCell") 262)), (some (.str (Str.ofString "NoCell") 270)), (some (.builtin "ValueError.__new__")), (some (.bool true))]⟩) :: (nat_lit 83, ⟨(.type "tuple"), none, (.seq #[(.ref 31)] 0), #[]⟩) :: (nat_lit 90, ⟨(.type "tuple"), none, (.seq #[] 0), #[]⟩) :: (nat_lit 91, ⟨(.type "dict"), none, (.dict #[⟨PyData.keyHash P (Str.ofString "__module__"), (.str (Str.ofString "__module__") 285), (.str (Str.ofString "slabfloor.errors") 194)⟩, ⟨PyData.keyHash P (Str.ofString "__firstlineno__"), (.str (Str.ofString "__firstlineno__") 289), (.int 15 288)⟩, ⟨PyData.keyHash P (Str.ofString "__static_attributes__"), (.str (Str.ofString "__static_attributes__") 290), (.ref 90)⟩, ⟨PyData.keyHash P (Str.ofString "__doc__"), (.str (Str.ofString "__doc__") 291), .none⟩] 2), #[]⟩) :: (nat_lit 92, ⟨(.type "type"), none, (.cls { name := (Str.ofString "NotBeside"), bases := [(.ref 31)], mro := [(.ref 92), (.ref 31), (.type "ValueError"), (.type "Exception"), (.type "BaseException"), (.type "object")], ns := 91, qualname := (Str.ofString "NotBeside"), hasDict := true, slotNames := [], subclasses := [], abstract := false, collection := none, hasDel := false }), #[(some (.ref 83)), none, (some (.str (Str.ofString "NotBeside") 278)), (some (.str (Str.ofString "NotBeside") 286)), (some (.builtin "ValueError.__new__")), (some (.bool true))]⟩) :: (nat_lit 95, ⟨(.type "tuple"), none, (.seq #[(.ref 31)] 0), #[]⟩) :: (nat_lit 102, ⟨(.type "tuple"), none, (.seq #[] 0), #[]⟩) :: (nat_lit 103, ⟨(.type "dict"), none, (.dict #[⟨PyData.keyHash P (Str.ofString "__module__"), (.str (Str.ofString "__module__") 301), (.str (Str.ofString "slabfloor.errors") 194)⟩, ⟨PyData.keyHash P (Str.ofString "__firstlineno__"), (.str (Str.ofString "__firstlineno__") 305), (.int 17 304)⟩, ⟨PyData.keyHash P (Str.ofString "__static_attributes__"), (.str (Str.ofString "__static_attributes__") 306), (.ref 102)⟩, ⟨PyData.keyHash P (Str.ofString "__doc__"), (.str (Str.ofString "__doc__") 307), .none⟩] 2), #[]⟩) :: (nat_lit 104, ⟨(.type "type"), none, (.cls { name := (Str.ofString "Covered"), bases := [(.ref 31)], mro := [(.ref 104), (.ref 31), (.type "ValueError"), (.type "Exception"), (.type "BaseException"), (.type "object")], ns := 103, qualname := (Str.ofString "Covered"), hasDict := true, slotNames := [], subclasses := [], abstract := false, collection := none, hasDel := false }), #[(some (.ref 95)), none, (some (.str (Str.ofString "Covered") 294)), (some (.str (Str.ofString "Covered") 302)), (some (.builtin "ValueError.__new__")), (some (.bool true))]⟩) :: (nat_lit 107, ⟨(.type "tuple"), none, (.seq #[(.ref 31)] 0), #[]⟩) :: (nat_lit 114, ⟨(.type "tuple"), none, (.seq #[] 0), #[]⟩) :: (nat_lit 115, ⟨(.type "dict"), none, (.dict #[⟨PyData.keyHash P (Str.ofString "__module__"), (.str (Str.ofString "__module__") 317), (.str (Str.ofString "slabfloor.errors") 194)⟩, ⟨PyData.keyHash P (Str.ofString "__firstlineno__"), (.str (Str.ofString "__firstlineno__") 321), (.int 19 320)⟩, ⟨PyData.keyHash P (Str.ofString "__static_attributes__"), (.str (Str.ofString "__static_attributes__") 322), (.ref 114)⟩, ⟨PyData.keyHash P (Str.ofString "__doc__"), (.str (Str.ofString "__doc__") 323), .none⟩] 2), #[]⟩) :: (nat_lit 116, ⟨(.type "type"), none, (.cls { name := (Str.ofString "Uncovered"), bases := [(.ref 31)], mro := [(.ref 116), (.ref 31), (.type "ValueError"), (.type "Exception"), (.type "BaseException"), (.type "object")], ns := 115, qualname := (Str.ofString "Uncovered"), hasDict := true, slotNames := [], subclasses := [], abstract := false, collection := none, hasDel := false }), #[(some (.ref 107)), none, (some (.str (Str.ofString "Uncovered") 310)), (some (.str (Str.ofString "Uncovered") 318)), (some (.builtin "ValueError.__new__")), (some (.bool true))]⟩) :: (nat_lit 119, ⟨(.type "tuple"), none, (.seq #[(.ref 31)] 0), #[]⟩) :: (nat_lit 126, ⟨(.type "tuple"), none, (.seq #[] 0), #[]⟩) :: (nat_lit 127, ⟨(.type "dict"), none, (.dict #[⟨PyData.keyHash P (Str.ofString "__module__"), (.str (Str.ofString "__module__") 333), (.str (Str.ofString "slabfloor.errors") 194)⟩, ⟨PyData.keyHash P (Str.ofString "__firstlineno__"), (.str (Str.ofString "__firstlineno__") 337), (.int 21 336)⟩, ⟨PyData.keyHash P (Str.ofString "__static_attributes__"), (.str (Str.ofString "__static_attributes__") 338), (.ref 126)⟩, ⟨PyData.keyHash P (Str.ofString "__doc__"), (.str (Str.ofString "__doc__") 339), .none⟩] 2), #[]⟩) :: (nat_lit 128, ⟨(.type "type"), none, (.cls { name := (Str.ofString "NoDrawing"), bases := [(.ref 31)], mro := [(.ref 128), (.ref 31), (.type "ValueError"), (.type "Exception"), (.type "BaseException"), (.type "object")], ns := 127, qualname := (Str.ofString "NoDrawing"), hasDict := true, slotNames := [], subclasses := [], abstract := false, collection := none, hasDel := false }), #[(some (.ref 119)), none, (some (.str (Str.ofString "NoDrawing") 326)), (some (.str (Str.ofString "NoDrawing") 334)), (some (.builtin "ValueError.__new__")), (some (.bool true))]⟩) :: (nat_lit 131, ⟨(.type "tuple"), none, (.seq #[] 0), #[]⟩) :: (nat_lit 133, ⟨(.type "tuple"), none, (.seq #[(.str (Str.ofString "rows") 355), (.str (Str.ofString "row") 356)] 0), #[]⟩) :: (nat_lit 134, ⟨(.type "tuple"), none, (.seq #[] 0), #[]⟩) :: (nat_lit 136, ⟨(.type "code"), none, (.fields #[(.str (Str.ofString "look_at_sizes") 352), (.str (Str.ofString "look_at_sizes") 353), (.str (Str.ofString "/claim/cut.py") 354), (.int 28 0), (.int 1 0), (.int 0 0), (.int 0 0), (.int 3 0), (.ref 131), (.bool true), (.int 181 0), (.ref 132), .none, (.ref 133), (.ref 134), (.ref 135), (.int 357 0), (.int 28 0), (.str (Str.ofString "/claim/cut.py") 358)]), #[]⟩) :: (nat_lit 137, ⟨(.type "function"), none, (.func (fnD (stAt 16) (Str.ofString "look_at_sizes") .none .none .none (.str (Str.ofString "slabfloor.floor") 342) none (.ref 136) .none)), #[]⟩) :: (nat_lit 145, ⟨(.type "tuple"), none, (.seq #[] 0), #[]⟩) :: (nat_lit 147, ⟨(.type "tuple"), none, (.seq #[(.str (Str.ofString "self") 375), (.str (Str.ofString "rows") 376), (.str (Str.ofString "row") 377), (.str (Str.ofString "sign") 378)] 0), #[]⟩) :: (nat_lit 148, ⟨(.type "tuple"), none, (.seq #[] 0), #[]⟩) :: (nat_lit 150, ⟨(.type "code"), none, (.fields #[(.str (Str.ofString "__init__") 372), (.str (Str.ofString "Floor.__init__") 373), (.str (Str.ofString "/claim/cut.py") 374), (.int 39 0), (.int 2 0), (.int 0 0), (.int 0 0), (.int 3 0), (.ref 145), (.bool true), (.int 181 0), (.ref 146), .none, (.ref 147), (.ref 148), (.ref 149), (.int 379 0), (.int 39 0), (.str (Str.ofString "/claim/cut.py") 380)]), #[]⟩) :: (nat_lit 151, ⟨(.type "function"), none, (.func (fnD (inAt 17 0) (Str.ofString "Floor.__init__") .none .none .none (.str (Str.ofString "slabfloor.floor") 342) none (.ref 150) .none)), #[]⟩) :: (nat_lit 152, ⟨(.type "tuple"), none, (.seq #[] 0), #[]⟩) :: (nat_lit 154, ⟨(.type "tuple"), none, (.seq #[(.str (Str.ofString "self") 385), (.str (Str.ofString "place") 386)] 0), #[]⟩) :: (nat_lit 155, ⟨(.type "tuple"), none, (.seq #[] 0), #[]⟩) :: (nat_lit 157, ⟨(.type "code"), none, (.fields #[(.str (Str.ofString "sign_of") 382), (.str (Str.ofString "Floor.sign_of") 383), (.str (Str.ofString "/claim/cut.py") 384), (.int 51 0), (.int 2 0), (.int 0 0), (.int 0 0), (.int 3 0), (.ref 152), (.bool true), (.int 181 0), (.ref 153), .none, (.ref 154), (.ref 155), (.ref 156), (.int 387 0), (.int 51 0), (.str (Str.ofString "/claim/cut.py") 388)]), #[]⟩) :: (nat_lit 158, ⟨(.type "function"), none, (.func (fnD (inAt 17 1) (Str.ofString "Floor.sign_of") .none .none .none (.str (Str.ofString "slabfloor.floor") 342) none (.ref 157) .none)), #[]⟩) :: (nat_lit 159, ⟨(.type "tuple"), none, (.seq #[] 0), #[]⟩) :: (nat_lit 161, ⟨(.type "tuple"), none, (.seq #[(.str (Str.ofString "self") 393), (.str (Str.ofString "place") 394)] 0), #[]⟩) :: (nat_lit 162, ⟨(.type "tuple"), none, (.seq #[] 0), #[]⟩) :: (nat_lit 164, ⟨(.type "code"), none, (.fields #[(.str (Str.ofString "has") 390), (.str (Str.ofString "Floor.has") 391), (.str (Str.ofString "/claim/cut.py") 392), (.int 54 0), (.int 2 0), (.int 0 0), (.int 0 0), (.int 3 0), (.ref 159), (.bool true), (.int 181 0), (.ref 160), .none, (.ref 161), (.ref 162), (.ref 163), (.int 395 0), (.int 54 0), (.str (Str.ofString "/claim/cut.py") 396)]), #[]⟩) :: (nat_lit 165, ⟨(.type "function"), none, (.func (fnD (inAt 17 2) (Str.ofString "Floor.has") .none .none .none (.str (Str.ofString "slabfloor.floor") 342) none (.ref 164) .none)), #[]⟩) :: (nat_lit 166, ⟨(.type "tuple"), none, (.seq #[] 0), #[]⟩) :: (nat_lit 169, ⟨(.type "code"), none, (.fields #[(.str (Str.ofString "cells") 398), (.str (Str.ofString "Floor.cells") 399), (.str (Str.ofString "/claim/cut.py") 400), (.int 59 0), (.int 1 0), (.int 0 0), (.int 0 0), (.int 3 0), (.ref 166), (.bool true), (.int 181 0), (.ref 167), .none, .none, .none, (.ref 168), (.int 401 0), (.int 59 0), (.str (Str.ofString "/claim/cut.py") 402)]), #[]⟩) :: (nat_lit 170, ⟨(.type "function"), none, (.func (fnD (inAt 17 3) (Str.ofString "Floor.cells") .none .none .none (.str (Str.ofString "slabfloor.floor") 342) none (.ref 169) .none)), #[]⟩) :: (nat_lit 171, ⟨(.type "tuple"), none, (.seq #[] 0), #[]⟩) :: (nat_lit 173, ⟨(.type "tuple"), none, (.seq #[(.str (Str.ofString "self") 407), (.str (Str.ofString "place") 408)] 0), #[]⟩) :: (nat_lit 174, ⟨(.type "tuple"), none, (.seq #[] 0), #[]⟩) :: (nat_lit 176, ⟨(.type "code"), none, (.fields #[(.str (Str.ofString "shade") 404), (.str (Str.ofString "Floor.shade") 405), (.str (Str.ofString "/claim/cut.py") 406), (.int 62 0), (.int 2 0), (.int 0 0), (.int 0 0), (.int 3 0), (.ref 171), (.bool true), (.int 181 0), (.ref 172), .none, (.ref 173), (.ref 174), (.ref 175), (.int 409 0), (.int 62 0), (.str (Str.ofString "/claim/cut.py") 410)]), #[]⟩) :: (nat_lit 177, ⟨(.type "function"), none, (.func (fnD (inAt 17 4) (Str.ofString "Floor.shade") .none .none .none (.str (Str.ofString "slabfloor.floor") 342) none (.ref 176) .none)), #[]⟩) :: (nat_lit 178, ⟨(.type "tuple"), none, (.seq #[] 0), #[]⟩) :: (nat_lit 180, ⟨(.type "tuple"), none, (.seq #[(.str (Str.ofString "self") 415), (.str (Str.ofString "one") 416), (.str (Str.ofString "other") 417), (.str (Str.ofString "low") 418), (.str (Str.ofString "high") 419), (.str (Str.ofString "first") 420), (.str (Str.ofString "second") 421)] 0), #[]⟩) :: (nat_lit 181, ⟨(.type "tuple"), none, (.seq #[] 0), #[]⟩) :: (nat_lit 183, ⟨(.type "code"), none, (.fields #[(.str (Str.ofString "may") 412), (.str (Str.ofString "Floor.may") 413), (.str (Str.ofString "/claim/cut.py") 414), (.int 65 0), (.int 3 0), (.int 0 0), (.int 0 0), (.int 3 0), (.ref 178), (.bool true), (.int 181 0), (.ref 179), .none, (.ref 180), (.ref 181), (.ref 182), (.int 422 0), (.int 65 0), (.str (Str.ofString "/claim/cut.py") 423)]), #[]⟩) :: (nat_lit 184, ⟨(.type "function"), none, (.func (fnD (inAt 17 5) (Str.ofString "Floor.may") .none .none .none (.str (Str.ofString "slabfloor.floor") 342) none (.ref 183) .none)), #[]⟩) :: (nat_lit 185, ⟨(.type "tuple"), none, (.seq #[] 0), #[]⟩) :: (nat_lit 187, ⟨(.type "tuple"), none, (.seq #[(.str (Str.ofString "self") 428), (.str (Str.ofString "cell") 429), (.str (Str.ofString "found") 430), (.str (Str.ofString "other") 431)] 0), #[]⟩) :: (nat_lit 188, ⟨(.type "tuple"), none, (.seq #[] 0), #[]⟩) :: (nat_lit 190, ⟨(.type "code"), none, (.fields #[(.str (Str.ofString "beside") 425), (.str (Str.ofString "Floor.beside") 426), (.str (Str.ofString "/claim/cut.py") 427), (.int 78 0), (.int 2 0), (.int 0 0), (.int 0 0), (.int 3 0), (.ref 185), (.bool true), (.int 181 0), (.ref 186), .none, (.ref 187), (.ref 188), (.ref 189), (.int 432 0), (.int 78 0), (.str (Str.ofString "/claim/cut.py") 433)]), #[]⟩) :: (nat_lit 191, ⟨(.type "function"), none, (.func (fnD (inAt 17 6) (Str.ofString "Floor.beside") .none .none .none (.str (Str.ofString "slabfloor.floor") 342) none (.ref 190) .none)), #[]⟩) :: (nat_lit 192, ⟨(.type "tuple"), none, (.seq #[(.str (Str.ofString "high") 435), (.str (Str.ofString "rows") 436), (.str (Str.ofString "wide") 437)] 0), #[]⟩) :: (nat_lit 193, ⟨(.type "dict"), none, (.dict #[⟨PyData.keyHash P (Str.ofString "__module__"), (.str (Str.ofString "__module__") 367), (.str (Str.ofString "slabfloor.floor") 342)⟩, ⟨PyData.keyHash P (Str.ofString "__firstlineno__"), (.str (Str.ofString "__firstlineno__") 371), (.int 37 370)⟩, ⟨PyData.keyHash P (Str.ofString "__init__"), (.str (Str.ofString "__init__") 381), (.ref 151)⟩, ⟨PyData.keyHash P (Str.ofString "sign_of"), (.str (Str.ofString "sign_of") 389), (.ref 158)⟩, ⟨PyData.keyHash P (Str.ofString "has"), (.str (Str.ofString "has") 397), (.ref 165)⟩, ⟨PyData.keyHash P (Str.ofString "cells"), (.str (Str.ofString "cells") 403), (.ref 170)⟩, ⟨PyData.keyHash P (Str.ofString "shade"), (.str (Str.ofString "shade") 411), (.ref 177)⟩, ⟨PyData.keyHash P (Str.ofString "may"), (.str (Str.ofString "may") 424), (.ref 184)⟩, ⟨PyData.keyHash P (Str.ofString "beside"), (.str (Str.ofString "beside") 434), (.ref 191)⟩, ⟨PyData.keyHash P (Str.ofString "__static_attributes__"), (.str (Str.ofString "__static_attributes__") 438), (.ref 192)⟩, ⟨PyData.keyHash P (Str.ofString "__dict__"), (.str (Str.ofString "__dict__") 440), (.ref 195)⟩, ⟨PyData.keyHash P (Str.ofString "__weakref__"), (.str (Str.ofString "__weakref__") 442), (.ref 196)⟩, ⟨PyData.keyHash P (Str.ofString "__doc__"), (.str (Str.ofString "__doc__") 443), .none⟩] 4), #[]⟩) :: (nat_lit 194, ⟨(.type "type"), none, (.cls { name := (Str.ofString "Floor"), bases := [(.type "object")], mro := [(.ref 194), (.type "object")], ns := 193, qualname := (Str.ofString "Floor"), hasDict := true, slotNames := [], subclasses := [], abstract := false, collection := none, hasDel := false }), #[none, none, (some (.str (Str.ofString "Floor") 360)), (some (.str (Str.ofString "Floor") 368)), (some (.builtin "object.__new__")), (some (.bool true))]⟩) :: (nat_lit 195, ⟨(.type "getset_descriptor"), none, (.fields #[(.str (Str.ofString "__dict__") 439), (.ref 194), (.builtin "function.__dict__"), (.builtin "function.__dict__#set")]), #[]⟩) :: (nat_lit 196, ⟨(.type "getset_descriptor"), none, (.fields #[(.str (Str.ofString "__weakref__") 441), (.ref 194), (.builtin "ExceptionGroup.__weakref__"), .none]), #[]⟩) :: (nat_lit 199, ⟨(.type "tuple"), none, (.seq #[] 0), #[]⟩) :: (nat_lit 201, ⟨(.type "tuple"), none, (.seq #[(.str (Str.ofString "_law_script") 451), (.str (Str.ofString "_law_k") 452)] 0), #[]⟩) :: (nat_lit 202, ⟨(.type "tuple"), none, (.seq #[] 0), #[]⟩) :: (nat_lit 204, ⟨(.type "code"), none, (.fields #[(.str (Str.ofString "_law_cell_at") 448), (.str (Str.ofString "_law_cell_at") 449), (.str (Str.ofString "/claim/cut.py") 450), (.int 87 0), (.int 2 0), (.int 0 0), (.int 0 0), (.int 3 0), (.ref 199), (.bool true), (.int 181 0), (.ref 200), .none, (.ref 201), (.ref 202), (.ref 203), (.int 453 0), (.int 87 0), (.str (Str.ofString "/claim/cut.py") 454)]), #[]⟩) :: (nat_lit 205, ⟨(.type "function"), none, (.func (fnD (stAt 19) (Str.ofString "_law_cell_at") .none .none .none (.str (Str.ofString "law_uf030040_03") 446) none (.ref 204) .none)), #[]⟩) :: (nat_lit 206, ⟨(.type "tuple"), none, (.seq #[] 0), #[]⟩) :: (nat_lit 208, ⟨(.type "tuple"), none, (.seq #[(.str (Str.ofString "_law_script") 459), (.str (Str.ofString "_law_k") 460), (.str (Str.ofString "_law_base") 461)] 0), #[]⟩) :: (nat_lit 209, ⟨(.type "tuple"), none, (.seq #[] 0), #[]⟩) :: (nat_lit 211, ⟨(.type "code"), none, (.fields #[(.str (Str.ofString "_law_number") 456), (.str (Str.ofString "_law_number") 457), (.str (Str.ofString "/claim/cut.py") 458), (.int 91 0), (.int 2 0), (.int 0 0), (.int 0 0), (.int 3 0), (.ref 206), (.bool true), (.int 181 0), (.ref 207), .none, (.ref 208), (.ref 209), (.ref 210), (.int 462 0), (.int 91 0), (.str (Str.ofString "/claim/cut.py") 463)]), #[]⟩) :: (nat_lit 212, ⟨(.type "function"), none, (.func (fnD (stAt 20) (Str.ofString "_law_number") .none .none .none (.str (Str.ofString "law_uf030040_03") 446) none (.ref 211) .none)), #[]⟩) :: (nat_lit 213, ⟨(.type "tuple"), none, (.seq #[] 0), #[]⟩) :: (nat_lit 216, ⟨(.type "code"), none, (.fields #[(.str (Str.ofString "_law_rows") 465), (.str (Str.ofString "_law_rows") 466), (.str (Str.ofString "/claim/cut.py") 467), (.int 96 0), (.int 1 0), (.int 0 0), (.int 0 0), (.int 3 0), (.ref 213), (.bool true), (.int 181 0), (.ref 214), .none, .none, .none, (.ref 215), (.int 468 0), (.int 96 0), (.str (Str.ofString "/claim/cut.py") 469)]), #[]⟩) :: (nat_lit 217, ⟨(.type "function"), none, (.func (fnD (stAt 21) (Str.ofString "_law_rows") .none .none .none (.str (Str.ofString "law_uf030040_03") 446) none (.ref 216) .none)), #[]⟩) :: (nat_lit 218, ⟨(.type "tuple"), none, (.seq #[] 0), #[]⟩) :: (nat_lit 220, ⟨(.type "tuple"), none, (.seq #[(.str (Str.ofString "_law_script") 474), (.str (Str.ofString "_law_rows_here") 475), (.str (Str.ofString "_law_kind") 476), (.str (Str.ofString "_law_number_here") 477), (.str (Str.ofString "_law_at") 478), (.str (Str.ofString "_law_more") 479), (.str (Str.ofString "_law_row") 480), (.str (Str.ofString "_law_place") 481), (.str (Str.ofString "_law_some") 482), (.str (Str.ofString "_law_sign") 483)] 0), #[]⟩) :: (nat_lit 221, ⟨(.type "tuple"), none, (.seq #[] 0), #[]⟩) :: (nat_lit 223, ⟨(.type "code"), none, (.fields #[(.str (Str.ofString "_law_faulty") 471), (.str (Str.ofString "_law_faulty") 472), (.str (Str.ofString "/claim/cut.py") 473), (.int 115 0), (.int 4 0), (.int 0 0), (.int 0 0), (.int 3 0), (.ref 218), (.bool true), (.int 181 0), (.ref 219), .none, (.ref 220), (.ref 221), (.ref 222), (.int 484 0), (.int 115 0), (.str (Str.ofString "/claim/cut.py") 485)]), #[]⟩) :: (nat_lit 224, ⟨(.type "function"), none, (.func (fnD (stAt 22) (Str.ofString "_law_faulty") .none .none .none (.str (Str.ofString "law_uf030040_03") 446) none (.ref 223) .none)), #[]⟩) :: (nat_lit 225, ⟨(.type "tuple"), none, (.seq #[] 0), #[]⟩) :: (nat_lit 228, ⟨(.type "code"), none, (.fields #[(.str (Str.ofString "_law_due") 487), (.str (Str.ofString "_law_due") 488), (.str (Str.ofString "/claim/cut.py") 489), (.int 135 0), (.int 1 0), (.int 0 0), (.int 0 0), (.int 3 0), (.ref 225), (.bool true), (.int 181 0), (.ref 226), .none, .none, .none, (.ref 227), (.int 490 0), (.int 135 0), (.str (Str.ofString "/claim/cut.py") 491)]), #[]⟩) :: (nat_lit 229, ⟨(.type "function"), none, (.func (fnD (stAt 23) (Str.ofString "_law_due") .none .none .none (.str (Str.ofString "law_uf030040_03") 446) none (.ref 228) .none)), #[]⟩) :: (nat_lit 230, ⟨(.type "tuple"), none, (.seq #[] 0), #[]⟩) :: (nat_lit 232, ⟨(.type "tuple"), none, (.seq #[(.str (Str.ofString "_law_e") 496), (.str (Str.ofString "_law_told_here") 497)] 0), #[]⟩) :: (nat_lit 233, ⟨(.type "tuple"), none, (.seq #[] 0), #[]⟩) :: (nat_lit 235, ⟨(.type "code"), none, (.fields #[(.str (Str.ofString "_law_one_class") 493), (.str (Str.ofString "_law_one_class") 494), (.str (Str.ofString "/claim/cut.py") 495), (.int 145 0), (.int 1 0), (.int 0 0), (.int 0 0), (.int 3 0), (.ref 230), (.bool true), (.int 181 0), (.ref 231), .none, (.ref 232), (.ref 233), (.ref 234), (.int 498 0), (.int 145 0), (.str (Str.ofString "/claim/cut.py") 499)]), #[]⟩) :: (nat_lit 236, ⟨(.type "function"), none, (.func (fnD (stAt 24) (Str.ofString "_law_one_class") .none .none .none (.str (Str.ofString "law_uf030040_03") 446) none (.ref 235) .none)), #[]⟩) :: (nat_lit 237, ⟨(.type "tuple"), none, (.seq #[] 0), #[]⟩) :: (nat_lit 239, ⟨(.type "tuple"), none, (.seq #[(.str (Str.ofString "_law_rows_here") 504), (.str (Str.ofString "_law_floor") 505), (.str (Str.ofString "_law_e") 506)] 0), #[]⟩) :: (nat_lit 240, ⟨(.type "tuple"), none, (.seq #[] 0), #[]⟩) :: (nat_lit 242, ⟨(.type "code"), none, (.fields #[(.str (Str.ofString "_law_told") 501), (.str (Str.ofString "_law_told") 502), (.str (Str.ofString "/claim/cut.py") 503), (.int 150 0), (.int 1 0), (.int 0 0), (.int 0 0), (.int 3 0), (.ref 237), (.bool true), (.int 181 0), (.ref 238), .none, (.ref 239), (.ref 240), (.ref 241), (.int 507 0), (.int 150 0), (.str (Str.ofString "/claim/cut.py") 508)]), #[]⟩) :: (nat_lit 243, ⟨(.type "function"), none, (.func (fnD (stAt 25) (Str.ofString "_law_told") .none .none .none (.str (Str.ofString "law_uf030040_03") 446) none (.ref 242) .none)), #[]⟩) :: (nat_lit 244, ⟨(.type "tuple"), none, (.seq #[] 0), #[]⟩) :: (nat_lit 246, ⟨(.type "tuple"), none, (.seq #[(.str (Str.ofString "_law_script") 513), (.str (Str.ofString "_law_rows_here") 514), (.str (Str.ofString "_law_k") 515), (.str (Str.ofString "_law_handed") 516)] 0), #[]⟩) :: (nat_lit 247, ⟨(.type "tuple"), none, (.seq #[] 0), #[]⟩) :: (nat_lit 249, ⟨(.type "code"), none, (.fields #[(.str (Str.ofString "law") 510), (.str (Str.ofString "law") 511), (.str (Str.ofString "/claim/cut.py") 512), (.int 160 0), (.int 1 0), (.int 0 0), (.int 0 0), (.int 3 0), (.ref 244), (.bool true), (.int 181 0), (.ref 245), .none, (.ref 246), (.ref 247), (.ref 248), (.int 517 0), (.int 160 0), (.str (Str.ofString "/claim/cut.py") 518)]), #[]⟩) :: (nat_lit 250, ⟨(.type "function"), none, (.func (fnD (stAt 26) (Str.ofString "law") .none .none .none (.str (Str.ofString "law_uf030040_03") 446) none (.ref 249) .none)), #[]⟩) :: []
def vw : Program := PySem.W.view PP [0, 2, 3, 4, 5, 6, 7, 8, 9, 10, 12, 13, 14, 15, 16, 17, 19, 20, 21, 22, 23, 24, 25, 26]
def hk : Hook := kHook kH kA (fun _ => by kernel_rfl)
theorem both_map {α β γ : Type} {o : Option α} {f : α → β} {g : α → γ} {a : β} {b : γ} (h1 : o.map f = some a) (h2 : o.map g = some b) : o.map (fun s => (f s, g s)) = some (a, b) := by
  cases o with
  | none => cases h1
  | some x => cases h1; cases h2; rfl
noncomputable def topBy (run : type_of% @topRun) (tb : String → Option Builtin) (p : Program) (w : World) (N : Nat) (s₀ : Shared) : Option Shared :=
  match s₀.heap.isNs mainGlobals && s₀.gens.size == 0 with
  | true => (run tb p w s₀.heap.objs.size (s₀.heap.nsMap mainGlobals "__annotations__") N s₀ (topStub p)).bind fun s₁ => match staticsOk (importedModules p.main.body) s₀.heap s₁.heap && namesBound p s₁.heap && gensDone s₁ && laidKept s₀.heap s₁.heap with
      | true => some s₁
      | false => none
  | false => none
noncomputable abbrev tpQ (w : World) : Shared → Option Shared := topBy PySem.W.Fast.tw14082659384304107361 PySem.W.Fast.tw14364793385576792824 PP w 5480
theorem tp_by (w : World) {r : type_of% @topRun} {t : String → Option Builtin} (h1 : @topRun = r) (h2 : treeTable = t) : topFrom treeTable PP w 5480 = topBy r t PP w 5480 := by
  subst h1 h2
  rfl
theorem via_q {α : Type} {o : Option Shared} {f g : Shared → Option Shared} {h k : Shared → α} {y : Option α} (e1 : f = g) (e2 : h = k) (q : (o.bind g).map k = y) : (o.bind f).map h = y := by
  subst e1 e2
  exact q
noncomputable abbrev osQ := PySem.W.Fast.tw4187177175401517315 vw [] (importedModules PP.main.body) (fun s => xlAt vw [] s && recOk (RowW.records PySem.Challenge.rw_uf030040_03.row.toRowW) s) true
theorem os_q : openSeen vw [] (importedModules PP.main.body) (fun s => xlAt vw [] s && recOk (RowW.records PySem.Challenge.rw_uf030040_03.row.toRowW) s) true = osQ := by
  unfold osQ
  rw [PySem.W.Fast.te4187177175401517315]
theorem leftq0 (w : World) : ((fencedOpening treeTable PP w 5480).bind (tpQ w)).map osQ = some (expectedOf vw, bltViewBooted, true, true, pinGoodD (drecsOf vw), plainGoodE vw (looseW vw []), plainGoodD vw [], wideGood vw, clsGoodW vw []) := by kernel_rfl
theorem left0 (w : World) : (openEnds treeTable PP w 5480).map (openSeen vw [] (importedModules PP.main.body) (fun s => xlAt vw [] s && recOk (RowW.records PySem.Challenge.rw_uf030040_03.row.toRowW) s) true) = some (openGood vw []) := via_q (o := fencedOpening treeTable PP w 5480) (tp_by _ PySem.W.Fast.te14082659384304107361 PySem.W.Fast.te14364793385576792824) os_q (leftq0 w)
theorem leftq1 (w : World) : ((fencedOpening treeTable PP w 5480).bind (tpQ w)).map hk.obs = some (hk.val w) := by kernel_rfl
theorem left1 (w : World) : (openEnds treeTable PP w 5480).map hk.obs = some (hk.val w) := via_q (o := fencedOpening treeTable PP w 5480) (tp_by _ PySem.W.Fast.te14082659384304107361 PySem.W.Fast.te14364793385576792824) rfl (leftq1 w)
theorem left : LeftO PP vw [] (fun s => xlAt vw [] s && recOk (RowW.records PySem.Challenge.rw_uf030040_03.row.toRowW) s) hk.obs hk.val 5480 := fun w => both_map (left0 w) (left1 w)
theorem dS : (defOf vw (Str.ofString "law")).isSome = true := by kernel_rfl
def dL : DefRec × List (Str × PySem.Expr) := (defOf vw (Str.ofString "law")).get dS
theorem hd (walk : WalkO vw [] (XL vw []) hk.says PySem.Challenge.rw_uf030040_03.row.toRowW dL.1 dL.2 fun f vs => PySem.call f vs) : PySem.Challenge.rw_uf030040_03.Holds := by
  w_on
  refine holds_law (by kernel_rfl) fun said => ?_
  refine holds_open (q := vw) (loose := []) (Xt := fun s => xlAt vw [] s && recOk (RowW.records PySem.Challenge.rw_uf030040_03.row.toRowW) s) (XP := XL vw []) (Yf := hk.obs) (Ya := hk.val) (YP := hk.says) (d := dL.1) (kwd := dL.2) (N := 5480) left hk.of hk.keeps (fun s e => xl_of s (Bool.and_eq_true_iff.mp e).1) XL.keeps (by kernel_rfl) (by kernel_rfl) (by kernel_rfl) (fun s e => recFacts_of (Bool.and_eq_true_iff.mp e).2) (by kernel_rfl) said (by kernel_rfl) ⟨rfl, rfl, rfl, rfl, rfl, by decide +kernel⟩ ?hw walk
  w_witness2
end Fl

set_option maxRecDepth 100000
set_option Elab.async false
set_option autoImplicit false
set_option linter.all false
set_option maxHeartbeats 8000000
namespace Fl
open PySem PySem.W PySem.Calls PyProof.Rows

theorem fill : PySem.Challenge.rw_uf030040_03 = PySem.Challenge.rw_uf030040_03 ∧ Fl.kH = Fl.kH := by
  k_fill
  exact ⟨rfl, rfl⟩
theorem gb_len (w : World) : GB (Fl.kH w.params) (Str.ofString "len") (.builtin "len") := ⟨by kernel_rfl, by kernel_rfl, by decide +kernel, by kernel_rfl⟩
theorem gb_min (w : World) : GB (Fl.kH w.params) (Str.ofString "min") (.builtin "min") := ⟨by kernel_rfl, by kernel_rfl, by decide +kernel, by kernel_rfl⟩
theorem gb_max (w : World) : GB (Fl.kH w.params) (Str.ofString "max") (.builtin "max") := ⟨by kernel_rfl, by kernel_rfl, by decide +kernel, by kernel_rfl⟩
theorem gb_abs (w : World) : GB (Fl.kH w.params) (Str.ofString "abs") (.builtin "abs") := ⟨by kernel_rfl, by kernel_rfl, by decide +kernel, by kernel_rfl⟩
theorem gb_isi (w : World) : GB (Fl.kH w.params) (Str.ofString "isinstance") (.builtin "isinstance") := ⟨by kernel_rfl, by kernel_rfl, by decide +kernel, by kernel_rfl⟩
theorem gb_range (w : World) : GB (Fl.kH w.params) (Str.ofString "range") (.type "range") := ⟨by kernel_rfl, by kernel_rfl, by decide +kernel, by kernel_rfl⟩
theorem gb_list (w : World) : GB (Fl.kH w.params) (Str.ofString "list") (.type "list") := ⟨by kernel_rfl, by kernel_rfl, by decide +kernel, by kernel_rfl⟩
theorem gb_int (w : World) : GB (Fl.kH w.params) (Str.ofString "int") (.type "int") := ⟨by kernel_rfl, by kernel_rfl, by decide +kernel, by kernel_rfl⟩
theorem gb_bool (w : World) : GB (Fl.kH w.params) (Str.ofString "bool") (.type "bool") := ⟨by kernel_rfl, by kernel_rfl, by decide +kernel, by kernel_rfl⟩
theorem gs_ALONG (w : World) : GS (Fl.kH w.params) (Str.ofString "ALONG") ⟨#[46, 45]⟩ := ⟨by kernel_rfl, by kernel_rfl⟩
theorem gs_ACROSS (w : World) : GS (Fl.kH w.params) (Str.ofString "ACROSS") ⟨#[46, 124]⟩ := ⟨by kernel_rfl, by kernel_rfl⟩
theorem gs_SIGNS (w : World) : GS (Fl.kH w.params) (Str.ofString "SIGNS") ⟨#[46, 45, 124, 35]⟩ := ⟨by kernel_rfl, by kernel_rfl⟩
theorem gi_MOST (w : World) : GI (Fl.kH w.params) (Str.ofString "MOST") 12 := ⟨by kernel_rfl, by kernel_rfl⟩
theorem gf_sizes (w : World) : GF (Fl.kH w.params) (Str.ofString "look_at_sizes") 137 := ⟨by kernel_rfl, by kernel_rfl, by kernel_rfl⟩
theorem st_rows (w : World) : storeIn (Fl.kH w.params) 194 (Str.ofString "rows") = true := by kernel_rfl
theorem st_high (w : World) : storeIn (Fl.kH w.params) 194 (Str.ofString "high") = true := by kernel_rfl
theorem st_wide (w : World) : storeIn (Fl.kH w.params) 194 (Str.ofString "wide") = true := by kernel_rfl
theorem fi_rows (w : World) : fieldIn (Fl.kH w.params) 194 (Str.ofString "rows") = true := by kernel_rfl
theorem fi_high (w : World) : fieldIn (Fl.kH w.params) 194 (Str.ofString "high") = true := by kernel_rfl
theorem fi_wide (w : World) : fieldIn (Fl.kH w.params) 194 (Str.ofString "wide") = true := by kernel_rfl
theorem me_sign_of (w : World) : methIn (Fl.kH w.params) 194 (Str.ofString "sign_of") 158 = true := by kernel_rfl
theorem mk_sign_of (w : World) : keepIn (Fl.kH w.params) (.ref 158) = true := methIn_keep (me_sign_of w)
theorem me_has (w : World) : methIn (Fl.kH w.params) 194 (Str.ofString "has") 165 = true := by kernel_rfl
theorem mk_has (w : World) : keepIn (Fl.kH w.params) (.ref 165) = true := methIn_keep (me_has w)
theorem me_may (w : World) : methIn (Fl.kH w.params) 194 (Str.ofString "may") 184 = true := by kernel_rfl
theorem mk_may (w : World) : keepIn (Fl.kH w.params) (.ref 184) = true := methIn_keep (me_may w)
theorem me_cells (w : World) : methIn (Fl.kH w.params) 194 (Str.ofString "cells") 170 = true := by kernel_rfl
theorem mk_cells (w : World) : keepIn (Fl.kH w.params) (.ref 170) = true := methIn_keep (me_cells w)
theorem gf_cell_at (w : World) : GF (Fl.kH w.params) (Str.ofString "_law_cell_at") 205 := ⟨by kernel_rfl, by kernel_rfl, by kernel_rfl⟩
theorem gf_number (w : World) : GF (Fl.kH w.params) (Str.ofString "_law_number") 212 := ⟨by kernel_rfl, by kernel_rfl, by kernel_rfl⟩
theorem gf_rows (w : World) : GF (Fl.kH w.params) (Str.ofString "_law_rows") 217 := ⟨by kernel_rfl, by kernel_rfl, by kernel_rfl⟩
theorem gf_Floor (w : World) : GF (Fl.kH w.params) (Str.ofString "Floor") 194 := ⟨by kernel_rfl, by kernel_rfl, by kernel_rfl⟩

theorem me_shade (w : World) : methIn (Fl.kH w.params) 194 (Str.ofString "shade") 177 = true := by kernel_rfl
theorem mk_shade (w : World) : keepIn (Fl.kH w.params) (.ref 177) = true := methIn_keep (me_shade w)
theorem me_beside (w : World) : methIn (Fl.kH w.params) 194 (Str.ofString "beside") 191 = true := by kernel_rfl
theorem mk_beside (w : World) : keepIn (Fl.kH w.params) (.ref 191) = true := methIn_keep (me_beside w)
theorem gf_faulty (w : World) : GF (Fl.kH w.params) (Str.ofString "_law_faulty") 224 := ⟨by kernel_rfl, by kernel_rfl, by kernel_rfl⟩
theorem gf_due (w : World) : GF (Fl.kH w.params) (Str.ofString "_law_due") 229 := ⟨by kernel_rfl, by kernel_rfl, by kernel_rfl⟩
theorem gf_told (w : World) : GF (Fl.kH w.params) (Str.ofString "_law_told") 243 := ⟨by kernel_rfl, by kernel_rfl, by kernel_rfl⟩
theorem gb_sorted (w : World) : GB (Fl.kH w.params) (Str.ofString "sorted") (.builtin "sorted") := ⟨by kernel_rfl, by kernel_rfl, by decide +kernel, by kernel_rfl⟩
theorem gb_reversed (w : World) : GB (Fl.kH w.params) (Str.ofString "reversed") (.type "reversed") := ⟨by kernel_rfl, by kernel_rfl, by decide +kernel, by kernel_rfl⟩

theorem gf_TooLarge (w : World) : GF (Fl.kH w.params) (Str.ofString "TooLarge") 44 := ⟨by kernel_rfl, by kernel_rfl, by kernel_rfl⟩
theorem gf_Ragged (w : World) : GF (Fl.kH w.params) (Str.ofString "Ragged") 56 := ⟨by kernel_rfl, by kernel_rfl, by kernel_rfl⟩
theorem gf_StrangeSign (w : World) : GF (Fl.kH w.params) (Str.ofString "StrangeSign") 68 := ⟨by kernel_rfl, by kernel_rfl, by kernel_rfl⟩
theorem gf_NoCell (w : World) : GF (Fl.kH w.params) (Str.ofString "NoCell") 80 := ⟨by kernel_rfl, by kernel_rfl, by kernel_rfl⟩
theorem gf_NotBeside (w : World) : GF (Fl.kH w.params) (Str.ofString "NotBeside") 92 := ⟨by kernel_rfl, by kernel_rfl, by kernel_rfl⟩
theorem gf_Covered (w : World) : GF (Fl.kH w.params) (Str.ofString "Covered") 104 := ⟨by kernel_rfl, by kernel_rfl, by kernel_rfl⟩
theorem gf_Uncovered (w : World) : GF (Fl.kH w.params) (Str.ofString "Uncovered") 116 := ⟨by kernel_rfl, by kernel_rfl, by kernel_rfl⟩
theorem gf_NoDrawing (w : World) : GF (Fl.kH w.params) (Str.ofString "NoDrawing") 128 := ⟨by kernel_rfl, by kernel_rfl, by kernel_rfl⟩
theorem gf_FloorError (w : World) : GF (Fl.kH w.params) (Str.ofString "FloorError") 31 := ⟨by kernel_rfl, by kernel_rfl, by kernel_rfl⟩
theorem ek_TooLarge (w : World) : ExcK (Fl.kH w.params) 44 := ⟨by kernel_rfl, by kernel_rfl, by kernel_rfl, by kernel_rfl, by kernel_rfl, by kernel_rfl, by kernel_rfl, by kernel_rfl, by kernel_rfl⟩
theorem ek_Ragged (w : World) : ExcK (Fl.kH w.params) 56 := ⟨by kernel_rfl, by kernel_rfl, by kernel_rfl, by kernel_rfl, by kernel_rfl, by kernel_rfl, by kernel_rfl, by kernel_rfl, by kernel_rfl⟩
theorem ek_StrangeSign (w : World) : ExcK (Fl.kH w.params) 68 := ⟨by kernel_rfl, by kernel_rfl, by kernel_rfl, by kernel_rfl, by kernel_rfl, by kernel_rfl, by kernel_rfl, by kernel_rfl, by kernel_rfl⟩
theorem ek_NoCell (w : World) : ExcK (Fl.kH w.params) 80 := ⟨by kernel_rfl, by kernel_rfl, by kernel_rfl, by kernel_rfl, by kernel_rfl, by kernel_rfl, by kernel_rfl, by kernel_rfl, by kernel_rfl⟩
theorem ek_NotBeside (w : World) : ExcK (Fl.kH w.params) 92 := ⟨by kernel_rfl, by kernel_rfl, by kernel_rfl, by kernel_rfl, by kernel_rfl, by kernel_rfl, by kernel_rfl, by kernel_rfl, by kernel_rfl⟩
theorem ek_Covered (w : World) : ExcK (Fl.kH w.params) 104 := ⟨by kernel_rfl, by kernel_rfl, by kernel_rfl, by kernel_rfl, by kernel_rfl, by kernel_rfl, by kernel_rfl, by kernel_rfl, by kernel_rfl⟩
theorem ek_Uncovered (w : World) : ExcK (Fl.kH w.params) 116 := ⟨by kernel_rfl, by kernel_rfl, by kernel_rfl, by kernel_rfl, by kernel_rfl, by kernel_rfl, by kernel_rfl, by kernel_rfl, by kernel_rfl⟩
theorem ek_NoDrawing (w : World) : ExcK (Fl.kH w.params) 128 := ⟨by kernel_rfl, by kernel_rfl, by kernel_rfl, by kernel_rfl, by kernel_rfl, by kernel_rfl, by kernel_rfl, by kernel_rfl, by kernel_rfl⟩
theorem gb_ValueError (w : World) : GB (Fl.kH w.params) (Str.ofString "ValueError") (.type "ValueError") := ⟨by kernel_rfl, by kernel_rfl, by decide +kernel, by kernel_rfl⟩
theorem gf_one_class (w : World) : GF (Fl.kH w.params) (Str.ofString "_law_one_class") 236 := ⟨by kernel_rfl, by kernel_rfl, by kernel_rfl⟩
theorem ty_ValueError : typeOf (.type "ValueError") = pure (.type "type") := by rfl

set_option hygiene false in
local macro_rules | `(tactic| walk_at "lk") => `(tactic| with_reducible (repeat (first | exact Look.head | apply Look.tail)))
set_option hygiene false in
local macro_rules | `(tactic| walk_at "pt") => `(tactic| with_reducible (repeat (first | exact Put.head | apply Put.tail)))
set_option hygiene false in
local macro_rules | `(tactic| walk_at "mm") => `(tactic| with_reducible (repeat (first | exact List.mem_cons_self | apply List.mem_cons_of_mem)))
set_option hygiene false in
local macro_rules | `(tactic| walk_at "cf") => `(tactic| with_reducible (repeat (first | exact ChgF.head | apply ChgF.tail)))
set_option hygiene false in
local macro_rules | `(tactic| walk_at "enter") => `(tactic| (
  (case z_ho => k_is); (case z_hcd => k_is); (case z_hbind => rfl); (case z_hd => kernel_rfl); (case z_hb1 => kernel_rfl); (case z_hb2 => kernel_rfl); (case z_hρ => kernel_rfl)))
set_option hygiene false in
local macro_rules | `(tactic| walk_at "room") => `(tactic| (have rd := R.depth; have ru := R.units; (try simp only [depth_deeper, Around.deeper_units]); omega))
set_option hygiene false in
local macro_rules | `(tactic| walk_at "fi") => `(tactic| with_reducible first | exact fi_rows _ | exact fi_high _ | exact fi_wide _ | exact fi_floor _ | exact fi_over _)
set_option hygiene false in
local macro_rules | `(tactic| walk_at "gb") => `(tactic| with_reducible first | exact gb_len _ | exact gb_range _ | exact gb_isi _ | exact gb_min _ | exact gb_max _ | exact gb_abs _ | exact gb_list _ | exact gb_int _ | exact gb_bool _ | exact gb_sorted _ | exact gb_reversed _)
set_option hygiene false in
local macro_rules | `(tactic| walk_at "gs") => `(tactic| with_reducible first | exact gs_ALONG _ | exact gs_ACROSS _ | exact gs_SIGNS _)
set_option hygiene false in
local macro_rules | `(tactic| walk_at "gi") => `(tactic| with_reducible first | exact gi_MOST _)
set_option hygiene false in
local macro_rules | `(tactic| walk_at "gf") => `(tactic| with_reducible first | exact gf_sizes _ | exact gf_cell_at _ | exact gf_number _ | exact gf_rows _ | exact gf_cells _ | exact gf_Floor _ | exact gf_whole _ | exact gf_lmay _ | exact gf_listed _ | exact gf_truth _ | exact gf_two _ | exact gf_asked _ | exact gf_lbeside _ | exact gf_refused _ | exact gf_faulty _ | exact gf_due _ | exact gf_told _ | exact gf_Laying _ | exact gf_reached _ | exact gf_way_to _ | exact gf_turned _ | exact gf_better _ | exact gf_laid _ | exact gf_fewest _)
set_option hygiene false in
local macro_rules | `(tactic| walk_at "me") => `(tactic| with_reducible first | exact me_has _ | exact me_sign_of _ | exact me_may _ | exact me_cells _ | exact me_shade _ | exact me_beside _ | exact me_need_cell _ | exact me_put _ | exact me_lift _ | exact me_bare _ | exact me_slabs _ | exact me_copied _)
set_option hygiene false in
local macro_rules | `(tactic| walk_at "mk") => `(tactic| with_reducible first | exact mk_has _ | exact mk_sign_of _ | exact mk_may _ | exact mk_cells _ | exact mk_shade _ | exact mk_beside _ | exact mk_need_cell _ | exact mk_put _ | exact mk_lift _ | exact mk_bare _ | exact mk_slabs _ | exact mk_copied _)
set_option hygiene false in
local macro_rules | `(tactic| walk_at "kp") => `(tactic| (intro s' hk; replace S := CS.keeps S hk; clear hk))
set_option hygiene false in
local macro_rules | `(tactic| walk_at "kpt") => `(tactic| (intro t s' hk; replace S := CS.keeps S hk; clear hk))
set_option hygiene false in
local macro_rules | `(tactic| walk_at "turn") => `(tactic| (intro h₁ s k S Q' hNx hRet; replace G := Gr.mono G k))
set_option hygiene false in
local macro_rules | `(tactic| walk_at "gnew") => `(tactic| (obtain ⟨h₁, k, S', hN⟩ := CS.gnew S hk; replace S := S'; clear S'; replace G := Gr.mono G k))
set_option hygiene false in
local macro_rules | `(tactic| walk_at "store") => `(tactic| ((refine' a_store S (S.gr G).X ?z_hx ?z_hc ?z_U ?z_hn ?z_hk ?_); (case z_hx => exact S.atLed (by walk_at "mm")); (case z_hc => first | exact st_rows _ | exact st_high _ | exact st_wide _ | exact st_floor _ | exact st_over _); (case z_U => walk_at "cf"); (case z_hn => assumption); (case z_hk => decide); clear S; intro o' s hn' S))
-- a step: the statements and the expressions
set_option hygiene false in
local macro_rules | `(tactic| walk_at "st") => `(tactic| first
  | (with_reducible refine x_nil ?_)
  | (with_reducible refine x_ret ?_)
  | ((with_reducible refine' x_assign ?_ ?z_hs); (case z_hs => rfl))
  | ((with_reducible refine' x_e ?_ ?z_hi ?z_hs); (case z_hi => rfl); (case z_hs => rfl))
  | ((with_reducible refine' x_attr ?_ ?z_hs); (case z_hs => rfl))
  | ((with_reducible refine' x_setitem ?_ ?z_hs); (case z_hs => rfl))
  | ((with_reducible refine' x_for ?z_hs ?_); (case z_hs => intro _; rfl))
  | (with_reducible refine seq_next ?_)
  | (with_reducible refine i_tt ?_)
  | (with_reducible refine i_ff ?_)
  | (with_reducible refine i_not ?_)
  | (with_reducible refine seq_ret ?_)
  | (with_reducible refine ret_ret ?_)
  | (with_reducible refine ret_next ?_)
  | (with_reducible refine hRet _ _ ?_)
  | (with_reducible refine hRet0 _ _ ?_)
  | (with_reducible refine else_next ?_)
  | (with_reducible refine else_ret ?_)
  | ((with_reducible refine' n_var S ?z_hx ?z_hd ?_); (case z_hx => walk_at "lk"); (case z_hd => kernel_rfl))
  | ((with_reducible refine c_int S ?_); clear S; intro t s S)
  | ((with_reducible refine c_str S ?_); clear S; intro t s S)
  | (with_reducible refine wpAny_Constant_bool ?_)
  | (with_reducible refine wpAny_Constant_none ?_)
  | ((with_reducible refine' wpAny_isTrue_Compare1 ?_ ?z_hm); (case z_hm => with_unfolding_all rfl))
  | ((with_reducible refine' wpAny_Compare1 ?_ ?z_hm); (case z_hm => with_unfolding_all rfl))
  | (with_reducible refine wpAny_BinOp ?_)
  | (with_reducible refine wpAny_UnaryOp ?_)
  | (with_reducible refine PyProof.Rows.not_of ?_)
  | (with_reducible refine isTrue_not ?_)
  | (with_reducible refine isTrue_or_nil ?_)
  | (with_reducible refine isTrue_and_nil ?_)
  | (with_reducible refine isTrue_or ?_)
  | (with_reducible refine isTrue_and ?_)
  | (with_reducible refine wpAny_IfExp ?_)
  | ((with_reducible refine' isTrue_chain ?_ ?z_hm); (case z_hm => with_unfolding_all rfl))
  | (with_reducible refine test_link ?_)
  | (with_reducible refine test_lastE ?_)
  | (with_reducible refine BoolOp_one ?_)
  | (with_reducible refine BoolOp_and ?_)
  | (with_reducible refine BoolOp_or ?_)
  | ((with_reducible refine' wpAny_isTrue_value ?_ ?z_he); (case z_he => rfl))
  | (with_reducible refine wpAny_truthy_bool ?_)
  | ((with_reducible refine' sl_ ?_ ?z_ht); (case z_ht => intro _ _; rfl))
  | (with_reducible refine part_none ?_)
  | (with_reducible refine part_some ?_)
  | ((with_reducible refine' Subscript_ ?_))
  | ((with_reducible refine' Attribute_Name_ ?_ ?z_he); (case z_he => rfl))
  | (with_reducible refine List_ ?_)
  | (with_reducible refine Tuple_ ?_)
  | ((with_reducible refine' args_cons ?_ ?z_he); (case z_he => rfl))
  | (with_reducible refine args_nil ?_)
  | ((with_reducible refine' callB S G ?z_g ?z_hx ?z_hg ?z_hb ?_ ?z_he ?z_hp); (case z_g => walk_at "gb"); (case z_hx => kernel_rfl); (case z_hg => rfl); (case z_hb => rfl); (case z_he => rfl); (case z_hp => rfl))
  | ((with_reducible refine' callT S G ?z_g ?z_hx ?z_hg ?z_hb ?_ ?z_he ?z_hp); (case z_g => walk_at "gb"); (case z_hx => kernel_rfl); (case z_hg => rfl); (case z_hb => rfl); (case z_he => rfl); (case z_hp => rfl))
  | ((with_reducible refine' callN S G ?z_g ?z_hx ?z_hg ?_ ?z_he ?z_hp); (case z_g => walk_at "gf"); (case z_hx => kernel_rfl); (case z_hg => rfl); (case z_he => rfl); (case z_hp => rfl))
  | ((with_reducible refine' n_gs S G ?z_g ?z_hx ?z_hg ?_); (case z_g => walk_at "gs"); (case z_hx => kernel_rfl); (case z_hg => rfl); intro t)
  | ((with_reducible refine' n_gi S G ?z_g ?z_hx ?z_hg ?_); (case z_g => walk_at "gi"); (case z_hx => kernel_rfl); (case z_hg => rfl); intro t)
  | ((with_reducible refine' n_gb S G ?z_g ?z_hx ?z_hg ?z_hb ?_); (case z_g => walk_at "gb"); (case z_hx => kernel_rfl); (case z_hg => rfl); (case z_hb => rfl))
  | ((with_reducible refine' n_gf S G ?z_g ?z_hx ?z_hg ?_); (case z_g => walk_at "gf"); (case z_hx => kernel_rfl); (case z_hg => rfl))
  | ((with_reducible refine' MethodCall_ ?_ ?z_he); (case z_he => rfl))
  | ((with_reducible refine' cw_own G ?z_k ?_ ?z_he ?z_hp); (case z_k => walk_at "mk"); (case z_he => rfl); (case z_hp => rfl))
  | ((with_reducible refine' cw_own0 (S.gr G).X ?z_k ?_); (case z_k => walk_at "mk"))
  | ((with_reducible refine' cw_meth ?_ ?z_he ?z_hp); (case z_he => rfl); (case z_hp => rfl))
  | (with_reducible refine cw_meth0 ?_)
  | (with_reducible refine And.intro (CS.gr S G).X ?_)
  | ((with_reducible refine' S.put ?z_p ?_); (case z_p => walk_at "pt"); clear S; intro s S)
  | (with_reducible refine PySem.P.lt_int ?_)
  | (with_reducible refine PySem.P.le_int ?_)
  | (with_reducible refine PySem.P.gt_int ?_)
  | (with_reducible refine PySem.P.ge_int ?_)
  | (with_reducible refine PySem.P.eq_int ?_)
  | (with_reducible refine PySem.P.ne_int ?_)
  | (with_reducible refine t_eq ?_)
  | (with_reducible refine t_ne ?_)
  | (with_reducible refine t_in ?_)
  | (with_reducible refine t_notin ?_)
  | (with_reducible refine w_is ?_)
  | (with_reducible refine y_int_int ?_)
  | ((with_reducible refine y_int_bool S ?_); clear S; intro s S)
  | ((with_reducible refine' b_min S ?z_hh ?_); (case z_hh => exact R.handled); clear S; intro t s S)
  | ((with_reducible refine' b_max S ?z_hh ?_); (case z_hh => exact R.handled); clear S; intro t s S)
  | ((with_reducible refine b_abs S ?_); clear S; intro t s S)
  | (with_reducible refine PySem.GM.join ?_)
  | ((with_reducible refine' m_list (S.atLed ?z_m) ?z_sl ?z_ty ?_); (case z_m => walk_at "mm"); (case z_sl => first | exact PySem.F.slot_list_append | exact PySem.F.slot_list_clear | exact PySem.F.slot_list_count); (case z_ty => first | exact PySem.F.type_list_append | exact type_list_clear | exact type_list_count))
  | ((with_reducible refine o_add S ?_); clear S; intro t s S)
  | ((with_reducible refine o_sub S ?_); clear S; intro t s S)
  | ((with_reducible refine o_neg S ?_); clear S; intro t s S)
  | ((with_reducible refine' o_mul S ?z_m ?_); (case z_m => walk_at "mulok"); clear S; intro t s S)
  | ((with_reducible refine' o_div S ?z_p ?z_q ?_); (case z_p => walk_at "pos"); (case z_q => walk_at "pos"); clear S; intro t s S)
  | ((with_reducible refine' o_mod S ?z_p ?_); (case z_p => walk_at "pos"); clear S; intro t s S))
set_option hygiene false in
local macro_rules | `(tactic| walk_at "mulok") => `(tactic| first | exact IntMulOk.of_left (by decide) | exact IntMulOk.of_left (intBits_le_64 (by omega) (by omega)) | exact IntMulOk.of_right (by decide) | assumption)
set_option hygiene false in
local macro_rules | `(tactic| walk_at "pos") => `(tactic| first | decide | omega)
-- a field of a floor, a method of a floor
set_option hygiene false in
local macro_rules | `(tactic| walk_at "fl") => `(tactic| first
  | ((with_reducible refine' a_fld S G (F.mono S.base).obj ?z_hc ?z_hl ?z_hh ?_); (case z_hc => walk_at "fi"); (case z_hl => walk_at "mm"); (case z_hh => rfl); clear S; intro s S)
  | ((with_reducible refine' m_get (S.gr G).X (F.mono S.base).obj ?z_hc ?z_hl ?_); (case z_hc => walk_at "me"); (case z_hl => kernel_rfl))
  | ((with_reducible refine' a_fld S G (ObjAt.mono Y S.base) ?z_hc ?z_hl ?z_hh ?_); (case z_hc => walk_at "fi"); (case z_hl => walk_at "mm"); (case z_hh => rfl); clear S; intro s S)
  | ((with_reducible refine' m_get (S.gr G).X (ObjAt.mono Y S.base) ?z_hc ?z_hl ?_); (case z_hc => walk_at "me"); (case z_hl => kernel_rfl)))
set_option hygiene false in
local macro_rules | `(tactic| walk_at "go") => `(tactic| try repeat' (first | walk_at "st" | (with_reducible refine x_if ?_) | walk_at "fl"))
set_option hygiene false in
local macro_rules | `(tactic| walk_at "gu") => `(tactic| try repeat' (first | walk_at "st" | walk_at "fl"))

set_option hygiene false in
local macro_rules | `(tactic| walk_at "gf") => `(tactic| with_reducible first | exact gf_TooLarge _ | exact gf_Ragged _ | exact gf_StrangeSign _ | exact gf_NoCell _ | exact gf_NotBeside _ | exact gf_Covered _ | exact gf_Uncovered _ | exact gf_NoDrawing _ | exact gf_FloorError _ | exact gf_one_class _)
set_option hygiene false in
local macro_rules | `(tactic| walk_at "gb") => `(tactic| with_reducible exact gb_ValueError _)

def cellAt (ns : List Int) (k : Int) : Int := if k < ns.length then ns.getD k.toNat 0 else 0

theorem cell_at_spec {w : World} {A : Around} {s : Shared} {Q E : Value → Shared → Prop} {l : Addr} {ns : List Int} {k : Int} {t : Tok} (G : Gr (Fl.kH w.params) s.heap) (R : Room A 1) (hl : IntL s.heap l ns)
    (hn : ns.length ≤ 63) (hk : 0 ≤ k) (h : ∀ t s', Keeps s s' → Q (.int (cellAt ns k) t) s') : wpAny (model PP w) A (call (.ref 205) [.ref l, .int k t]) Q E s := by
  refine' callP [(Str.ofString "_law_script", some (.ref l)), (Str.ofString "_law_k", some (.int k t))] G (by walk_at "room") ?z_ho ?z_hcd ?z_hbind ?z_hd ?z_hb1 ?z_hb2 ?z_hρ ?_
  walk_at "enter"
  intro L s S
  walk_at "go"
  refine l_len S (hl.mono S.base) (by omega) ?_; clear S; intro t s S
  walk_at "go"
  refine i_dec (fun hc => ?_) (fun hc => ?_)
  · walk_at "go"
    refine l_at (hl.mono S.base) hk hc (by omega) rfl ?_
    intro t
    walk_at "go"
    have := h t s S.out
    rw [cellAt, if_pos hc] at this
    exact this
  · walk_at "go"
    have := h t s S.out
    rw [cellAt, if_neg hc] at this
    exact this

theorem number_spec {w : World} {A : Around} {s : Shared} {Q E : Value → Shared → Prop} {l : Addr} {ns : List Int} {k : Int} {t : Tok} (G : Gr (Fl.kH w.params) s.heap) (R : Room A 1) (hl : IntL s.heap l ns)
    (hn : ns.length ≤ 63) (hk : 0 ≤ k) (h : ∀ n t s', 0 ≤ n → Keeps s s' → Q (.int n t) s') : wpAny (model PP w) A (call (.ref 212) [.ref l, .int k t]) Q E s := by
  refine' callP [(Str.ofString "_law_script", some (.ref l)), (Str.ofString "_law_k", some (.int k t)), (Str.ofString "_law_base", none)] G (by walk_at "room") ?z_ho ?z_hcd ?z_hbind ?z_hd ?z_hb1 ?z_hb2 ?z_hρ ?_
  walk_at "enter"
  intro L s S
  walk_at "go"
  refine l_len S (hl.mono S.base) (by omega) ?_; clear S; intro t s S
  walk_at "go"
  refine i_eq (fun hc => ?_) (fun hc => ?_)
  · walk_at "go"
    exact h _ _ s hk S.out
  · walk_at "go"
    refine l_len S (hl.mono S.base) (by omega) ?_; clear S; intro t s S
    have hpos : 0 < (ns.length : Int) := by omega
    walk_at "go"
    refine l_at (hl.mono S.base) (Int.emod_nonneg _ hc) (Int.emod_lt_of_pos _ hpos) (by omega) (by rfl) ?_
    intro t
    walk_at "go"
    refine l_len S (hl.mono S.base) (by omega) ?_; clear S; intro t s S
    walk_at "go"
    exact h _ _ s (Int.emod_nonneg _ (by decide)) S.out

theorem sign_of_spec {w : World} {A : Around} {s : Shared} {Q E : Value → Shared → Prop} {fl l : Addr} {rows : List Str} {wd : Nat} {t1 t2 t : Tok} {p : Int} (G : Gr (Fl.kH w.params) s.heap) (R : Room A 1) (F : FloorAt 194 s.heap fl l rows wd t1 t2)
    (h0 : 0 ≤ p) (h1 : p < rows.length * wd) (h : ∀ t s', Keeps s s' → Q (.str ⟨#[sg rows wd p]⟩ t) s') : wpAny (model PP w) A (call (.ref 158) [.ref fl, .int p t]) Q E s := by
  refine' callP [(Str.ofString "self", some (.ref fl)), (Str.ofString "place", some (.int p t))] G (by walk_at "room") ?z_ho ?z_hcd ?z_hbind ?z_hd ?z_hb1 ?z_hb2 ?z_hρ ?_
  walk_at "enter"
  intro L s S
  obtain ⟨hw, e1, e2, e3, e4⟩ := F.grid.at_ h0 h1
  have hw' : (wd : Int) < 1073741824 := by have := F.grid.wide; omega
  have hh := F.grid.high
  have hww := F.grid.wide
  walk_at "go"
  refine l_atS (F.mono S.base).texts e1 e2 (by omega) (by rfl) ?_
  intro t
  walk_at "go"
  have hlen : (rows.getD (p / wd).toNat Str.empty).length = wd := row_len F.grid (by omega)
  refine t_at S e3 (by rw [hlen]; exact e4) (by omega) (by rfl) ?_; clear S; intro t s S
  walk_at "go"
  exact h t s S.out

theorem has_spec {w : World} {A : Around} {s : Shared} {Q E : Value → Shared → Prop} {fl l : Addr} {rows : List Str} {wd : Nat} {t1 t2 t : Tok} {p : Int} (G : Gr (Fl.kH w.params) s.heap) (R : Room A 2) (F : FloorAt 194 s.heap fl l rows wd t1 t2)
    (h : ∀ s', Keeps s s' → Q (.bool (hasB rows wd p)) s') : wpAny (model PP w) A (call (.ref 165) [.ref fl, .int p t]) Q E s := by
  refine' callP [(Str.ofString "self", some (.ref fl)), (Str.ofString "place", some (.int p t))] G (by walk_at "room") ?z_ho ?z_hcd ?z_hbind ?z_hd ?z_hb1 ?z_hb2 ?z_hρ ?_
  walk_at "enter"
  intro L s S
  have hh := F.grid.high
  have hww := F.grid.wide
  walk_at "go"
  refine i_dec (fun hc => ?_) (fun hc => ?_)
  · walk_at "go"
    have := h s S.out
    rw [show hasB rows wd p = false by simp [hasB, inB]; omega] at this
    exact this
  · walk_at "go"
    refine i_dec (fun hc2 => ?_) (fun hc2 => ?_)
    · walk_at "go"
      have := h s S.out
      rw [show hasB rows wd p = false by simp [hasB, inB]; omega] at this
      exact this
    · walk_at "go"
      refine sign_of_spec (S.gr G) (R.in_ (by omega)) (F.mono S.base) (by omega) (by omega) ?_
      walk_at "kpt"
      walk_at "go"
      have := h _ S.out
      rw [show hasB rows wd p = ((⟨#[sg rows wd p]⟩ : Str) != Str.ofString "#") from ?_] at this
      · exact this
      · rw [show Str.ofString "#" = ⟨#[35]⟩ by decide +kernel]
        have e : inB rows wd p = true := by simp [inB]; omega
        rw [hasB, e, Bool.true_and, one_ne]

theorem along_in (c : Nat) : decide (c ∈ (⟨#[46, 45]⟩ : Str).cps.toList) = alongB c := by rw [Bool.eq_iff_iff]; simp [alongB]
theorem across_in (c : Nat) : decide (c ∈ (⟨#[46, 124]⟩ : Str).cps.toList) = acrossB c := by rw [Bool.eq_iff_iff]; simp [acrossB]

theorem may_spec {w : World} {A : Around} {s : Shared} {Q E : Value → Shared → Prop} {fl l : Addr} {rows : List Str} {wd : Nat} {t1 t2 t u : Tok} {a c : Int} (G : Gr (Fl.kH w.params) s.heap) (R : Room A 3) (F : FloorAt 194 s.heap fl l rows wd t1 t2)
    (h : ∀ s', Keeps s s' → Q (.bool (mayB rows wd a c)) s') : wpAny (model PP w) A (call (.ref 184) [.ref fl, .int a t, .int c u]) Q E s := by
  refine' callP [(Str.ofString "self", some (.ref fl)), (Str.ofString "one", some (.int a t)), (Str.ofString "other", some (.int c u)), (Str.ofString "low", none), (Str.ofString "high", none), (Str.ofString "first", none), (Str.ofString "second", none)] G (by walk_at "room") ?z_ho ?z_hcd ?z_hbind ?z_hd ?z_hb1 ?z_hb2 ?z_hρ ?_
  walk_at "enter"
  intro L s S
  have hh := F.grid.high
  have hww := F.grid.wide
  walk_at "go"
  refine has_spec (S.gr G) (R.in_ (by omega)) (F.mono S.base) ?_
  walk_at "kp"
  walk_at "go"
  refine i_bool (fun ha => ?_) (fun ha => ?_)
  · walk_at "go"
    refine has_spec (S.gr G) (R.in_ (by omega)) (F.mono S.base) ?_
    walk_at "kp"
    walk_at "go"
    refine i_bool (fun hc => ?_) (fun hc => ?_)
    · walk_at "go"
      obtain ⟨ha0, ha1⟩ := hasB_in ha
      obtain ⟨hc0, hc1⟩ := hasB_in hc
      refine sign_of_spec (S.gr G) (R.in_ (by omega)) (F.mono S.base) (by omega) (by omega) ?_
      walk_at "kpt"
      walk_at "go"
      refine sign_of_spec (S.gr G) (R.in_ (by omega)) (F.mono S.base) (by omega) (by omega) ?_
      walk_at "kpt"
      have hw' : 0 < (wd : Int) := by have := F.grid.at_ ha0 ha1; omega
      walk_at "go"
      have hm : mayB rows wd a c = (if max a c - min a c = 1 ∧ min a c / wd = max a c / wd then alongB (sg rows wd (min a c)) && alongB (sg rows wd (max a c))
     else if max a c - min a c = wd then acrossB (sg rows wd (min a c)) && acrossB (sg rows wd (max a c)) else false) := by rw [mayB, ha, hc, Bool.and_true, Bool.true_and]
      rw [hm] at h
      refine i_eq (fun hd => ?_) (fun hd => ?_)
      · walk_at "go"
        refine i_eq (fun he => ?_) (fun he => ?_)
        · walk_at "go"
          rw [if_pos ⟨hd, he⟩] at h
          rw [along_in]
          refine i_bool (fun hf => ?_) (fun hf => ?_)
          · walk_at "go"
            rw [along_in]
            have := h _ S.out
            rw [hf, Bool.true_and] at this
            exact this
          · rw [hf]
            walk_at "go"
            have := h _ S.out
            rw [hf, Bool.false_and] at this
            exact this
        · walk_at "go"
          rw [if_neg (fun q => he q.2)] at h
          refine i_eq (fun hd2 => ?_) (fun hd2 => ?_)
          · walk_at "go"
            rw [if_pos hd2] at h
            rw [across_in]
            refine i_bool (fun hf => ?_) (fun hf => ?_)
            · walk_at "go"
              rw [across_in]
              have := h _ S.out
              rw [hf, Bool.true_and] at this
              exact this
            · rw [hf]
              walk_at "go"
              have := h _ S.out
              rw [hf, Bool.false_and] at this
              exact this
          · walk_at "go"
            rw [if_neg hd2] at h
            exact h _ S.out
      · walk_at "go"
        rw [if_neg (fun q => hd q.1)] at h
        refine i_eq (fun hd2 => ?_) (fun hd2 => ?_)
        · walk_at "go"
          rw [if_pos hd2] at h
          rw [across_in]
          refine i_bool (fun hf => ?_) (fun hf => ?_)
          · walk_at "go"
            rw [across_in]
            have := h _ S.out
            rw [hf, Bool.true_and] at this
            exact this
          · rw [hf]
            walk_at "go"
            have := h _ S.out
            rw [hf, Bool.false_and] at this
            exact this
        · walk_at "go"
          rw [if_neg hd2] at h
          exact h _ S.out
    · walk_at "go"
      have := h _ S.out
      rw [show mayB rows wd a c = false by rw [mayB, hc]; simp] at this
      exact this
  · walk_at "go"
    have := h _ S.out
    rw [show mayB rows wd a c = false by rw [mayB, ha]; rfl] at this
    exact this


theorem sizes_spec {w : World} {A : Around} {s : Shared} {Q E : Value → Shared → Prop} {l : Addr} {rows : List Str} {wd : Nat} (G : Gr (Fl.kH w.params) s.heap) (R : Room A 1) (hl : StrL s.heap l rows) (g : Grid rows wd)
    (h : ∀ s', Keeps s s' → Q .none s') : wpAny (model PP w) A (call (.ref 137) [.ref l]) Q E s := by
  refine' callP [(Str.ofString "rows", some (.ref l)), (Str.ofString "row", none)] G (by walk_at "room") ?z_ho ?z_hcd ?z_hbind ?z_hd ?z_hb1 ?z_hb2 ?z_hρ ?_
  walk_at "enter"
  intro L s S
  have hh := g.high
  have hww := g.wide
  have hlen := g.len
  have hl' := hl
  obtain ⟨vs, ⟨o, ho, hc, n, hd⟩, hi⟩ := hl'
  have hsz : vs.toArray.size = rows.length := by rw [List.size_toArray]; exact hi.length
  walk_at "go"
  refine l_lenS S (hl.mono S.base) (by omega) ?_; clear S; intro t s S
  walk_at "go"
  refine i_dec (fun hc1 => by omega) (fun hc1 => ?_)
  walk_at "go"
  refine it_list S R.handled ho hc ⟨n, hd⟩ ?_
  intro it s I
  refine loop_it (fun i ρ Λ => (∃ a, ρ = [(Str.ofString "rows", some (.ref l)), (Str.ofString "row", a)]) ∧ Λ = []) I ⟨⟨_, rfl⟩, rfl⟩ ?_ ?_ ?_
  · rintro i ρ' Λ' ⟨_, rfl⟩; rfl
  · rintro i v ρ₁ Λ₁ hi1 hv ⟨⟨a, rfl⟩, rfl⟩
    obtain ⟨y, t, rfl, hy⟩ := hi.item i v (by simpa using hv)
    have hyl := hlen y (List.mem_of_getElem? hy)
    refine ⟨_, .tail .head, ?_⟩
    walk_at "turn"
    walk_at "go"
    refine t_len S (by omega) ?_; clear S; intro t s S
    walk_at "go"
    refine i_dec (fun hc1 => by omega) (fun hc1 => ?_)
    walk_at "go"
    exact hNx _ _ _ _ (Sub.refl _) S ⟨⟨_, rfl⟩, rfl⟩
  rintro ρ' Λ' s ⟨⟨a, rfl⟩, rfl⟩ S
  walk_at "go"
  refine it_list S R.handled ho hc ⟨n, hd⟩ ?_
  intro it s I
  refine loop_it (fun i ρ Λ => (∃ a, ρ = [(Str.ofString "rows", some (.ref l)), (Str.ofString "row", a)]) ∧ Λ = []) I ⟨⟨_, rfl⟩, rfl⟩ ?_ ?_ ?_
  · rintro i ρ' Λ' ⟨_, rfl⟩; rfl
  · rintro i v ρ₁ Λ₁ hi1 hv ⟨⟨a, rfl⟩, rfl⟩
    obtain ⟨y, t, rfl, hy⟩ := hi.item i v (by simpa using hv)
    have hyl := hlen y (List.mem_of_getElem? hy)
    have h0 : 0 < rows.length := by omega
    have hr0 := row_len g h0
    refine ⟨_, .tail .head, ?_⟩
    walk_at "turn"
    walk_at "go"
    refine t_len S (by omega) ?_; clear S; intro t s S
    walk_at "go"
    refine l_atS (hl.mono (k.trans S.base)) (by omega) (by omega) (by omega) (by rfl) ?_
    intro t
    walk_at "go"
    refine t_len S (by rw [Int.toNat_zero]; omega) ?_; clear S; intro t s S
    walk_at "go"
    refine i_ne (fun hc1 => absurd (by rw [Int.toNat_zero, hr0, hyl]) hc1) (fun hc1 => ?_)
    walk_at "go"
    exact hNx _ _ _ _ (Sub.refl _) S ⟨⟨_, rfl⟩, rfl⟩
  rintro ρ' Λ' s ⟨⟨a, rfl⟩, rfl⟩ S
  walk_at "go"
  exact h _ S.out


theorem fieldsF {r hi wi : Value} {n : Str} : (if n = Str.ofString "wide" then some wi else if n = Str.ofString "high" then some hi else if n = Str.ofString "rows" then some r else none) =
    List.lookup n [(Str.ofString "rows", r), (Str.ofString "high", hi), (Str.ofString "wide", wi)] := by
  have d1 : Str.ofString "rows" ≠ Str.ofString "high" := by decide +kernel
  have d2 : Str.ofString "rows" ≠ Str.ofString "wide" := by decide +kernel
  have d3 : Str.ofString "high" ≠ Str.ofString "wide" := by decide +kernel
  simp only [List.lookup_cons, List.lookup_nil]
  have e1 := beq_eq_false_iff_ne.mpr d1.symm
  have e2 := beq_eq_false_iff_ne.mpr d2.symm
  have e3 := beq_eq_false_iff_ne.mpr d3.symm
  by_cases h1 : n = Str.ofString "rows"
  · subst h1; simp [d1, d2]
  · by_cases h2 : n = Str.ofString "high"
    · subst h2; simp [d3, e1]
    · by_cases h3 : n = Str.ofString "wide"
      · subst h3; simp [e2, e3]
      · have b1 : (n == Str.ofString "rows") = false := beq_eq_false_iff_ne.mpr h1
        have b2 : (n == Str.ofString "high") = false := beq_eq_false_iff_ne.mpr h2
        have b3 : (n == Str.ofString "wide") = false := beq_eq_false_iff_ne.mpr h3
        simp [h1, h2, h3, b1, b2, b3]

theorem floor_end {C x dx l' : Addr} {od : Obj} {ys : Array Value} {c k : Nat} {rows : List Str} {wd : Nat} {t1 t2 : Tok} {s₀ s : Shared} {env : Env} {ρ : Rho} {Λ : List (Addr × Obj)} {h₁ : Heap} {m : Str → Option Value} (S : CS true s₀ s₀.heap env ρ Λ s) (m1 : (x, instObj C dx) ∈ Λ) (m2 : (dx, od) ∈ Λ) (m3 : (l', lst ys c) ∈ Λ)
    (hn : NsO od m k) (hm : ∀ n, m n = List.lookup n [(Str.ofString "rows", .ref l'), (Str.ofString "high", .int rows.length t1), (Str.ofString "wide", .int wd t2)]) (hi : StrsAre ys.toList rows) (g : Grid rows wd) (hN : Newer s₀ s h₁) : FloorAt C h₁ x l' rows wd t1 t2 := by
  refine ⟨⟨(show [Str.ofString "rows", Str.ofString "high", Str.ofString "wide"].Nodup by decide +kernel), instObj C dx, od, ⟨S.newAt (Sub.refl _) m1 hN, rfl, rfl, S.newAt (Sub.refl _) m2 hN⟩, fun n => ?_⟩, StrL.of (S.newAt (Sub.refl _) m3 hN) hi, g⟩
  rw [hn.look, hm]

theorem floor_spec {w : World} {A : Around} {s : Shared} {Q E : Value → Shared → Prop} {l : Addr} {rows : List Str} {wd : Nat} (G : Gr (Fl.kH w.params) s.heap) (R : Room A 4) (hl : StrL s.heap l rows) (g : Grid rows wd)
    (h : ∀ fl l' t1 t2 s', (∀ h₁, Newer s s' h₁ → FloorAt 194 h₁ fl l' rows wd t1 t2) → s.heap.get? l' = none → Keeps s s' → Q (.ref fl) s') : wpAny (model PP w) A (call (.ref 194) [.ref l]) Q E s := by
  refine' makeK (f := 151) (fun v => [(Str.ofString "self", v), (Str.ofString "rows", .ref l)]) (fun v => [(Str.ofString "self", some v), (Str.ofString "rows", some (.ref l)), (Str.ofString "row", none), (Str.ofString "sign", none)]) G (by walk_at "room") ?z_m ?z_i ?z_f ?z_ho ?z_hcd ?z_hbind ?z_hd ?z_hb1 ?z_hb2 ?z_hρ ?_
  case z_m => kernel_rfl
  case z_i => kernel_rfl
  case z_f => kernel_rfl
  case z_ho => k_is
  case z_hcd => k_is
  case z_hbind => intro _; rfl
  case z_hd => kernel_rfl
  case z_hb1 => intro _; kernel_rfl
  case z_hb2 => intro _; kernel_rfl
  case z_hρ => intro _; kernel_rfl
  intro x dx L s hx hdx S
  have R' : Room (A.under (.builtin "type.__call__" ⟨[.ref 194, .ref l], []⟩)) 2 := R.under (by omega)
  generalize A.under (.builtin "type.__call__" ⟨[.ref 194, .ref l], []⟩) = A' at R' ⊢
  replace R := R'
  have hh := g.high
  have hww := g.wide
  have hlen := g.len
  have hsg := g.sign
  have hl' := hl
  obtain ⟨vs, ⟨o, ho, hc, n, hd⟩, hi⟩ := hl'
  have hsz : vs.toArray.size = rows.length := by rw [List.size_toArray]; exact hi.length
  walk_at "go"
  refine sizes_spec (S.gr G) (R.in_ (by omega)) (hl.mono S.base) g ?_
  walk_at "kp"
  walk_at "go"
  refine it_list S R.handled ho hc ⟨n, hd⟩ ?_
  intro it s I
  refine loop_it (fun i ρ Λ => (∃ a b, ρ = [(Str.ofString "self", some (.ref x)), (Str.ofString "rows", some (.ref l)), (Str.ofString "row", a), (Str.ofString "sign", b)]) ∧ Λ = [(x, instObj 194 dx), (dx, dictOf [] 0)]) I ⟨⟨_, _, rfl⟩, rfl⟩ ?_ ?_ ?_
  · rintro i ρ' Λ' ⟨_, rfl⟩; rfl
  · rintro i v ρ₁ Λ₁ hi1 hv ⟨⟨a, b, rfl⟩, rfl⟩
    obtain ⟨y, t, rfl, hy⟩ := hi.item i v (by simpa using hv)
    have hys := hsg y (List.mem_of_getElem? hy)
    refine ⟨_, .tail (.tail .head), ?_⟩
    walk_at "turn"
    walk_at "go"
    refine it_str S R.handled ?_
    intro it s I
    refine loop_it (fun i ρ Λ => (∃ b, ρ = [(Str.ofString "self", some (.ref x)), (Str.ofString "rows", some (.ref l)), (Str.ofString "row", some (.str y t)), (Str.ofString "sign", b)]) ∧ Λ = [(x, instObj 194 dx), (dx, dictOf [] 0)]) I ⟨⟨_, rfl⟩, rfl⟩ ?_ ?_ ?_
    · rintro i ρ' Λ' ⟨_, rfl⟩; rfl
    · rintro j v ρ₁ Λ₁ hj1 ⟨c, u, hcu, rfl⟩ ⟨⟨b, rfl⟩, rfl⟩
      have hcs := hys c (by have := Array.mem_of_getElem? hcu; simpa using this)
      refine ⟨_, .tail (.tail (.tail .head)), ?_⟩
      walk_at "turn"
      walk_at "go"
      refine i_dec (fun hc1 => ?_) (fun hc1 => absurd ?_ hc1)
      · walk_at "go"
        exact hNx _ _ _ _ (Sub.refl _) S ⟨⟨_, rfl⟩, rfl⟩
      · rcases hcs with rfl | rfl | rfl | rfl <;> simp
    · rintro ρ' Λ' s ⟨⟨b, rfl⟩, rfl⟩ S
      walk_at "go"
      exact hNx _ _ _ _ (Sub.refl _) S ⟨⟨_, _, rfl⟩, rfl⟩
  rintro ρ' Λ' s ⟨⟨a, b, rfl⟩, rfl⟩ S
  walk_at "go"
  refine l_copy S (S.atBase ho) hc hd (by omega) ?_; clear S; intro l' c s S hl'
  have hn0 := NsO.nil
  walk_at "go"
  walk_at "store"
  walk_at "go"
  refine l_lenS S (hl.mono S.base) (by omega) ?_; clear S; intro t1 s S
  walk_at "go"
  walk_at "store"
  walk_at "go"
  walk_at "store"
  walk_at "go"
  refine l_lenS S (hl.mono S.base) (by omega) ?_; clear S; intro t3 s S
  walk_at "go"
  refine i_dec (fun hp => ?_) (fun hp => ?_)
  · walk_at "go"
    refine l_atS (hl.mono S.base) (by omega) (by omega) (by omega) (by rfl) ?_
    intro t
    have hr0 := row_len g (show (0 : Int).toNat < rows.length by rw [Int.toNat_zero]; omega)
    walk_at "go"
    refine t_len S (by omega) ?_; clear S; intro t s S
    walk_at "go"
    walk_at "store"
    walk_at "go"
    refine ⟨rfl, h _ l' t1 t _ (fun h₁ hN => floor_end S (by walk_at "mm") (by walk_at "mm") (by walk_at "mm") (by assumption) (fun n => ?_) (by simpa using hi) g hN) ?_ S.out⟩
    · rw [← fieldsF, hr0]
      split <;> simp_all
    · exact (S.led (l', _) (by walk_at "mm")).2.2.2 rfl
  · walk_at "go"
    have hwd : wd = 0 := g.none (List.length_eq_zero_iff.mp (by omega))
    subst hwd
    refine ⟨rfl, h _ l' _ _ _ (fun h₁ hN => floor_end S (by walk_at "mm") (by walk_at "mm") (by walk_at "mm") (by assumption) (fun n => fieldsF) (by simpa using hi) g hN) ?_ S.out⟩
    exact (S.led (l', _) (by walk_at "mm")).2.2.2 rfl


theorem keeps_refl (s : Shared) : Keeps s s := ⟨s.heap, s.toks, rfl, fun _ _ e => e⟩
def menus : List Str := [⟨#[46]⟩, ⟨#[46, 46, 46, 46, 45, 124, 35, 46]⟩, ⟨#[46, 45, 124, 35]⟩, ⟨#[46, 46, 35]⟩, ⟨#[46, 46, 46, 45, 124, 124]⟩, ⟨#[46, 35, 45, 46, 45, 46]⟩]
theorem menus_ok : ∀ m ∈ menus, 0 < m.length ∧ m.length ≤ 8 ∧ ∀ c ∈ m.cps.toList, c = 46 ∨ c = 45 ∨ c = 124 ∨ c = 35 := by decide +kernel
theorem getD_mem {α : Type} {l : List α} {k : Nat} {d : α} (h : k < l.length) : l.getD k d ∈ l := by
  have : l.getD k d = l[k] := by simp [List.getD, h]
  rw [this]; exact List.getElem_mem h
theorem agetD_mem {l : Array Nat} {k : Nat} {d : Nat} (h : k < l.size) : l.getD k d ∈ l.toList := by
  have : l.getD k d = l[k] := by simp [Array.getD, h]
  rw [this]; simp

theorem rows_spec {w : World} {A : Around} {s : Shared} {Q E : Value → Shared → Prop} {l : Addr} {ns : List Int} (G : Gr (Fl.kH w.params) s.heap) (R : Room A 2) (hl : IntL s.heap l ns) (hn : ns.length ≤ 63)
    (h : ∀ D ys k rows wd s', s.heap.get? D = none → s'.heap.get? D = some (lst ys k) → StrsAre ys.toList rows → Grid rows wd → Keeps s s' → Q (.ref D) s') : wpAny (model PP w) A (call (.ref 217) [.ref l]) Q E s := by
  refine' callP [(Str.ofString "_law_script", some (.ref l)), (Str.ofString "_law_first", none), (Str.ofString "_law_high", none), (Str.ofString "_law_wide", none), (Str.ofString "_law_menu", none), (Str.ofString "_law_rows_here", none), (Str.ofString "_law_row", none), (Str.ofString "_law_signs", none)] G (by walk_at "room") ?z_ho ?z_hcd ?z_hbind ?z_hd ?z_hb1 ?z_hb2 ?z_hρ ?_
  walk_at "enter"
  intro L s S
  walk_at "go"
  refine cell_at_spec (S.gr G) (R.in_ (by omega)) (hl.mono S.base) hn (by omega) ?_
  walk_at "kpt"
  generalize cellAt ns 0 = first at S ⊢
  walk_at "gu"
  refine x_cutS S (fun ρ Λ => (∃ hi wi t u v, 0 ≤ hi ∧ hi ≤ 12 ∧ 0 ≤ wi ∧ wi ≤ 12 ∧ ρ = [(Str.ofString "_law_script", some (.ref l)), (Str.ofString "_law_first", some (.int first v)), (Str.ofString "_law_high", some (.int hi t)), (Str.ofString "_law_wide", some (.int wi u)), (Str.ofString "_law_menu", none), (Str.ofString "_law_rows_here", none), (Str.ofString "_law_row", none), (Str.ofString "_law_signs", none)]) ∧ Λ = []) ?_ ?_
  · intro Q' hQ
    walk_at "go"
    refine i_eq (fun hd => ?_) (fun hd => ?_)
    · walk_at "go"
      exact hQ _ _ _ ⟨⟨_, _, _, _, _, by omega, by omega, by omega, by omega, rfl⟩, rfl⟩ S
    · walk_at "go"
      exact hQ _ _ _ ⟨⟨_, _, _, _, _, by omega, by omega, by omega, by omega, rfl⟩, rfl⟩ S
  clear S
  rintro ρ' Λ' s ⟨⟨hi, wi, t, u, v, h0, h1, h2, h3, rfl⟩, rfl⟩ S
  refine x_cutS S (fun ρ Λ => (∃ hi wi t u v, 0 ≤ hi ∧ hi ≤ 12 ∧ 0 ≤ wi ∧ wi ≤ 12 ∧ ρ = [(Str.ofString "_law_script", some (.ref l)), (Str.ofString "_law_first", some (.int first v)), (Str.ofString "_law_high", some (.int hi t)), (Str.ofString "_law_wide", some (.int wi u)), (Str.ofString "_law_menu", none), (Str.ofString "_law_rows_here", none), (Str.ofString "_law_row", none), (Str.ofString "_law_signs", none)]) ∧ Λ = []) ?_ ?_
  · intro Q' hQ
    walk_at "go"
    refine i_eq (fun hd => ?_) (fun hd => ?_)
    · walk_at "go"
      exact hQ _ _ _ ⟨⟨_, _, _, _, _, by omega, by omega, by omega, by omega, rfl⟩, rfl⟩ S
    · walk_at "go"
      exact hQ _ _ _ ⟨⟨_, _, _, _, _, by omega, by omega, by omega, by omega, rfl⟩, rfl⟩ S
  clear S h0 h1 h2 h3
  rintro ρ' Λ' s ⟨⟨hi, wi, t, u, v, h0, h1, h2, h3, rfl⟩, rfl⟩ S
  refine x_cutS S (fun ρ Λ => (∃ hi wi t u v, 0 ≤ hi ∧ hi ≤ 12 ∧ 0 ≤ wi ∧ wi ≤ 12 ∧ ρ = [(Str.ofString "_law_script", some (.ref l)), (Str.ofString "_law_first", some (.int first v)), (Str.ofString "_law_high", some (.int hi t)), (Str.ofString "_law_wide", some (.int wi u)), (Str.ofString "_law_menu", none), (Str.ofString "_law_rows_here", none), (Str.ofString "_law_row", none), (Str.ofString "_law_signs", none)]) ∧ Λ = []) ?_ ?_
  · intro Q' hQ
    walk_at "go"
    refine i_eq (fun hd => ?_) (fun hd => ?_)
    · walk_at "go"
      refine i_eq (fun hd => ?_) (fun hd => ?_)
      · walk_at "go"
        exact hQ _ _ _ ⟨⟨_, _, _, _, _, by omega, by omega, by omega, by omega, rfl⟩, rfl⟩ S
      · walk_at "go"
        exact hQ _ _ _ ⟨⟨_, _, _, _, _, by omega, by omega, by omega, by omega, rfl⟩, rfl⟩ S
    · walk_at "go"
      exact hQ _ _ _ ⟨⟨_, _, _, _, _, by omega, by omega, by omega, by omega, rfl⟩, rfl⟩ S
  clear S h0 h1 h2 h3
  rintro ρ' Λ' s ⟨⟨hi, wi, th, tw, tf, h0, h1, h2, h3, rfl⟩, rfl⟩ S
  walk_at "go"
  refine l_new S (by simp) ?_; clear S; intro lm s S _
  walk_at "go"
  refine cell_at_spec (S.gr G) (R.in_ (by omega)) (hl.mono S.base) hn (by omega) ?_
  walk_at "kpt"
  walk_at "go"
  have hmk : (cellAt ns 1 % 6).toNat < menus.length := by show _ < 6; omega
  refine l_atS (ns := menus) (StrL.of (S.atLed (List.mem_cons_self ..)) (.cons _ _ (.cons _ _ (.cons _ _ (.cons _ _ (.cons _ _ (.cons _ _ .nil))))))) (by omega) (by show _ < ((6 : Nat) : Int); omega) (by decide) (by rfl) ?_
  intro tm
  obtain ⟨hm1, hm2, hm3⟩ := menus_ok _ (getD_mem (d := Str.empty) hmk)
  generalize menus.getD (cellAt ns 1 % 6).toNat Str.empty = menu at hm1 hm2 hm3 S ⊢
  replace S := S.tl rfl
  walk_at "go"
  refine l_new S (by decide) ?_; clear S; intro D s S _
  walk_at "go"
  refine r_range S ?_; clear S; intro r t1 t2 t3 s hr S
  refine it_range S R.handled hr (by omega) (by omega) ?_
  intro it s I
  refine loop_it (fun i ρ Λ => (∃ a b, ρ = [(Str.ofString "_law_script", some (.ref l)), (Str.ofString "_law_first", some (.int first tf)), (Str.ofString "_law_high", some (.int hi th)), (Str.ofString "_law_wide", some (.int wi tw)), (Str.ofString "_law_menu", some (.str menu tm)), (Str.ofString "_law_rows_here", some (.ref D)), (Str.ofString "_law_row", a), (Str.ofString "_law_signs", b)]) ∧
    ∃ ys k rows, Λ = [(D, lst ys k)] ∧ StrsAre ys.toList rows ∧ rows.length = i ∧ ∀ r ∈ rows, r.length = wi.toNat ∧ ∀ c ∈ r.cps.toList, four c) I ⟨⟨_, _, rfl⟩, _, _, [], rfl, .nil, rfl, fun _ h => nomatch h⟩ ?_ ?_ ?_
  · rintro i ρ' Λ' ⟨_, ys, k, rows, rfl, _⟩; rfl
  · rintro i v' ρ₁ Λ₁ hi1 ⟨tr, rfl⟩ ⟨⟨a, b, rfl⟩, ys, ky, rows, rfl, hys, hlen, hrows⟩
    refine ⟨_, .tail (.tail (.tail (.tail (.tail (.tail .head))))), ?_⟩
    walk_at "turn"
    refine' x_lc [(Str.ofString "_law_menu", some (.str menu tm)), (Str.ofString "_law_script", some (.ref l)), (Str.ofString "_law_row", some (.int i tr)), (Str.ofString "_law_wide", some (.int wi tw))] (fun _ => true) (FS fun x => ∃ c, x = ⟨#[c]⟩ ∧ four c) ?z_sw S ?z_ok ?z_hy ?z_ek ?z_sel ?_ ?z_hs
    case z_sw => rfl
    case z_ok => kernel_rfl
    case z_hy => kernel_rfl
    case z_ek => rfl
    case z_sel => exact Sel.cons (by walk_at "lk") (Sel.cons (by walk_at "lk") (Sel.cons (by walk_at "lk") (Sel.cons (by walk_at "lk") Sel.nil)))
    case z_hs => intro _; rfl
    walk_at "go"
    refine r_range S ?_; clear S; intro r t1 t2 t3 s hr S
    refine it_range S R.handled hr (by omega) (by omega) ?_
    intro it s I
    refine comp_it I (by omega) ?_ ?_ ?_
    · intro C j v s E' hlt hv S
      exact tests0 ⟨rfl, keeps_refl _⟩
    · intro C j v s E' hlt hv hp S
      obtain ⟨t, rfl⟩ := hv
      walk_at "go"
      refine number_spec (S.gr G) (R.in_ (by omega)) (hl.mono (k.trans S.base)) hn ?_ ?_
      · have := Int.mul_nonneg (show 0 ≤ (i : Int) by omega) h2
        omega
      intro n t s' hn0 hk; replace S := CS.keeps S hk; clear hk
      walk_at "go"
      refine t_len S (by omega) ?_; clear S; intro t s S
      have hml : 0 < (menu.length : Int) := by omega
      walk_at "go"
      have e1 := Int.emod_nonneg n (Int.ne_of_gt hml)
      have e2 := Int.emod_lt_of_pos n hml
      refine t_at S e1 e2 (by omega) (by rfl) ?_; clear S; intro t s S
      exact ⟨⟨_, _, rfl, _, rfl, hm3 _ (agetD_mem (by have : menu.cps.size = menu.length := rfl; omega))⟩, S.quiet⟩
    · intro Ds ks yss vs g1 g2 g3 hD
      refine ⟨_, by walk_at "pt", fun s S => ?_⟩
      obtain ⟨xs, hx1, hx2, hx3⟩ := pairS g3
      rw [filt_true, g1] at hx2
      obtain ⟨j1, j2⟩ := join_signs xs hx3
      walk_at "go"
      have hsum : (xs.map (·.length)).sum + xs.length * (Str.ofString "").length ≤ 16777216 := by
        have e0 : (Str.ofString "").length = 0 := rfl
        have : (xs.map (·.length)).sum = xs.length := by
          clear hx1 hx2 j1 j2
          induction xs with
          | nil => rfl
          | cons x r ih =>
            obtain ⟨c, rfl, _⟩ := hx3 x (List.mem_cons_self ..)
            rw [List.map_cons, List.sum_cons, ih fun y hy => hx3 y (List.mem_cons_of_mem _ hy), List.length_cons]
            show 1 + _ = _
            omega
        rw [e0, this, hx2]; omega
      refine t_join S (StrL.of (S.atLed (List.mem_cons_self ..)) hx1) hsum ?_; clear S; intro tj s S
      walk_at "go"
      have hysz : ys.size = rows.length := by rw [← hys.length, Array.length_toList]
      refine l_append S (by walk_at "cf") (by omega) ?_; clear S; intro k' s S
      walk_at "go"
      refine hNx _ _ _ _ (Sub.refl _) (S.tl rfl) ⟨⟨_, _, rfl⟩, _, _, rows ++ [Txt.join (Str.ofString "") xs], rfl, ?_, ?_, ?_⟩
      · rw [Array.toList_push]; exact hys.append' (.cons _ _ .nil)
      · simp [hlen]
      · intro r hr
        rcases List.mem_append.mp hr with q | q
        · exact hrows r q
        · rw [List.mem_singleton.mp q]
          exact ⟨by rw [j1, hx2], j2⟩
  · rintro ρ' Λ' s ⟨⟨a, b, rfl⟩, ys, ky, rows, rfl, hys, hlen, hrows⟩ S
    walk_at "go"
    refine h D ys ky rows (if rows = [] then 0 else wi.toNat) s ((S.led (D, _) (List.mem_cons_self ..)).2.2.2 rfl) (S.atLed (List.mem_cons_self ..)) hys ⟨by omega, by split <;> omega, fun r hr => ?_, fun e => if_pos e, fun r hr => (hrows r hr).2⟩ S.out
    rw [if_neg (List.ne_nil_of_mem hr)]
    exact (hrows r hr).1


theorem grid_ok {rows : List Str} {wd : Nat} (g : Grid rows wd) : ∀ x ∈ rows, okS x := by
  intro x hx
  show x.cps.all (· < 0x110000) = true
  rw [Array.all_eq_true']
  intro c hc
  have := g.sign x hx c (by simpa using hc)
  simp; omega
theorem cells_len (rows : List Str) (wd : Nat) : (cellsL rows wd).length ≤ rows.length * wd := by
  unfold cellsL
  refine Nat.le_trans (List.length_filter_le ..) ?_
  simp



theorem one_class_spec {w : World} {A : Around} {s : Shared} {Q E : Value → Shared → Prop} {e C : Addr} {b1 b2 b3 b4 b5 b6 b7 b8 : Bool} (G : Gr (Fl.kH w.params) s.heap) (R : RoomH A 1) (x : ExcAt s.heap e C) (k : ExcK (Fl.kH w.params) C) (h1 : isB (Fl.kH w.params) C 44 b1) (h2 : isB (Fl.kH w.params) C 56 b2) (h3 : isB (Fl.kH w.params) C 68 b3) (h4 : isB (Fl.kH w.params) C 80 b4) (h5 : isB (Fl.kH w.params) C 92 b5) (h6 : isB (Fl.kH w.params) C 104 b6) (h7 : isB (Fl.kH w.params) C 116 b7) (h8 : isB (Fl.kH w.params) C 128 b8)
    (hF : isB (Fl.kH w.params) C 31 true) (hV : subIn (Fl.kH w.params) (.ref C) (.type "ValueError") = some true) (hc : [b1, b2, b3, b4, b5, b6, b7, b8].count true = 1) (h : ∀ s', Keeps s s' → Q (.bool true) s') : wpAny (model PP w) A (call (.ref 236) [.ref e]) Q E s := by
  refine' callP [(Str.ofString "_law_e", some (.ref e)), (Str.ofString "_law_told_here", none)] G (by walk_at "room") ?z_ho ?z_hcd ?z_hbind ?z_hd ?z_hb1 ?z_hb2 ?z_hρ ?_
  walk_at "enter"
  intro L s S
  obtain ⟨oe, he, hec⟩ := x
  walk_at "go"
  refine y_exc S G ⟨_, S.atBase he, hec⟩ k h1 ?_; clear S; intro s S
  walk_at "go"
  refine y_exc S G ⟨_, S.atBase he, hec⟩ k h2 ?_; clear S; intro s S
  walk_at "go"
  refine y_exc S G ⟨_, S.atBase he, hec⟩ k h3 ?_; clear S; intro s S
  walk_at "go"
  refine y_exc S G ⟨_, S.atBase he, hec⟩ k h4 ?_; clear S; intro s S
  walk_at "go"
  refine l_new S (by simp) ?_; clear S; intro l1 s S _
  walk_at "go"
  refine y_exc S G ⟨_, S.atBase he, hec⟩ k h5 ?_; clear S; intro s S
  walk_at "go"
  refine y_exc S G ⟨_, S.atBase he, hec⟩ k h6 ?_; clear S; intro s S
  walk_at "go"
  refine y_exc S G ⟨_, S.atBase he, hec⟩ k h7 ?_; clear S; intro s S
  walk_at "go"
  refine l_new S (by simp) ?_; clear S; intro l2 s S _
  walk_at "go"
  refine l_addL S (S.atLed (by walk_at "mm")) (S.atLed (by walk_at "mm")) (by simp) ?_; clear S; intro l3 s S _
  walk_at "go"
  refine y_exc S G ⟨_, S.atBase he, hec⟩ k h8 ?_; clear S; intro s S
  walk_at "go"
  refine l_append S (by walk_at "cf") (by simp) ?_; clear S; intro k' s S
  walk_at "go"
  refine l_countB (bs := [b1, b2, b3, b4, b5, b6, b7, b8]) S (S.atLed (List.mem_cons_self ..)) ?_; clear S; intro t s S
  rw [hc]
  walk_at "go"
  refine i_eq (fun _ => ?_) (fun q => absurd rfl q)
  walk_at "go"
  refine y_exc S G ⟨_, S.atBase he, hec⟩ k hF ?_; clear S; intro s S
  walk_at "go"
  refine y_excT S G ⟨_, S.atBase he, hec⟩ hV ty_ValueError ?_; clear S; intro s S
  walk_at "go"
  exact h _ S.out


def largeB (rows : List Str) : Bool := decide (rows.length > 12) || rows.any (fun r => decide (r.length > 12))
def raggedB (rows : List Str) : Bool := rows.any (fun r => decide (r.length ≠ (rows.getD 0 Str.empty).length))
def fourB (c : Nat) : Bool := decide (c = 46 ∨ c = 45 ∨ c = 124 ∨ c = 35)
def strangeB (rows : List Str) : Bool := rows.any (fun r => r.cps.toList.any (fun c => !fourB c))
def BoundS (rows : List Str) : Prop := rows.length ≤ 1000 ∧ ∀ r ∈ rows, r.length ≤ 1000
theorem take_snoc {α : Type} {xs : List α} {i : Nat} {y : α} (h : xs[i]? = some y) : xs.take (i + 1) = xs.take i ++ [y] := by rw [List.take_add_one, h]; rfl
theorem all_take {α : Type} {P : α → Prop} {xs : List α} {i : Nat} {y : α} (h : xs[i]? = some y) (a : ∀ r ∈ xs.take i, P r) (b : P y) : ∀ r ∈ xs.take (i + 1), P r := by
  rw [take_snoc h]
  intro r hr
  rcases List.mem_append.mp hr with q | q
  · exact a r q
  · rw [List.mem_singleton.mp q]; exact b
theorem large_of_row {rows : List Str} {y : Str} (h : y ∈ rows) (q : y.length > 12) : largeB rows = true := by
  unfold largeB
  rw [Bool.or_eq_true]
  exact .inr (List.any_eq_true.mpr ⟨y, h, decide_eq_true q⟩)
theorem large_no {rows : List Str} (h1 : ¬ rows.length > 12) (h2 : ∀ r ∈ rows, r.length ≤ 12) : largeB rows = false := by
  unfold largeB
  rw [Bool.or_eq_false_iff]
  refine ⟨decide_eq_false h1, List.any_eq_false.mpr fun x hx => ?_⟩
  have := h2 x hx
  simp; omega
theorem grid_of {rows : List Str} (h1 : largeB rows = false) (h2 : raggedB rows = false) (h3 : strangeB rows = false) : Grid rows (rows.getD 0 Str.empty).length := by
  unfold largeB at h1
  rw [Bool.or_eq_false_iff] at h1
  have a1 : ¬ rows.length > 12 := of_decide_eq_false h1.1
  have a2 : ∀ r ∈ rows, r.length ≤ 12 := fun r hr => by have := List.any_eq_false.mp h1.2 r hr; simp at this; exact this
  have a3 : ∀ r ∈ rows, r.length = (rows.getD 0 Str.empty).length := fun r hr => by have := List.any_eq_false.mp h2 r hr; simpa using this
  refine ⟨by omega, ?_, a3, fun e => by subst e; rfl, fun r hr c hc => ?_⟩
  · cases rows with
    | nil => exact Nat.zero_le _
    | cons x r => exact a2 x (List.mem_cons_self ..)
  · have := List.any_eq_false.mp h3 r hr
    rw [Bool.not_eq_true, List.any_eq_false] at this
    have := this c hc
    have h4 : fourB c = true := by simpa using this
    exact of_decide_eq_true h4

theorem sizes_any {w : World} {A : Around} {s : Shared} {Q E : Value → Shared → Prop} {l : Addr} {rows : List Str} {B : Heap} {outer : List Env} (G : Gr (Fl.kH w.params) s.heap) (R : Room A 1) (hl : StrL s.heap l rows) (bd : BoundS rows) (st : Stk A B outer s.heap)
    (h : largeB rows = false → raggedB rows = false → ∀ s', Keeps s s' → Q .none s')
    (hE1 : largeB rows = true → ∀ e s', Fly B outer e 44 s s' → E (.ref e) s')
    (hE2 : largeB rows = false → raggedB rows = true → ∀ e s', Fly B outer e 56 s s' → E (.ref e) s') : wpAny (model PP w) A (call (.ref 137) [.ref l]) Q E s := by
  refine' callP [(Str.ofString "rows", some (.ref l)), (Str.ofString "row", none)] G (by walk_at "room") ?z_ho ?z_hcd ?z_hbind ?z_hd ?z_hb1 ?z_hb2 ?z_hρ ?_
  walk_at "enter"
  intro L s S
  obtain ⟨bd1, bd2⟩ := bd
  have hl' := hl
  obtain ⟨vs, ⟨o, ho, hc, n, hd⟩, hi⟩ := hl'
  have hsz : vs.toArray.size = rows.length := by rw [List.size_toArray]; exact hi.length
  walk_at "go"
  refine l_lenS S (hl.mono S.base) (by omega) ?_; clear S; intro t s S
  walk_at "go"
  refine i_dec (fun hc1 => ?_) (fun hc1 => ?_)
  · have hL : largeB rows = true := by unfold largeB; rw [decide_eq_true (by omega : rows.length > 12)]; rfl
    walk_at "go"
    refine x_raise S G (gf_TooLarge w) (ek_TooLarge w) R.handled rfl rfl ?_; clear S; intro h' e args s S hx
    exact out_first st S st.stays rfl (Heap.UpToSlots.of_keeps S.base) hx (hE1 hL _)
  walk_at "go"
  refine it_list S R.handled ho hc ⟨n, hd⟩ ?_
  intro it s I
  refine loop_it (fun i ρ Λ => (∃ a, ρ = [(Str.ofString "rows", some (.ref l)), (Str.ofString "row", a)]) ∧ Λ = [] ∧ ∀ r ∈ rows.take i, r.length ≤ 12) I ⟨⟨_, rfl⟩, rfl, fun _ q => nomatch q⟩ ?_ ?_ ?_
  · rintro i ρ' Λ' ⟨_, rfl, _⟩; rfl
  · rintro i v ρ₁ Λ₁ hi1 hv ⟨⟨a, rfl⟩, rfl, hj⟩
    obtain ⟨y, t, rfl, hy⟩ := hi.item i v (by simpa using hv)
    have hym := List.mem_of_getElem? hy
    have hyl := bd2 y hym
    refine ⟨_, .tail .head, ?_⟩
    walk_at "turn"
    walk_at "go"
    refine t_len S (by omega) ?_; clear S; intro t s S
    walk_at "go"
    refine i_dec (fun hc1 => ?_) (fun hc1 => ?_)
    · walk_at "go"
      refine x_raise S G (gf_TooLarge w) (ek_TooLarge w) R.handled rfl rfl ?_; clear S; intro h' e args s S hx
      exact note_out (out_first st S (st.stays.trans k) rfl (Heap.UpToSlots.of_keeps (k.trans S.base)) hx (hE1 (large_of_row hym (by omega)) _))
    · walk_at "go"
      exact hNx _ _ _ _ (Sub.refl _) S ⟨⟨_, rfl⟩, rfl, all_take hy hj (by omega)⟩
  clear I
  rintro ρ' Λ' s ⟨⟨a, rfl⟩, rfl, hj⟩ S
  have hL : largeB rows = false := large_no (by omega) (by rw [hsz, List.take_length] at hj; exact hj)
  walk_at "go"
  refine it_list S R.handled ho hc ⟨n, hd⟩ ?_
  intro it s I
  refine loop_it (fun i ρ Λ => (∃ a, ρ = [(Str.ofString "rows", some (.ref l)), (Str.ofString "row", a)]) ∧ Λ = [] ∧ ∀ r ∈ rows.take i, r.length = (rows.getD 0 Str.empty).length) I ⟨⟨_, rfl⟩, rfl, fun _ q => nomatch q⟩ ?_ ?_ ?_
  · rintro i ρ' Λ' ⟨_, rfl, _⟩; rfl
  · rintro i v ρ₁ Λ₁ hi1 hv ⟨⟨a, rfl⟩, rfl, hj2⟩
    obtain ⟨y, t, rfl, hy⟩ := hi.item i v (by simpa using hv)
    have hym := List.mem_of_getElem? hy
    have hyl := bd2 y hym
    have h0 : 0 < rows.length := by omega
    have hr0 : (rows.getD (0 : Int).toNat Str.empty).length ≤ 1000 := bd2 _ (getD_mem (by rw [Int.toNat_zero]; exact h0))
    refine ⟨_, .tail .head, ?_⟩
    walk_at "turn"
    walk_at "go"
    refine t_len S (by omega) ?_; clear S; intro t s S
    walk_at "go"
    refine l_atS (hl.mono (k.trans S.base)) (by omega) (by omega) (by omega) (by rfl) ?_
    intro t
    walk_at "go"
    refine t_len S (by omega) ?_; clear S; intro t s S
    walk_at "go"
    refine i_ne (fun hc1 => ?_) (fun hc1 => ?_)
    · have hR : raggedB rows = true := List.any_eq_true.mpr ⟨y, hym, decide_eq_true (fun q => hc1 (by rw [Int.toNat_zero, q]))⟩
      walk_at "go"
      refine x_raise S G (gf_Ragged w) (ek_Ragged w) R.handled rfl rfl ?_; clear S; intro h' e args s S hx
      exact note_out (out_first st S (st.stays.trans k) rfl (Heap.UpToSlots.of_keeps (k.trans S.base)) hx (hE2 hL hR _))
    · walk_at "go"
      refine hNx _ _ _ _ (Sub.refl _) S ⟨⟨_, rfl⟩, rfl, all_take hy hj2 ?_⟩
      rw [Int.toNat_zero] at hc1
      omega
  rintro ρ' Λ' s ⟨⟨a, rfl⟩, rfl, hj2⟩ S
  walk_at "go"
  refine h hL ?_ _ S.out
  rw [hsz, List.take_length] at hj2
  exact List.any_eq_false.mpr fun x hx => by rw [Bool.not_eq_true]; exact decide_eq_false (fun q => q (hj2 x hx))

theorem floor_out {w : World} {A : Around} {s : Shared} {Q E : Value → Shared → Prop} {l : Addr} {rows : List Str} {B : Heap} {outer : List Env} (G : Gr (Fl.kH w.params) s.heap) (R : Room A 4) (hl : StrL s.heap l rows) (bd : BoundS rows) (st : Stk A B outer s.heap) (hbad : largeB rows = false → raggedB rows = false → strangeB rows = true)
    (hE1 : largeB rows = true → ∀ e s', Fly B outer e 44 s s' → E (.ref e) s')
    (hE2 : largeB rows = false → raggedB rows = true → ∀ e s', Fly B outer e 56 s s' → E (.ref e) s')
    (hE3 : largeB rows = false → raggedB rows = false → ∀ e s', Fly B outer e 68 s s' → E (.ref e) s') : wpAny (model PP w) A (call (.ref 194) [.ref l]) Q E s := by
  refine' makeK (f := 151) (fun v => [(Str.ofString "self", v), (Str.ofString "rows", .ref l)]) (fun v => [(Str.ofString "self", some v), (Str.ofString "rows", some (.ref l)), (Str.ofString "row", none), (Str.ofString "sign", none)]) G (by walk_at "room") ?z_m ?z_i ?z_f ?z_ho ?z_hcd ?z_hbind ?z_hd ?z_hb1 ?z_hb2 ?z_hρ ?_
  case z_m => kernel_rfl
  case z_i => kernel_rfl
  case z_f => kernel_rfl
  case z_ho => k_is
  case z_hcd => k_is
  case z_hbind => intro _; rfl
  case z_hd => kernel_rfl
  case z_hb1 => intro _; kernel_rfl
  case z_hb2 => intro _; kernel_rfl
  case z_hρ => intro _; kernel_rfl
  intro x dx L s hx hdx S
  have R' : Room (A.under (.builtin "type.__call__" ⟨[.ref 194, .ref l], []⟩)) 2 := R.under (by omega)
  have st' : Stk (A.under (.builtin "type.__call__" ⟨[.ref 194, .ref l], []⟩)) B outer _ := st.under
  generalize A.under (.builtin "type.__call__" ⟨[.ref 194, .ref l], []⟩) = A' at R' st' ⊢
  replace R := R'
  clear st
  have hl' := hl
  obtain ⟨vs, ⟨o, ho, hc, n, hd⟩, hi⟩ := hl'
  have hsz : vs.toArray.size = rows.length := by rw [List.size_toArray]; exact hi.length
  walk_at "go"
  refine sizes_any (S.gr G) (R.in_ (by omega)) (hl.mono S.base) bd ((st'.mono S.base).deeper S st'.stays rfl) ?_ (fun q e s' fl => out_next st' S st'.stays rfl (Heap.UpToSlots.of_keeps S.base) fl (hE1 q _)) (fun q q2 e s' fl => out_next st' S st'.stays rfl (Heap.UpToSlots.of_keeps S.base) fl (hE2 q q2 _))
  intro hL hR
  have hS := hbad hL hR
  walk_at "kp"
  walk_at "go"
  refine it_list S R.handled ho hc ⟨n, hd⟩ ?_
  intro it s I
  refine loop_it (fun i ρ Λ => (∃ a b, ρ = [(Str.ofString "self", some (.ref x)), (Str.ofString "rows", some (.ref l)), (Str.ofString "row", a), (Str.ofString "sign", b)]) ∧ Λ = [(x, instObj 194 dx), (dx, dictOf [] 0)] ∧ ∀ r ∈ rows.take i, ∀ c ∈ r.cps.toList, fourB c = true) I ⟨⟨_, _, rfl⟩, rfl, fun _ q => nomatch q⟩ ?_ ?_ ?_
  · rintro i ρ' Λ' ⟨_, rfl, _⟩; rfl
  · rintro i v ρ₁ Λ₁ hi1 hv ⟨⟨a, b, rfl⟩, rfl, hj⟩
    obtain ⟨y, t, rfl, hy⟩ := hi.item i v (by simpa using hv)
    refine ⟨_, .tail (.tail .head), ?_⟩
    walk_at "turn"
    have k₀ := k
    clear k
    walk_at "go"
    refine it_str S R.handled ?_
    intro it s I
    refine loop_it (fun i ρ Λ => (∃ b, ρ = [(Str.ofString "self", some (.ref x)), (Str.ofString "rows", some (.ref l)), (Str.ofString "row", some (.str y t)), (Str.ofString "sign", b)]) ∧ Λ = [(x, instObj 194 dx), (dx, dictOf [] 0)] ∧ ∀ c ∈ y.cps.toList.take i, fourB c = true) I ⟨⟨_, rfl⟩, rfl, fun _ q => nomatch q⟩ ?_ ?_ ?_
    · rintro i ρ' Λ' ⟨_, rfl, _⟩; rfl
    · rintro j v ρ₁ Λ₁ hj1 ⟨c, u, hcu, rfl⟩ ⟨⟨b, rfl⟩, rfl, hj2⟩
      have hcu' : y.cps.toList[j]? = some c := by rw [Array.getElem?_toList]; exact hcu
      refine ⟨_, .tail (.tail (.tail .head)), ?_⟩
      walk_at "turn"
      walk_at "go"
      refine i_dec (fun hc1 => ?_) (fun hc1 => ?_)
      · walk_at "go"
        refine hNx _ _ _ _ (Sub.refl _) S ⟨⟨_, rfl⟩, rfl, all_take hcu' hj2 ?_⟩
        unfold fourB
        exact decide_eq_true (by simpa using hc1)
      · walk_at "go"
        refine x_raise S G (gf_StrangeSign w) (ek_StrangeSign w) R.handled rfl rfl ?_; clear S; intro h' e args s S hx
        exact note_note (note_out (out_first st' S (st'.stays.trans (k₀.trans k)) rfl (Heap.UpToSlots.of_keeps ((k₀.trans k).trans S.base)) hx (hE3 hL hR _)))
    · rintro ρ' Λ' s ⟨⟨b, rfl⟩, rfl, hj2⟩ S
      walk_at "go"
      refine hNx _ _ _ _ (Sub.refl _) S ⟨⟨_, _, rfl⟩, rfl, all_take hy hj fun c hc => hj2 c ?_⟩
      rw [List.take_of_length_le (Nat.le_of_eq Array.length_toList)]
      exact hc
  rintro ρ' Λ' s ⟨⟨a, b, rfl⟩, rfl, hj⟩ S
  exfalso
  rw [hsz, List.take_length] at hj
  obtain ⟨r, hr, q⟩ := List.any_eq_true.mp hS
  obtain ⟨c, hc', q⟩ := List.any_eq_true.mp q
  rw [hj r hr c hc'] at q
  cases q


theorem oc_TooLarge {w : World} {A : Around} {s : Shared} {Q E : Value → Shared → Prop} {e : Addr} (G : Gr (Fl.kH w.params) s.heap) (R : RoomH A 1) (x : ExcAt s.heap e 44) (h : ∀ s', Keeps s s' → Q (.bool true) s') : wpAny (model PP w) A (call (.ref 236) [.ref e]) Q E s :=
  one_class_spec (b1 := true) (b2 := false) (b3 := false) (b4 := false) (b5 := false) (b6 := false) (b7 := false) (b8 := false) G R x (ek_TooLarge w) (by unfold isB; kernel_rfl) (by unfold isB; kernel_rfl) (by unfold isB; kernel_rfl) (by unfold isB; kernel_rfl) (by unfold isB; kernel_rfl) (by unfold isB; kernel_rfl) (by unfold isB; kernel_rfl) (by unfold isB; kernel_rfl) (by unfold isB; kernel_rfl) (by kernel_rfl) rfl h
theorem oc_Ragged {w : World} {A : Around} {s : Shared} {Q E : Value → Shared → Prop} {e : Addr} (G : Gr (Fl.kH w.params) s.heap) (R : RoomH A 1) (x : ExcAt s.heap e 56) (h : ∀ s', Keeps s s' → Q (.bool true) s') : wpAny (model PP w) A (call (.ref 236) [.ref e]) Q E s :=
  one_class_spec (b1 := false) (b2 := true) (b3 := false) (b4 := false) (b5 := false) (b6 := false) (b7 := false) (b8 := false) G R x (ek_Ragged w) (by unfold isB; kernel_rfl) (by unfold isB; kernel_rfl) (by unfold isB; kernel_rfl) (by unfold isB; kernel_rfl) (by unfold isB; kernel_rfl) (by unfold isB; kernel_rfl) (by unfold isB; kernel_rfl) (by unfold isB; kernel_rfl) (by unfold isB; kernel_rfl) (by kernel_rfl) rfl h
theorem oc_StrangeSign {w : World} {A : Around} {s : Shared} {Q E : Value → Shared → Prop} {e : Addr} (G : Gr (Fl.kH w.params) s.heap) (R : RoomH A 1) (x : ExcAt s.heap e 68) (h : ∀ s', Keeps s s' → Q (.bool true) s') : wpAny (model PP w) A (call (.ref 236) [.ref e]) Q E s :=
  one_class_spec (b1 := false) (b2 := false) (b3 := true) (b4 := false) (b5 := false) (b6 := false) (b7 := false) (b8 := false) G R x (ek_StrangeSign w) (by unfold isB; kernel_rfl) (by unfold isB; kernel_rfl) (by unfold isB; kernel_rfl) (by unfold isB; kernel_rfl) (by unfold isB; kernel_rfl) (by unfold isB; kernel_rfl) (by unfold isB; kernel_rfl) (by unfold isB; kernel_rfl) (by unfold isB; kernel_rfl) (by kernel_rfl) rfl h
theorem mk_ll (w : World) : MatchK (Fl.kH w.params) 44 44 true := ⟨by kernel_rfl, by kernel_rfl, by kernel_rfl, by kernel_rfl⟩
theorem mk_rl (w : World) : MatchK (Fl.kH w.params) 56 44 false := ⟨by kernel_rfl, by kernel_rfl, by kernel_rfl, by kernel_rfl⟩
theorem mk_rr (w : World) : MatchK (Fl.kH w.params) 56 56 true := ⟨by kernel_rfl, by kernel_rfl, by kernel_rfl, by kernel_rfl⟩
theorem mk_sl (w : World) : MatchK (Fl.kH w.params) 68 44 false := ⟨by kernel_rfl, by kernel_rfl, by kernel_rfl, by kernel_rfl⟩
theorem mk_sr (w : World) : MatchK (Fl.kH w.params) 68 56 false := ⟨by kernel_rfl, by kernel_rfl, by kernel_rfl, by kernel_rfl⟩
theorem mk_sf (w : World) : MatchK (Fl.kH w.params) 68 31 true := ⟨by kernel_rfl, by kernel_rfl, by kernel_rfl, by kernel_rfl⟩

def dueS (rows : List Str) : Str := if largeB rows then Str.ofString "large" else if raggedB rows then Str.ofString "ragged" else if strangeB rows then Str.ofString "strange" else Str.ofString ""

theorem told_spec {w : World} {A : Around} {s : Shared} {Q E : Value → Shared → Prop} {l : Addr} {rows : List Str} {B : Heap} {Λ₀ : List (Addr × Obj)} {outer : List Env} (G : Gr (Fl.kH w.params) B) (R : Room A 6) (hl : StrL B l rows) (bd : BoundS rows) (hok : ∀ x ∈ rows, okS x)
    (c : Cov B Λ₀ s.heap) (k : Stk A B outer s.heap) (h : ∀ t s', Land B s s' → Q (.str (dueS rows) t) s') : wpAny (model PP w) A (call (.ref 243) [.ref l]) Q E s := by
  refine' callK (h₀ := B) (Λ := Λ₀) [(Str.ofString "_law_rows_here", some (.ref l)), (Str.ofString "_law_floor", none), (Str.ofString "_law_e", none)] (G.mono c.sub) (by walk_at "room") ?z_ho ?z_hcd ?z_hbind ?z_hd ?z_hb1 ?z_hb2 ?z_hρ c.sub c.led c.nd ?_
  walk_at "enter"
  intro L s S
  refine x_try ?_
  walk_at "go"
  have ks := (k.go (c.land (Slk.refl _) (fun _ q => q) S (Sub.refl _)).up S.base).deeper S (Sub.refl _) rfl
  by_cases hbad : largeB rows = false ∧ raggedB rows = false ∧ strangeB rows = false
  · obtain ⟨b1, b2, b3⟩ := hbad
    have g := grid_of b1 b2 b3
    have hdue : dueS rows = Str.ofString "" := by unfold dueS; rw [b1, b2, b3]; rfl
    rw [hdue] at h
    refine floor_spec (S.gr G) (R.in_ (by omega)) (hl.mono S.base) g ?_
    intro fl l' t1 t2 s' hF _ hk
    obtain ⟨h₁, kk, S', hN⟩ := CS.gnew S hk
    replace S := S'
    clear S'
    replace G := G.mono kk
    have F := hF h₁ hN
    clear hk hN hF
    walk_at "go"
    refine l_eqS (F.mono S.base).texts (hl.mono (kk.trans S.base)) hok hok (by walk_at "room") ?_
    rw [decide_eq_true rfl]
    walk_at "go"
    exact h _ _ (c.land (Slk.refl _) (fun _ q => q) S kk)
  · refine floor_out (S.gr G) (R.in_ (by omega)) (hl.mono S.base) bd ks (fun q1 q2 => ?_) ?_ ?_ ?_
    · cases q3 : strangeB rows with
      | true => rfl
      | false => exact absurd ⟨q1, q2, q3⟩ hbad
    · intro b1 e s' fly
      have hdue : dueS rows = Str.ofString "large" := by unfold dueS; rw [b1]; rfl
      rw [hdue] at h
      refine caught ks.frames S c.nf rfl fly ?_
      clear S ks
      intro Λ₁ s x₁ S f
      refine h_hit S (x₁.nf c.nf) G (gf_TooLarge w) (mk_ll w) f rfl rfl (by walk_at "pt") ?_
      clear S f
      intro Λ₂ oe s E'' x₂ hcls S
      walk_at "go"
      refine oc_TooLarge (S.gr G) (Room.h (R.in_ (by omega))) ⟨oe, S.atLed (List.mem_cons_self ..), hcls⟩ ?_
      walk_at "kp"
      walk_at "go"
      refine x_unbind S (by walk_at "pt") rfl ?_
      clear S
      intro s S
      walk_at "go"
      exact h _ _ (c.land (x₁.trans x₂) (fun _ q => List.mem_cons_of_mem _ q) S (Sub.refl _))
    · intro b1 b2 e s' fly
      have hdue : dueS rows = Str.ofString "ragged" := by unfold dueS; rw [b1, b2]; rfl
      rw [hdue] at h
      refine caught ks.frames S c.nf rfl fly ?_
      clear S ks
      intro Λ₁ s x₁ S f
      obtain ⟨a0, f0⟩ := f
      refine h_miss S G (gf_TooLarge w) (mk_rl w) f0.there rfl rfl ?_
      refine h_hit S (x₁.nf c.nf) G (gf_Ragged w) (mk_rr w) ⟨a0, f0⟩ rfl rfl (by walk_at "pt") ?_
      clear S f0
      intro Λ₂ oe s E'' x₂ hcls S
      walk_at "go"
      refine oc_Ragged (S.gr G) (Room.h (R.in_ (by omega))) ⟨oe, S.atLed (List.mem_cons_self ..), hcls⟩ ?_
      walk_at "kp"
      walk_at "go"
      refine x_unbind S (by walk_at "pt") rfl ?_
      clear S
      intro s S
      walk_at "go"
      exact h _ _ (c.land (x₁.trans x₂) (fun _ q => List.mem_cons_of_mem _ q) S (Sub.refl _))
    · intro b1 b2 e s' fly
      have b3 : strangeB rows = true := by
        cases q3 : strangeB rows with
        | true => rfl
        | false => exact absurd ⟨b1, b2, q3⟩ hbad
      have hdue : dueS rows = Str.ofString "strange" := by unfold dueS; rw [b1, b2, b3]; rfl
      rw [hdue] at h
      refine caught ks.frames S c.nf rfl fly ?_
      clear S ks
      intro Λ₁ s x₁ S f
      obtain ⟨a0, f0⟩ := f
      refine h_miss S G (gf_TooLarge w) (mk_sl w) f0.there rfl rfl ?_
      refine h_miss S G (gf_Ragged w) (mk_sr w) f0.there rfl rfl ?_
      refine h_hit S (x₁.nf c.nf) G (gf_FloorError w) (mk_sf w) ⟨a0, f0⟩ rfl rfl (by walk_at "pt") ?_
      clear S f0
      intro Λ₂ oe s E'' x₂ hcls S
      walk_at "go"
      refine y_exc S G ⟨oe, S.atLed (List.mem_cons_self ..), hcls⟩ (ek_StrangeSign w) (c := true) (by unfold isB; kernel_rfl) ?_; clear S; intro s S
      walk_at "go"
      refine oc_StrangeSign (S.gr G) (Room.h (R.in_ (by omega))) ⟨oe, S.atLed (List.mem_cons_self ..), hcls⟩ ?_
      walk_at "kp"
      walk_at "go"
      refine x_unbind S (by walk_at "pt") rfl ?_
      clear S
      intro s S
      walk_at "go"
      exact h _ _ (c.land (x₁.trans x₂) (fun _ q => List.mem_cons_of_mem _ q) S (Sub.refl _))


theorem any_filter (q : Str → Bool) (xs : List Str) : (xs.filter q).length > 0 ↔ xs.any q = true := by
  rw [List.any_eq_true]
  constructor
  · intro h
    obtain ⟨x, hx⟩ := List.exists_mem_of_length_pos h
    rw [List.mem_filter] at hx
    exact ⟨x, hx⟩
  · rintro ⟨x, h1, h2⟩
    exact List.length_pos_of_mem (List.mem_filter.mpr ⟨h1, h2⟩)

theorem ldue_spec {w : World} {A : Around} {s : Shared} {Q E : Value → Shared → Prop} {l : Addr} {rows : List Str} (G : Gr (Fl.kH w.params) s.heap) (R : Room A 1) (hl : StrL s.heap l rows) (bd : BoundS rows)
    (h : ∀ t s', Keeps s s' → Q (.str (dueS rows) t) s') : wpAny (model PP w) A (call (.ref 229) [.ref l]) Q E s := by
  refine' callP [(Str.ofString "_law_rows_here", some (.ref l)), (Str.ofString "_law_row", none), (Str.ofString "_law_sign", none)] G (by walk_at "room") ?z_ho ?z_hcd ?z_hbind ?z_hd ?z_hb1 ?z_hb2 ?z_hρ ?_
  walk_at "enter"
  intro L s S
  obtain ⟨bd1, bd2⟩ := bd
  have hl' := hl
  obtain ⟨vs, ⟨o, ho, hc, n, hd⟩, hi⟩ := hl'
  have hsz : vs.toArray.size = rows.length := by rw [List.size_toArray]; exact hi.length
  have hflen : ∀ q : Str → Bool, (rows.filter q).length ≤ rows.length := fun q => List.length_filter_le ..
  walk_at "go"
  refine l_lenS S (hl.mono S.base) (by omega) ?_; clear S; intro t s S
  walk_at "go"
  refine i_dec (fun hc1 => ?_) (fun hc1 => ?_)
  · walk_at "go"
    rw [dueS, show largeB rows = true by unfold largeB; rw [decide_eq_true (by omega : rows.length > 12)]; rfl] at h
    exact h _ _ S.out
  walk_at "go"
  refine' lc [] (onS (fun r => decide (r.length > 12))) (fun v y => y = v) S ?z_ok ?z_sel ?_ ?z_hs
  case z_ok => kernel_rfl
  case z_sel => exact Sel.nil
  case z_hs => intro _; rfl
  walk_at "go"
  refine it_list S R.handled ho hc ⟨n, hd⟩ ?_
  intro it s I
  refine comp_it I (by omega) ?_ ?_ ?_
  · intro C i v s E' hlt hv S
    obtain ⟨y, ty, rfl, hy⟩ := hi.item i v (by simpa using hv)
    have hyl := bd2 y (List.mem_of_getElem? hy)
    refine tests1 ?_
    walk_at "go"
    refine t_len S (by omega) ?_; clear S; intro t s S
    walk_at "go"
    refine ⟨?_, S.quiet⟩
    show _ = decide (y.length > 12)
    rw [decide_eq_decide]; omega
  · intro C i v s E' hlt hv hp S
    obtain ⟨y, ty, rfl, hy⟩ := hi.item i v (by simpa using hv)
    walk_at "go"
    exact ⟨rfl, S.quiet⟩
  intro D k ys vs' h1 h2 h3 hD s S
  clear I
  have hf : StrsAre ys.toList (rows.filter (fun r => decide (r.length > 12))) := by
    have hv := vs_list h1 h2
    subst hv
    rw [paired_eq h3]
    exact filtS (by simpa using hi)
  have hfl := hflen (fun r => decide (r.length > 12))
  walk_at "go"
  refine l_lenS S (StrL.of (S.atLed (List.mem_cons_self ..)) hf) (by omega) ?_; clear S; intro t s S
  walk_at "go"
  refine i_dec (fun hc2 => ?_) (fun hc2 => ?_)
  · walk_at "go"
    have hL : largeB rows = true := by
      unfold largeB
      rw [(any_filter _ _).mp (by omega), Bool.or_true]
    rw [dueS, hL] at h
    exact h _ _ S.out
  have hL : largeB rows = false := by
    unfold largeB
    rw [Bool.or_eq_false_iff]
    refine ⟨decide_eq_false (by omega), ?_⟩
    cases q : rows.any (fun r => decide (r.length > 12)) with
    | false => rfl
    | true => exact absurd ((any_filter _ _).mpr q) (by omega)
  replace S := S.tl rfl
  clear hf h1 h2 h3 hfl
  walk_at "go"
  refine' lc [(Str.ofString "_law_rows_here", some (.ref l))] (onS (fun r => decide (r.length ≠ (rows.getD 0 Str.empty).length))) (fun v y => y = v) S ?z_ok ?z_sel ?_ ?z_hs
  case z_ok => kernel_rfl
  case z_sel => exact Sel.cons (by walk_at "lk") Sel.nil
  case z_hs => intro _; rfl
  walk_at "go"
  refine it_list S R.handled ho hc ⟨n, hd⟩ ?_
  intro it s I
  refine comp_it I (by omega) ?_ ?_ ?_
  · intro C i v s E' hlt hv S
    obtain ⟨y, ty, rfl, hy⟩ := hi.item i v (by simpa using hv)
    have hyl := bd2 y (List.mem_of_getElem? hy)
    have h0 : 0 < rows.length := by omega
    have hr0 : (rows.getD (0 : Int).toNat Str.empty).length ≤ 1000 := bd2 _ (getD_mem (by rw [Int.toNat_zero]; exact h0))
    refine tests1 ?_
    walk_at "go"
    refine t_len S (by omega) ?_; clear S; intro t s S
    walk_at "go"
    refine l_atS (hl.mono S.base) (by omega) (by omega) (by omega) (by rfl) ?_
    intro t
    walk_at "go"
    refine t_len S (by omega) ?_; clear S; intro t s S
    walk_at "go"
    refine ⟨?_, S.quiet⟩
    show _ = decide (y.length ≠ (rows.getD 0 Str.empty).length)
    rw [Int.toNat_zero, Bool.eq_iff_iff]
    simp
    omega
  · intro C i v s E' hlt hv hp S
    obtain ⟨y, ty, rfl, hy⟩ := hi.item i v (by simpa using hv)
    walk_at "go"
    exact ⟨rfl, S.quiet⟩
  intro D k ys vs' h1 h2 h3 hD s S
  clear I
  have hf : StrsAre ys.toList (rows.filter (fun r => decide (r.length ≠ (rows.getD 0 Str.empty).length))) := by
    have hv := vs_list h1 h2
    subst hv
    rw [paired_eq h3]
    exact filtS (by simpa using hi)
  have hfl := hflen (fun r => decide (r.length ≠ (rows.getD 0 Str.empty).length))
  walk_at "go"
  refine l_lenS S (StrL.of (S.atLed (List.mem_cons_self ..)) hf) (by omega) ?_; clear S; intro t s S
  walk_at "go"
  refine i_dec (fun hc2 => ?_) (fun hc2 => ?_)
  · walk_at "go"
    have hR : raggedB rows = true := (any_filter _ _).mp (by omega)
    rw [dueS, hL, hR] at h
    exact h _ _ S.out
  have hR : raggedB rows = false := by
    cases q : raggedB rows with
    | false => rfl
    | true => exact absurd ((any_filter _ _).mpr q) (by omega)
  replace S := S.tl rfl
  clear hf h1 h2 h3 hfl
  walk_at "go"
  refine it_list S R.handled ho hc ⟨n, hd⟩ ?_
  intro it s I
  refine loop_it (fun i ρ Λ => (∃ a b, ρ = [(Str.ofString "_law_rows_here", some (.ref l)), (Str.ofString "_law_row", a), (Str.ofString "_law_sign", b)]) ∧ Λ = [] ∧ ∀ r ∈ rows.take i, ∀ c ∈ r.cps.toList, fourB c = true) I ⟨⟨_, _, rfl⟩, rfl, fun _ q => nomatch q⟩ ?_ ?_ ?_
  · rintro i ρ' Λ' ⟨_, rfl, _⟩; rfl
  · rintro i v ρ₁ Λ₁ hi1 hv ⟨⟨a, b, rfl⟩, rfl, hj⟩
    obtain ⟨y, ty, rfl, hy⟩ := hi.item i v (by simpa using hv)
    refine ⟨_, .tail .head, ?_⟩
    walk_at "turn"
    have k₀ := k
    have hRet0 := hRet
    clear k
    walk_at "go"
    refine it_str S R.handled ?_
    intro it s I
    refine loop_it (fun i ρ Λ => (∃ b, ρ = [(Str.ofString "_law_rows_here", some (.ref l)), (Str.ofString "_law_row", some (.str y ty)), (Str.ofString "_law_sign", b)]) ∧ Λ = [] ∧ ∀ c ∈ y.cps.toList.take i, fourB c = true) I ⟨⟨_, rfl⟩, rfl, fun _ q => nomatch q⟩ ?_ ?_ ?_
    · rintro i ρ' Λ' ⟨_, rfl, _⟩; rfl
    · rintro j v ρ₁ Λ₁ hj1 ⟨c, u, hcu, rfl⟩ ⟨⟨b, rfl⟩, rfl, hj2⟩
      have hcu' : y.cps.toList[j]? = some c := by rw [Array.getElem?_toList]; exact hcu
      refine ⟨_, .tail (.tail .head), ?_⟩
      walk_at "turn"
      walk_at "go"
      rw [show Str.ofString ".-|#" = ⟨#[46, 45, 124, 35]⟩ by decide +kernel]
      refine i_dec (fun hc1 => ?_) (fun hc1 => ?_)
      · walk_at "go"
        refine hNx _ _ _ _ (Sub.refl _) S ⟨⟨_, rfl⟩, rfl, all_take hcu' hj2 ?_⟩
        unfold fourB
        exact decide_eq_true (by simpa using hc1)
      · walk_at "go"
        have hS : strangeB rows = true := by
          refine List.any_eq_true.mpr ⟨y, List.mem_of_getElem? hy, List.any_eq_true.mpr ⟨c, List.mem_of_getElem? hcu', ?_⟩⟩
          unfold fourB
          rw [Bool.not_eq_true']
          exact decide_eq_false (fun q => hc1 (by simpa using q))
        rw [dueS, hL, hR, hS] at h
        exact h _ _ (S.outs (k₀.trans k))
    · rintro ρ' Λ' s ⟨⟨b, rfl⟩, rfl, hj2⟩ S
      walk_at "go"
      refine hNx _ _ _ _ (Sub.refl _) S ⟨⟨_, _, rfl⟩, rfl, all_take hy hj fun c hc => hj2 c ?_⟩
      rw [List.take_of_length_le (Nat.le_of_eq Array.length_toList)]
      exact hc
  rintro ρ' Λ' s ⟨⟨a, b, rfl⟩, rfl, hj⟩ S
  walk_at "go"
  have hS : strangeB rows = false := by
    rw [hsz, List.take_length] at hj
    refine List.any_eq_false.mpr fun r hr => ?_
    rw [Bool.not_eq_true, List.any_eq_false]
    intro c hc'
    rw [hj r hr c hc']; decide
  rw [dueS, hL, hR, hS] at h
  exact h _ _ S.out


theorem rep1 (v : Value) (n : Nat) : List.foldl (fun x1 x2 => x1 ++ x2) #[] (List.replicate (if (#[v] : Array Value).isEmpty = true then 0 else n) #[v]) = (List.replicate n v).toArray := by
  rw [if_neg (by simp)]
  apply Array.ext'
  rw [rep_list]
  simp
theorem len_app (x y : Str) : (x ++ y).length = x.length + y.length := Array.size_append
theorem rowsOk_mono {xs : List Str} {n m m' : Nat} (h : RowsOk xs n m) (q : m ≤ m') : RowsOk xs n m' := ⟨h.1, fun x hx => ⟨Nat.le_trans (h.2 x hx).1 q, (h.2 x hx).2⟩⟩
theorem at_pos (n : Int) {k : Nat} : 0 ≤ n % max 1 (k : Int) ∧ n % max 1 (k : Int) < max 1 (k : Int) := ⟨Int.emod_nonneg _ (by omega), Int.emod_lt_of_pos _ (by omega)⟩

theorem faulty_spec {w : World} {A : Around} {s : Shared} {Q E : Value → Shared → Prop} {ls l : Addr} {ys : Array Value} {ky : Nat} {xs : List Str} {kd nb : Int} {tk tn : Tok} {m : Nat} (G : Gr (Fl.kH w.params) s.heap) (R : Room A 1) (hl : s.heap.get? l = some (lst ys ky)) (hys : StrsAre ys.toList xs) (hok : RowsOk xs 15 m) (hm : 15 ≤ m) (hm2 : m ≤ 200)
    (h : ∀ D ys' k' xs' s', (s.heap.get? D = none ∨ D = l) → s'.heap.get? D = some (lst ys' k') → StrsAre ys'.toList xs' → RowsOk xs' 15 (2 * m + 1) → Keeps s s' → Q (.ref D) s') : wpAny (model PP w) A (call (.ref 224) [.ref ls, .ref l, .int kd tk, .int nb tn]) Q E s := by
  refine' callP [(Str.ofString "_law_script", some (.ref ls)), (Str.ofString "_law_rows_here", some (.ref l)), (Str.ofString "_law_kind", some (.int kd tk)), (Str.ofString "_law_number_here", some (.int nb tn)), (Str.ofString "_law_at", none), (Str.ofString "_law_more", none), (Str.ofString "_law_row", none), (Str.ofString "_law_place", none), (Str.ofString "_law_some", none), (Str.ofString "_law_sign", none)] G (by walk_at "room") ?z_ho ?z_hcd ?z_hbind ?z_hd ?z_hb1 ?z_hb2 ?z_hρ ?_
  walk_at "enter"
  intro L s S
  have hS := StrL.of hl hys
  have hsz : ys.size = xs.length := by rw [← hys.length, Array.length_toList]
  obtain ⟨ok1, ok2⟩ := hok
  walk_at "go"
  refine l_lenS S (hS.mono S.base) (by omega) ?_; clear S; intro t s S
  walk_at "gu"
  obtain ⟨ha0, ha1⟩ := at_pos nb (k := xs.length)
  generalize nb % max 1 (xs.length : Int) = at_ at ha0 ha1 S
  walk_at "go"
  refine i_eq (fun hk => ?_) (fun hk => ?_)
  · have hr := Int.emod_nonneg (nb / 13) (show (4 : Int) ≠ 0 by decide)
    have hr2 := Int.emod_lt_of_pos (nb / 13) (show (0 : Int) < 4 by decide)
    walk_at "go"
    refine l_lenS S (hS.mono S.base) (by omega) ?_; clear S; intro t s S
    walk_at "go"
    refine i_dec (fun hp => ?_) (fun hp => ?_)
    · walk_at "go"
      have hlt : at_.toNat < xs.length := by omega
      have hmx := ok2 _ (getD_mem (d := Str.empty) hlt)
      refine l_atS (hS.mono S.base) ha0 (by omega) (by omega) (by rfl) ?_
      intro t
      walk_at "go"
      refine l_new S (by simp) ?_; clear S; intro l1 s S _
      walk_at "go"
      refine l_lenS S (hS.mono S.base) (by omega) ?_; clear S; intro t s S
      walk_at "go"
      refine l_mul S (S.atLed (by walk_at "mm")) (by omega) (by omega) (by simp; omega) ?_; clear S; intro l2 s S _
      walk_at "go"
      rw [rep1] at S
      refine l_addL S (S.atBase hl) (S.atLed (by walk_at "mm")) (by simp; omega) ?_
      clear S; intro l3 s S hl3
      walk_at "go"
      refine h l3 _ _ (xs ++ List.replicate (max 0 (12 + nb / 13 % 4 - (xs.length : Int))).toNat (xs.getD at_.toNat Str.empty)) s (.inl ((S.led (l3, _) (List.mem_cons_self ..)).2.2.2 rfl)) (S.atLed (List.mem_cons_self ..)) ?_ ⟨?_, ?_⟩ S.out
      · rw [Array.toList_append]
        refine hys.append' ?_
        exact strs_rep _ _ _
      · rw [List.length_append, List.length_replicate]; omega
      · intro y hy
        rcases List.mem_append.mp hy with q | q
        · exact ⟨by have := (ok2 y q).1; omega, (ok2 y q).2⟩
        · rw [(List.mem_replicate.mp q).2]; exact ⟨by omega, hmx.2⟩
    · walk_at "go"
      have edot : (Str.ofString ".").length = 1 := rfl
      refine l_new S (by simp) ?_; clear S; intro l1 s S _
      walk_at "go"
      refine l_lenS S (hS.mono S.base) (by omega) ?_; clear S; intro t s S
      walk_at "go"
      refine l_mul S (S.atLed (by walk_at "mm")) (by omega) (by omega) (by simp; omega) ?_; clear S; intro l2 s S _
      walk_at "go"
      rw [rep1] at S
      refine l_addL S (S.atBase hl) (S.atLed (by walk_at "mm")) (by simp; omega) ?_
      clear S; intro l3 s S hl3
      walk_at "go"
      refine h l3 _ _ (xs ++ List.replicate (max 0 (12 + nb / 13 % 4 - (xs.length : Int))).toNat (Str.ofString ".")) s (.inl ((S.led (l3, _) (List.mem_cons_self ..)).2.2.2 rfl)) (S.atLed (List.mem_cons_self ..)) ?_ ⟨?_, ?_⟩ S.out
      · rw [Array.toList_append]
        refine hys.append' ?_
        exact strs_rep _ _ _
      · rw [List.length_append, List.length_replicate]; omega
      · intro y hy
        rcases List.mem_append.mp hy with q | q
        · exact ⟨by have := (ok2 y q).1; omega, (ok2 y q).2⟩
        · rw [(List.mem_replicate.mp q).2]; exact ⟨by omega, show PyData.strOk _ = true by decide +kernel⟩
  walk_at "go"
  refine l_lenS S (hS.mono S.base) (by omega) ?_; clear S; intro t s S
  walk_at "go"
  refine i_eq (fun hp => ?_) (fun hp => ?_)
  · walk_at "go"
    exact h l ys ky xs _ (.inr rfl) (S.atBase hl) hys (rowsOk_mono ⟨ok1, ok2⟩ (by omega)) S.out
  have hlt : at_.toNat < xs.length := by omega
  have hmx := ok2 _ (getD_mem (d := Str.empty) hlt)
  walk_at "gu"
  refine l_atS (hS.mono S.base) ha0 (by omega) (by omega) (by rfl) ?_
  intro tx
  obtain ⟨hxl, hxo⟩ := hmx
  generalize xs.getD at_.toNat Str.empty = x at hxl hxo ⊢
  walk_at "gu"
  refine t_len S (by omega) ?_; clear S; intro t s S
  have hpp : 0 < (x.length : Int) + 1 := by omega
  walk_at "gu"
  have p0 := Int.emod_nonneg (nb / 17) (show (x.length : Int) + 1 ≠ 0 by omega)
  have p1 := Int.emod_lt_of_pos (nb / 17) hpp
  generalize nb / 17 % ((x.length : Int) + 1) = pl at p0 p1 S
  have sml : (Str.ofString " !\"#$&'()*+,-./0123456789:;<=>?@ABCDEFGHIJKLMNOPQRSTUVWXYZ[\\]^_`abcdefghijklmnopqrstuvwxyz{|}~\n\t").length ≤ 100 ∧ 0 < (Str.ofString " !\"#$&'()*+,-./0123456789:;<=>?@ABCDEFGHIJKLMNOPQRSTUVWXYZ[\\]^_`abcdefghijklmnopqrstuvwxyz{|}~\n\t").length := by decide +kernel
  have smo : okS (Str.ofString " !\"#$&'()*+,-./0123456789:;<=>?@ABCDEFGHIJKLMNOPQRSTUVWXYZ[\\]^_`abcdefghijklmnopqrstuvwxyz{|}~\n\t") := (show PyData.strOk _ = true by decide +kernel)
  generalize Str.ofString " !\"#$&'()*+,-./0123456789:;<=>?@ABCDEFGHIJKLMNOPQRSTUVWXYZ[\\]^_`abcdefghijklmnopqrstuvwxyz{|}~\n\t" = sm at sml smo S ⊢
  walk_at "gu"
  refine t_len S (by omega) ?_; clear S; intro t s S
  have hsp : 0 < (sm.length : Int) := by omega
  walk_at "gu"
  refine t_at S (Int.emod_nonneg _ (by omega)) (Int.emod_lt_of_pos _ hsp) (by omega) (by rfl) ?_; clear S; intro tg s S
  have sno : okS ⟨#[sm.cps.getD (nb / 29 % (sm.length : Int)).toNat 0]⟩ := by
    rw [okS_iff] at smo ⊢
    intro c hc
    have : c = sm.cps.getD (nb / 29 % (sm.length : Int)).toNat 0 := by simpa using hc
    rw [this]
    have q0 := Int.emod_nonneg (nb / 29) (show (sm.length : Int) ≠ 0 by omega)
    have q1 := Int.emod_lt_of_pos (nb / 29) hsp
    exact smo _ (agetD_mem (by show _ < sm.length; omega))
  have snl : (⟨#[sm.cps.getD (nb / 29 % (sm.length : Int)).toNat 0]⟩ : Str).length = 1 := rfl
  generalize (⟨#[sm.cps.getD (nb / 29 % (sm.length : Int)).toNat 0]⟩ : Str) = sn at sno snl ⊢
  have edot : (Str.ofString ".").length = 1 := rfl
  have hr := Int.emod_nonneg (nb / 13) (show (4 : Int) ≠ 0 by decide)
  have hr2 := Int.emod_lt_of_pos (nb / 13) (show (0 : Int) < 4 by decide)
  replace hxl : x.length ≤ m ∨ (kd ≤ 1 ∧ x.length ≤ 2 * m + 1) := .inl hxl
  walk_at "gu"
  refine x_cutS S (fun ρ Λ => (∃ x tx ta tp ts tg, ρ = [(Str.ofString "_law_script", some (.ref ls)), (Str.ofString "_law_rows_here", some (.ref l)), (Str.ofString "_law_kind", some (.int kd tk)), (Str.ofString "_law_number_here", some (.int nb tn)), (Str.ofString "_law_at", some (.int at_ ta)), (Str.ofString "_law_more", none), (Str.ofString "_law_row", some (.str x tx)), (Str.ofString "_law_place", some (.int pl tp)), (Str.ofString "_law_some", some (.str sm ts)), (Str.ofString "_law_sign", some (.str sn tg))] ∧ okS x ∧ (x.length ≤ m ∨ (kd ≤ 2 ∧ x.length ≤ 2 * m + 1))) ∧ Λ = []) ?_ ?_
  · intro Q' hQ
    walk_at "go"
    refine i_eq (fun hk => ?_) (fun hk => ?_)
    · have hxm : x.length ≤ m := by omega
      have z1 := PySem.Txt.slice_le x none (some pl)
      have z2 := PySem.Txt.slice_le x (some (pl + 1)) none
      have z3 := PySem.Txt.slice_le x (some pl) none
      walk_at "go"
      refine t_len S (by omega) ?_; clear S; intro t s S
      walk_at "go"
      have edot : (Str.ofString ".").length = 1 := rfl
      refine o_mulT S (by omega) (by rw [edot]; omega) (by omega) (show PyData.strOk _ = true by decide +kernel) ?_; clear S; intro yd t s ydl ydo S
      rw [edot] at ydl
      walk_at "go"
      refine o_addS S (by omega) ?_; clear S; intro t s S
      walk_at "go"
      exact hQ _ _ _ ⟨⟨_, _, _, _, _, _, rfl, okS_append hxo ydo, .inr ⟨by omega, by rw [len_app]; omega⟩⟩, rfl⟩ S
    · walk_at "go"
      exact hQ _ _ _ ⟨⟨_, _, _, _, _, _, rfl, hxo, by omega⟩, rfl⟩ S
  clear S hxo hxl
  rintro ρ' Λ' s ⟨⟨x, tx, ta, tp, ts, tg, rfl, hxo, hxl⟩, rfl⟩ S
  refine x_cutS S (fun ρ Λ => (∃ x tx ta tp ts tg, ρ = [(Str.ofString "_law_script", some (.ref ls)), (Str.ofString "_law_rows_here", some (.ref l)), (Str.ofString "_law_kind", some (.int kd tk)), (Str.ofString "_law_number_here", some (.int nb tn)), (Str.ofString "_law_at", some (.int at_ ta)), (Str.ofString "_law_more", none), (Str.ofString "_law_row", some (.str x tx)), (Str.ofString "_law_place", some (.int pl tp)), (Str.ofString "_law_some", some (.str sm ts)), (Str.ofString "_law_sign", some (.str sn tg))] ∧ okS x ∧ (x.length ≤ m ∨ (kd ≤ 3 ∧ x.length ≤ 2 * m + 1))) ∧ Λ = []) ?_ ?_
  · intro Q' hQ
    walk_at "go"
    refine i_eq (fun hk => ?_) (fun hk => ?_)
    · have hxm : x.length ≤ m := by omega
      have z1 := PySem.Txt.slice_le x none (some pl)
      have z2 := PySem.Txt.slice_le x (some (pl + 1)) none
      have z3 := PySem.Txt.slice_le x (some pl) none
      walk_at "go"
      refine sl_str S .none (.int _ _) (by omega) ?_; clear S; intro t s S
      walk_at "go"
      refine sl_str S (.int _ _) .none (by omega) ?_; clear S; intro t s S
      walk_at "go"
      refine o_addS S (by omega) ?_; clear S; intro t s S
      walk_at "go"
      exact hQ _ _ _ ⟨⟨_, _, _, _, _, _, rfl, okS_append (okS_slice hxo) (okS_slice hxo), .inr ⟨by omega, by rw [len_app]; omega⟩⟩, rfl⟩ S
    · walk_at "go"
      exact hQ _ _ _ ⟨⟨_, _, _, _, _, _, rfl, hxo, by omega⟩, rfl⟩ S
  clear S hxo hxl
  rintro ρ' Λ' s ⟨⟨x, tx, ta, tp, ts, tg, rfl, hxo, hxl⟩, rfl⟩ S
  refine x_cutS S (fun ρ Λ => (∃ x tx ta tp ts tg, ρ = [(Str.ofString "_law_script", some (.ref ls)), (Str.ofString "_law_rows_here", some (.ref l)), (Str.ofString "_law_kind", some (.int kd tk)), (Str.ofString "_law_number_here", some (.int nb tn)), (Str.ofString "_law_at", some (.int at_ ta)), (Str.ofString "_law_more", none), (Str.ofString "_law_row", some (.str x tx)), (Str.ofString "_law_place", some (.int pl tp)), (Str.ofString "_law_some", some (.str sm ts)), (Str.ofString "_law_sign", some (.str sn tg))] ∧ okS x ∧ (x.length ≤ m ∨ (kd ≤ 4 ∧ x.length ≤ 2 * m + 1))) ∧ Λ = []) ?_ ?_
  · intro Q' hQ
    walk_at "go"
    refine i_eq (fun hk => ?_) (fun hk => ?_)
    · have hxm : x.length ≤ m := by omega
      have z1 := PySem.Txt.slice_le x none (some pl)
      have z2 := PySem.Txt.slice_le x (some (pl + 1)) none
      have z3 := PySem.Txt.slice_le x (some pl) none
      walk_at "go"
      refine sl_str S .none (.int _ _) (by omega) ?_; clear S; intro t s S
      walk_at "go"
      refine o_addS S (by rw [edot]; omega) ?_; clear S; intro t s S
      walk_at "go"
      refine sl_str S (.int _ _) .none (by omega) ?_; clear S; intro t s S
      walk_at "go"
      refine o_addS S (by rw [len_app, edot]; omega) ?_; clear S; intro t s S
      walk_at "go"
      exact hQ _ _ _ ⟨⟨_, _, _, _, _, _, rfl, okS_append (okS_append (okS_slice hxo) (show PyData.strOk _ = true by decide +kernel)) (okS_slice hxo), .inr ⟨by omega, by rw [len_app, len_app, edot]; omega⟩⟩, rfl⟩ S
    · walk_at "go"
      exact hQ _ _ _ ⟨⟨_, _, _, _, _, _, rfl, hxo, by omega⟩, rfl⟩ S
  clear S hxo hxl
  rintro ρ' Λ' s ⟨⟨x, tx, ta, tp, ts, tg, rfl, hxo, hxl⟩, rfl⟩ S
  refine x_cutS S (fun ρ Λ => (∃ x tx ta tp ts tg, ρ = [(Str.ofString "_law_script", some (.ref ls)), (Str.ofString "_law_rows_here", some (.ref l)), (Str.ofString "_law_kind", some (.int kd tk)), (Str.ofString "_law_number_here", some (.int nb tn)), (Str.ofString "_law_at", some (.int at_ ta)), (Str.ofString "_law_more", none), (Str.ofString "_law_row", some (.str x tx)), (Str.ofString "_law_place", some (.int pl tp)), (Str.ofString "_law_some", some (.str sm ts)), (Str.ofString "_law_sign", some (.str sn tg))] ∧ okS x ∧ (x.length ≤ m ∨ x.length ≤ 2 * m + 1)) ∧ Λ = []) ?_ ?_
  · intro Q' hQ
    walk_at "go"
    refine i_dec (fun hk => ?_) (fun hk => ?_)
    · have hxm : x.length ≤ m := by omega
      have z1 := PySem.Txt.slice_le x none (some pl)
      have z2 := PySem.Txt.slice_le x (some (pl + 1)) none
      have z3 := PySem.Txt.slice_le x (some pl) none
      walk_at "go"
      refine sl_str S .none (.int _ _) (by omega) ?_; clear S; intro t s S
      walk_at "go"
      refine o_addS S (by omega) ?_; clear S; intro t s S
      walk_at "go"
      refine sl_str S (.int _ _) .none (by omega) ?_; clear S; intro t s S
      walk_at "go"
      refine o_addS S (by rw [len_app]; omega) ?_; clear S; intro t s S
      walk_at "go"
      exact hQ _ _ _ ⟨⟨_, _, _, _, _, _, rfl, okS_append (okS_append (okS_slice hxo) sno) (okS_slice hxo), .inr (by rw [len_app, len_app]; omega)⟩, rfl⟩ S
    · walk_at "go"
      exact hQ _ _ _ ⟨⟨_, _, _, _, _, _, rfl, hxo, by omega⟩, rfl⟩ S
  clear S hxo hxl
  rintro ρ' Λ' s ⟨⟨x, tx, ta, tp, ts, tg, rfl, hxo, hxl⟩, rfl⟩ S
  walk_at "go"
  refine sl_list S (S.atBase hl) .none (.int _ _) (by omega) ?_; clear S; intro l1 s S _
  walk_at "go"
  refine l_new S (by simp) ?_; clear S; intro l2 s S _
  walk_at "go"
  have ea : at_ = ((at_.toNat : Nat) : Int) := by omega
  have e1 : slicePick ys none (some at_) none = (ys.toList.take at_.toNat).toArray := by
    rw [ea]; exact slicePick_upto ys at_.toNat (by omega)
  have e2 : slicePick ys (some (at_ + 1)) none none = (ys.toList.drop (at_.toNat + 1)).toArray := by
    rw [show at_ + 1 = ((at_.toNat + 1 : Nat) : Int) by omega]; exact slicePick_from' ys (at_.toNat + 1)
  rw [e1] at S
  refine l_addL S (S.atLed (by walk_at "mm")) (S.atLed (by walk_at "mm")) (by simp; omega) ?_; clear S; intro l3 s S _
  walk_at "go"
  refine sl_list S (S.atBase hl) (.int _ _) .none (by omega) ?_; clear S; intro l4 s S _
  rw [e2] at S
  walk_at "go"
  refine l_addL S (S.atLed (by walk_at "mm")) (S.atLed (by walk_at "mm")) (by simp; omega) ?_; clear S; intro l5 s S _
  walk_at "go"
  refine h l5 _ _ (xs.take at_.toNat ++ [x] ++ xs.drop (at_.toNat + 1)) s (.inl ((S.led (l5, _) (List.mem_cons_self ..)).2.2.2 rfl)) (S.atLed (List.mem_cons_self ..)) ?_ ⟨?_, ?_⟩ S.out
  · simp only [Array.toList_append]
    exact ((hys.take' _).append' (.cons _ _ .nil)).append' (hys.drop' _)
  · simp only [List.length_append, List.length_take, List.length_drop, List.length_cons, List.length_nil]; omega
  · intro y hy
    rcases List.mem_append.mp hy with q | q
    · rcases List.mem_append.mp q with q | q
      · have := ok2 y (List.mem_of_mem_take q)
        exact ⟨by omega, this.2⟩
      · rw [List.mem_singleton.mp q]; exact ⟨by omega, hxo⟩
    · have := ok2 y (List.mem_of_mem_drop q)
      exact ⟨by omega, this.2⟩


theorem law_spec {w : World} {A : Around} {s : Shared} {R' : Result → Shared → Prop} {l : Addr} {ns : List Int} (hfr : A.frames = some []) (G : Gr (Fl.kH w.params) s.heap) (R : Room A 9) (hl : IntL s.heap l ns) (hn : ns.length ≤ 63)
    (h : ∀ s', Keeps s s' → R' (.ok (.ret (.bool true))) s') : codeAny (model PP w) A (.call (.ref 250) ⟨[.ref l], []⟩) R' s := by
  refine' callC [(Str.ofString "_law_script", some (.ref l)), (Str.ofString "_law_rows_here", none), (Str.ofString "_law_k", none), (Str.ofString "_law_handed", none)] G (by walk_at "room") ?z_ho ?z_hcd ?z_hbind ?z_hd ?z_hb1 ?z_hb2 ?z_hρ ?_
  walk_at "enter"
  intro L s S
  walk_at "go"
  refine rows_spec (S.gr G) (R.in_ (by omega)) (hl.mono S.base) hn ?_
  intro lr ys ky rows wd s' hD hD' hys g hk
  replace S := CS.adopt S hk hD hD'; clear hk hD hD'
  have hok : RowsOk rows 15 15 := ⟨by have := g.high; omega, fun x hx => ⟨by have := g.len x hx; have := g.wide; omega, grid_ok g x hx⟩⟩
  clear g
  walk_at "go"
  refine cell_at_spec (S.gr G) (R.in_ (by omega)) (hl.mono S.base) hn (by decide) ?_
  walk_at "kpt"
  walk_at "go"
  have r0 := Int.emod_nonneg (cellAt ns 2) (show (4 : Int) ≠ 0 by decide)
  have r1 := Int.emod_lt_of_pos (cellAt ns 2) (show (0 : Int) < 4 by decide)
  refine r_range S ?_; clear S; intro r t1 t2 t3 s hr' S
  refine itx_range S R.handled hr' (by omega) (by omega) ?_
  intro it s I
  refine loop_itx (fun i ρ Λ => ∃ a lr ys ky xs, ρ = [(Str.ofString "_law_script", some (.ref l)), (Str.ofString "_law_rows_here", some (.ref lr)), (Str.ofString "_law_k", a), (Str.ofString "_law_handed", none)] ∧ Λ = [(lr, lst ys ky)] ∧ StrsAre ys.toList xs ∧ RowsOk xs 15 (16 * 2 ^ i - 1)) I ⟨_, _, _, _, _, rfl, rfl, hys, hok⟩ ?_ ?_
  · rintro i v ρ₁ Λ₁ hi1 ⟨tr, rfl⟩ ⟨a, lr, ys, ky, xs, rfl, rfl, hys, hok⟩
    refine ⟨_, .tail (.tail .head), ?_⟩
    have hi3 : i < 3 := by omega
    walk_at "turn"
    walk_at "go"
    refine cell_at_spec (S.gr G) (R.in_ (by omega)) (hl.mono (k.trans S.base)) hn (by omega) ?_
    walk_at "kpt"
    walk_at "go"
    refine cell_at_spec (S.gr G) (R.in_ (by omega)) (hl.mono (k.trans S.base)) hn (by omega) ?_
    walk_at "kpt"
    walk_at "go"
    have hpw : 1 ≤ 2 ^ i ∧ 2 ^ i ≤ 4 := by
      have : i = 0 ∨ i = 1 ∨ i = 2 := by omega
      rcases this with rfl | rfl | rfl <;> decide
    refine faulty_spec (S.gr G) (R.in_ (by omega)) (S.atLed (by walk_at "mm")) hys hok (by omega) (by omega) ?_
    intro D ys' k' xs' s' hD hD' hys' hok' hk
    have e : 2 * (16 * 2 ^ i - 1) + 1 = 16 * 2 ^ (i + 1) - 1 := by rw [Nat.pow_succ]; omega
    rw [e] at hok'
    rcases hD with hD | rfl
    · replace S := CS.adopt S hk hD hD'; clear hk hD hD'
      walk_at "go"
      exact hNx _ _ _ _ (Sub.refl _) S.one ⟨_, _, _, _, _, rfl, rfl, hys', hok'⟩
    · replace S := CS.keeps S hk; clear hk
      have q := S.atLed (List.mem_cons_self ..)
      rw [hD'] at q
      cases q
      walk_at "go"
      exact hNx _ _ _ _ (Sub.refl _) S ⟨_, _, _, _, _, rfl, rfl, hys', hok'⟩
  clear I hys hok
  rintro ρ' Λ' s ⟨a, lr, ys, ky, xs, rfl, rfl, hys, hok⟩ S
  have hnn : (cellAt ns 2 % 4).toNat ≤ 3 := by omega
  have hok2 : RowsOk xs 15 127 := by
    refine rowsOk_mono hok ?_
    have : (cellAt ns 2 % 4).toNat = 0 ∨ (cellAt ns 2 % 4).toNat = 1 ∨ (cellAt ns 2 % 4).toNat = 2 ∨ (cellAt ns 2 % 4).toNat = 3 := by omega
    rcases this with e | e | e | e <;> rw [e] <;> decide
  have hsz : ys.size = xs.length := by rw [← hys.length, Array.length_toList]
  have ok1 := hok2.1
  have bd : BoundS xs := ⟨by omega, fun x hx => by have := (hok2.2 x hx).1; omega⟩
  have hoks : ∀ x ∈ xs, okS x := fun x hx => (hok2.2 x hx).2
  walk_at "go"
  refine l_copy S (S.atLed (by walk_at "mm")) rfl rfl (by omega) ?_; clear S; intro lh c s S _
  walk_at "go"
  obtain ⟨h₁, k₁, hlh, S₁⟩ := S.freeze
  obtain ⟨h₂, k₂, hlr, S₂⟩ := S₁.freeze
  clear S S₁
  have hH : StrL h₂ lh xs := StrL.of (k₂ _ _ hlh) hys
  have hR : StrL h₂ lr xs := StrL.of hlr hys
  obtain ⟨B', Λ₀, kB, S', cov⟩ := S₂.cov (fun _ h => nomatch h)
  have kk : Sub _ B' := (k₁.trans k₂).trans kB
  refine told_spec (G.mono kk) (R.in_ (by omega)) (hH.mono kB) bd hoks cov ((Stk.nil hfr S'.base).deeper S' (Sub.refl _) rfl) ?_
  intro t s' ld
  obtain ⟨Λ', x', S⟩ := S'.land (fun _ h => nomatch h) ld
  cases x'
  replace G := G.mono kk
  walk_at "go"
  refine ldue_spec (S.gr G) (R.in_ (by omega)) (hR.mono (kB.trans S.base)) bd ?_
  walk_at "kpt"
  walk_at "go"
  rw [beq_self_eq_true]
  walk_at "go"
  refine l_eqS (hH.mono (kB.trans S.base)) (hR.mono (kB.trans S.base)) hoks hoks (by walk_at "room") ?_
  rw [decide_eq_true rfl]
  walk_at "go"
  exact h _ (S.outs kk)

end Fl
open PySem PySem.W PyProof.Rows
theorem PySem.Challenge.cw_uf030040_03_holds : PySem.Challenge.rw_uf030040_03.Holds := by
  refine Fl.hd ?_
  k_fill
  intro w s₀ s₁ mg mb G Y fa o pm cd doc dV kV ho hd hcd hD hmg hg args vals as hpre hlay hrd hwl hlo
  have KX := kIn_of Y
  refine Ground.open G ?_
  intro T B D TE TW
  wrow_args hpre hlay hrd hwl hlo
  refine enter_call ?_
  refine codeAny_mono ?_ (fun _ _ g => GoodW.toG g)
  have e := mg_of KX T.g (show nsIn (Fl.kH w.params) mainGlobals (Str.ofString "law") = some (some (.ref 250)) by kernel_rfl)
  have hfa : fa = 250 := by
    have := Option.some.inj (hmg.symm.trans e)
    cases this; rfl
  subst hfa
  refine Fl.law_spec rfl (Fl.Gr.of KX T) ⟨by decide, by decide, rfl⟩ ⟨_, by assumption, by assumption⟩ (by omega) ?_
  intro s' hk
  obtain ⟨h', tk, rfl, hk'⟩ := hk
  exact ⟨.inl ⟨.bool true, .bool true, [], rfl, fun _ => rfl, .bool _, by kernel_rfl, fun _ => ⟨List.nodup_nil, fun _ h => nomatch h⟩⟩, hk', rfl, hg⟩
