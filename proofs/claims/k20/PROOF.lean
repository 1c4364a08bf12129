import PyProof.Rows.All
import Wide.All
import OpenK.AllK
import Wide.FinOn
import HandS.ForMost
import HandS.Evl
import HandS.Walk
import HandS.IsInst
import HandS.TupAny
import HandS.Conv
import HandS.SortInts
import HandS.SortRule
import HandS.Flow
import KE.GoesEnum
import PySem.Challenge.RW_ringbeats_k20_whole_least_rings
set_option Elab.async false
set_option linter.all false
set_option maxRecDepth 100000
/-! part RbLay -/
/-! a data layer over HandS: slots hold data; what a piece evaluates to is said of the data alone -/
namespace Rb
open PySem PySem.Spec PyProof.Rows L2
open Evl (Ex)

/-! ### a value that represents data, in the known heap -/
mutual
inductive Rp (G : Hp) : V → PyData → Prop
  | non : Rp G .non .none
  | bl (b : Bool) : Rp G (.bl b) (.bool b)
  | int (i : Int) : Rp G (.int i) (.int i)
  | lst {a : Addr} {xs : List V} {ds : List PyData} : G a = some (.lst xs) → RpAll G xs ds → Rp G (.ref a) (.list ds)
  | tup {a : Addr} {xs : List V} {ds : List PyData} : G a = some (.tup xs) → RpAll G xs ds → Rp G (.ref a) (.tuple ds)
inductive RpAll (G : Hp) : List V → List PyData → Prop
  | nil : RpAll G [] []
  | cons {v : V} {vs : List V} {d : PyData} {ds : List PyData} : Rp G v d → RpAll G vs ds → RpAll G (v :: vs) (d :: ds)
end
mutual
theorem Rp.mono {G G' : Hp} (e : Ex G G') : ∀ (d : PyData) (v : V), Rp G v d → Rp G' v d
  | .none, _, h => by
    cases h
    exact .non
  | .bool b, _, h => by
    cases h
    exact .bl b
  | .int i, _, h => by
    cases h
    exact .int i
  | .str x, _, h => by cases h
  | .list ds, _, h => by
    cases h with
    | lst h1 h2 => exact .lst (e _ _ h1) (RpAll.mono e ds _ h2)
  | .tuple ds, _, h => by
    cases h with
    | tup h1 h2 => exact .tup (e _ _ h1) (RpAll.mono e ds _ h2)
  | .dict _, _, h => by cases h
theorem RpAll.mono {G G' : Hp} (e : Ex G G') : ∀ (ds : List PyData) (vs : List V), RpAll G vs ds → RpAll G' vs ds
  | [], _, h => by
    cases h
    exact .nil
  | d :: ds, _, h => by
    cases h with
    | cons h1 h2 => exact .cons (Rp.mono e d _ h1) (RpAll.mono e ds _ h2)
end
mutual
theorem Rp.dp {K : PySem.W.Frag} {G : Hp} : ∀ (d : PyData) (v : V), Rp G v d → Dp K G v d
  | .none, _, h => by
    cases h
    exact .non
  | .bool b, _, h => by
    cases h
    exact .bl b
  | .int i, _, h => by
    cases h
    exact .int i
  | .str x, _, h => by cases h
  | .list ds, _, h => by
    cases h with
    | lst h1 h2 => exact .lst (.inl (.inl h1)) (RpAll.dp ds _ h2)
  | .tuple ds, _, h => by
    cases h with
    | tup h1 h2 => exact .tup (.inl (.inl h1)) (RpAll.dp ds _ h2)
  | .dict _, _, h => by cases h
theorem RpAll.dp {K : PySem.W.Frag} {G : Hp} : ∀ (ds : List PyData) (vs : List V), RpAll G vs ds → DpAll K G vs ds
  | [], _, h => by
    cases h
    exact .nil
  | d :: ds, _, h => by
    cases h with
    | cons h1 h2 => exact .cons (Rp.dp d _ h1) (RpAll.dp ds _ h2)
end
section
variable {G G' H H' : Hp}
theorem RpAll.length : ∀ {vs : List V} {ds : List PyData}, RpAll G vs ds → vs.length = ds.length
  | _, _, .nil => rfl
  | _, _, .cons _ h => by rw [List.length_cons, List.length_cons, RpAll.length h]
theorem RpAll.get : ∀ {vs : List V} {ds : List PyData} {i : Nat} {d : PyData}, RpAll G vs ds → ds[i]? = some d → ∃ v, vs[i]? = some v ∧ Rp G v d
  | _, _, _, _, .nil, e => by simp at e
  | _, _, 0, _, .cons h _, e => by
    have e' := Option.some.inj e
    subst e'
    exact ⟨_, rfl, h⟩
  | _, _, i + 1, d, .cons _ h, e => by
    obtain ⟨v, h1, h2⟩ := RpAll.get (i := i) (d := d) h (by simpa using e)
    exact ⟨v, by simpa using h1, h2⟩
theorem RpAll.getv : ∀ {vs : List V} {ds : List PyData} {i : Nat} {v : V}, RpAll G vs ds → vs[i]? = some v → ∃ d, ds[i]? = some d ∧ Rp G v d
  | _, _, _, _, .nil, e => by simp at e
  | _, _, 0, _, .cons h _, e => by
    have e' := Option.some.inj e
    subst e'
    exact ⟨_, rfl, h⟩
  | _, _, i + 1, d, .cons _ h, e => by
    obtain ⟨v, h1, h2⟩ := RpAll.getv (i := i) (v := d) h (by simpa using e)
    exact ⟨v, by simpa using h1, h2⟩
theorem RpAll.append : ∀ {vs ws : List V} {ds es : List PyData}, RpAll G vs ds → RpAll G ws es → RpAll G (vs ++ ws) (ds ++ es)
  | _, _, _, _, .nil, h => h
  | _, _, _, _, .cons h1 h2, h => .cons h1 (RpAll.append h2 h)
theorem RpAll.one {v : V} {d : PyData} (h : Rp G v d) : RpAll G [v] [d] := .cons h .nil
theorem RpAll.drop : ∀ {vs : List V} {ds : List PyData} (n : Nat), RpAll G vs ds → RpAll G (vs.drop n) (ds.drop n)
  | _, _, 0, h => h
  | _, _, _ + 1, .nil => .nil
  | _, _, n + 1, .cons _ h => RpAll.drop n h
theorem RpAll.take : ∀ {vs : List V} {ds : List PyData} (n : Nat), RpAll G vs ds → RpAll G (vs.take n) (ds.take n)
  | _, _, 0, _ => .nil
  | _, _, _ + 1, .nil => .nil
  | _, _, n + 1, .cons h1 h => .cons h1 (RpAll.take n h)
theorem RpAll.erase : ∀ {vs : List V} {ds : List PyData} (n : Nat), RpAll G vs ds → RpAll G (vs.eraseIdx n) (ds.eraseIdx n)
  | _, _, _, .nil => .nil
  | _, _, 0, .cons _ h => h
  | _, _, n + 1, .cons h1 h => .cons h1 (RpAll.erase n h)
theorem RpAll.ints : ∀ {vs : List V} {ns : List Int}, RpAll G vs (ns.map PyData.int) → vs = ns.map V.int
  | _, [], h => by
    cases h
    rfl
  | _, n :: ns, h => by
    cases h with
    | cons h1 h2 =>
      cases h1
      rw [RpAll.ints h2]
      rfl
theorem RpAll.of_ints : ∀ (ns : List Int), RpAll G (ns.map V.int) (ns.map PyData.int)
  | [] => .nil
  | n :: ns => .cons (.int n) (RpAll.of_ints ns)
theorem RpAll.bls : ∀ {vs : List V} {bs : List Bool}, RpAll G vs (bs.map PyData.bool) → vs = bs.map V.bl
  | _, [], h => by
    cases h
    rfl
  | _, n :: ns, h => by
    cases h with
    | cons h1 h2 =>
      cases h1
      rw [RpAll.bls h2]
      rfl
theorem Rp.int_inv {v : V} {i : Int} (h : Rp G v (.int i)) : v = .int i := by
  cases h
  rfl
theorem Rp.bl_inv {v : V} {b : Bool} (h : Rp G v (.bool b)) : v = .bl b := by
  cases h
  rfl
theorem Rp.non_inv {v : V} (h : Rp G v .none) : v = .non := by
  cases h
  rfl
end

/-! ### how the known and the whole heap go on -/
structure Go (G H G' H' : Hp) : Prop where
  h : Ex H H'
  g : Ex G G'
  k : Ex G' H'
  n : ∀ b, G' b ≠ none → G b ≠ none ∨ H b = none
theorem Ex.live {G H : Hp} (e : Ex G H) {b : Addr} (h : G b ≠ none) : H b ≠ none := fun z => by
  cases q : G b with
  | none => exact h q
  | some o =>
    rw [e b o q] at z
    cases z
theorem Go.refl {G H : Hp} (k : Ex G H) : Go G H G H := ⟨Ex.refl H, Ex.refl G, k, fun b h => .inl h⟩
theorem Go.trans {G H G1 H1 G2 H2 : Hp} (a : Go G H G1 H1) (b : Go G1 H1 G2 H2) : Go G H G2 H2 where
  h := a.h.trans b.h
  g := a.g.trans b.g
  k := b.k
  n := fun c hc => by
    rcases b.n c hc with h | h
    · exact a.n c h
    · right
      cases q : H c with
      | none => rfl
      | some o =>
        rw [a.h c o q] at h
        cases h
/-- a new object that is known -/
theorem Go.new {G H : Hp} {p : Addr} {o : HO} (k : Ex G H) (hp : H p = none) : Go G H (upd G p o) (upd H p o) where
  h := Ex.new hp
  g := Ex.new (Evl.fresh_back k hp)
  k := fun b u e => by
    by_cases hb : b = p
    · subst hb
      rw [upd_same] at e ⊢
      exact e
    · rw [upd_ne hb] at e ⊢
      exact k b u e
  n := fun b hb => by
    by_cases e : b = p
    · subst e
      exact .inr hp
    · rw [upd_ne e] at hb
      exact .inl hb
/-- a new object that is not known (it may change) -/
theorem Go.hid {G H : Hp} {p : Addr} {o : HO} (k : Ex G H) (hp : H p = none) : Go G H G (upd H p o) where
  h := Ex.new hp
  g := Ex.refl G
  k := Evl.Ex.mut k (Evl.fresh_back k hp)
  n := fun _ h => .inl h
/-- an object that is not known changes -/
theorem Go.mut {G0 H0 G H : Hp} {p : Addr} {o : HO} (a : Go G0 H0 G H) (h0 : H0 p = none) (hg : G p = none) : Go G0 H0 G (upd H p o) where
  h := Evl.Ex.mut a.h h0
  g := a.g
  k := Evl.Ex.mut a.k hg
  n := a.n
/-- an object becomes known -/
theorem Go.seal {G0 H0 G H : Hp} {p : Addr} {o : HO} (a : Go G0 H0 G H) (h0 : H0 p = none) (hp : H p = some o) (hg : G p = none) : Go G0 H0 (upd G p o) H where
  h := a.h
  g := a.g.trans (Ex.new hg)
  k := fun b u e => by
    by_cases hb : b = p
    · subst hb
      rw [upd_same] at e
      rw [hp]
      exact e
    · rw [upd_ne hb] at e
      exact a.k b u e
  n := fun b hb => by
    by_cases e : b = p
    · subst e
      exact .inr h0
    · rw [upd_ne e] at hb
      exact a.n b hb

/-! ### slots -/
inductive Sl where
  | un
  | dat (d : PyData)
  | lst (ds : List PyData)
  | rws (rs : List (List Int))
  | dic (kvs : List (Int × Int))
  | lsA (p : Addr) (ds : List PyData)
  | stm (p : Addr)
def RwAt (H : Hp) (q : Addr) (r : List Int) : Prop := H q = some (.lst (r.map V.int))
inductive RwsAt (H : Hp) : List Addr → List (List Int) → Prop
  | nil : RwsAt H [] []
  | cons {q : Addr} {qs : List Addr} {r : List Int} {rs : List (List Int)} : RwAt H q r → RwsAt H qs rs → RwsAt H (q :: qs) (r :: rs)
def StmAt (G H : Hp) (p : Addr) : Prop := ∃ (l : Addr) (c k : Int) (ns : List Int), H p = some (.lst [.ref l, .int c, .int k]) ∧ 0 ≤ k ∧ G l = some (.lst (ns.map V.int))
def slotOk (G H : Hp) : Sl → Option V → List Addr → Prop
  | .un, _, o => o = []
  | .dat d, s, o => o = [] ∧ ∃ v, s = some v ∧ Rp G v d
  | .lst ds, s, o => ∃ p vs, s = some (.ref p) ∧ o = [p] ∧ H p = some (.lst vs) ∧ RpAll G vs ds
  | .rws rs, s, o => ∃ p ps, s = some (.ref p) ∧ o = ps ∧ G p = some (.lst (ps.map V.ref)) ∧ RwsAt H ps rs
  | .dic kvs, s, o => ∃ p, s = some (.ref p) ∧ o = [p] ∧ H p = some (.dK (kvs.map fun e => (Sum.inl e.1, V.int e.2)))
  | .lsA p ds, s, o => s = some (.ref p) ∧ o = [p] ∧ ∃ vs, H p = some (.lst vs) ∧ RpAll G vs ds
  | .stm p, s, o => s = some (.ref p) ∧ o = [p] ∧ StmAt G H p
inductive Env (G H : Hp) : L2.St → List Sl → List (List Addr) → Prop
  | nil : Env G H [] [] []
  | cons {s : Option V} {σ : L2.St} {t : Sl} {τ : List Sl} {o : List Addr} {os : List (List Addr)} : slotOk G H t s o → Env G H σ τ os → Env G H (s :: σ) (t :: τ) (o :: os)
structure En (G H : Hp) (σ : L2.St) (τ : List Sl) (ows : List (List Addr)) : Prop where
  env : Env G H σ τ ows
  nd : ows.flatten.Nodup
  ext : Ex G H
  free : ∀ a ∈ ows.flatten, G a = none

section
variable {G H G' H' : Hp} {σ : L2.St} {τ : List Sl} {ows : List (List Addr)}
theorem RwsAt.mono {H H' : Hp} : ∀ {ps : List Addr} {rs : List (List Int)}, RwsAt H ps rs → (∀ a ∈ ps, H' a = H a) → RwsAt H' ps rs
  | _, _, .nil, _ => .nil
  | _, _, .cons h t, e => .cons (by
      unfold RwAt
      rw [e _ List.mem_cons_self]
      exact h) (RwsAt.mono t fun a ha => e a (List.mem_cons_of_mem _ ha))
theorem RwsAt.live {H : Hp} : ∀ {ps : List Addr} {rs : List (List Int)}, RwsAt H ps rs → ∀ a ∈ ps, H a ≠ none
  | _, _, .nil, a, h => by cases h
  | _, _, .cons (q := q) h t, a, ha => by
    rcases List.mem_cons.mp ha with e | e
    · rw [e]
      unfold RwAt at h
      rw [h]
      exact fun z => nomatch z
    · exact RwsAt.live t a e
theorem ex_same {H H' : Hp} (e : Ex H H') {a : Addr} (h : H a ≠ none) : H' a = H a := by
  cases q : H a with
  | none => exact absurd q h
  | some o => exact e a o q
theorem slotOk.live {t : Sl} {s : Option V} {o : List Addr} (h : slotOk G H t s o) : ∀ a ∈ o, H a ≠ none := by
  cases t with
  | un =>
    have e : o = [] := h
    rw [e]
    intro a ha
    cases ha
  | dat d =>
    obtain ⟨e, _⟩ := h
    rw [e]
    intro a ha
    cases ha
  | lst ds =>
    obtain ⟨p, vs, _, e, h1, _⟩ := h
    rw [e]
    intro a ha
    rw [List.mem_singleton.mp ha, h1]
    exact fun z => nomatch z
  | rws rs =>
    obtain ⟨p, ps, _, e, h1, h2⟩ := h
    rw [e]
    exact h2.live
  | dic kvs =>
    obtain ⟨p, _, e, h1⟩ := h
    rw [e]
    intro a ha
    rw [List.mem_singleton.mp ha, h1]
    exact fun z => nomatch z
  | lsA p ds =>
    obtain ⟨_, e, vs, h1, _⟩ := h
    rw [e]
    intro a ha
    rw [List.mem_singleton.mp ha, h1]
    exact fun z => nomatch z
  | stm p =>
    obtain ⟨_, e, l, c, k, ns, h1, _⟩ := h
    rw [e]
    intro a ha
    rw [List.mem_singleton.mp ha, h1]
    exact fun z => nomatch z
/-- what a slot leans on: the known heap, and its own objects -/
theorem slotOk.mono {t : Sl} {s : Option V} {o : List Addr} (h : slotOk G H t s o) (g : Ex G G') (e : ∀ a ∈ o, H' a = H a) : slotOk G' H' t s o := by
  cases t with
  | un => exact h
  | dat d =>
    obtain ⟨e, v, h1, h2⟩ := h
    exact ⟨e, v, h1, Rp.mono g _ _ h2⟩
  | lst ds =>
    obtain ⟨p, vs, h1, h2, h3, h4⟩ := h
    refine ⟨p, vs, h1, h2, ?_, RpAll.mono g _ _ h4⟩
    rw [e p (by rw [h2]; exact List.mem_singleton.mpr rfl)]
    exact h3
  | rws rs =>
    obtain ⟨p, ps, h1, h2, h3, h4⟩ := h
    exact ⟨p, ps, h1, h2, g _ _ h3, h4.mono fun a ha => e a (by rw [h2]; exact ha)⟩
  | dic kvs =>
    obtain ⟨p, h1, h2, h3⟩ := h
    refine ⟨p, h1, h2, ?_⟩
    rw [e p (by rw [h2]; exact List.mem_singleton.mpr rfl)]
    exact h3
  | lsA p ds =>
    obtain ⟨h1, h2, vs, h3, h4⟩ := h
    refine ⟨h1, h2, vs, ?_, RpAll.mono g _ _ h4⟩
    rw [e p (by rw [h2]; exact List.mem_singleton.mpr rfl)]
    exact h3
  | stm p =>
    obtain ⟨h1, h2, l, c, k, ns, h3, h4, h5⟩ := h
    refine ⟨h1, h2, l, c, k, ns, ?_, h4, g _ _ h5⟩
    rw [e p (by rw [h2]; exact List.mem_singleton.mpr rfl)]
    exact h3
theorem Env.mono : ∀ {σ : L2.St} {τ : List Sl} {ows : List (List Addr)}, Env G H σ τ ows → Ex G G' → (∀ a ∈ ows.flatten, H' a = H a) → Env G' H' σ τ ows
  | _, _, _, .nil, _, _ => .nil
  | _, _, _, .cons h t, g, e => .cons (h.mono g fun a ha => e a (by
      rw [List.flatten_cons]
      exact List.mem_append_left _ ha)) (Env.mono t g fun a ha => e a (by
      rw [List.flatten_cons]
      exact List.mem_append_right _ ha))
theorem Env.live : ∀ {σ : L2.St} {τ : List Sl} {ows : List (List Addr)}, Env G H σ τ ows → ∀ a ∈ ows.flatten, H a ≠ none
  | _, _, _, .nil, a, h => by cases h
  | _, _, _, .cons h t, a, ha => by
    rw [List.flatten_cons] at ha
    rcases List.mem_append.mp ha with h1 | h1
    · exact h.live a h1
    · exact Env.live t a h1
theorem Env.get : ∀ {σ : L2.St} {τ : List Sl} {ows : List (List Addr)} {i : Nat} {t : Sl}, Env G H σ τ ows → τ[i]? = some t → ∃ s o, σ[i]? = some s ∧ ows[i]? = some o ∧ slotOk G H t s o
  | _, _, _, _, _, .nil, e => by simp at e
  | _, _, _, 0, _, .cons h _, e => by
    have e' := Option.some.inj e
    subst e'
    exact ⟨_, _, rfl, rfl, h⟩
  | _, _, _, i + 1, t, .cons _ h, e => by
    obtain ⟨s, o, h1, h2, h3⟩ := Env.get (i := i) (t := t) h (by simpa using e)
    exact ⟨s, o, by simpa using h1, by simpa using h2, h3⟩
theorem Env.len : ∀ {σ : L2.St} {τ : List Sl} {ows : List (List Addr)}, Env G H σ τ ows → σ.length = τ.length ∧ ows.length = τ.length
  | _, _, _, .nil => ⟨rfl, rfl⟩
  | _, _, _, .cons _ t => by
    obtain ⟨h1, h2⟩ := Env.len t
    rw [List.length_cons, List.length_cons, List.length_cons, h1, h2]
    exact ⟨rfl, rfl⟩
theorem Env.set : ∀ {σ : L2.St} {τ : List Sl} {ows : List (List Addr)} {t : Sl} {s : Option V} {o : List Addr} (i : Nat), Env G H σ τ ows → slotOk G H t s o → Env G H (σ.set i s) (τ.set i t) (ows.set i o)
  | _, _, _, _, _, _, _, .nil, _ => .nil
  | _, _, _, _, _, _, 0, .cons _ r, h => .cons h r
  | _, _, _, _, _, _, i + 1, .cons h' r, h => .cons h' (Env.set i r h)
end
theorem flat_set_sub {α : Type} : ∀ (l : List (List α)) (i : Nat) (o : List α) (a : α), a ∈ (l.set i o).flatten → a ∈ o ∨ a ∈ l.flatten
  | [], _, _, _, h => by cases h
  | x :: l, 0, o, a, h => by
    rw [List.set_cons_zero, List.flatten_cons] at h
    rcases List.mem_append.mp h with h | h
    · exact .inl h
    · exact .inr (by
        rw [List.flatten_cons]
        exact List.mem_append_right _ h)
  | x :: l, i + 1, o, a, h => by
    rw [List.set_cons_succ, List.flatten_cons] at h
    rcases List.mem_append.mp h with h | h
    · exact .inr (by
        rw [List.flatten_cons]
        exact List.mem_append_left _ h)
    · rcases flat_set_sub l i o a h with h | h
      · exact .inl h
      · exact .inr (by
          rw [List.flatten_cons]
          exact List.mem_append_right _ h)
theorem flat_set_nd {α : Type} : ∀ (l : List (List α)) (i : Nat) (o : List α), l.flatten.Nodup → o.Nodup → (∀ a ∈ o, a ∉ l.flatten) → (l.set i o).flatten.Nodup
  | [], _, _, h, _, _ => h
  | x :: l, 0, o, h, ho, hd => by
    rw [List.set_cons_zero, List.flatten_cons]
    rw [List.flatten_cons] at h hd
    obtain ⟨_, h2, _⟩ := List.nodup_append.mp h
    exact List.nodup_append.mpr ⟨ho, h2, fun a ha b hb e => hd a ha (List.mem_append_right _ (e ▸ hb))⟩
  | x :: l, i + 1, o, h, ho, hd => by
    rw [List.set_cons_succ, List.flatten_cons]
    rw [List.flatten_cons] at h hd
    obtain ⟨h1, h2, h3⟩ := List.nodup_append.mp h
    refine List.nodup_append.mpr ⟨h1, flat_set_nd l i o h2 ho fun a ha hb => hd a ha (List.mem_append_right _ hb), fun a ha b hb e => ?_⟩
    rcases flat_set_sub l i o b hb with q | q
    · exact hd b q (List.mem_append_left _ (e ▸ ha))
    · exact h3 a ha b q e
theorem flat_set_empty {α : Type} (l : List (List α)) (i : Nat) (h : l.flatten.Nodup) : (l.set i []).flatten.Nodup := flat_set_nd l i [] h List.nodup_nil fun a ha => by cases ha
theorem flat_get {α : Type} {l : List (List α)} {i : Nat} {o : List α} (h : l[i]? = some o) {a : α} (ha : a ∈ o) : a ∈ l.flatten := List.mem_flatten.mpr ⟨o, List.mem_of_getElem? h, ha⟩
/-- where an owner is taken out its members do not stay -/
theorem flat_set_out {α : Type} : ∀ (l : List (List α)) (i : Nat) (o : List α), l.flatten.Nodup → l[i]? = some o → ∀ a ∈ o, a ∉ (l.set i []).flatten
  | [], _, _, _, h, _, _ => by simp at h
  | x :: l, 0, o, hn, h, a, ha => by
    have e : x = o := Option.some.inj h
    subst e
    rw [List.set_cons_zero, List.flatten_cons, List.nil_append]
    rw [List.flatten_cons] at hn
    obtain ⟨_, _, h3⟩ := List.nodup_append.mp hn
    exact fun hb => h3 a ha a hb rfl
  | x :: l, i + 1, o, hn, h, a, ha => by
    rw [List.set_cons_succ, List.flatten_cons]
    rw [List.flatten_cons] at hn
    obtain ⟨h1, h2, h3⟩ := List.nodup_append.mp hn
    intro hb
    rcases List.mem_append.mp hb with q | q
    · exact h3 a q a (flat_get (by simpa using h) ha) rfl
    · exact flat_set_out l i o h2 (by simpa using h) a ha q

section
variable {G H G' H' G0 H0 : Hp} {σ : L2.St} {τ : List Sl} {ows : List (List Addr)}
theorem En.go (e : En G H σ τ ows) (g : Go G H G' H') : En G' H' σ τ ows where
  env := e.env.mono g.g fun a ha => ex_same g.h (e.env.live a ha)
  nd := e.nd
  ext := g.k
  free := fun a ha => by
    cases q : G' a with
    | none => rfl
    | some o =>
      rcases g.n a (by rw [q]; exact fun z => nomatch z) with h | h
      · exact absurd (e.free a ha) h
      · exact absurd h (e.env.live a ha)
theorem En.set {d : PyData} {v : V} (e : En G H σ τ ows) (i : Nat) (h : Rp G v d) : En G H (σ.set i (some v)) (τ.set i (.dat d)) (ows.set i []) where
  env := e.env.set i ⟨rfl, v, rfl, h⟩
  nd := flat_set_empty _ _ e.nd
  ext := e.ext
  free := fun a ha => by
    rcases flat_set_sub _ _ _ _ ha with h | h
    · cases h
    · exact e.free a h
theorem En.wipe1 (e : En G H σ τ ows) (i : Nat) : En G H (σ.set i none) (τ.set i .un) (ows.set i []) where
  env := e.env.set i rfl
  nd := flat_set_empty _ _ e.nd
  ext := e.ext
  free := fun a ha => by
    rcases flat_set_sub _ _ _ _ ha with h | h
    · cases h
    · exact e.free a h
/-- the slots of a comprehension's own names forgotten -/
def wipeT (τ : List Sl) : List Nat → List Sl
  | [] => τ
  | v :: vs => (wipeT τ vs).set v .un
theorem En.wipe (e : En G H σ τ ows) : ∀ vs : List Nat, ∃ ows', En G H (L2.wipe σ vs) (wipeT τ vs) ows'
  | [] => ⟨ows, e⟩
  | v :: vs => by
    obtain ⟨o, h⟩ := En.wipe e vs
    exact ⟨_, h.wipe1 v⟩

/-! ### what a piece evaluates to -/
def EvD (te : TE) (τ : List Sl) (d : PyData) : Prop := ∀ (G H : Hp) (σ : L2.St) (ows : List (List Addr)), En G H σ τ ows → ∀ Q : VK, (∀ v G' H', Go G H G' H' → Rp G' v d → Q v H') → te σ H Q
def EvT (tt : TT) (τ : List Sl) (b : Bool) : Prop := ∀ (G H : Hp) (σ : L2.St) (ows : List (List Addr)), En G H σ τ ows → ∀ Q : Bool → Hp → Prop, (∀ G' H', Go G H G' H' → Q b H') → tt σ H Q
def EvA (ta : TA) (τ : List Sl) (ds : List PyData) : Prop := ∀ (G H : Hp) (σ : L2.St) (ows : List (List Addr)), En G H σ τ ows → ∀ Q : List V → Hp → Prop, (∀ vs G' H', Go G H G' H' → RpAll G' vs ds → Q vs H') → ta σ H Q
def EvO (to : TO) (τ : List Sl) (o : Option Int) : Prop := ∀ (G H : Hp) (σ : L2.St) (ows : List (List Addr)), En G H σ τ ows → ∀ Q : Option Int → Hp → Prop, (∀ G' H', Go G H G' H' → Q o H') → to σ H Q
/-- an operation on values: of data -/
def RD (r : R2) (d1 d2 d : PyData) : Prop := ∀ (G H : Hp) (v1 v2 : V), Ex G H → Rp G v1 d1 → Rp G v2 d2 → ∀ Q : VK, (∀ v G' H', Go G H G' H' → Rp G' v d → Q v H') → r v1 v2 H Q
def RC (r : List V → Hp → VK → Prop) (ds : List PyData) (d : PyData) : Prop := ∀ (G H : Hp) (vs : List V), Ex G H → RpAll G vs ds → ∀ Q : VK, (∀ v G' H', Go G H G' H' → Rp G' v d → Q v H') → r vs H Q
end
end Rb

/-! part RbLay2 -/
/-! rules: expressions -/
namespace Rb
open PySem PySem.Spec PyProof.Rows L2
open Evl (Ex)
section
variable {K : PySem.W.Frag} {τ : List Sl} {ta tb tc te : TE} {t u : TT} {d d1 d2 d3 : PyData}
theorem evd_dat {i : Nat} (h : τ[i]? = some (.dat d)) : EvD (tVar i) τ d := fun G H σ ows e Q q => by
  obtain ⟨s, o, h1, _, h3⟩ := e.env.get h
  obtain ⟨_, v, h4, h5⟩ := h3
  subst h4
  exact ⟨v, h1, q v G H (Go.refl e.ext) h5⟩
theorem evd_int {i : Int} : EvD (tC (.int i)) τ (.int i) := fun G H σ ows e Q q => q _ G H (Go.refl e.ext) (.int i)
theorem evd_bl {b : Bool} : EvD (tC (.bl b)) τ (.bool b) := fun G H σ ows e Q q => q _ G H (Go.refl e.ext) (.bl b)
theorem evd_non : EvD (tC .non) τ .none := fun G H σ ows e Q q => q _ G H (Go.refl e.ext) .non
theorem evd_cast {d d' : PyData} (h : EvD te τ d) (e : d = d') : EvD te τ d' := e ▸ h
theorem evd_op {r : R2} (ha : EvD ta τ d1) (hb : EvD tb τ d2) (hr : RD r d1 d2 d) : EvD (tOp r ta tb) τ d := fun G H σ ows e Q q =>
  ha G H σ ows e _ fun v1 G1 H1 g1 p1 => hb G1 H1 σ ows (e.go g1) _ fun v2 G2 H2 g2 p2 => hr G2 H2 v1 v2 g2.k (Rp.mono g2.g _ _ p1) p2 Q fun v G3 H3 g3 p3 => q v G3 H3 ((g1.trans g2).trans g3) p3
theorem evd_andV {a b : Bool} (h1 : EvD ta τ (.bool a)) (h2 : a = true → EvD tb τ (.bool b)) : EvD (tAndV ta tb) τ (.bool (a && b)) := fun G H σ ows e Q q =>
  h1 G H σ ows e _ fun v G1 H1 g1 p1 => ⟨a, p1.bl_inv, by
    cases a with
    | true =>
      show tb σ H1 Q
      exact h2 rfl G1 H1 σ ows (e.go g1) Q fun v G2 H2 g2 p2 => q v G2 H2 (g1.trans g2) p2
    | false =>
      show Q (.bl false) H1
      exact q _ G1 H1 g1 (.bl false)⟩
theorem evd_orV {a b : Bool} (h1 : EvD ta τ (.bool a)) (h2 : a = false → EvD tb τ (.bool b)) : EvD (tOrV ta tb) τ (.bool (a || b)) := fun G H σ ows e Q q =>
  h1 G H σ ows e _ fun v G1 H1 g1 p1 => ⟨a, p1.bl_inv, by
    cases a with
    | true =>
      show Q (.bl true) H1
      exact q _ G1 H1 g1 (.bl true)
    | false =>
      show tb σ H1 Q
      exact h2 rfl G1 H1 σ ows (e.go g1) Q fun v G2 H2 g2 p2 => q v G2 H2 (g1.trans g2) p2⟩
theorem evd_notV {a : Bool} (h1 : EvD ta τ (.bool a)) : EvD (tNotV ta) τ (.bool (!a)) := fun G H σ ows e Q q =>
  h1 G H σ ows e _ fun v G1 H1 g1 p1 => ⟨a, p1.bl_inv, q _ G1 H1 g1 (.bl _)⟩
theorem evd_if {b : Bool} (h : EvT t τ b) (h1 : b = true → EvD ta τ d) (h2 : b = false → EvD tb τ d) : EvD (tIf t ta tb) τ d := fun G H σ ows e Q q =>
  h G H σ ows e _ fun G1 H1 g1 => by
    cases b with
    | true =>
      show ta σ H1 Q
      exact h1 rfl G1 H1 σ ows (e.go g1) Q fun v G2 H2 g2 p2 => q v G2 H2 (g1.trans g2) p2
    | false =>
      show tb σ H1 Q
      exact h2 rfl G1 H1 σ ows (e.go g1) Q fun v G2 H2 g2 p2 => q v G2 H2 (g1.trans g2) p2
theorem evd_chain {r r' : R2} {a b : Bool} (ha : EvD ta τ d1) (hb : EvD tb τ d2) (hr : RD r d1 d2 (.bool a)) (hc : EvD tc τ d3) (hr' : RD r' d2 d3 (.bool b)) : EvD (tChain r r' ta tb tc) τ (.bool (a && b)) := fun G H σ ows e Q q =>
  ha G H σ ows e _ fun v1 G1 H1 g1 p1 => hb G1 H1 σ ows (e.go g1) _ fun v2 G2 H2 g2 p2 => hr G2 H2 v1 v2 g2.k (Rp.mono g2.g _ _ p1) p2 _ fun v G3 H3 g3 p3 => ⟨a, p3.bl_inv, by
    have g := (g1.trans g2).trans g3
    cases a with
    | true =>
      show tc σ H3 fun w' H4 => r' v2 w' H4 Q
      exact hc G3 H3 σ ows (e.go g) _ fun v4 G4 H4 g4 p4 => hr' G4 H4 v2 v4 g4.k (Rp.mono (g3.trans g4).g _ _ p2) p4 Q fun v G5 H5 g5 p5 => q v G5 H5 ((g.trans g4).trans g5) p5
    | false =>
      show Q (.bl false) H3
      exact q _ G3 H3 g (.bl false)⟩

/-! tests -/
theorem evt_B {b : Bool} (h : EvD te τ (.bool b)) : EvT (tB te) τ b := fun G H σ ows e Q q => h G H σ ows e _ fun v G1 H1 g1 p1 => ⟨b, p1.bl_inv, q G1 H1 g1⟩
theorem evt_test {b : Bool} (h : EvD te τ (.bool b)) : EvT (tTest te) τ b := fun G H σ ows e Q q => h G H σ ows e _ fun v G1 H1 g1 p1 => ⟨b, p1.bl_inv, q G1 H1 g1⟩
theorem evt_yes : EvT tYes τ true := fun G H σ ows e Q q => q G H (Go.refl e.ext)
theorem evt_not {a : Bool} (h : EvT t τ a) : EvT (tNot t) τ (!a) := fun G H σ ows e Q q => h G H σ ows e _ fun G1 H1 g1 => q G1 H1 g1
theorem evt_and {a b : Bool} (h1 : EvT t τ a) (h2 : a = true → EvT u τ b) : EvT (tAnd t u) τ (a && b) := fun G H σ ows e Q q => h1 G H σ ows e _ fun G1 H1 g1 => by
  cases a with
  | true =>
    show u σ H1 Q
    exact h2 rfl G1 H1 σ ows (e.go g1) Q fun G2 H2 g2 => q G2 H2 (g1.trans g2)
  | false =>
    show Q false H1
    exact q G1 H1 g1
theorem evt_or {a b : Bool} (h1 : EvT t τ a) (h2 : a = false → EvT u τ b) : EvT (tOr t u) τ (a || b) := fun G H σ ows e Q q => h1 G H σ ows e _ fun G1 H1 g1 => by
  cases a with
  | true =>
    show Q true H1
    exact q G1 H1 g1
  | false =>
    show u σ H1 Q
    exact h2 rfl G1 H1 σ ows (e.go g1) Q fun G2 H2 g2 => q G2 H2 (g1.trans g2)
theorem evt_cast {a b : Bool} (h : EvT t τ a) (e : a = b) : EvT t τ b := e ▸ h

/-! argument lists, displays, calls -/
theorem eva_nil : EvA tNil τ [] := fun G H σ ows e Q q => q [] G H (Go.refl e.ext) .nil
theorem eva_cons {tr : TA} {ds : List PyData} (h : EvD te τ d) (hr : EvA tr τ ds) : EvA (tCons te tr) τ (d :: ds) := fun G H σ ows e Q q =>
  h G H σ ows e _ fun v G1 H1 g1 p1 => hr G1 H1 σ ows (e.go g1) _ fun vs G2 H2 g2 p2 => q _ G2 H2 (g1.trans g2) (.cons (Rp.mono g2.g _ _ p1) p2)
theorem evd_tup {tr : TA} {ds : List PyData} (h : EvA tr τ ds) (hl : ds.length ≤ 100000) : EvD (tTup tr) τ (.tuple ds) := fun G H σ ows e Q q =>
  h G H σ ows e _ fun vs G1 H1 g1 p1 => ⟨by
    rw [p1.length]
    exact Evl.sz_of hl, fun p hp => q _ (upd G1 p (.tup vs)) _ (g1.trans (Go.new g1.k hp)) (.tup upd_same (RpAll.mono (Ex.new (Evl.fresh_back g1.k hp)) _ _ p1))⟩
theorem evd_lst {tr : TA} {ds : List PyData} (h : EvA tr τ ds) (hl : ds.length ≤ 100000) : EvD (tLst tr) τ (.list ds) := fun G H σ ows e Q q =>
  h G H σ ows e _ fun vs G1 H1 g1 p1 => ⟨by
    rw [p1.length]
    exact Evl.sz_of hl, fun p hp => q _ (upd G1 p (.lst vs)) _ (g1.trans (Go.new g1.k hp)) (.lst upd_same (RpAll.mono (Ex.new (Evl.fresh_back g1.k hp)) _ _ p1))⟩
theorem evd_cb {r : List V → Hp → VK → Prop} {tr : TA} {ds : List PyData} (h : EvA tr τ ds) (hr : RC r ds d) : EvD (tCB r tr) τ d := fun G H σ ows e Q q =>
  h G H σ ows e _ fun vs G1 H1 g1 p1 => hr G1 H1 vs g1.k p1 Q fun v G2 H2 g2 p2 => q v G2 H2 (g1.trans g2) p2
/-- a def without effects: from data to data -/
def SpP (R : List PyData → PyData → Prop) : Sp := fun vs H Q _ => ∃ (G : Hp) (ds : List PyData) (d : PyData), Ex G H ∧ RpAll G vs ds ∧ R ds d ∧ ∀ v G' H', Go G H G' H' → Rp G' v d → Q v H'
theorem evd_call {R : List PyData → PyData → Prop} {E : XK} {tr : TA} {ds : List PyData} (h : EvA tr τ ds) (hr : R ds d) : EvD (tCall (SpP R) [] E tr) τ d := fun G H σ ows e Q q =>
  h G H σ ows e _ fun vs G1 H1 g1 p1 => ⟨G1, ds, d, g1.k, by
    rw [List.append_nil]
    exact p1, hr, fun v G2 H2 g2 p2 => q v G2 H2 (g1.trans g2) p2⟩

/-! operators -/
theorem rd_ii {g : Int → Int → Int} {i j : Int} : RD (rI0 fun i j => .int (g i j)) (.int i) (.int j) (.int (g i j)) := fun G H v1 v2 k p1 p2 Q q =>
  ⟨i, j, p1.int_inv, p2.int_inv, q _ G H (Go.refl k) (.int _)⟩
theorem rd_ib {g : Int → Int → Bool} {i j : Int} : RD (rI0 fun i j => .bl (g i j)) (.int i) (.int j) (.bool (g i j)) := fun G H v1 v2 k p1 p2 Q q =>
  ⟨i, j, p1.int_inv, p2.int_inv, q _ G H (Go.refl k) (.bl _)⟩
theorem rd_ic {C : Int → Int → Prop} {g : Int → Int → Int} {i j : Int} (hc : C i j) : RD (rI C fun i j => .int (g i j)) (.int i) (.int j) (.int (g i j)) := fun G H v1 v2 k p1 p2 Q q =>
  ⟨i, j, p1.int_inv, p2.int_inv, hc, q _ G H (Go.refl k) (.int _)⟩
theorem rd_eqI {i j : Int} : RD rEq (.int i) (.int j) (.bool (decide (i = j))) := fun G H v1 v2 k p1 p2 Q q => by
  rw [p1.int_inv, p2.int_inv]
  refine ⟨rfl, ?_⟩
  have e : decide (V.int i = V.int j) = decide (i = j) := decide_eq_decide.mpr ⟨V.int.inj, fun z => by rw [z]⟩
  rw [e]
  exact q _ G H (Go.refl k) (.bl _)
theorem rd_neI {i j : Int} : RD rNe (.int i) (.int j) (.bool (!decide (i = j))) := fun G H v1 v2 k p1 p2 Q q => by
  rw [p1.int_inv, p2.int_inv]
  refine ⟨rfl, ?_⟩
  have e : decide (V.int i = V.int j) = decide (i = j) := decide_eq_decide.mpr ⟨V.int.inj, fun z => by rw [z]⟩
  rw [e]
  exact q _ G H (Go.refl k) (.bl _)
theorem rd_eqB {i j : Bool} : RD rEq (.bool i) (.bool j) (.bool (i == j)) := fun G H v1 v2 k p1 p2 Q q => by
  rw [p1.bl_inv, p2.bl_inv]
  refine ⟨rfl, ?_⟩
  have e : decide (V.bl i = V.bl j) = (i == j) := by cases i <;> cases j <;> rfl
  rw [e]
  exact q _ G H (Go.refl k) (.bl _)
theorem rd_neB {i j : Bool} : RD rNe (.bool i) (.bool j) (.bool (i != j)) := fun G H v1 v2 k p1 p2 Q q => by
  rw [p1.bl_inv, p2.bl_inv]
  refine ⟨rfl, ?_⟩
  have e : (!decide (V.bl i = V.bl j)) = (i != j) := by cases i <;> cases j <;> rfl
  rw [e]
  exact q _ G H (Go.refl k) (.bl _)
def isNon : PyData → Bool
  | .none => true
  | _ => false
theorem rp_non {G : Hp} {v : V} (h : Rp G v d) : decide (v = .non) = isNon d := by
  cases h <;> first | rfl | exact decide_eq_false (fun z => nomatch z)
theorem rd_isN : RD (fun x y H Q => y = .non ∧ Q (.bl (decide (x = .non))) H) d .none (.bool (isNon d)) := fun G H v1 v2 k p1 p2 Q q =>
  ⟨p2.non_inv, by
    rw [rp_non p1]
    exact q _ G H (Go.refl k) (.bl _)⟩
theorem rd_notN : RD (fun x y H Q => y = .non ∧ Q (.bl (!decide (x = .non))) H) d .none (.bool (!isNon d)) := fun G H v1 v2 k p1 p2 Q q =>
  ⟨p2.non_inv, by
    rw [rp_non p1]
    exact q _ G H (Go.refl k) (.bl _)⟩
theorem rd_eqD (h1 : SeqAt.shaped d1 = true) (h2 : SeqAt.shaped d2 = true) : RD (rEqD K) d1 d2 (.bool (PyData.eqv d1 d2)) := fun G H v1 v2 k p1 p2 Q q =>
  ⟨d1, d2, (Rp.mono k _ _ p1).dp, (Rp.mono k _ _ p2).dp, h1, h2, q _ G H (Go.refl k) (.bl _)⟩
theorem rd_neD (h1 : SeqAt.shaped d1 = true) (h2 : SeqAt.shaped d2 = true) : RD (rNeD K) d1 d2 (.bool (!PyData.eqv d1 d2)) := fun G H v1 v2 k p1 p2 Q q =>
  ⟨d1, d2, (Rp.mono k _ _ p1).dp, (Rp.mono k _ _ p2).dp, h1, h2, q _ G H (Go.refl k) (.bl _)⟩
theorem at_map {α β : Type} {xs : List α} {ys : List β} (hl : xs.length = ys.length) {i : Int} {y : β} (h : atI ys i = some y) : ∃ j : Nat, ys[j]? = some y ∧ ∀ x : α, xs[j]? = some x → atI xs i = some x := by
  unfold atI at h ⊢
  rw [hl]
  cases q : ixN ys.length i with
  | none =>
    rw [q] at h
    cases h
  | some j =>
    rw [q] at h
    exact ⟨j, h, fun x hx => hx⟩
theorem rd_ixT {ds : List PyData} {i : Int} (h : atI ds i = some d) : RD (rIxT K) (.tuple ds) (.int i) d := fun G H v1 v2 k p1 p2 Q q => by
  cases p1 with
  | tup h1 h2 =>
    obtain ⟨j, hj, hx⟩ := at_map h2.length h
    obtain ⟨v, hv, pv⟩ := h2.get hj
    exact ⟨_, _, i, v, rfl, p2.int_inv, .inl (.inl (k _ _ h1)), hx v hv, q v G H (Go.refl k) pv⟩
theorem rd_ixL {ds : List PyData} {i : Int} (h : atI ds i = some d) : RD (rIxL K) (.list ds) (.int i) d := fun G H v1 v2 k p1 p2 Q q => by
  cases p1 with
  | lst h1 h2 =>
    obtain ⟨j, hj, hx⟩ := at_map h2.length h
    obtain ⟨v, hv, pv⟩ := h2.get hj
    exact ⟨_, _, i, v, rfl, p2.int_inv, .inl (.inl (k _ _ h1)), hx v hv, q v G H (Go.refl k) pv⟩
theorem at_nat {α : Type} {xs : List α} {j : Nat} {x : α} (h : xs[j]? = some x) : atI xs (j : Int) = some x := atI_nat h
/-- list or tuple -/
def isSeq (d : PyData) (ds : List PyData) : Prop := d = .list ds ∨ d = .tuple ds
theorem rd_ix {ds : List PyData} {i : Int} (hs : isSeq d1 ds) (h : atI ds i = some d) : RD (rIx K) d1 (.int i) d := fun G H v1 v2 k p1 p2 Q q => by
  rcases hs with e | e
  · subst e
    exact .inl (rd_ixL h G H v1 v2 k p1 p2 Q q)
  · subst e
    exact .inr (.inl (rd_ixT h G H v1 v2 k p1 p2 Q q))
theorem rd_catT {ds es : List PyData} (hl : ds.length + es.length ≤ 100000) : RD (rCatA K) (.tuple ds) (.tuple es) (.tuple (ds ++ es)) := fun G H v1 v2 k p1 p2 Q q => by
  cases p1 with
  | tup h1 h2 =>
    cases p2 with
    | tup h3 h4 =>
      rename_i a xs b ys
      refine ⟨a, b, xs, ys, rfl, rfl, .inl (.inl (k _ _ h1)), .inl (.inl (k _ _ h3)), ?_, fun e => ?_, fun _ e => ?_, fun _ _ p hp => ?_⟩
      · rw [h2.length, h4.length]
        exact Evl.sz_of hl
      · subst e
        cases h2
        exact q _ G H (Go.refl k) (.tup h3 h4)
      · subst e
        cases h4
        rw [List.append_nil] at q
        exact q _ G H (Go.refl k) (.tup h1 h2)
      · have z := Evl.fresh_back k hp
        exact q _ (upd G p (.tup (xs ++ ys))) _ (Go.new k hp) (.tup upd_same (RpAll.append (RpAll.mono (Ex.new z) _ _ h2) (RpAll.mono (Ex.new z) _ _ h4)))
theorem rd_catL {ds es : List PyData} (hl : ds.length + es.length ≤ 100000) : RD rCat (.list ds) (.list es) (.list (ds ++ es)) := fun G H v1 v2 k p1 p2 Q q => by
  cases p1 with
  | lst h1 h2 =>
    cases p2 with
    | lst h3 h4 =>
      rename_i a xs b ys
      refine ⟨a, b, xs, ys, rfl, rfl, k _ _ h1, k _ _ h3, ?_, fun p hp => ?_⟩
      · rw [h2.length, h4.length]
        exact Evl.sz_of hl
      · have z := Evl.fresh_back k hp
        exact q _ (upd G p (.lst (xs ++ ys))) _ (Go.new k hp) (.lst upd_same (RpAll.append (RpAll.mono (Ex.new z) _ _ h2) (RpAll.mono (Ex.new z) _ _ h4)))
/-- in, not in: whole numbers -/
theorem inV_int (n : Int) : ∀ ns : List Int, inV (.int n) (ns.map V.int) = decide (n ∈ ns)
  | [] => rfl
  | m :: ns => by
    have ih := inV_int n ns
    unfold inV at ih ⊢
    rw [List.map_cons, List.any_cons, ih]
    have e : eqV (.int m) (.int n) = decide (n = m) := by
      show (m == n) = decide (n = m)
      by_cases h : m = n
      · subst h
        simp
      · have h' : ¬ n = m := fun z => h z.symm
        simp [h, h']
    rw [e]
    by_cases h : n = m
    · simp [h]
    · simp [h]
theorem flat_ints : ∀ ns : List Int, (ns.map V.int).all flatV = true
  | [] => rfl
  | n :: ns => by
    rw [List.map_cons, List.all_cons, flat_ints ns]
    rfl
theorem rd_in {ns : List Int} {n : Int} (hs : isSeq d2 (ns.map PyData.int)) : RD (rIn K false) (.int n) d2 (.bool (decide (n ∈ ns))) := fun G H v1 v2 k p1 p2 Q q => by
  have e1 := p1.int_inv
  subst e1
  rcases hs with e | e <;> subst e
  · cases p2 with
    | lst h1 h2 =>
      have ei := h2.ints
      subst ei
      refine ⟨_, _, rfl, .inl (.inl (.inl (k _ _ h1))), rfl, flat_ints ns, ?_⟩
      rw [if_neg (by decide), inV_int]
      exact q _ G H (Go.refl k) (.bl _)
  · cases p2 with
    | tup h1 h2 =>
      have ei := h2.ints
      subst ei
      refine ⟨_, _, rfl, .inr (.inl (.inl (k _ _ h1))), rfl, flat_ints ns, ?_⟩
      rw [if_neg (by decide), inV_int]
      exact q _ G H (Go.refl k) (.bl _)
theorem rd_notIn {ns : List Int} {n : Int} (hs : isSeq d2 (ns.map PyData.int)) : RD (rIn K true) (.int n) d2 (.bool (!decide (n ∈ ns))) := fun G H v1 v2 k p1 p2 Q q => by
  have e1 := p1.int_inv
  subst e1
  rcases hs with e | e <;> subst e
  · cases p2 with
    | lst h1 h2 =>
      have ei := h2.ints
      subst ei
      refine ⟨_, _, rfl, .inl (.inl (.inl (k _ _ h1))), rfl, flat_ints ns, ?_⟩
      rw [if_pos rfl, inV_int]
      exact q _ G H (Go.refl k) (.bl _)
  · cases p2 with
    | tup h1 h2 =>
      have ei := h2.ints
      subst ei
      refine ⟨_, _, rfl, .inr (.inl (.inl (k _ _ h1))), rfl, flat_ints ns, ?_⟩
      rw [if_pos rfl, inV_int]
      exact q _ G H (Go.refl k) (.bl _)

/-! built-ins -/
theorem rpAll_one {G : Hp} {vs : List V} (h : RpAll G vs [d]) : ∃ v, vs = [v] ∧ Rp G v d := by
  cases h with
  | cons h1 h2 =>
    cases h2
    exact ⟨_, rfl, h1⟩
theorem rpAll_two {G : Hp} {vs : List V} (h : RpAll G vs [d1, d2]) : ∃ v w, vs = [v, w] ∧ Rp G v d1 ∧ Rp G w d2 := by
  cases h with
  | cons h1 h2 =>
    obtain ⟨w, rfl, h3⟩ := rpAll_one h2
    exact ⟨_, w, rfl, h1, h3⟩
theorem rc_len {ds : List PyData} (hs : isSeq d ds) : RC (fun xs H Q => ∃ p ys, xs = [V.ref p] ∧ (SqL K H p ys ∨ SqT K H p ys) ∧ Q (.int ys.length) H) [d] (.int ds.length) := fun G H vs k p1 Q q => by
  obtain ⟨v, rfl, pv⟩ := rpAll_one p1
  rcases hs with e | e <;> subst e
  · cases pv with
    | lst h1 h2 =>
      refine ⟨_, _, rfl, .inl (.inl (.inl (k _ _ h1))), ?_⟩
      rw [h2.length]
      exact q _ G H (Go.refl k) (.int _)
  · cases pv with
    | tup h1 h2 =>
      refine ⟨_, _, rfl, .inr (.inl (.inl (k _ _ h1))), ?_⟩
      rw [h2.length]
      exact q _ G H (Go.refl k) (.int _)
theorem rc_tuple {ds : List PyData} (hs : isSeq d ds) : RC (fun xs H Q => ∃ p ys, xs = [V.ref p] ∧ ((SqL K H p ys ∧ ∀ l, H l = none → Q (.ref l) (upd H l (.tup ys))) ∨ (SqT K H p ys ∧ Q (.ref p) H))) [d] (.tuple ds) := fun G H vs k p1 Q q => by
  obtain ⟨v, rfl, pv⟩ := rpAll_one p1
  rcases hs with e | e <;> subst e
  · cases pv with
    | lst h1 h2 =>
      exact ⟨_, _, rfl, .inl ⟨.inl (.inl (k _ _ h1)), fun p hp => q _ (upd G p _) _ (Go.new k hp) (.tup upd_same (RpAll.mono (Ex.new (Evl.fresh_back k hp)) _ _ h2))⟩⟩
  · cases pv with
    | tup h1 h2 => exact ⟨_, _, rfl, .inr ⟨.inl (.inl (k _ _ h1)), q _ G H (Go.refl k) (.tup h1 h2)⟩⟩
theorem rc_sum {ns : List Int} : RC (rSum K) [.list (ns.map PyData.int)] (.int ns.sum) := fun G H vs k p1 Q q => by
  obtain ⟨v, rfl, pv⟩ := rpAll_one p1
  cases pv with
  | lst h1 h2 =>
    have ei := h2.ints
    subst ei
    exact ⟨_, ns, rfl, .inl (.inl (k _ _ h1)), q _ G H (Go.refl k) (.int _)⟩
theorem rc_all {bs : List Bool} : RC (rAll K) [.list (bs.map PyData.bool)] (.bool (bs.all id)) := fun G H vs k p1 Q q => by
  obtain ⟨v, rfl, pv⟩ := rpAll_one p1
  cases pv with
  | lst h1 h2 =>
    have ei := h2.bls
    subst ei
    exact ⟨_, bs, rfl, .inl (.inl (k _ _ h1)), q _ G H (Go.refl k) (.bl _)⟩
theorem rc_any {bs : List Bool} : RC (rAny K) [.list (bs.map PyData.bool)] (.bool (bs.any id)) := fun G H vs k p1 Q q => by
  obtain ⟨v, rfl, pv⟩ := rpAll_one p1
  cases pv with
  | lst h1 h2 =>
    have ei := h2.bls
    subst ei
    exact ⟨_, bs, rfl, .inl (.inl (k _ _ h1)), q _ G H (Go.refl k) (.bl _)⟩
theorem rc_int {i : Int} : RC (fun xs H Q => (∃ i, xs = [V.int i] ∧ Q (.int i) H) ∨ ∃ k, xs = [V.bl k] ∧ Q (.int (if k then 1 else 0)) H) [.int i] (.int i) := fun G H vs k p1 Q q => by
  obtain ⟨v, rfl, pv⟩ := rpAll_one p1
  rw [pv.int_inv]
  exact .inl ⟨i, rfl, q _ G H (Go.refl k) (.int _)⟩
theorem rc_intB {b : Bool} : RC (fun xs H Q => (∃ i, xs = [V.int i] ∧ Q (.int i) H) ∨ ∃ k, xs = [V.bl k] ∧ Q (.int (if k then 1 else 0)) H) [.bool b] (.int (if b then 1 else 0)) := fun G H vs k p1 Q q => by
  obtain ⟨v, rfl, pv⟩ := rpAll_one p1
  rw [pv.bl_inv]
  exact .inr ⟨b, rfl, q _ G H (Go.refl k) (.int _)⟩
theorem rc_abs {i : Int} : RC (fun xs H Q => ∃ i, xs = [V.int i] ∧ Q (.int (if i < 0 then -i else i)) H) [.int i] (.int (if i < 0 then -i else i)) := fun G H vs k p1 Q q => by
  obtain ⟨v, rfl, pv⟩ := rpAll_one p1
  rw [pv.int_inv]
  exact ⟨i, rfl, q _ G H (Go.refl k) (.int _)⟩
theorem rc_sortedI {ns : List Int} {ms : List Int} (hp : ms.Perm ns) (hs : ms.Pairwise (· ≤ ·)) : RC (rSortedI K) [.list (ns.map PyData.int)] (.list (ms.map PyData.int)) := fun G H vs k p1 Q q => by
  obtain ⟨v, rfl, pv⟩ := rpAll_one p1
  cases pv with
  | lst h1 h2 =>
    have ei := h2.ints
    subst ei
    refine ⟨_, ns, rfl, .inl (.inl (k _ _ h1)), fun ns' p hp' hs' hn => ?_⟩
    have e : ns' = ms := (hp'.trans hp.symm).eq_of_pairwise (fun a b _ _ h1 h2 => Int.le_antisymm h1 h2) hs' hs
    subst e
    exact q _ (upd G p (.lst (ns'.map V.int))) _ (Go.new k hn) (.lst upd_same (RpAll.of_ints ns'))
/-- isinstance(x, T) by the kind -/
def kind : PyData → String
  | .none => "NoneType"
  | .bool _ => "bool"
  | .int _ => "int"
  | .str _ => "str"
  | .list _ => "list"
  | .tuple _ => "tuple"
  | .dict _ => "dict"
theorem rp_ty {G H : Hp} {v : V} (k : Ex G H) (h : Rp G v d) : TyX K H v (.type (kind d)) := by
  cases h with
  | non => exact .base .non
  | bl b => exact .base (.bl b)
  | int i => exact .base (.int i)
  | lst h1 h2 => exact .base (.lst (k _ _ h1))
  | tup h1 h2 => exact .base (.tup (k _ _ h1))
theorem evd_isi {ta : TE} {n : String} {b : Bool} (h : EvD ta τ d) (hb : kitB (kind d) n = some b) : EvD (tCB (rIsi K) (tCons ta (tCons (tC (.ty n)) tNil))) τ (.bool b) := fun G H σ ows e Q q =>
  h G H σ ows e _ fun v G1 H1 g1 p1 => ⟨v, .ty n, .type (kind d), .type n, b, rfl, .ty n, rp_ty g1.k p1, kit_ty hb, q _ G1 H1 g1 (.bl b)⟩
/-- slices -/
theorem evo_none : EvO tNoPart τ none := fun G H σ ows e Q q => q G H (Go.refl e.ext)
theorem evo_some {i : Int} (h : EvD te τ (.int i)) : EvO (tPart te) τ (some i) := fun G H σ ows e Q q => h G H σ ows e _ fun v G1 H1 g1 p1 => ⟨i, p1.int_inv, q G1 H1 g1⟩
def cutD (ds : List PyData) (lo hi : Option Int) : List PyData := (ds.drop (HT.sIx ds.length 0 lo)).take (HT.sIx ds.length ds.length hi - HT.sIx ds.length 0 lo)
theorem RpAll.cut {G : Hp} {vs : List V} {ds : List PyData} (lo hi : Option Int) (h : RpAll G vs ds) : RpAll G (cutV vs lo hi) (cutD ds lo hi) := by
  unfold cutV cutD
  rw [h.length]
  exact (h.drop _).take _
theorem evd_slL {tl th : TO} {ds : List PyData} {lo hi : Option Int} (h : EvD te τ (.list ds)) (h1 : EvO tl τ lo) (h2 : EvO th τ hi) : EvD (tSl (rSlL K) te tl th) τ (.list (cutD ds lo hi)) := fun G H σ ows e Q q =>
  h G H σ ows e _ fun v G1 H1 g1 p1 => h1 G1 H1 σ ows (e.go g1) _ fun G2 H2 g2 => h2 G2 H2 σ ows ((e.go g1).go g2) _ fun G3 H3 g3 => by
    cases p1 with
    | lst a b =>
      have g := g2.trans g3
      exact ⟨_, _, rfl, .inl (.inl (g.k _ _ (g.g _ _ a))), fun p hp => q _ (upd G3 p _) _ ((g1.trans g).trans (Go.new g.k hp)) (.lst upd_same (RpAll.cut lo hi (RpAll.mono (g.g.trans (Ex.new (Evl.fresh_back g.k hp))) _ _ b)))⟩
theorem cutD_all {ds : List PyData} {lo hi : Option Int} (h : HT.sIx ds.length 0 lo = 0 ∧ HT.sIx ds.length ds.length hi = ds.length) : cutD ds lo hi = ds := by
  unfold cutD
  rw [h.1, h.2]
  simp
theorem evd_slT {tl th : TO} {ds : List PyData} {lo hi : Option Int} (h : EvD te τ (.tuple ds)) (h1 : EvO tl τ lo) (h2 : EvO th τ hi) : EvD (tSl (rSlA K) te tl th) τ (.tuple (cutD ds lo hi)) := fun G H σ ows e Q q =>
  h G H σ ows e _ fun v G1 H1 g1 p1 => h1 G1 H1 σ ows (e.go g1) _ fun G2 H2 g2 => h2 G2 H2 σ ows ((e.go g1).go g2) _ fun G3 H3 g3 => by
    cases p1 with
    | tup a b =>
      have g := g2.trans g3
      refine ⟨_, _, rfl, .inl (.inl (g.k _ _ (g.g _ _ a))), fun hw => ?_, fun _ p hp => q _ (upd G3 p _) _ ((g1.trans g).trans (Go.new g.k hp)) (.tup upd_same (RpAll.cut lo hi (RpAll.mono (g.g.trans (Ex.new (Evl.fresh_back g.k hp))) _ _ b)))⟩
      rw [b.length] at hw
      rw [cutD_all hw] at q
      exact q _ G3 H3 (g1.trans g) (.tup (g.g _ _ a) (RpAll.mono g.g _ _ b))
theorem cut_from (ds : List PyData) (k : Nat) : cutD ds (some (k : Int)) none = ds.drop k := by
  unfold cutD
  rw [HT.sIx_nat, HT.sIx_none]
  by_cases h : k ≤ ds.length
  · rw [Nat.min_eq_left h]
    exact List.take_of_length_le (by rw [List.length_drop]; omega)
  · rw [Nat.min_eq_right (by omega), List.drop_eq_nil_of_le (Nat.le_refl _), List.drop_eq_nil_of_le (by omega), List.take_nil]
theorem cut_mid (ds : List PyData) (a b : Nat) (h : b ≤ ds.length) : cutD ds (some (a : Int)) (some (b : Int)) = (ds.drop a).take (b - a) := by
  unfold cutD
  rw [HT.sIx_nat, HT.sIx_nat, Nat.min_eq_left h]
  by_cases h' : a ≤ ds.length
  · rw [Nat.min_eq_left h']
  · rw [Nat.min_eq_right (by omega), List.drop_eq_nil_of_le (Nat.le_refl _), List.drop_eq_nil_of_le (by omega), List.take_nil, List.take_nil]
/-- list(range(..)) -/
theorem evd_listRg {n : Nat} (h : EvD ta τ (.int (n : Int))) (hn : n ≤ 100000) : EvD (tLstRg (tRg1 ta)) τ (.list (((List.range n).map fun k : Nat => (k : Int)).map PyData.int)) := fun G H σ ows e Q q =>
  h G H σ ows e _ fun v G1 H1 g1 p1 => ⟨n, p1.int_inv, RgOk.of_le (by omega) (by omega) (by omega) (by omega), fun p hp => q _ (upd G1 p (.lst (rgV 0 n))) _ (g1.trans (Go.new g1.k hp)) (.lst upd_same (by
    have e : rgV 0 (n : Int) = ((List.range n).map fun k : Nat => (k : Int)).map V.int := by
      unfold rgV
      rw [List.map_map, Int.sub_zero, Int.toNat_natCast]
      refine List.map_congr_left fun k _ => ?_
      show V.int (0 + (k : Int)) = V.int (k : Int)
      rw [Int.zero_add]
    rw [e]
    exact RpAll.of_ints _))⟩
end
end Rb

/-! part RbLay3 -/
/-! rules: what is walked, targets, comprehensions, statements -/
namespace Rb
open PySem PySem.Spec PyProof.Rows L2
open Evl (Ex)

/-! ### what is walked: items that represent data -/
def WalkD (J : It) (G : Hp) (xs : List PyData) : Prop := ∃ Y, Walk J xs.length (fun H => Ex G H) Y ∧
  ∀ (i : Nat) (G1 H : Hp) (x : V) (H' : Hp) (d : PyData), xs[i]? = some d → Ex G G1 → Ex G1 H → Y i H x H' → ∃ G', Go G1 H G' H' ∧ Rp G' x d
def ItD (wi : TI) (τ : List Sl) (xs : List PyData) : Prop := ∀ (G H : Hp) (σ : L2.St) (ows : List (List Addr)), En G H σ τ ows → ∀ R : It → Hp → Prop, (∀ J G' H', Go G H G' H' → WalkD J G' xs → R J H') → wi σ H R
section
variable {K : PySem.W.Frag} {τ : List Sl} {te tl : TE} {ta : TA} {d : PyData}
theorem walkD_list {G : Hp} {a : Addr} {vs : List V} {ds : List PyData} (h : G a = some (.lst vs)) (hv : RpAll G vs ds) : WalkD (Itl K a) G ds := by
  rw [show WalkD (Itl K a) G ds = ∃ Y, Walk (Itl K a) ds.length (fun H => Ex G H) Y ∧ ∀ (i : Nat) (G1 H : Hp) (x : V) (H' : Hp) (d : PyData), ds[i]? = some d → Ex G G1 → Ex G1 H → Y i H x H' → ∃ G', Go G1 H G' H' ∧ Rp G' x d from rfl, ← hv.length]
  refine ⟨YAt vs, walk_list.mono (fun H e => .inl (.inl (e _ _ h))) (fun i H x H' _ _ y => y), fun i G1 H x H' d hd e1 e2 y => ?_⟩
  obtain ⟨rfl, hx⟩ := y
  obtain ⟨v, hv1, hv2⟩ := hv.get hd
  rw [hx] at hv1
  have e := Option.some.inj hv1
  subst e
  exact ⟨G1, Go.refl e2, Rp.mono e1 _ _ hv2⟩
theorem walkD_tup {G : Hp} {a : Addr} {vs : List V} {ds : List PyData} (h : G a = some (.tup vs)) (hv : RpAll G vs ds) : WalkD (Itt K a) G ds := by
  rw [show WalkD (Itt K a) G ds = ∃ Y, Walk (Itt K a) ds.length (fun H => Ex G H) Y ∧ ∀ (i : Nat) (G1 H : Hp) (x : V) (H' : Hp) (d : PyData), ds[i]? = some d → Ex G G1 → Ex G1 H → Y i H x H' → ∃ G', Go G1 H G' H' ∧ Rp G' x d from rfl, ← hv.length]
  refine ⟨YAt vs, walk_tup.mono (fun H e => .inl (.inl (e _ _ h))) (fun i H x H' _ _ y => y), fun i G1 H x H' d hd e1 e2 y => ?_⟩
  obtain ⟨rfl, hx⟩ := y
  obtain ⟨v, hv1, hv2⟩ := hv.get hd
  rw [hx] at hv1
  have e := Option.some.inj hv1
  subst e
  exact ⟨G1, Go.refl e2, Rp.mono e1 _ _ hv2⟩
theorem itd_list {ds : List PyData} (h : EvD tl τ (.list ds)) : ItD (iList K tl) τ ds := fun G H σ ows e R r =>
  h G H σ ows e _ fun v G1 H1 g1 p1 => by
    cases p1 with
    | lst h1 h2 => exact ⟨_, rfl, ⟨_, .inl (.inl (g1.k _ _ h1))⟩, r _ G1 H1 g1 (walkD_list h1 h2)⟩
theorem itd_tup {ds : List PyData} (h : EvD tl τ (.tuple ds)) : ItD (iTup K tl) τ ds := fun G H σ ows e R r =>
  h G H σ ows e _ fun v G1 H1 g1 p1 => by
    cases p1 with
    | tup h1 h2 => exact ⟨_, rfl, ⟨_, .inl (.inl (g1.k _ _ h1))⟩, r _ G1 H1 g1 (walkD_tup h1 h2)⟩
/-- lo, lo + 1, .. -/
def rngD (lo : Int) (n : Nat) : List PyData := (List.range n).map fun k => PyData.int (lo + (k : Nat))
theorem rngD_len (lo : Int) (n : Nat) : (rngD lo n).length = n := by
  unfold rngD
  rw [List.length_map, List.length_range]
theorem rngD_get {lo : Int} {n i : Nat} {d : PyData} (h : (rngD lo n)[i]? = some d) : d = .int (lo + (i : Nat)) ∧ i < n := by
  unfold rngD at h
  rw [List.getElem?_map] at h
  cases q : (List.range n)[i]? with
  | none =>
    rw [q] at h
    cases h
  | some k =>
    rw [q] at h
    obtain ⟨hl, e⟩ := List.getElem?_eq_some_iff.mp q
    rw [List.getElem_range] at e
    subst e
    rw [List.length_range] at hl
    exact ⟨(Option.some.inj h).symm, hl⟩
theorem walkD_rng {G : Hp} {lo : Int} {n : Nat} : WalkD (Itr lo n) G (rngD lo n) := by
  refine ⟨YFn fun i => .int (lo + i), ?_, fun i G1 H x H' d hd e1 e2 y => ?_⟩
  · rw [rngD_len]
    exact walk_range.mono (fun _ _ => trivial) fun i H x H' _ _ y => y
  · obtain ⟨rfl, rfl⟩ := y
    obtain ⟨rfl, _⟩ := rngD_get hd
    exact ⟨G1, Go.refl e2, .int _⟩
theorem itd_rng1 {n : Nat} (h : EvA ta τ [.int (n : Int)]) (hn : n ≤ 100000) : ItD (iRng1 ta) τ (rngD 0 n) := fun G H σ ows e R r =>
  h G H σ ows e _ fun vs G1 H1 g1 p1 => by
    obtain ⟨v, rfl, pv⟩ := rpAll_one p1
    refine ⟨n, by rw [pv.int_inv], by omega, by omega, ?_⟩
    rw [Int.toNat_natCast]
    exact r _ G1 H1 g1 walkD_rng
theorem itd_rng2 {lo hi : Int} (h : EvA ta τ [.int lo, .int hi]) (h1 : -100000 ≤ lo ∧ lo ≤ 100000) (h2 : -100000 ≤ hi ∧ hi ≤ 100000) : ItD (iRng2 ta) τ (rngD lo (hi - lo).toNat) := fun G H σ ows e R r =>
  h G H σ ows e _ fun vs G1 H1 g1 p1 => by
    obtain ⟨v, w, rfl, pv, pw⟩ := rpAll_two p1
    exact ⟨lo, hi, by rw [pv.int_inv, pw.int_inv], ⟨by omega, by omega, by omega, by omega⟩, r _ G1 H1 g1 walkD_rng⟩
/-- new pairs -/
def pairD (a b : PyData) : PyData := .tuple [a, b]
theorem go_pair {G1 H : Hp} {T : Addr} {x y : V} {a b : PyData} (k : Ex G1 H) (hT : H T = none) (hx : Rp G1 x a) (hy : Rp G1 y b) : ∃ G', Go G1 H G' (upd H T (.tup [x, y])) ∧ Rp G' (.ref T) (pairD a b) := by
  have z := Evl.fresh_back k hT
  exact ⟨_, Go.new k hT, .tup upd_same (.cons (Rp.mono (Ex.new z) _ _ hx) (.cons (Rp.mono (Ex.new z) _ _ hy) .nil))⟩
theorem itd_zip {ds es : List PyData} (h : EvA ta τ [.list ds, .list es]) : ItD (iZip K ta) τ (List.zipWith pairD ds es) := fun G H σ ows e R r =>
  h G H σ ows e _ fun vs G1 H1 g1 p1 => by
    obtain ⟨v, w, rfl, pv, pw⟩ := rpAll_two p1
    cases pv with
    | lst h1 h2 =>
      cases pw with
      | lst h3 h4 =>
        rename_i a xs b ys
        refine ⟨a, b, xs, ys, rfl, .inl (.inl (g1.k _ _ h1)), .inl (.inl (g1.k _ _ h3)), r _ G1 H1 g1 ?_⟩
        refine ⟨YPair (fun i => xs[i]?) (fun i => ys[i]?), ?_, fun i G2 H2 x H' d hd e1 e2 y => ?_⟩
        · rw [List.length_zipWith, ← h2.length, ← h4.length]
          exact (walk_zip rfl).mono (fun H e => ⟨.inl (.inl (e _ _ h1)), .inl (.inl (e _ _ h3))⟩) fun i H x H' _ _ y => y
        · obtain ⟨T, x', y', rfl, hT, rfl, hx, hy⟩ := y
          obtain ⟨a1, ha1, pa1⟩ := h2.getv hx
          obtain ⟨b1, hb1, pb1⟩ := h4.getv hy
          rw [List.getElem?_zipWith, ha1, hb1] at hd
          have ed := Option.some.inj hd
          subst ed
          exact go_pair e2 hT (Rp.mono e1 _ _ pa1) (Rp.mono e1 _ _ pb1)

/-! ### targets -/
def TgD (g : TG) (vs : List Nat) (d : PyData) (τ τ' : List Sl) : Prop := ∀ (G H : Hp) (σ : L2.St) (ows : List (List Addr)) (v : V), En G H σ τ ows → Rp G v d → ∀ Q : L2.St → Hp → Prop,
  (∀ σ' ows', En G H σ' τ' ows' → σ'.length = σ.length → (∀ i, i ∉ vs → σ'[i]? = σ[i]?) → (∀ a ∈ ows'.flatten, a ∈ ows.flatten) → Q σ' H) → g v σ H Q
def TgsD (g : TGs) (vs : List Nat) (ds : List PyData) (τ τ' : List Sl) : Prop := ∀ (G H : Hp) (σ : L2.St) (ows : List (List Addr)) (ws : List V), En G H σ τ ows → RpAll G ws ds → ∀ Q : L2.St → Hp → Prop,
  (∀ σ' ows', En G H σ' τ' ows' → σ'.length = σ.length → (∀ i, i ∉ vs → σ'[i]? = σ[i]?) → (∀ a ∈ ows'.flatten, a ∈ ows.flatten) → Q σ' H) → g ws σ H Q
theorem tgd_name {j : Nat} : TgD (gName j) [j] d τ (τ.set j (.dat d)) := fun G H σ ows v e p Q q =>
  q (σ.set j (some v)) _ (e.set j p) (List.length_set) (fun i hi => List.getElem?_set_ne (fun z => hi (by rw [z]; exact List.mem_singleton.mpr rfl))) fun a ha => by
    rcases flat_set_sub _ _ _ _ ha with h | h
    · cases h
    · exact h
theorem tgsd_nil : TgsD gNil [] [] τ τ := fun G H σ ows ws e p Q q => by
  cases p
  exact ⟨rfl, q σ ows e rfl (fun _ _ => rfl) fun _ h => h⟩
theorem tgsd_cons {g : TG} {u : TGs} {vs ws : List Nat} {ds : List PyData} {τ1 τ2 : List Sl} (h : TgD g vs d τ τ1) (hu : TgsD u ws ds τ1 τ2) : TgsD (gCons g u) (vs ++ ws) (d :: ds) τ τ2 := fun G H σ ows us e p Q q => by
  cases p with
  | cons p1 p2 =>
    refine ⟨_, _, rfl, h G H σ ows _ e p1 _ fun σ1 ows1 e1 l1 s1 n1 => hu G H σ1 ows1 _ e1 p2 Q fun σ2 ows2 e2 l2 s2 n2 => q σ2 ows2 e2 (l2.trans l1) (fun i hi => ?_) fun a ha => n1 a (n2 a ha)⟩
    rw [s2 i fun z => hi (List.mem_append_right _ z), s1 i fun z => hi (List.mem_append_left _ z)]
theorem tgd_tup {u : TGs} {vs : List Nat} {ds : List PyData} {τ' : List Sl} {n : Nat} (h : TgsD u vs ds τ τ') (hn : ds.length = n) : TgD (gTup K n u) vs (.tuple ds) τ τ' := fun G H σ ows v e p Q q => by
  cases p with
  | tup h1 h2 => exact ⟨_, _, rfl, .inl (.inl (e.ext _ _ h1)), by rw [h2.length]; exact hn, h G H σ ows _ e h2 Q q⟩
theorem TgD.sub {g : TG} {vs ws : List Nat} {τ' : List Sl} (h : TgD g vs d τ τ') (hs : ∀ i ∈ vs, i ∈ ws) : TgD g ws d τ τ' := fun G H σ ows v e p Q q =>
  h G H σ ows v e p Q fun σ' ows' e' l s n => q σ' ows' e' l (fun i hi => s i fun z => hi (hs i z)) n
/-- a, b -/
theorem tgd_two {i j : Nat} {a b : PyData} : TgD (gTup K 2 (gCons (gName i) (gCons (gName j) gNil))) [i, j] (.tuple [a, b]) τ ((τ.set i (.dat a)).set j (.dat b)) :=
  tgd_tup (tgsd_cons tgd_name (tgsd_cons tgd_name tgsd_nil)) rfl

/-! ### comprehensions -/
theorem wipe_get (σ : L2.St) : ∀ (vs : List Nat) (i : Nat), (L2.wipe σ vs)[i]? = if i ∈ vs then (if i < σ.length then some none else none) else σ[i]?
  | [], i => by
    rw [if_neg (by simp)]
    rfl
  | v :: vs, i => by
    have ih := wipe_get σ vs i
    unfold L2.wipe
    by_cases hv : v = i
    · subst hv
      rw [if_pos List.mem_cons_self]
      by_cases hl : v < σ.length
      · rw [if_pos hl, List.getElem?_set_self (by rw [wipe_length]; exact hl)]
      · rw [if_neg hl]
        exact List.getElem?_eq_none (by rw [List.length_set, wipe_length]; omega)
    · rw [List.getElem?_set_ne hv, ih]
      by_cases hm : i ∈ vs
      · rw [if_pos hm, if_pos (List.mem_cons_of_mem _ hm)]
      · rw [if_neg hm, if_neg (fun z => (List.mem_cons.mp z).elim (fun e => hv e.symm) hm)]
theorem wipe_eq {σ σ2 : L2.St} {vs : List Nat} (hl : σ2.length = (L2.wipe σ vs).length) (h : ∀ i, i ∉ vs → σ2[i]? = (L2.wipe σ vs)[i]?) : L2.wipe σ2 vs = L2.wipe σ vs := by
  rw [wipe_length] at hl
  refine List.ext_getElem? fun i => ?_
  rw [wipe_get, wipe_get, hl]
  by_cases hm : i ∈ vs
  · rw [if_pos hm, if_pos hm]
  · rw [if_neg hm, if_neg hm, h i hm, wipe_get, if_neg hm]
/-- a new list that no one else holds -/
def EvF (te : TE) (τ : List Sl) (ds : List PyData) : Prop := ∀ (G H : Hp) (σ : L2.St) (ows : List (List Addr)), En G H σ τ ows → ∀ Q : VK,
  (∀ p vs G' H', Go G H G' H' → H p = none → G' p = none → H' p = some (.lst vs) → RpAll G' vs ds → Q (.ref p) H') → te σ H Q
theorem EvF.evd {ds : List PyData} (h : EvF te τ ds) : EvD te τ (.list ds) := fun G H σ ows e Q q =>
  h G H σ ows e Q fun p vs G1 H1 g1 hp gp h1 p1 => q _ (upd G1 p (.lst vs)) H1 (g1.seal hp h1 gp) (.lst upd_same (RpAll.mono (Ex.new gp) _ _ p1))
theorem evf_lst {tr : TA} {ds : List PyData} (h : EvA tr τ ds) (hl : ds.length ≤ 100000) : EvF (tLst tr) τ ds := fun G H σ ows e Q q =>
  h G H σ ows e _ fun vs G1 H1 g1 p1 => ⟨by
    rw [p1.length]
    exact Evl.sz_of hl, fun p hp => q p vs G1 _ (g1.trans (Go.hid g1.k hp)) (Evl.fresh_back g1.h hp) (Evl.fresh_back g1.k hp) upd_same p1⟩
theorem evf_listRg {ta : TE} {n : Nat} (h : EvD ta τ (.int (n : Int))) (hn : n ≤ 100000) : EvF (tLstRg (tRg1 ta)) τ (((List.range n).map fun k : Nat => (k : Int)).map PyData.int) := fun G H σ ows e Q q =>
  h G H σ ows e _ fun v G1 H1 g1 p1 => ⟨n, p1.int_inv, RgOk.of_le (by omega) (by omega) (by omega) (by omega), fun p hp => q p (rgV 0 n) G1 _ (g1.trans (Go.hid g1.k hp)) (Evl.fresh_back g1.h hp) (Evl.fresh_back g1.k hp) upd_same (by
    have e : rgV 0 (n : Int) = ((List.range n).map fun k : Nat => (k : Int)).map V.int := by
      unfold rgV
      rw [List.map_map, Int.sub_zero, Int.toNat_natCast]
      refine List.map_congr_left fun k _ => ?_
      show V.int (0 + (k : Int)) = V.int (k : Int)
      rw [Int.zero_add]
    rw [e]
    exact RpAll.of_ints _)⟩
/-- what the first n of xs give -/
def gvn {α : Type} (xs : List α) (f : α → Bool) (y : α → PyData) (n : Nat) : List PyData := ((xs.take n).filter f).map y
theorem gvn_yes {α : Type} {xs : List α} {f : α → Bool} {y : α → PyData} {n : Nat} {a : α} (h : xs[n]? = some a) (hf : f a = true) : gvn xs f y (n + 1) = gvn xs f y n ++ [y a] := by
  unfold gvn
  rw [List.take_add_one, h, List.filter_append, List.map_append]
  show _ ++ ([a].filter f).map y = _
  rw [List.filter_cons, if_pos hf]
  rfl
theorem gvn_no {α : Type} {xs : List α} {f : α → Bool} {y : α → PyData} {n : Nat} {a : α} (h : xs[n]? = some a) (hf : f a = false) : gvn xs f y (n + 1) = gvn xs f y n := by
  unfold gvn
  rw [List.take_add_one, h, List.filter_append, List.map_append]
  show _ ++ ([a].filter f).map y = _
  rw [List.filter_cons, if_neg (by rw [hf]; decide)]
  show _ ++ [] = _
  rw [List.append_nil]
theorem gvn_len {α : Type} (xs : List α) (f : α → Bool) (y : α → PyData) (n : Nat) : (gvn xs f y n).length ≤ xs.length := by
  unfold gvn
  rw [List.length_map]
  refine Nat.le_trans (List.length_filter_le _ _) ?_
  rw [List.length_take]
  exact Nat.min_le_right _ _
theorem evf_lc {α : Type} {wi : TI} {g : TG} {tt : TT} {vs : List Nat} {xs : List α} (enc : α → PyData) (f : α → Bool) (y : α → PyData) (hw : ItD wi τ (xs.map enc)) (hz : xs.length ≤ 100000)
    (ht : ∀ a ∈ xs, ∃ τ1, TgD g vs (enc a) (wipeT τ vs) τ1 ∧ EvT tt τ1 (f a) ∧ (f a = true → EvD te τ1 (y a))) : EvF (tLc wi g tt te vs) τ ((xs.filter f).map y) := fun G H σ ows e Q q =>
  hw G H σ ows e _ fun J G1 H1 g1 wd D hD => by
    obtain ⟨Y, w, hy⟩ := wd
    obtain ⟨ows1, ew⟩ := (e.go g1).wipe vs
    refine lc_it w (fun i H' => ∃ Gi us, Go G1 H1 Gi H' ∧ Gi D = none ∧ H' D = some (.lst us) ∧ RpAll Gi us (gvn xs f y i)) ⟨G1, [], Go.hid g1.k hD, Evl.fresh_back g1.k hD, upd_same, .nil⟩ (fun i H' _ ⟨Gi, us, gi, _⟩ => gi.g.trans gi.k) ?_ ?_
    · rintro i x H2 H3 hi ⟨Gi, us, gi, gD, hD2, pu⟩ hY
      rw [List.length_map] at hi
      have hx : xs[i]? = some xs[i] := List.getElem?_eq_getElem hi
      obtain ⟨τ1, htg, htt, hte⟩ := ht xs[i] (List.getElem_mem hi)
      obtain ⟨G3, g3, p3⟩ := hy i Gi H2 x H3 (enc xs[i]) (by rw [List.getElem?_map, hx]; rfl) gi.g gi.k hY
      have e3 : En G3 H3 (L2.wipe σ vs) (wipeT τ vs) ows1 := ew.go (gi.trans g3)
      have dn : ∀ {Ga Ha Gb Hb : Hp}, Go Ga Ha Gb Hb → Ga D = none → Ha D = some (.lst us) → Gb D = none ∧ Hb D = some (.lst us) := fun {Ga Ha Gb Hb} gg z1 z2 => by
        refine ⟨?_, gg.h _ _ z2⟩
        cases qq : Gb D with
        | none => rfl
        | some o =>
          rcases gg.n D (by rw [qq]; exact fun z => nomatch z) with z | z
          · exact absurd z1 z
          · rw [z2] at z
            cases z
      obtain ⟨d3, h3⟩ := dn g3 gD hD2
      refine htg G3 H3 _ _ x e3 p3 _ fun σ4 ows4 e4 l4 s4 _ => ⟨wipe_eq l4 s4, htt G3 H3 σ4 ows4 e4 _ fun G5 H5 g5 => ?_⟩
      obtain ⟨d5, h5⟩ := dn g5 d3 h3
      cases hf : f xs[i] with
      | true =>
        rw [if_pos rfl]
        refine hte hf G5 H5 σ4 ows4 (e4.go g5) _ fun v G6 H6 g6 p6 => ?_
        obtain ⟨d6, h6⟩ := dn g6 d5 h5
        have gg := ((gi.trans g3).trans g5).trans g6
        refine ⟨us, h6, ?_, G6, us ++ [v], gg.mut hD d6, d6, upd_same, ?_⟩
        · rw [pu.length]
          exact Evl.sz_lt (Nat.lt_of_le_of_lt (Nat.le_trans (by
            unfold gvn
            rw [List.length_map]
            refine Nat.le_trans (List.length_filter_le _ _) ?_
            rw [List.length_take]
            exact Nat.min_le_left _ _) (Nat.le_refl i)) (by omega))
        · rw [gvn_yes hx hf]
          exact RpAll.append (RpAll.mono ((g3.g.trans g5.g).trans g6.g) _ _ pu) (.one p6)
      | false =>
        rw [if_neg Bool.false_ne_true]
        refine ⟨G5, us, (gi.trans g3).trans g5, d5, h5, ?_⟩
        rw [gvn_no hx hf]
        exact RpAll.mono (g3.g.trans g5.g) _ _ pu
    · rintro H2 ⟨Gi, us, gi, gD, hD2, pu⟩
      refine q D us Gi H2 (g1.trans gi) (Evl.fresh_back g1.h hD) gD hD2 ?_
      have e : gvn xs f y (xs.map enc).length = (xs.filter f).map y := by
        unfold gvn
        rw [List.length_map, List.take_length]
      rw [← e]
      exact pu
theorem evd_lc {α : Type} {wi : TI} {g : TG} {tt : TT} {vs : List Nat} {xs : List α} (enc : α → PyData) (f : α → Bool) (y : α → PyData) (hw : ItD wi τ (xs.map enc)) (hz : xs.length ≤ 100000)
    (ht : ∀ a ∈ xs, ∃ τ1, TgD g vs (enc a) (wipeT τ vs) τ1 ∧ EvT tt τ1 (f a) ∧ (f a = true → EvD te τ1 (y a))) : EvD (tLc wi g tt te vs) τ (.list ((xs.filter f).map y)) := (evf_lc enc f y hw hz ht).evd
/-- no test -/
theorem evf_lc0 {α : Type} {wi : TI} {g : TG} {vs : List Nat} {xs : List α} (enc : α → PyData) (y : α → PyData) (hw : ItD wi τ (xs.map enc)) (hz : xs.length ≤ 100000)
    (ht : ∀ a ∈ xs, ∃ τ1, TgD g vs (enc a) (wipeT τ vs) τ1 ∧ EvD te τ1 (y a)) : EvF (tLc wi g tYes te vs) τ (xs.map y) := by
  have h := evf_lc (te := te) (tt := tYes) (g := g) (vs := vs) enc (fun _ => true) y hw hz fun a ha => by
    obtain ⟨τ1, h1, h2⟩ := ht a ha
    exact ⟨τ1, h1, evt_yes, fun _ => h2⟩
  rw [List.filter_eq_self.mpr (fun _ _ => rfl)] at h
  exact h
theorem evd_lc0 {α : Type} {wi : TI} {g : TG} {vs : List Nat} {xs : List α} (enc : α → PyData) (y : α → PyData) (hw : ItD wi τ (xs.map enc)) (hz : xs.length ≤ 100000)
    (ht : ∀ a ∈ xs, ∃ τ1, TgD g vs (enc a) (wipeT τ vs) τ1 ∧ EvD te τ1 (y a)) : EvD (tLc wi g tYes te vs) τ (.list (xs.map y)) := (evf_lc0 enc y hw hz ht).evd
end
end Rb

/-! part RbLay4 -/
/-! rules: statements, effects -/
namespace Rb
open PySem PySem.Spec PyProof.Rows L2
open Evl (Ex)

structure Sta (G0 H0 : Hp) (τ : List Sl) (σ : L2.St) (ows : List (List Addr)) (G H : Hp) : Prop where
  go : Go G0 H0 G H
  en : En G H σ τ ows
  new : ∀ a ∈ ows.flatten, H0 a = none
def Stx (G0 H0 : Hp) (τ : List Sl) (σ : L2.St) (H : Hp) : Prop := ∃ ows G, Sta G0 H0 τ σ ows G H
section
variable {K : PySem.W.Frag} {τ τ1 : List Sl} {te tl ta tb : TE} {d : PyData} {G0 H0 G H G' H' : Hp} {σ : L2.St} {ows : List (List Addr)} {t u tw : TS} {N N1 : List Sl → Prop} {R : List Sl → PyData → Prop}
theorem Sta.step (s : Sta G0 H0 τ σ ows G H) (g : Go G H G' H') : Sta G0 H0 τ σ ows G' H' := ⟨s.go.trans g, s.en.go g, s.new⟩
theorem Sta.set {v : V} (s : Sta G0 H0 τ σ ows G H) (i : Nat) (h : Rp G v d) : Stx G0 H0 (τ.set i (.dat d)) (σ.set i (some v)) H :=
  ⟨_, G, s.go, s.en.set i h, fun a ha => by
    rcases flat_set_sub _ _ _ _ ha with q | q
    · cases q
    · exact s.new a q⟩
/-- a slot gets what no one else holds -/
theorem Sta.own {p : Addr} {t : Sl} (s : Sta G0 H0 τ σ ows G H) (i : Nat) (hs : slotOk G H t (some (.ref p)) [p]) (h0 : H0 p = none) (hg : G p = none) (hn : p ∉ ows.flatten) : Stx G0 H0 (τ.set i t) (σ.set i (some (.ref p))) H := by
  refine ⟨ows.set i [p], G, s.go, ⟨s.en.env.set i hs, flat_set_nd _ _ _ s.en.nd (by simp) (fun a ha => ?_), s.en.ext, fun a ha => ?_⟩, fun a ha => ?_⟩
  · rw [List.mem_singleton.mp ha]
    exact hn
  · rcases flat_set_sub _ _ _ _ ha with q | q
    · rw [List.mem_singleton.mp q]
      exact hg
    · exact s.en.free a q
  · rcases flat_set_sub _ _ _ _ ha with q | q
    · rw [List.mem_singleton.mp q]
      exact h0
    · exact s.new a q

/-- an expression that may change what slots own (their contents stay what τ says) -/
def EvS (te : TE) (τ : List Sl) (P : PyData → Prop) : Prop := ∀ (G0 H0 : Hp) (σ : L2.St) (ows : List (List Addr)) (G H : Hp), Sta G0 H0 τ σ ows G H → ∀ Q : VK,
  (∀ d v G' H', P d → Ex G G' → Sta G0 H0 τ σ ows G' H' → Rp G' v d → Q v H') → te σ H Q
def EvSA (ta : TA) (τ : List Sl) (P : List PyData → Prop) : Prop := ∀ (G0 H0 : Hp) (σ : L2.St) (ows : List (List Addr)) (G H : Hp), Sta G0 H0 τ σ ows G H → ∀ Q : List V → Hp → Prop,
  (∀ ds vs G' H', P ds → Ex G G' → Sta G0 H0 τ σ ows G' H' → RpAll G' vs ds → Q vs H') → ta σ H Q
theorem EvD.s (h : EvD te τ d) : EvS te τ (· = d) := fun G0 H0 σ ows G H s Q q => h G H σ ows s.en Q fun v G1 H1 g1 p1 => q d v G1 H1 rfl g1.g (s.step g1) p1
theorem EvS.imp {P P' : PyData → Prop} (h : EvS te τ P) (hp : ∀ d, P d → P' d) : EvS te τ P' := fun G0 H0 σ ows G H s Q q => h G0 H0 σ ows G H s Q fun d v G1 H1 p => q d v G1 H1 (hp d p)
theorem evs_op {r : R2} {P1 P2 P : PyData → Prop} (ha : EvS ta τ P1) (hb : EvS tb τ P2) (hr : ∀ d1 d2, P1 d1 → P2 d2 → ∃ d, P d ∧ RD r d1 d2 d) : EvS (tOp r ta tb) τ P := fun G0 H0 σ ows G H s Q q =>
  ha G0 H0 σ ows G H s _ fun d1 v1 G1 H1 p1 e1 s1 r1 => hb G0 H0 σ ows G1 H1 s1 _ fun d2 v2 G2 H2 p2 e2 s2 r2 => by
    obtain ⟨d, pd, rd⟩ := hr d1 d2 p1 p2
    exact rd G2 H2 v1 v2 s2.en.ext (Rp.mono e2 _ _ r1) r2 Q fun v G3 H3 g3 p3 => q d v G3 H3 pd ((e1.trans e2).trans g3.g) (s2.step g3) p3
theorem evsa_nil : EvSA tNil τ (· = []) := fun G0 H0 σ ows G H s Q q => q [] [] G H rfl (Ex.refl G) s .nil
theorem evsa_cons {tr : TA} {P1 : PyData → Prop} {P2 : List PyData → Prop} (h : EvS te τ P1) (hr : EvSA tr τ P2) : EvSA (tCons te tr) τ (fun ds => ∃ d es, ds = d :: es ∧ P1 d ∧ P2 es) := fun G0 H0 σ ows G H s Q q =>
  h G0 H0 σ ows G H s _ fun d1 v1 G1 H1 p1 e1 s1 r1 => hr G0 H0 σ ows G1 H1 s1 _ fun es vs G2 H2 p2 e2 s2 r2 => q (d1 :: es) _ G2 H2 ⟨d1, es, rfl, p1, p2⟩ (e1.trans e2) s2 (.cons (Rp.mono e2 _ _ r1) r2)
theorem evsa_one {P1 : PyData → Prop} (h : EvS te τ P1) : EvSA (tCons te tNil) τ (fun ds => ∃ d, ds = [d] ∧ P1 d) := fun G0 H0 σ ows G H s Q q =>
  evsa_cons h evsa_nil G0 H0 σ ows G H s Q fun ds vs G1 H1 p => by
    obtain ⟨d, es, e, h1, h2⟩ := p
    subst h2
    exact q ds vs G1 H1 ⟨d, e, h1⟩
theorem EvA.s {tr : TA} {ds : List PyData} (h : EvA tr τ ds) : EvSA tr τ (· = ds) := fun G0 H0 σ ows G H s Q q => h G H σ ows s.en Q fun v G1 H1 g1 p1 => q ds v G1 H1 rfl g1.g (s.step g1) p1

/-! ### statements -/
def Ok (t : TS) (τ : List Sl) (N : List Sl → Prop) (R : List Sl → PyData → Prop) : Prop := ∀ (G0 H0 : Hp) (σ : L2.St) (H : Hp) (D : Ends), Stx G0 H0 τ σ H →
  (∀ τ' σ' H', N τ' → Stx G0 H0 τ' σ' H' → D.nx σ' H') → (∀ τ' d v σ' ows' G' H', R τ' d → Sta G0 H0 τ' σ' ows' G' H' → Rp G' v d → D.rt v H') → t D σ H
theorem ok_next (h : N τ) : Ok tNext τ N R := fun G0 H0 σ H D s n r => n τ σ H h s
theorem ok_seq (h : Ok t τ N1 R) (k : ∀ τ', N1 τ' → Ok u τ' N R) : Ok (tSeq t u) τ N R := fun G0 H0 σ H D s n r =>
  h G0 H0 σ H { D with nx := u D } s (fun τ' σ' H' h1 s1 => k τ' h1 G0 H0 σ' H' D s1 n r) r
theorem ok_imp {N' : List Sl → Prop} {R' : List Sl → PyData → Prop} (h : Ok t τ N R) (hn : ∀ τ', N τ' → N' τ') (hr : ∀ τ' d, R τ' d → R' τ' d) : Ok t τ N' R' := fun G0 H0 σ H D s n r =>
  h G0 H0 σ H D s (fun τ' σ' H' h1 => n τ' σ' H' (hn τ' h1)) fun τ' d v σ' ows' G' H' h1 => r τ' d v σ' ows' G' H' (hr τ' d h1)
theorem ok_asgS {i : Nat} {P : PyData → Prop} (h : EvS te τ P) (k : ∀ d, P d → N (τ.set i (.dat d))) : Ok (tAsg te (gName i)) τ N R := fun G0 H0 σ H D s n r => by
  obtain ⟨ows, G, s⟩ := s
  exact h G0 H0 σ ows G H s _ fun d v G1 H1 p _ s1 p1 => n _ _ _ (k d p) (s1.set i p1)
theorem ok_asg {i : Nat} (h : EvD te τ d) (k : N (τ.set i (.dat d))) : Ok (tAsg te (gName i)) τ N R := ok_asgS h.s fun _ e => by
  subst e
  exact k
theorem sq_asg {i : Nat} (h : EvD te τ d) (k : Ok u (τ.set i (.dat d)) N R) : Ok (tSeq (tAsg te (gName i)) u) τ N R := ok_seq (N1 := (· = τ.set i (.dat d))) (ok_asg h rfl) fun _ e => by
  subst e
  exact k
theorem sq_asgS {i : Nat} {P : PyData → Prop} (h : EvS te τ P) (k : ∀ d, P d → Ok u (τ.set i (.dat d)) N R) : Ok (tSeq (tAsg te (gName i)) u) τ N R := ok_seq (N1 := fun τ' => ∃ d, P d ∧ τ' = τ.set i (.dat d)) (ok_asgS h fun d p => ⟨d, p, rfl⟩) fun _ e => by
  obtain ⟨d, p, rfl⟩ := e
  exact k d p
/-- any target: a pair .. -/
theorem ok_asgT {g : TG} {vs : List Nat} (h : EvD te τ d) (hg : TgD g vs d τ τ1) (k : N τ1) : Ok (tAsg te g) τ N R := fun G0 H0 σ H D s n r => by
  obtain ⟨ows, G, s⟩ := s
  exact h G H σ ows s.en _ fun v G1 H1 g1 p1 => hg G1 H1 σ ows v (s.step g1).en p1 _ fun σ' ows' e' _ _ hs => n _ _ _ k ⟨ows', G1, (s.step g1).go, e', fun a ha => s.new a (hs a ha)⟩
theorem sq_asgT {g : TG} {vs : List Nat} (h : EvD te τ d) (hg : TgD g vs d τ τ1) (k : Ok u τ1 N R) : Ok (tSeq (tAsg te g) u) τ N R := ok_seq (N1 := (· = τ1)) (ok_asgT h hg rfl) fun _ e => by
  subst e
  exact k
/-- x = a new list that will change -/
theorem ok_asgF {i : Nat} {ds : List PyData} (h : EvF te τ ds) (k : N (τ.set i (.lst ds))) : Ok (tAsg te (gName i)) τ N R := fun G0 H0 σ H D s n r => by
  obtain ⟨ows, G, s⟩ := s
  refine h G H σ ows s.en _ fun p vs G1 H1 g1 hp gp h1 p1 => n _ _ _ k ((s.step g1).own i ⟨p, vs, rfl, rfl, h1, p1⟩ (Evl.fresh_back s.go.h hp) gp fun hm => ?_)
  exact s.en.env.live p hm hp
theorem sq_asgF {i : Nat} {ds : List PyData} (h : EvF te τ ds) (k : Ok u (τ.set i (.lst ds)) N R) : Ok (tSeq (tAsg te (gName i)) u) τ N R := ok_seq (N1 := (· = τ.set i (.lst ds))) (ok_asgF h rfl) fun _ e => by
  subst e
  exact k
theorem ok_ret (h : EvD te τ d) (k : R τ d) : Ok (tRet te) τ N R := fun G0 H0 σ H D s n r => by
  obtain ⟨ows, G, s⟩ := s
  exact h G H σ ows s.en _ fun v G1 H1 g1 p1 => r τ d v σ ows G1 H1 k (s.step g1) p1
theorem ok_retS {P : PyData → Prop} (h : EvS te τ P) (k : ∀ d, P d → R τ d) : Ok (tRet te) τ N R := fun G0 H0 σ H D s n r => by
  obtain ⟨ows, G, s⟩ := s
  exact h G0 H0 σ ows G H s _ fun d v G1 H1 p _ s1 p1 => r τ d v σ ows G1 H1 (k d p) s1 p1
theorem ok_if {c : TT} {b : Bool} (h : EvT c τ b) (h1 : b = true → Ok t τ N R) (h2 : b = false → Ok u τ N R) : Ok (tIfS c t u) τ N R := fun G0 H0 σ H D s n r => by
  obtain ⟨ows, G, s⟩ := s
  refine h G H σ ows s.en _ fun G1 H1 g1 => ?_
  cases b with
  | true => exact h1 rfl G0 H0 σ H1 D ⟨ows, G1, s.step g1⟩ n r
  | false => exact h2 rfl G0 H0 σ H1 D ⟨ows, G1, s.step g1⟩ n r
theorem ok_ifS {P : PyData → Prop} (h : EvS te τ P) (k : ∀ d, P d → ∃ b, d = .bool b ∧ (b = true → Ok t τ N R) ∧ (b = false → Ok u τ N R)) : Ok (tIfS (tTest te) t u) τ N R := fun G0 H0 σ H D s n r => by
  obtain ⟨ows, G, s⟩ := s
  refine h G0 H0 σ ows G H s _ fun d v G1 H1 p e1 s1 p1 => ?_
  obtain ⟨b, rfl, h1, h2⟩ := k d p
  refine ⟨b, p1.bl_inv, ?_⟩
  cases b with
  | true => exact h1 rfl G0 H0 σ H1 D ⟨ows, G1, s1⟩ n r
  | false => exact h2 rfl G0 H0 σ H1 D ⟨ows, G1, s1⟩ n r
/-- an if without else, its answer known: it is left, or it is not taken -/
theorem sq_skip {c : TT} (h : EvT c τ false) (k : Ok u τ N R) : Ok (tSeq (tIfS c t tNext) u) τ N R := ok_seq (N1 := (· = τ)) (ok_if h (fun z => nomatch z) fun _ => ok_next rfl) fun _ e => by
  subst e
  exact k
theorem sq_take {c : TT} (h : EvT c τ true) (k : Ok t τ (fun _ => False) R) : Ok (tSeq (tIfS c t tw) u) τ N R := ok_seq (N1 := fun _ => False) (ok_if h (fun _ => k) (fun z => nomatch z)) fun _ e => e.elim
/-- a list becomes data -/
theorem ok_seal {i : Nat} {ds : List PyData} (h : τ[i]? = some (.lst ds)) (k : Ok t (τ.set i (.dat (.list ds))) N R) : Ok t τ N R := fun G0 H0 σ H D s n r => by
  obtain ⟨ows, G, s⟩ := s
  obtain ⟨sv, o, h1, h2, p, vs, rfl, rfl, h3, h4⟩ := s.en.env.get h
  have hm : p ∈ ows.flatten := flat_get h2 (List.mem_singleton.mpr rfl)
  have hg := s.en.free p hm
  have hσ : σ.set i (some (.ref p)) = σ := by
    refine List.ext_getElem? fun j => ?_
    by_cases e : i = j
    · subst e
      rw [List.getElem?_set_self (List.getElem?_eq_some_iff.mp h1).1, h1]
    · rw [List.getElem?_set_ne e]
  refine k G0 H0 σ H D ⟨ows.set i [], upd G p (.lst vs), s.go.seal (s.new p hm) h3 hg, ?_, fun a ha => ?_⟩ n r
  · have e1 : Env (upd G p (.lst vs)) H σ τ ows := s.en.env.mono (Ex.new hg) fun _ _ => rfl
    have e2 := e1.set (t := .dat (.list ds)) (s := some (.ref p)) (o := []) i ⟨rfl, _, rfl, .lst upd_same (RpAll.mono (Ex.new hg) _ _ h4)⟩
    rw [hσ] at e2
    refine ⟨e2, flat_set_empty _ _ s.en.nd, (s.go.seal (s.new p hm) h3 hg).k, fun a ha => ?_⟩
    have na : a ≠ p := fun z => flat_set_out _ _ _ s.en.nd h2 p (List.mem_singleton.mpr rfl) (z ▸ ha)
    rw [upd_ne na]
    rcases flat_set_sub _ _ _ _ ha with q | q
    · cases q
    · exact s.en.free a q
  · rcases flat_set_sub _ _ _ _ ha with q | q
    · cases q
    · exact s.new a q
/-- what a slot owns changes -/
theorem Sta.change {i : Nat} {p : Addr} {o : HO} {t' : Sl} (s : Sta G0 H0 τ σ ows G H) (hi : i < τ.length) (hσ : σ[i]? = some (some (.ref p))) (ho : ows[i]? = some [p]) (hs : slotOk G (upd H p o) t' (some (.ref p)) [p]) : Sta G0 H0 (τ.set i t') σ ows G (upd H p o) := by
  have hm : p ∈ ows.flatten := flat_get ho (List.mem_singleton.mpr rfl)
  have gg := s.go.mut (o := o) (s.new p hm) (s.en.free p hm)
  refine ⟨gg, ⟨?_, s.en.nd, gg.k, s.en.free⟩, s.new⟩
  have e0 : ∀ (σ : L2.St) (τ : List Sl) (ows : List (List Addr)) (i : Nat), Env G H σ τ ows → ows.flatten.Nodup → σ[i]? = some (some (.ref p)) → ows[i]? = some [p] → Env G (upd H p o) σ (τ.set i t') ows := by
    intro σ τ ows i e
    induction e generalizing i with
    | nil =>
      intro _ h
      simp at h
    | cons h t ih =>
      rename_i s1 σ1 t1 τ1 o1 os1
      intro hn h1 h2
      rw [List.flatten_cons] at hn
      obtain ⟨n1, n2, n3⟩ := List.nodup_append.mp hn
      cases i with
      | zero =>
        have a1 : s1 = some (.ref p) := Option.some.inj h1
        have a2 : o1 = [p] := Option.some.inj h2
        subst a1 a2
        rw [List.set_cons_zero]
        refine .cons hs (t.mono (Ex.refl G) fun a ha => upd_ne fun z => ?_)
        exact n3 p (List.mem_singleton.mpr rfl) a ha z.symm
      | succ j =>
        rw [List.set_cons_succ]
        have h2' : os1[j]? = some [p] := by simpa using h2
        refine .cons (h.mono (Ex.refl G) fun a ha => upd_ne fun z => ?_) (ih j n2 (by simpa using h1) h2')
        exact n3 a ha p (flat_get h2' (List.mem_singleton.mpr rfl)) z
  exact e0 σ τ ows i s.en.env s.en.nd hσ ho
/-- xs.append(e) -/
theorem ok_appS {i : Nat} {ds : List PyData} {P : PyData → Prop} (hi : τ[i]? = some (.lst ds)) (hz : ds.length < 100000) (h : EvS te τ P) (k : ∀ d, P d → N (τ.set i (.lst (ds ++ [d])))) :
    Ok (tDrop (tBM K "list" rAppend (tVar i) (tCons te tNil))) τ N R := fun G0 H0 σ H D s n r => by
  obtain ⟨ows, G, s⟩ := s
  obtain ⟨sv, o, h1, h2, p, vs, rfl, rfl, h3, h4⟩ := s.en.env.get hi
  refine ⟨.ref p, h1, .inl ⟨rfl, vs, .inl (.inl h3)⟩, ?_⟩
  refine h G0 H0 σ ows G H s _ fun d v G1 H1 pd e1 s1 p1 => ?_
  obtain ⟨sv', o', h1', h2', p', vs', e4, e5, h3', h4'⟩ := s1.en.env.get hi
  rw [h1] at h1'
  have a1 := Option.some.inj h1'
  rw [← a1] at e4
  have a2 := V.ref.inj (Option.some.inj e4)
  subst a2
  refine ⟨p, vs', v, rfl, rfl, h3', by rw [h4'.length]; exact Evl.sz_lt hz, n _ _ _ (k d pd) ⟨ows, G1, s1.change (List.getElem?_eq_some_iff.mp hi).1 h1 h2 ⟨p, vs' ++ [v], rfl, rfl, upd_same, RpAll.append h4' (.one p1)⟩⟩⟩
theorem ok_app {i : Nat} {ds : List PyData} (hi : τ[i]? = some (.lst ds)) (hz : ds.length < 100000) (h : EvD te τ d) (k : N (τ.set i (.lst (ds ++ [d])))) :
    Ok (tDrop (tBM K "list" rAppend (tVar i) (tCons te tNil))) τ N R := ok_appS hi hz h.s fun _ e => by
  subst e
  exact k
theorem sq_app {i : Nat} {ds : List PyData} (hi : τ[i]? = some (.lst ds)) (hz : ds.length < 100000) (h : EvD te τ d) (k : Ok u (τ.set i (.lst (ds ++ [d]))) N R) :
    Ok (tSeq (tDrop (tBM K "list" rAppend (tVar i) (tCons te tNil))) u) τ N R := ok_seq (N1 := (· = τ.set i (.lst (ds ++ [d])))) (ok_app hi hz h rfl) fun _ e => by
  subst e
  exact k
/-- len, an item of a list that changes -/
theorem evd_lenM {i : Nat} {ds : List PyData} (hi : τ[i]? = some (.lst ds)) : EvD (tCB (fun xs H Q => ∃ p ys, xs = [V.ref p] ∧ (SqL K H p ys ∨ SqT K H p ys) ∧ Q (.int ys.length) H) (tCons (tVar i) tNil)) τ (.int ds.length) := fun G H σ ows e Q q => by
  obtain ⟨sv, o, h1, h2, p, vs, rfl, rfl, h3, h4⟩ := e.env.get hi
  refine ⟨.ref p, h1, p, vs, rfl, .inl (.inl (.inl h3)), ?_⟩
  rw [h4.length]
  exact q _ G H (Go.refl e.ext) (.int _)
theorem evd_ixM {i : Nat} {j : Int} {ds : List PyData} (hi : τ[i]? = some (.lst ds)) (h : EvD te τ (.int j)) (hd : atI ds j = some d) : EvD (tOp (rIxL K) (tVar i) te) τ d := fun G H σ ows e Q q => by
  obtain ⟨sv, o, h1, h2, p, vs, rfl, rfl, h3, h4⟩ := e.env.get hi
  refine ⟨.ref p, h1, h G H σ ows e _ fun v G1 H1 g1 p1 => ?_⟩
  obtain ⟨k, hj, hx⟩ := at_map h4.length hd
  obtain ⟨w, hv, pv⟩ := h4.get hj
  exact ⟨p, vs, j, w, rfl, p1.int_inv, .inl (.inl (g1.h _ _ h3)), hx w hv, q w G1 H1 g1 (Rp.mono g1.g _ _ pv)⟩
/-- for over items that are data; Inv by the turn and the slots -/
theorem ok_for {wi : TI} {g : TG} {xs : List PyData} (hw : ItD wi τ xs) (Inv : Nat → List Sl → Prop) (h0 : Inv 0 τ)
    (ht : ∀ i x τ', xs[i]? = some x → Inv i τ' → ∃ vs τ1, TgD g vs x τ' τ1 ∧ Ok t τ1 (Inv (i + 1)) R) (hd : ∀ τ', Inv xs.length τ' → N τ') : Ok (tFor wi g t) τ N R := fun G0 H0 σ H D s n r => by
  obtain ⟨ows, G, s⟩ := s
  refine hw G H σ ows s.en _ fun J G1 H1 g1 wd => ?_
  obtain ⟨Y, w, hy⟩ := wd
  have s1 := s.step g1
  -- the base from here on: what is known now
  have base : ∀ {τ' : List Sl} {σ' : L2.St} {ows' : List (List Addr)} {G' H' : Hp}, Sta G1 H0 τ' σ' ows' G' H' → Sta G0 H0 τ' σ' ows' G' H' := fun {τ' σ' ows' G' H'} z => ⟨⟨z.go.h, s1.go.g.trans z.go.g, z.go.k, fun b hb => by
    rcases z.go.n b hb with q | q
    · exact s1.go.n b q
    · exact .inr q⟩, z.en, z.new⟩
  refine for_it w (fun i σ' H' => ∃ τ', Inv i τ' ∧ Stx G1 H0 τ' σ' H') ⟨τ, h0, ows, G1, ⟨s1.go.h, Ex.refl G1, s1.go.k, fun b hb => .inl hb⟩, s1.en, s1.new⟩ (fun i σ' H' _ ⟨τ', _, _, _, z⟩ => z.go.g.trans z.go.k) ?_ ?_
  · rintro i x σ' H2 H3 hi ⟨τ', hI, ows', G2, z⟩ hY
    have hx : xs[i]? = some xs[i] := List.getElem?_eq_getElem hi
    obtain ⟨G3, g3, p3⟩ := hy i G2 H2 x H3 _ hx z.go.g z.go.k hY
    obtain ⟨vs, τ1, htg, hok⟩ := ht i _ τ' hx hI
    have z3 := z.step g3
    refine htg G3 H3 σ' ows' x z3.en p3 _ fun σ4 ows4 e4 l4 s4 n4 => ?_
    exact hok G1 H0 σ4 H3 _ ⟨ows4, G3, z3.go, e4, fun a ha => z3.new a (n4 a ha)⟩ (fun τ5 σ5 H5 hI5 s5 => ⟨τ5, hI5, s5⟩) fun τ5 d v σ5 ows5 G5 H5 hR s5 p5 => r τ5 d v σ5 ows5 G5 H5 hR (base s5) p5
  · rintro σ' H2 ⟨τ', hI, ows', G2, z⟩
    exact n τ' σ' H2 (hd τ' hI) ⟨ows', G2, base z⟩
theorem sq_for {wi : TI} {g : TG} {xs : List PyData} (hw : ItD wi τ xs) (Inv : Nat → List Sl → Prop) (h0 : Inv 0 τ)
    (ht : ∀ i x τ', xs[i]? = some x → Inv i τ' → ∃ vs τ1, TgD g vs x τ' τ1 ∧ Ok t τ1 (Inv (i + 1)) R) (hd : ∀ τ', Inv xs.length τ' → Ok u τ' N R) : Ok (tSeq (tFor wi g t) u) τ N R :=
  ok_seq (N1 := fun τ' => Inv xs.length τ') (ok_for hw Inv h0 ht fun _ h => h) hd

/-! ### defs -/
theorem env_start : ∀ {vs : List V} {ds : List PyData} (k : Nat), RpAll G vs ds → Env G H (vs.map some ++ List.replicate k none) (ds.map Sl.dat ++ List.replicate k .un) (ds.map (fun _ => []) ++ List.replicate k [])
  | _, _, 0, .nil => .nil
  | _, _, k + 1, .nil => .cons rfl (env_start k .nil)
  | _, _, k, .cons h t => .cons ⟨rfl, _, rfl, h⟩ (env_start k t)
theorem flat_start (ds : List PyData) (k : Nat) : (ds.map (fun _ => ([] : List Addr)) ++ List.replicate k []).flatten = [] := by
  induction ds with
  | nil =>
    induction k with
    | zero => rfl
    | succ k ih =>
      rw [List.replicate_succ]
      exact ih
  | cons d ds ih => exact ih
def slots (n : Nat) (ds : List PyData) : List Sl := ds.map Sl.dat ++ List.replicate (n - ds.length) .un
theorem sta_start {vs : List V} {ds : List PyData} (NN : List Str) (e : Ex G H) (h : RpAll G vs ds) : Stx G H (slots NN.length ds) (L2.start NN vs) H := by
  refine ⟨ds.map (fun _ => ([] : List Addr)) ++ List.replicate (NN.length - ds.length) [], G, Go.refl e, ⟨?_, ?_, e, fun a ha => ?_⟩, fun a ha => ?_⟩
  · unfold slots L2.start
    rw [h.length]
    exact env_start _ h
  · rw [flat_start]
    exact List.nodup_nil
  · rw [flat_start] at ha
    cases ha
  · rw [flat_start] at ha
    cases ha
section
variable {P : Program} {w : World} {mg : Str → Option Value} {base : Heap}
/-- a def without effects -/
theorem fn_pure {x qual : Str} {st : Stmt} {f : Addr} {fd : FuncData} {NN ps : List Str} {k : Nat} {RR : List PyData → PyData → Prop} (F : Fun K x qual st f fd) (S : FnScope NN ps (defScope st)) (len : ∀ ds d, RR ds d → ds.length = ps.length)
    (hb : ∀ (cdv : Value) (A : Around) (outer : List PySem.Env) (s : Shared) (H : Hp) (E : XK), Room k (A.deeper (envOfC qual (defScope st) s.heap.objs.size f cdv)) →
      ∃ t, PSs (cxOf CX0 P w K mg base NN qual (defScope st) f cdv A outer s H E).nox (defBody st) t ∧ ∀ ds d, RR ds d → Ok t (slots NN.length ds) (fun _ => d = .none) (fun _ d' => d' = d)) : FnOk P w K mg base CX0 (k + 1) f fd ps (SpP RR) := by
  refine F.ok S (fun vs H Q E h => ?_) (fun cdv A outer s H vs Q E hr h => ?_)
  · obtain ⟨G, ds, d, _, h1, h2, _⟩ := h
    rw [h1.length]
    exact len ds d h2
  · obtain ⟨G, ds, d, e, h1, h2, q⟩ := h
    obtain ⟨t, ht, hok⟩ := hb cdv A outer s H E hr
    refine ⟨t, ht, hok ds d h2 G H _ H _ (sta_start NN e h1) (fun τ' σ' H' hn z => ?_) fun τ' d' v σ' ows' G' H' hR z p => ?_⟩
    · subst hn
      obtain ⟨ows', G', z⟩ := z
      exact q .non G' H' z.go .non
    · subst hR
      exact q v G' H' z.go p
end
/-! ### a def that draws from the stream (its first argument) -/
def del (H : Hp) (p : Addr) : Hp := fun b => if b = p then none else H b
theorem del_ne {p b : Addr} (h : b ≠ p) : del H p b = H b := by
  unfold del
  rw [if_neg h]
theorem del_same {p : Addr} : del H p p = none := by
  unfold del
  rw [if_pos rfl]
def SpS (Pre : List PyData → Prop) (RR : List PyData → PyData → Prop) : Sp := fun vs H Q _ => ∃ (G : Hp) (p : Addr) (us : List V) (ds : List PyData), vs = .ref p :: us ∧ Ex G H ∧ G p = none ∧ StmAt G H p ∧ RpAll G us ds ∧ Pre ds ∧
  ∀ d v G' H', RR ds d → Go G (del H p) G' (del H' p) → StmAt G' H' p → Rp G' v d → Q v H'
theorem evs_callS {i : Nat} {p : Addr} {Pre : List PyData → Prop} {RR : List PyData → PyData → Prop} {E : XK} {tr : TA} {PA : List PyData → Prop} {PR : PyData → Prop} (hi : τ[i]? = some (.stm p)) (ha : EvSA tr τ PA) (hp : ∀ ds, PA ds → Pre ds) (hr : ∀ ds d, PA ds → RR ds d → PR d) :
    EvS (tCall (SpS Pre RR) [] E (tCons (tVar i) tr)) τ PR := fun G0 H0 σ ows G H s Q q => by
  obtain ⟨sv, o, h1, h2, rfl, rfl, _⟩ := s.en.env.get hi
  refine ⟨.ref p, h1, ha G0 H0 σ ows G H s _ fun ds vs G1 H1 pd e1 s1 r1 => ?_⟩
  have hm : p ∈ ows.flatten := flat_get h2 (List.mem_singleton.mpr rfl)
  obtain ⟨sv', o', h1', h2', _, _, hst⟩ := s1.en.env.get hi
  refine ⟨G1, p, vs, ds, by rw [List.append_nil], s1.en.ext, s1.en.free p hm, hst, r1, hp ds pd, fun d v G2 H2 hR g2 st2 p2 => q d v G2 H2 (hr ds d pd hR) (e1.trans g2.g) ?_ p2⟩
  have gp : G2 p = none := by
    cases z : G2 p with
    | none => rfl
    | some o =>
      have := g2.k p o z
      rw [del_same] at this
      cases this
  have h0p := s1.new p hm
  have gk : Ex G2 H2 := fun b u e => by
    have hb : b ≠ p := fun z => by
      rw [z, gp] at e
      cases e
    have := g2.k b u e
    rw [del_ne hb] at this
    exact this
  have oth : ∀ a, a ≠ p → H1 a ≠ none → H2 a = H1 a := fun a ha hl => by
    cases z : H1 a with
    | none => exact absurd z hl
    | some u =>
      have := g2.h a u (by rw [del_ne ha]; exact z)
      rw [del_ne ha] at this
      exact this
  refine ⟨⟨fun b u e => ?_, s1.go.g.trans g2.g, gk, fun b hb => ?_⟩, ⟨?_, s1.en.nd, gk, fun a ha => ?_⟩, s1.new⟩
  · have hb : b ≠ p := fun z => by
      rw [z, h0p] at e
      cases e
    have := g2.h b u (by rw [del_ne hb]; exact s1.go.h b u e)
    rw [del_ne hb] at this
    exact this
  · rcases g2.n b hb with z | z
    · exact s1.go.n b z
    · by_cases hbp : b = p
      · rw [hbp] at hb
        exact absurd gp hb
      · rw [del_ne hbp] at z
        right
        exact Evl.fresh_back s1.go.h z
  · have e0 : ∀ (σ : L2.St) (τ : List Sl) (ows : List (List Addr)) (i : Nat), Rb.Env G1 H1 σ τ ows → ows.flatten.Nodup → τ[i]? = some (.stm p) → ows[i]? = some [p] → Rb.Env G2 H2 σ τ ows := by
      intro σ τ ows i e
      induction e generalizing i with
      | nil =>
        intro _ h
        simp at h
      | cons h t ih =>
        rename_i s1 σ1 t1 τ1 o1 os1
        intro hn h1 h2
        rw [List.flatten_cons] at hn
        obtain ⟨n1, n2, n3⟩ := List.nodup_append.mp hn
        cases i with
        | zero =>
          have a1 : t1 = .stm p := Option.some.inj h1
          have a2 : o1 = [p] := Option.some.inj h2
          subst a1 a2
          refine .cons ⟨h.1, rfl, st2⟩ (t.mono g2.g fun a ha => oth a (fun z => n3 p (List.mem_singleton.mpr rfl) a ha z.symm) (t.live a ha))
        | succ j =>
          have h2' : os1[j]? = some [p] := by simpa using h2
          refine .cons (h.mono g2.g fun a ha => oth a (fun z => ?_) (h.live a ha)) (ih j n2 (by simpa using h1) h2')
          exact n3 a ha p (flat_get h2' (List.mem_singleton.mpr rfl)) z
    exact e0 σ τ ows i s1.en.env s1.en.nd hi h2
  · by_cases hap : a = p
    · rw [hap]
      exact gp
    · cases z : G2 a with
      | none => rfl
      | some u =>
        rcases g2.n a (by rw [z]; exact fun y => nomatch y) with y | y
        · exact absurd (s1.en.free a ha) y
        · rw [del_ne hap] at y
          exact absurd y (s1.en.env.live a ha)
theorem fn_stm {P : Program} {w : World} {mg : Str → Option Value} {base : Heap} {x qual : Str} {st : Stmt} {f : Addr} {fd : FuncData} {NN ps : List Str} {k : Nat} {Pre : List PyData → Prop} {RR : List PyData → PyData → Prop} (F : Fun K x qual st f fd) (S : FnScope NN ps (defScope st)) (len : ∀ ds, Pre ds → ds.length + 1 = ps.length)
    (hb : ∀ (cdv : Value) (A : Around) (outer : List PySem.Env) (s : Shared) (H : Hp) (E : XK), Room k (A.deeper (envOfC qual (defScope st) s.heap.objs.size f cdv)) →
      ∃ t, PSs (cxOf CX0 P w K mg base NN qual (defScope st) f cdv A outer s H E).nox (defBody st) t ∧ ∀ p ds, Pre ds → Ok t (.stm p :: slots (NN.length - 1) ds) (fun _ => False) (fun τ' d => τ'[0]? = some (.stm p) ∧ RR ds d)) : FnOk P w K mg base CX0 (k + 1) f fd ps (SpS Pre RR) := by
  refine F.ok S (fun vs H Q E h => ?_) (fun cdv A outer s H vs Q E hr h => ?_)
  · obtain ⟨G, p, us, ds, rfl, _, _, _, h1, h2, _⟩ := h
    rw [List.length_cons, h1.length]
    exact len ds h2
  · obtain ⟨G, p, us, ds, rfl, e, hg, hst, h1, h2, q⟩ := h
    obtain ⟨t, ht, hok⟩ := hb cdv A outer s H E hr
    have ext : Ex (del H p) H := fun b u eb => by
      have hbp : b ≠ p := fun z => by
        rw [z, del_same] at eb
        cases eb
      rw [del_ne hbp] at eb
      exact eb
    have es : Rb.Env G H (L2.start NN (.ref p :: us)) (.stm p :: slots (NN.length - 1) ds) ([p] :: (ds.map (fun _ => ([] : List Addr)) ++ List.replicate (NN.length - 1 - ds.length) [])) := by
      unfold L2.start slots
      rw [List.map_cons, List.length_cons, h1.length, List.cons_append, show NN.length - (ds.length + 1) = NN.length - 1 - ds.length by omega]
      exact .cons ⟨rfl, rfl, hst⟩ (env_start _ h1)
    have fl : ([p] :: (ds.map (fun _ => ([] : List Addr)) ++ List.replicate (NN.length - 1 - ds.length) [])).flatten = [p] := by
      rw [List.flatten_cons, flat_start]
      rfl
    refine ⟨t, ht, hok p ds h2 G (del H p) _ H _ ⟨_, G, ⟨ext, Ex.refl G, e, fun b hb => .inl hb⟩, ⟨es, ?_, e, fun a ha => ?_⟩, fun a ha => ?_⟩ (fun τ' σ' H' hn z => hn.elim) fun τ' d v σ' ows' G' H' hR z p2 => ?_⟩
    · rw [fl]
      simp
    · rw [fl] at ha
      rw [List.mem_singleton.mp ha]
      exact hg
    · rw [fl] at ha
      rw [List.mem_singleton.mp ha]
      exact del_same
    · obtain ⟨hR0, hR1⟩ := hR
      obtain ⟨sv, o, q1, q2, _, rfl, q3⟩ := z.en.env.get hR0
      have gp : G' p = none := z.en.free p (flat_get q2 (List.mem_singleton.mpr rfl))
      refine q d v G' H' hR1 ⟨fun b u eb => ?_, z.go.g, fun b u eb => ?_, z.go.n⟩ q3 p2
      · have hbp : b ≠ p := fun y => by
          rw [y, del_same] at eb
          cases eb
        rw [del_ne hbp]
        exact z.go.h b u eb
      · have hbp : b ≠ p := fun y => by
          rw [y, gp] at eb
          cases eb
        rw [del_ne hbp]
        exact z.go.k b u eb
end
end Rb

/-! part RbLay5 -/
/-! rules: lists of lists that change, a dict, pop -/
namespace Rb
open PySem PySem.Spec PyProof.Rows L2
open Evl (Ex)
section
variable {K : PySem.W.Frag} {τ τ1 : List Sl} {te tl ta tb : TE} {d : PyData} {G0 H0 G H G' H' : Hp} {σ : L2.St} {ows : List (List Addr)} {t u tw : TS} {N N1 : List Sl → Prop} {R : List Sl → PyData → Prop}
theorem RwsAt.len : ∀ {ps : List Addr} {rs : List (List Int)}, RwsAt H ps rs → ps.length = rs.length
  | _, _, .nil => rfl
  | _, _, .cons _ t => by rw [List.length_cons, List.length_cons, RwsAt.len t]
theorem RwsAt.get : ∀ {ps : List Addr} {rs : List (List Int)} {i : Nat} {r : List Int}, RwsAt H ps rs → rs[i]? = some r → ∃ p, ps[i]? = some p ∧ H p = some (.lst (r.map V.int))
  | _, _, _, _, .nil, e => by simp at e
  | _, _, 0, _, .cons h _, e => by
    have e' := Option.some.inj e
    subst e'
    exact ⟨_, rfl, h⟩
  | _, _, i + 1, r, .cons _ h, e => by
    obtain ⟨p, h1, h2⟩ := RwsAt.get (i := i) (r := r) h (by simpa using e)
    exact ⟨p, by simpa using h1, h2⟩
theorem RwsAt.snoc {q : Addr} {r : List Int} : ∀ {ps : List Addr} {rs : List (List Int)}, RwsAt H ps rs → RwAt H q r → RwsAt H (ps ++ [q]) (rs ++ [r])
  | _, _, .nil, h => .cons h .nil
  | _, _, .cons h t, h' => .cons h (RwsAt.snoc t h')
theorem RwsAt.upd_at {q : Addr} {r : List Int} : ∀ {ps : List Addr} {rs : List (List Int)} {i : Nat}, RwsAt H ps rs → ps.Nodup → ps[i]? = some q → RwsAt (upd H q (.lst (r.map V.int))) ps (rs.set i r)
  | _, _, _, .nil, _, e => by simp at e
  | p :: ps, _, 0, .cons h t, nd, e => by
    have e' : p = q := Option.some.inj e
    subst e'
    rw [List.set_cons_zero]
    exact .cons upd_same (t.mono fun a ha => upd_ne fun z => (List.nodup_cons.mp nd).1 (z ▸ ha))
  | p :: ps, _, i + 1, .cons h t, nd, e => by
    rw [List.set_cons_succ]
    have e2 : ps[i]? = some q := by simpa using e
    refine .cons ?_ (RwsAt.upd_at t (List.nodup_cons.mp nd).2 e2)
    have hne : p ≠ q := fun z => (List.nodup_cons.mp nd).1 (by
      rw [z]
      exact List.mem_of_getElem? e2)
    unfold RwAt
    rw [upd_ne hne]
    exact h

/-- rows = [[] for .. in ..] -/
theorem ok_asgRows {wi : TI} {g : TG} {vs : List Nat} {xs : List PyData} {i : Nat} (hw : ItD wi τ xs) (hz : xs.length ≤ 100000) (hg : ∀ x ∈ xs, ∃ τ1, TgD g vs x (wipeT τ vs) τ1) (k : N (τ.set i (.rws (List.replicate xs.length [])))) :
    Ok (tAsg (tLc wi g tYes (tLst tNil) vs) (gName i)) τ N R := fun G0 H0 σ H D s n r => by
  obtain ⟨ows, G, s⟩ := s
  refine hw G H σ ows s.en _ fun J G1 H1 g1 wd Dl hD => ?_
  obtain ⟨Y, w, hy⟩ := wd
  have s1 := s.step g1
  obtain ⟨ows1, ew⟩ := s1.en.wipe vs
  refine lc_it w (fun j H' => ∃ (Gi : Hp) (ps : List Addr), Go G1 H1 Gi H' ∧ Gi Dl = none ∧ H' Dl = some (.lst (ps.map V.ref)) ∧ RwsAt H' ps (List.replicate j []) ∧ ps.Nodup ∧ ∀ p ∈ ps, H1 p = none ∧ Gi p = none ∧ p ≠ Dl) ⟨G1, [], Go.hid g1.k hD, Evl.fresh_back g1.k hD, upd_same, .nil, List.nodup_nil, fun p hp => by cases hp⟩ (fun i H' _ ⟨Gi, us, gi, _⟩ => gi.g.trans gi.k) ?_ ?_
  · rintro j x H2 H3 hj ⟨Gi, ps, gi, gD, hD2, hps, nd, fr⟩ hY
    have hx : xs[j]? = some xs[j] := List.getElem?_eq_getElem hj
    obtain ⟨τ1, htg⟩ := hg xs[j] (List.getElem_mem hj)
    obtain ⟨G3, g3, p3⟩ := hy j Gi H2 x H3 _ hx gi.g gi.k hY
    have e3 : En G3 H3 (L2.wipe σ vs) (wipeT τ vs) ows1 := ew.go (gi.trans g3)
    have dn : ∀ b, Gi b = none → H2 b ≠ none → G3 b = none := fun b z1 z2 => by
      cases qq : G3 b with
      | none => rfl
      | some o =>
        rcases g3.n b (by rw [qq]; exact fun z => nomatch z) with z | z
        · exact absurd z1 z
        · exact absurd z z2
    refine htg G3 H3 _ _ x e3 p3 _ fun σ4 ows4 e4 l4 s4 _ => ⟨wipe_eq l4 s4, ?_⟩
    unfold tYes
    dsimp only
    rw [if_pos rfl]
    refine ⟨Nat.zero_le _, fun q hq => ?_⟩
    have h3D : H3 Dl = some (.lst (ps.map V.ref)) := g3.h _ _ hD2
    have nqD : Dl ≠ q := ne_of_none h3D hq
    have hq1 : H1 q = none := Evl.fresh_back (gi.trans g3).h hq
    have gq3 : G3 q = none := Evl.fresh_back e4.ext hq
    refine ⟨ps.map V.ref, by rw [upd_ne nqD]; exact h3D, ?_, G3, ps ++ [q], ?_, dn Dl gD (by rw [hD2]; exact fun z => nomatch z), ?_, ?_, ?_, fun p hp => ?_⟩
    · rw [List.length_map, hps.len, List.length_replicate]
      exact Evl.sz_lt (by omega)
    · exact ((gi.trans g3).mut (o := .lst []) hq1 gq3).mut hD (dn Dl gD (by rw [hD2]; exact fun z => nomatch z))
    · rw [upd_same, List.map_append]
      rfl
    · rw [List.replicate_succ']
      refine (hps.mono fun a ha => ?_).snoc ?_
      · have la : H3 a = H2 a := ex_same g3.h (hps.live a ha)
        rw [upd_ne (fr a ha).2.2, upd_ne (fun z => ?_), la]
        have := hps.live a ha
        rw [← la, z, hq] at this
        exact this rfl
      · unfold RwAt
        rw [upd_ne (Ne.symm nqD), upd_same]
        rfl
    · refine List.nodup_append.mpr ⟨nd, by simp, fun a ha b hb e => ?_⟩
      rw [List.mem_singleton.mp hb] at e
      have := hps.live a ha
      have la : H3 a = H2 a := ex_same g3.h this
      rw [← la, e, hq] at this
      exact this rfl
    · rcases List.mem_append.mp hp with h | h
      · obtain ⟨f1, f2, f3⟩ := fr p h
        exact ⟨f1, dn p f2 (hps.live p h), f3⟩
      · rw [List.mem_singleton.mp h]
        exact ⟨hq1, gq3, Ne.symm nqD⟩
  · rintro H2 ⟨Gi, ps, gi, gD, hD2, hps, nd, fr⟩
    have s2 := s1.step gi
    have hDl0 : H0 Dl = none := Evl.fresh_back s1.go.h hD
    have g2 := s2.go.seal hDl0 hD2 gD
    have nown : ∀ p ∈ ps, p ∉ ows.flatten := fun p hp hm => s1.en.env.live p hm (fr p hp).1
    refine n _ _ _ k ⟨ows.set i ps, upd Gi Dl (.lst (ps.map V.ref)), g2, ⟨?_, flat_set_nd _ _ _ s2.en.nd nd nown, g2.k, fun a ha => ?_⟩, fun a ha => ?_⟩
    · exact (s2.en.env.mono (Ex.new gD) fun _ _ => rfl).set i ⟨Dl, ps, rfl, rfl, upd_same, hps⟩
    · rcases flat_set_sub _ _ _ _ ha with q | q
      · rw [upd_ne (fr a q).2.2]
        exact (fr a q).2.1
      · rw [upd_ne fun z => s1.en.env.live a q (by rw [z]; exact hD)]
        exact s2.en.free a q
    · rcases flat_set_sub _ _ _ _ ha with q | q
      · exact Evl.fresh_back s1.go.h (fr a q).1
      · exact s.new a q
theorem sq_asgRows {wi : TI} {g : TG} {vs : List Nat} {xs : List PyData} {i : Nat} (hw : ItD wi τ xs) (hz : xs.length ≤ 100000) (hg : ∀ x ∈ xs, ∃ τ1, TgD g vs x (wipeT τ vs) τ1) (k : Ok u (τ.set i (.rws (List.replicate xs.length []))) N R) :
    Ok (tSeq (tAsg (tLc wi g tYes (tLst tNil) vs) (gName i)) u) τ N R := ok_seq (N1 := (· = τ.set i (.rws (List.replicate xs.length [])))) (ok_asgRows hw hz hg rfl) fun _ e => by
  subst e
  exact k
/-- rows[k].append(z) -/
theorem ok_rowApp {i k : Nat} {rs : List (List Int)} {r : List Int} {z : Int} (hi : τ[i]? = some (.rws rs)) (h1 : EvD ta τ (.int (k : Int))) (hk : rs[k]? = some r) (hz : r.length < 100000) (h2 : EvD te τ (.int z)) (kk : N (τ.set i (.rws (rs.set k (r ++ [z]))))) :
    Ok (tDrop (tBM K "list" rAppend (tOp (rIxL K) (tVar i) ta) (tCons te tNil))) τ N R := fun G0 H0 σ H D s n _ => by
  obtain ⟨ows, G, s⟩ := s
  obtain ⟨sv, o, q1, q2, P, ps, rfl, rfl, q3, q4⟩ := s.en.env.get hi
  refine ⟨.ref P, q1, h1 G H σ ows s.en _ fun v G1 H1 g1 p1 => ?_⟩
  have s1 := s.step g1
  obtain ⟨sv', o', q1', q2', P', ps', e4, e5, q3', q4'⟩ := s1.en.env.get hi
  rw [q2] at q2'
  have a3 := Option.some.inj q2'
  subst e5
  subst a3
  obtain ⟨q, hq, hql⟩ := q4'.get hk
  have hP : H1 P = some (.lst (o.map V.ref)) := g1.h _ _ (s.en.ext _ _ q3)
  refine ⟨P, o.map V.ref, (k : Int), .ref q, rfl, p1.int_inv, .inl (.inl hP), at_nat (by rw [List.getElem?_map, hq]; rfl), .inl ⟨rfl, _, .inl (.inl hql)⟩, ?_⟩
  refine h2 G1 H1 σ ows s1.en _ fun v2 G2 H2 g2 p2 => ?_
  have s2 := s1.step g2
  have hmem : q ∈ o := List.mem_of_getElem? hq
  have hm : q ∈ ows.flatten := flat_get q2 hmem
  have hql2 := g2.h _ _ hql
  refine ⟨q, r.map V.int, v2, rfl, rfl, hql2, by rw [List.length_map]; exact Evl.sz_lt hz, n _ _ _ kk ?_⟩
  have gg := s2.go.mut (o := .lst (r.map V.int ++ [v2])) (s2.new q hm) (s2.en.free q hm)
  refine ⟨ows, G2, gg, ⟨?_, s2.en.nd, gg.k, s2.en.free⟩, s2.new⟩
  rw [p2.int_inv]
  have e0 : ∀ (σ : L2.St) (τ : List Sl) (ows : List (List Addr)) (i : Nat), Rb.Env G2 H2 σ τ ows → ows.flatten.Nodup → τ[i]? = some (.rws rs) → ows[i]? = some o → Rb.Env G2 (upd H2 q (.lst (r.map V.int ++ [.int z]))) σ (τ.set i (.rws (rs.set k (r ++ [z])))) ows := by
    intro σ τ ows i e
    induction e generalizing i with
    | nil =>
      intro _ h
      simp at h
    | cons h t ih =>
      rename_i s1 σ1 t1 τ1 o1 os1
      intro hn h1 h2
      rw [List.flatten_cons] at hn
      obtain ⟨n1, n2, n3⟩ := List.nodup_append.mp hn
      cases i with
      | zero =>
        have a1 : t1 = .rws rs := Option.some.inj h1
        have a2 : o1 = o := Option.some.inj h2
        subst a1 a2
        obtain ⟨P2, ps2, b1, b2, b3, b4⟩ := h
        subst b2
        rw [List.set_cons_zero]
        refine .cons ⟨P2, o1, b1, rfl, b3, ?_⟩ (t.mono (Ex.refl G2) fun a ha => upd_ne fun y => ?_)
        · have := b4.upd_at (r := r ++ [z]) n1 hq
          rw [List.map_append] at this
          exact this
        · exact n3 q hmem a ha y.symm
      | succ j =>
        rw [List.set_cons_succ]
        have h2' : os1[j]? = some o := by simpa using h2
        refine .cons (h.mono (Ex.refl G2) fun a ha => upd_ne fun y => ?_) (ih j n2 (by simpa using h1) h2')
        exact n3 a ha q (flat_get h2' hmem) y
  exact e0 σ τ ows i s2.en.env s2.en.nd hi q2
/-- the rows become data -/
def rwsD (rs : List (List Int)) : PyData := .list (rs.map fun r => .list (r.map PyData.int))
theorem RwsAt.rp {G1 : Hp} : ∀ {ps : List Addr} {rs : List (List Int)}, RwsAt G1 ps rs → RpAll G1 (ps.map V.ref) (rs.map fun r => .list (r.map PyData.int))
  | _, _, .nil => .nil
  | _, _, .cons h t => .cons (.lst h (RpAll.of_ints _)) (RwsAt.rp t)
theorem ok_sealR {i : Nat} {rs : List (List Int)} (h : τ[i]? = some (.rws rs)) (k : Ok t (τ.set i (.dat (rwsD rs))) N R) : Ok t τ N R := fun G0 H0 σ H D s n r => by
  obtain ⟨ows, G, s⟩ := s
  obtain ⟨sv, o, h1, h2, P, ps, rfl, rfl, h3, h4⟩ := s.en.env.get h
  have hσ : σ.set i (some (.ref P)) = σ := by
    refine List.ext_getElem? fun j => ?_
    by_cases e : i = j
    · subst e
      rw [List.getElem?_set_self (List.getElem?_eq_some_iff.mp h1).1, h1]
    · rw [List.getElem?_set_ne e]
  -- the known heap with the rows
  have ex : Ex G (fun b => if b ∈ o then H b else G b) := fun b u e => by
    show (if b ∈ o then H b else G b) = some u
    by_cases hb : b ∈ o
    · rw [if_pos hb]
      exact s.en.ext b u e
    · rw [if_neg hb]
      exact e
  have gg : Go G0 H0 (fun b => if b ∈ o then H b else G b) H := ⟨s.go.h, s.go.g.trans ex, fun b u e => by
    replace e : (if b ∈ o then H b else G b) = some u := e
    by_cases hb : b ∈ o
    · rw [if_pos hb] at e
      exact e
    · rw [if_neg hb] at e
      exact s.en.ext b u e, fun b hb => by
    replace hb : (if b ∈ o then H b else G b) ≠ none := hb
    by_cases hm : b ∈ o
    · exact .inr (s.new b (flat_get h2 hm))
    · rw [if_neg hm] at hb
      exact s.go.n b hb⟩
  refine k G0 H0 σ H D ⟨ows.set i [], _, gg, ⟨?_, flat_set_empty _ _ s.en.nd, gg.k, fun a ha => ?_⟩, fun a ha => ?_⟩ n r
  · have e1 : Env (fun b => if b ∈ o then H b else G b) H σ τ ows := s.en.env.mono ex fun _ _ => rfl
    have hr : RwsAt (fun b => if b ∈ o then H b else G b) o rs := h4.mono fun a ha => if_pos ha
    have e2 := e1.set (t := .dat (rwsD rs)) (s := some (.ref P)) (o := []) i ⟨rfl, _, rfl, .lst (ex _ _ h3) hr.rp⟩
    rw [hσ] at e2
    exact e2
  · have na : a ∉ o := fun z => flat_set_out _ _ _ s.en.nd h2 a z ha
    show (if a ∈ o then H a else G a) = none
    rw [if_neg na]
    rcases flat_set_sub _ _ _ _ ha with q | q
    · cases q
    · exact s.en.free a q
  · rcases flat_set_sub _ _ _ _ ha with q | q
    · cases q
    · exact s.new a q

/-! ### a dict of whole numbers -/
theorem ok_newD {i : Nat} (k : N (τ.set i (.dic []))) : Ok (tAsg tDNewK (gName i)) τ N R := fun G0 H0 σ H D s n r => by
  obtain ⟨ows, G, s⟩ := s
  intro p hp
  have gh := Go.hid (o := .dK []) s.en.ext hp
  refine n _ _ _ k ((s.step gh).own i ⟨p, rfl, rfl, upd_same⟩ (Evl.fresh_back s.go.h hp) (Evl.fresh_back s.en.ext hp) fun hm => s.en.env.live p hm hp)
theorem ok_dput {i : Nat} {kvs : List (Int × Int)} {a z : Int} (hi : τ[i]? = some (.dic kvs)) (hz : kvs.length < 100000) (hv : EvD te τ (.int z)) (hk : EvD ta τ (.int a)) (hn : ∀ e ∈ kvs, e.1 ≠ a) (k : N (τ.set i (.dic (kvs ++ [(a, z)])))) :
    Ok (sDPut (tVar i) ta te) τ N R := fun G0 H0 σ H D s n r => by
  obtain ⟨ows, G, s⟩ := s
  refine hv G H σ ows s.en _ fun v G1 H1 g1 p1 => ?_
  have s1 := s.step g1
  obtain ⟨sv, o, h1, h2, p, rfl, rfl, h3⟩ := s1.en.env.get hi
  refine ⟨.ref p, h1, hk G1 H1 σ ows s1.en _ fun y G2 H2 g2 p2 => ?_⟩
  have s2 := s1.step g2
  have h3' := g2.h _ _ h3
  refine ⟨p, upd H2 p (.dK (putK (kvs.map fun e => ((Sum.inl e.1 : Key), V.int e.2)) (.inl a) v)), rfl, ?_, ?_⟩
  · rw [p2.int_inv]
    exact DPut.k (k := .inl a) h3' (by rw [List.length_map]; exact Evl.sz_lt hz)
  · · refine n _ _ _ k ⟨ows, G2, s2.change (List.getElem?_eq_some_iff.mp hi).1 h1 h2 ⟨p, rfl, rfl, ?_⟩⟩
      rw [upd_same, p1.int_inv]
      congr 2
      unfold putK
      rw [if_neg, List.map_append]
      · rfl
      · rw [List.any_map]
        intro z
        obtain ⟨e, he, hq⟩ := List.any_eq_true.mp z
        have : (Sum.inl e.1 : Key) = .inl a := of_decide_eq_true hq
        exact hn e he (Sum.inl.inj this)
theorem evd_dget {i : Nat} {kvs : List (Int × Int)} {a z : Int} (hi : τ[i]? = some (.dic kvs)) (hk : EvD ta τ (.int a)) (hf : (kvs.find? fun e => decide (e.1 = a)) = some (a, z)) : EvD (tDGet (tVar i) ta) τ (.int z) := fun G H σ ows e Q q => by
  obtain ⟨sv, o, h1, h2, p, rfl, rfl, h3⟩ := e.env.get hi
  refine ⟨.ref p, h1, hk G H σ ows e _ fun y G2 H2 g2 p2 => ⟨p, .int z, rfl, ?_, q _ G2 H2 g2 (.int z)⟩⟩
  rw [p2.int_inv]
  have h := DGet.k (k := .inl a) (g2.h _ _ h3)
  have ev : valV (kvs.map fun e => ((Sum.inl e.1 : Key), V.int e.2)) (.inl a) = some (V.int z) := by
    unfold valV
    rw [List.find?_map]
    have e : ((fun kv : Key × V => decide (kv.1 = Sum.inl a)) ∘ fun e : Int × Int => ((Sum.inl e.1 : Key), V.int e.2)) = fun e : Int × Int => decide (e.1 = a) := by
      funext e
      show decide ((Sum.inl e.1 : Key) = Sum.inl a) = decide (e.1 = a)
      exact decide_eq_decide.mpr ⟨Sum.inl.inj, fun z => by rw [z]⟩
    rw [e, hf]
    rfl
  rw [ev] at h
  exact h

/-- ys.append(xs.pop(e)) -/
theorem ok_appPop {i j : Nat} {ds es : List PyData} {P : PyData → Prop} (hij : i ≠ j) (hi : τ[i]? = some (.lst ds)) (hj : τ[j]? = some (.lst es)) (hz : ds.length < 100000) (h : EvS te τ P)
    (k : ∀ d, P d → ∃ (m : Nat) (x : PyData), d = .int (m : Int) ∧ es[m]? = some x ∧ m < 100000 ∧ N ((τ.set j (.lst (es.eraseIdx m))).set i (.lst (ds ++ [x])))) :
    Ok (tDrop (tBM K "list" rAppend (tVar i) (tCons (tBM K "list" rPopAt (tVar j) (tCons te tNil)) tNil))) τ N R := fun G0 H0 σ H D s n r => by
  obtain ⟨ows, G, s⟩ := s
  obtain ⟨sv, o, h1, h2, p, vs, rfl, rfl, h3, h4⟩ := s.en.env.get hi
  obtain ⟨sv', o', h1', h2', p', vs', rfl, rfl, h3', h4'⟩ := s.en.env.get hj
  refine ⟨.ref p, h1, .inl ⟨rfl, vs, .inl (.inl h3)⟩, .ref p', h1', .inl ⟨rfl, vs', .inl (.inl h3')⟩, ?_⟩
  refine h G0 H0 σ ows G H s _ fun d v G1 H1 pd e1 s1 p1 => ?_
  obtain ⟨m, x, rfl, hx, hm, hN⟩ := k d pd
  obtain ⟨svb, ob, b1, b2, pb, ws, e4, e5, b3, b4⟩ := s1.en.env.get hj
  rw [h1'] at b1
  have a1 := Option.some.inj b1
  rw [← a1] at e4
  have a2 := V.ref.inj (Option.some.inj e4)
  subst a2
  obtain ⟨y, hy, py⟩ := b4.get hx
  have hml : m < ws.length := (List.getElem?_eq_some_iff.mp hy).1
  refine ⟨p', ws, (m : Int), m, y, rfl, by rw [p1.int_inv], b3, by omega, by omega, ?_, hy, ?_⟩
  · unfold seqIndex?
    first
      | (rw [if_neg (by omega), if_pos (by omega)]; simp)
      | (simp; omega)
  · have s2 := s1.change (o := .lst (ws.eraseIdx m)) (t' := .lst (es.eraseIdx m)) (List.getElem?_eq_some_iff.mp hj).1 h1' h2' ⟨p', _, rfl, rfl, upd_same, b4.erase m⟩
    have hi2 : (τ.set j (.lst (es.eraseIdx m)))[i]? = some (.lst ds) := by
      rw [List.getElem?_set_ne (Ne.symm hij)]
      exact hi
    obtain ⟨svc, oc, c1, c2, pc, us, e6, e7, c3, c4⟩ := s2.en.env.get hi2
    rw [h1] at c1
    have a3 := Option.some.inj c1
    rw [← a3] at e6
    have a4 := V.ref.inj (Option.some.inj e6)
    subst a4
    refine ⟨p, us, y, rfl, rfl, c3, by rw [c4.length]; exact Evl.sz_lt hz, n _ _ _ hN ⟨ows, G1, s2.change (List.getElem?_eq_some_iff.mp hi2).1 h1 h2 ⟨p, us ++ [y], rfl, rfl, upd_same, RpAll.append c4 (.one py)⟩⟩⟩
end
end Rb

/-! part RbLay6 -/
/-! rules: a list at a known address that changes; the stream -/
namespace Rb
open PySem PySem.Spec PyProof.Rows L2
open Evl (Ex)
section
variable {K : PySem.W.Frag} {τ τ1 : List Sl} {te tl ta tb : TE} {d : PyData} {G0 H0 G H G' H' : Hp} {σ : L2.St} {ows : List (List Addr)} {t u tw : TS} {N N1 : List Sl → Prop} {R : List Sl → PyData → Prop}
/-- a slot's word is exchanged for another one that says the same objects -/
theorem Env.reslot {t1 t2 : Sl} : ∀ {σ : L2.St} {τ : List Sl} {ows : List (List Addr)} {i : Nat}, Env G H σ τ ows → τ[i]? = some t1 → (∀ s o, σ[i]? = some s → ows[i]? = some o → slotOk G H t1 s o → slotOk G H t2 s o) → Env G H σ (τ.set i t2) ows
  | _, _, _, _, .nil, e, _ => by simp at e
  | _, _, _, 0, .cons h r, e, f => by
    have e' := Option.some.inj e
    subst e'
    exact .cons (f _ _ rfl rfl h) r
  | _, _, _, i + 1, .cons h r, e, f => .cons h (Env.reslot (i := i) r (by simpa using e) fun s o h1 h2 h3 => f s o (by simpa using h1) (by simpa using h2) h3)
theorem Sta.reslot {t1 t2 : Sl} {i : Nat} (s : Sta G0 H0 τ σ ows G H) (h : τ[i]? = some t1) (f : ∀ v o, slotOk G H t1 v o → slotOk G H t2 v o) : Sta G0 H0 (τ.set i t2) σ ows G H :=
  ⟨s.go, ⟨s.en.env.reslot h fun v o _ _ => f v o, s.en.nd, s.en.ext, s.en.free⟩, s.new⟩
def stmD (ns : List Int) (c k : Int) : List PyData := [.list (ns.map PyData.int), .int c, .int k]
theorem slot_open {p : Addr} {v : Option V} {o : List Addr} (h : slotOk G H (.stm p) v o) : ∃ ns c k, 0 ≤ k ∧ slotOk G H (.lsA p (stmD ns c k)) v o := by
  obtain ⟨h1, h2, l, c, k, ns, h3, h4, h5⟩ := h
  exact ⟨ns, c, k, h4, h1, h2, _, h3, .cons (.lst h5 (RpAll.of_ints ns)) (.cons (.int c) (.cons (.int k) .nil))⟩
theorem slot_close {p : Addr} {v : Option V} {o : List Addr} {ns : List Int} {c k : Int} (hk : 0 ≤ k) (h : slotOk G H (.lsA p (stmD ns c k)) v o) : slotOk G H (.stm p) v o := by
  obtain ⟨h1, h2, vs, h3, h4⟩ := h
  unfold stmD at h4
  cases h4 with
  | cons a b =>
    obtain ⟨x, y, rfl, px, py⟩ := rpAll_two b
    have ex := px.int_inv
    have ey := py.int_inv
    subst ex ey
    cases a with
    | lst a1 a2 =>
      have ei := a2.ints
      subst ei
      exact ⟨h1, h2, _, c, k, ns, h3, hk, a1⟩
theorem ok_stmOpen {i : Nat} {p : Addr} (h : τ[i]? = some (.stm p)) (k : ∀ ns c k, 0 ≤ k → Ok t (τ.set i (.lsA p (stmD ns c k))) N R) : Ok t τ N R := fun G0 H0 σ H D s n r => by
  obtain ⟨ows, G, s⟩ := s
  obtain ⟨v, o, h1, h2, h3⟩ := s.en.env.get h
  obtain ⟨ns, c, kk, hk, h4⟩ := slot_open h3
  refine k ns c kk hk G0 H0 σ H D ⟨ows, G, s.go, ⟨s.en.env.reslot h fun s' o' q1 q2 _ => ?_, s.en.nd, s.en.ext, s.en.free⟩, s.new⟩ n r
  rw [h1] at q1
  rw [h2] at q2
  have e1 := Option.some.inj q1
  have e2 := Option.some.inj q2
  subst e1 e2
  exact h4
theorem ok_stmClose {i : Nat} {p : Addr} {ns : List Int} {c kk : Int} (h : τ[i]? = some (.lsA p (stmD ns c kk))) (hk : 0 ≤ kk) (k : Ok t (τ.set i (.stm p)) N R) : Ok t τ N R := fun G0 H0 σ H D s n r => by
  obtain ⟨ows, G, s⟩ := s
  exact k G0 H0 σ H D ⟨ows, G, s.reslot h fun v o => slot_close hk⟩ n r
theorem evd_ixA {i : Nat} {p : Addr} {j : Int} {ds : List PyData} (hi : τ[i]? = some (.lsA p ds)) (h : EvD te τ (.int j)) (hd : atI ds j = some d) : EvD (tOp (rIxL K) (tVar i) te) τ d := fun G H σ ows e Q q => by
  obtain ⟨sv, o, h1, h2, rfl, rfl, vs, h3, h4⟩ := e.env.get hi
  refine ⟨.ref p, h1, h G H σ ows e _ fun v G1 H1 g1 p1 => ?_⟩
  obtain ⟨k, hj, hx⟩ := at_map h4.length hd
  obtain ⟨w, hv, pv⟩ := h4.get hj
  exact ⟨p, vs, j, w, rfl, p1.int_inv, .inl (.inl (g1.h _ _ h3)), hx w hv, q w G1 H1 g1 (Rp.mono g1.g _ _ pv)⟩
theorem RpAll.set {v : V} {d : PyData} (h : Rp G v d) : ∀ {vs : List V} {ds : List PyData} (n : Nat), RpAll G vs ds → RpAll G (vs.set n v) (ds.set n d)
  | _, _, _, .nil => .nil
  | _, _, 0, .cons _ t => .cons h t
  | _, _, n + 1, .cons h1 t => .cons h1 (RpAll.set h n t)
/-- xs[j] = e -/
theorem ok_setA {i : Nat} {p : Addr} {j : Nat} {ds : List PyData} (hi : τ[i]? = some (.lsA p ds)) (h : EvD te τ d) (hj : EvD ta τ (.int (j : Int))) (hl : j < ds.length) (k : N (τ.set i (.lsA p (ds.set j d)))) : Ok (tAsg te (gSub (tVar i) ta rSetL)) τ N R := fun G0 H0 σ H D s n r => by
  obtain ⟨ows, G, s⟩ := s
  refine h G H σ ows s.en _ fun v G1 H1 g1 p1 => ?_
  have s1 := s.step g1
  obtain ⟨sv, o, h1, h2, rfl, rfl, vs, h3, h4⟩ := s1.en.env.get hi
  refine ⟨.ref p, h1, hj G1 H1 σ ows s1.en _ fun w G2 H2 g2 p2 => ?_⟩
  have s2 := s1.step g2
  have hl' : j < vs.length := by
    rw [h4.length]
    exact hl
  refine ⟨p, vs, (j : Int), j, rfl, p2.int_inv, g2.h _ _ h3, Evl.ixN_nat hl', n _ _ _ k ⟨ows, G2, s2.change (List.getElem?_eq_some_iff.mp hi).1 h1 h2 ⟨rfl, rfl, _, upd_same, RpAll.set (Rp.mono g2.g _ _ p1) j (RpAll.mono g2.g _ _ h4)⟩⟩⟩
theorem sq_setA {i : Nat} {p : Addr} {j : Nat} {ds : List PyData} (hi : τ[i]? = some (.lsA p ds)) (h : EvD te τ d) (hj : EvD ta τ (.int (j : Int))) (hl : j < ds.length) (k : Ok u (τ.set i (.lsA p (ds.set j d))) N R) : Ok (tSeq (tAsg te (gSub (tVar i) ta rSetL)) u) τ N R := ok_seq (N1 := (· = τ.set i (.lsA p (ds.set j d)))) (ok_setA hi h hj hl rfl) fun _ e => by
  subst e
  exact k
end
end Rb

/-! part RbTop -/
/-! the program's text, and how its defs are called -/
namespace Rb
open PySem PySem.Spec PyProof.Rows L2
open Evl (Ex)
def topS (i : Nat) : Stmt := PySem.Challenge.pw_ringbeats_k20_whole_least_rings.main.body.getD i (.Pass ⟨0, 0, 0, 0⟩)
/-- the built-ins that no name of the module hides -/
structure Tx (mg : Str → Option Value) (tk : Tok) : Prop where
  n_isinstance : mg "isinstance" = none
  n_int : mg "int" = none
  n_bool : mg "bool" = none
  n_str : mg "str" = none
  n_tuple : mg "tuple" = none
  n_list : mg "list" = none
  n_all : mg "all" = none
  n_any : mg "any" = none
  n_range : mg "range" = none
  n_len : mg "len" = none
  n_sum : mg "sum" = none
  n_sorted : mg "sorted" = none
  n_zip : mg "zip" = none
  n_enumerate : mg "enumerate" = none
  n_abs : mg "abs" = none
  MP : mg "MOST_PLAYERS" = some (.int 8 tk)
/-- a def as it stands behind the top -/
structure At (K : PySem.W.Frag) (mg : Str → Option Value) (x : Str) (st : Stmt) (ps : List Str) : Prop where
  ex : ∃ (f : Addr) (fd : FuncData), Fun K x x st f fd ∧ mg x = some (.ref f) ∧ Binds K fd ps []
/-- a def that keeps a promise -/
structure Ca (P : Program) (w : World) (K : PySem.W.Frag) (mg : Str → Option Value) (base : Heap) (k : Nat) (x : Str) (sp : Sp) : Prop where
  ex : ∃ (f : Addr) (fd : FuncData) (ps : List Str), FnOk P w K mg base CX0 k f fd ps sp ∧ mg x = some (.ref f) ∧ PySem.W.keepIn K (.ref f) = true ∧ Binds K fd ps []
/-! the rules that lean on the written part, with it said -/
section
variable {X : Cx}
theorem ix_tupK (K : PySem.W.Frag) (e : X.K = K) : IxR X (rIxT K) := e ▸ ix_tup
theorem ix_listK (K : PySem.W.Frag) (e : X.K = K) : IxR X (rIxL K) := e ▸ ix_list
theorem ix_seqK (K : PySem.W.Frag) (e : X.K = K) : IxR X (rIx K) := e ▸ ix_seq
theorem op_inK (K : PySem.W.Frag) (e : X.K = K) : OpR X (compareOp .In) (rIn K false) := e ▸ op_in_seq
theorem op_notInK (K : PySem.W.Frag) (e : X.K = K) : OpR X (compareOp .NotIn) (rIn K true) := e ▸ op_notIn_seq
theorem op_eqDK (K : PySem.W.Frag) (e : X.K = K) (hu : X.A.units + 64 < cLine) : OpR X (compareOp .Eq) (rEqD K) := e ▸ op_eqD hu
theorem op_neDK (K : PySem.W.Frag) (e : X.K = K) (hu : X.A.units + 64 < cLine) : OpR X (compareOp .NotEq) (rNeD K) := e ▸ op_neD hu
theorem op_catK (K : PySem.W.Frag) (e : X.K = K) : OpR X (binaryOp .Add) (rCatA K) := e ▸ op_catA
theorem sl_listK (K : PySem.W.Frag) (e : X.K = K) : SlR X (rSlL K) := e ▸ sl_list
theorem sl_tupK (K : PySem.W.Frag) (e : X.K = K) : SlR X (rSlA K) := e ▸ sl_tupA
theorem call_lenK (K : PySem.W.Frag) (e : X.K = K) : CallR X (.builtin "len") (fun xs H Q => ∃ p ys, xs = [V.ref p] ∧ (SqL K H p ys ∨ SqT K H p ys) ∧ Q (.int ys.length) H) := e ▸ call_len_seq
theorem call_tupleK (K : PySem.W.Frag) (e : X.K = K) : CallR X (.type "tuple") (fun xs H Q => ∃ p ys, xs = [V.ref p] ∧ ((SqL K H p ys ∧ ∀ l, H l = none → Q (.ref l) (upd H l (.tup ys))) ∨ (SqT K H p ys ∧ Q (.ref p) H))) := e ▸ call_tuple_of
theorem call_isiK' (K : PySem.W.Frag) (e : X.K = K) : CallR X (.builtin "isinstance") (rIsi K) := e ▸ call_isi
theorem cr_allK (K : PySem.W.Frag) (e : X.K = K) (hc : X.calm = true) : CallR X (.builtin "all") (rAll K) := e ▸ cr_all hc
theorem cr_anyK (K : PySem.W.Frag) (e : X.K = K) (hc : X.calm = true) : CallR X (.builtin "any") (rAny K) := e ▸ cr_any hc
theorem cr_sumK (K : PySem.W.Frag) (e : X.K = K) (hc : X.calm = true) : CallR X (.builtin "sum") (rSum K) := e ▸ cr_sum hc
theorem cr_sortedIK (K : PySem.W.Frag) (e : X.K = K) (hc : X.calm = true) : CallR X (.builtin "sorted") (rSortedI K) := by
  subst e
  exact cr_sortedI
theorem pg_tupK (K : PySem.W.Frag) (e : X.K = K) {pos : Pos} {es : List Expr} {k : Nat} {t : TGs} {n : Nat} (hc : X.calm = true) (h : PGs X es t)
    (hn : (assignEach es X.env).length = n := by rfl) (hst : (assignEach es X.env).findIdx? (·.1) = none := by rfl) : PG X (.Tuple es k pos) (gTup K n t) := e ▸ pg_tup hc h hn hst
end
theorem isi_ii : kitB "int" "int" = some true := by decide +kernel
theorem isi_ib : kitB "int" "bool" = some false := by decide +kernel
theorem isi_bb : kitB "bool" "bool" = some true := by decide +kernel
theorem isi_tt : kitB "tuple" "tuple" = some true := by decide +kernel
section
variable {P : Program} {w : World} {K : PySem.W.Frag} {mg : Str → Option Value} {base : Heap}
theorem pe_ca {X : Cx} {k j : Nat} {x : Str} {sp : Sp} {e : Expr} {es : List Expr} {t : TA} {p pos : Pos} (c : Ca X.prog X.w X.K X.mg X.base k x sp) (hr : Room j X.A) (hk : k ≤ j) (hg : Gl X x) (ha : PA X (e :: es) t)
    (dbg : (x == ("__debug__" : Str)) = false := by decide)
    (first : starEach (e :: es) X.env = (false, eval e X.env) :: starEach es X.env := by rfl)
    (plain : (backTo pos (starEach es X.env)).any (·.1) = false := by rfl) : PE X (.Call (.Name x p) (e :: es) [] pos) (tCall sp [] E0 t) := by
  rcases c.ex with ⟨_, _, _, F, hm, kp, b⟩
  exact pe_call F (hr.mono hk) hg hm kp b .nil pass0 ha dbg first plain
theorem ca_pure {x : Str} {st : Stmt} {NN ps : List Str} {k : Nat} {RR : List PyData → PyData → Prop} (A : At K mg x st ps) (S : FnScope NN ps (defScope st)) (len : ∀ ds d, RR ds d → ds.length = ps.length)
    (hb : ∀ (f : Addr) (cdv : Value) (A : Around) (outer : List PySem.Env) (s : Shared) (H : Hp) (E : XK), Room k (A.deeper (envOfC x (defScope st) s.heap.objs.size f cdv)) →
      ∃ t, PSs (cxOf CX0 P w K mg base NN x (defScope st) f cdv A outer s H E).nox (defBody st) t ∧ ∀ ds d, RR ds d → Ok t (slots NN.length ds) (fun _ => d = .none) (fun _ d' => d' = d)) : Ca P w K mg base (k + 1) x (SpP RR) := by
  obtain ⟨f, fd, F, hm, b⟩ := A.ex
  exact ⟨f, fd, ps, fn_pure F S len (hb f), hm, F.kp, b⟩
theorem ca_stm {x : Str} {st : Stmt} {NN ps : List Str} {k : Nat} {Pre : List PyData → Prop} {RR : List PyData → PyData → Prop} (A : At K mg x st ps) (S : FnScope NN ps (defScope st)) (len : ∀ ds, Pre ds → ds.length + 1 = ps.length)
    (hb : ∀ (f : Addr) (cdv : Value) (A : Around) (outer : List PySem.Env) (s : Shared) (H : Hp) (E : XK), Room k (A.deeper (envOfC x (defScope st) s.heap.objs.size f cdv)) →
      ∃ t, PSs (cxOf CX0 P w K mg base NN x (defScope st) f cdv A outer s H E).nox (defBody st) t ∧ ∀ p ds, Pre ds → Ok t (.stm p :: slots (NN.length - 1) ds) (fun _ => False) (fun τ' d => τ'[0]? = some (.stm p) ∧ RR ds d)) : Ca P w K mg base (k + 1) x (SpS Pre RR) := by
  obtain ⟨f, fd, F, hm, b⟩ := A.ex
  exact ⟨f, fd, ps, fn_stm F S len (hb f), hm, F.kp, b⟩
end
end Rb

/-! part RbEnum -/
/-! for .. in enumerate(a tuple) -/
namespace Rb
open PySem PySem.Spec PyProof.Rows L2
open Evl (Ex)
/-- the record that enumerate(..) makes over the iterator at n -/
def enumOb (n : Nat) : Obj := { cls := .type "enumerate", data := .fields #[.none, .bool false, .ref n, rawInt 0, .none, .none] }
set_option maxHeartbeats 1000000 in
theorem mk_enum {src : Value} {ob : Obj} {Can : Heap → Prop} (bg : Begins src ob Can) :
    Meets (Builtin.«enumerate.__new__» ⟨[.type "enumerate", src], []⟩) (fun _ R z => Can z.heap ∧
      R (.ok (.ret (.ref (z.heap.push ob).objs.size))) { z with heap := (z.heap.push ob).push (enumOb z.heap.objs.size) }) := by
  refine .of_wp fun prog wd ar R z hz => ?_
  rcases z with ⟨hp, gl, dk, tk, os⟩
  rcases hz with ⟨can, res⟩
  have sub := sub_enumerate
  have began : ∀ {ar' : Around} {bad good : Value → Shared → Prop}, good (.ref hp.objs.size) ⟨hp.push ob, gl, dk, tk, os⟩ →
      wpAny (model prog wd) ar' (pyIter src) good bad ⟨hp, gl, dk, tk, os⟩ :=
    fun q => bg.iter prog wd _ _ _ _ can q
  wp_walk using began
  refine wpAny_stack_any fun _ => ?_
  refine wpAny_pure ?_
  split
  · rename_i ty _ _ _ _ _
    cases (ty == Value.type "enumerate") <;> (wp_walk using began; exact ⟨_, rfl, res⟩)
  · wp_walk using began
    exact ⟨_, rfl, res⟩
theorem run_enum {prog : Program} {wd : World} {ar : Around} {bad good : Value → Shared → Prop} {z : Shared} {src : Value} {ob : Obj} {Can : Heap → Prop}
    (bg : Begins src ob Can) (can : Can z.heap)
    (go : ∀ k, IsEnum k (z.heap.objs.size + 1) z.heap.objs.size 0 .none → k.get? z.heap.objs.size = some ob → k.objs.size = z.heap.objs.size + 2 →
      (∀ c oc, z.heap.get? c = some oc → k.get? c = some oc) → good (.ref (z.heap.objs.size + 1)) { z with heap := k }) :
    wpAny (model prog wd) ar (call (.type "enumerate") [src]) good bad z := by
  have one : (z.heap.push ob).objs.size = z.heap.objs.size + 1 := Heap.size_push ..
  have isE : IsEnum ((z.heap.push ob).push (enumOb z.heap.objs.size)) (z.heap.objs.size + 1) z.heap.objs.size 0 .none :=
    one ▸ Heap.get?_push_size (z.heap.push ob) (o := enumOb z.heap.objs.size) rfl
  refine callType_new (ft := F.called_enumerate) (hne := by decide) (F.typeCall_enumerate_1 _) (F.newCall_enumerate_1 _)
    (fun w => F.args_object_init_2 w _) F.entry_enumerate_new (mk_enum bg) ⟨can, ?_⟩
  refine ⟨⟨_, (by rw [one]; exact isE), rfl⟩, ?_⟩
  rw [one]
  refine go _ isE (Heap.get?_push_of_some _ (Heap.get?_push_size _ bg.free)) ?_ fun c oc e => ?_
  · rw [Heap.size_push, one]
  · exact Heap.get?_push_of_some _ (Heap.get?_push_of_some _ e)
/-- a tuple is no iterator, and no enumerate record -/
theorem tup_apart {h : Heap} {a it : Addr} {arr : Array Value} {j b : Nat} (t : h.IsTuple a arr) (q : h.IsTupleIter it b j) : a ≠ it := by
  rintro rfl
  rcases t with ⟨x, hx, cx, -⟩
  rcases q with ⟨y, hy, cy, -⟩
  cases hx.symm.trans hy
  exact absurd (Value.type.inj (cy.symm.trans cx)) (by decide)
theorem enum_apart {h : Heap} {a e it : Addr} {arr : Array Value} {c : Int} {old : Value} (t : h.IsTuple a arr) (q : IsEnum h e it c old) : e ≠ a := by
  rintro rfl
  rcases t with ⟨x, hx, cx, -⟩
  cases hx.symm.trans q
  exact absurd (Value.type.inj cx) (by decide)
/-- the two cells of a running enumerate -/
theorem cell_of {b e it : Addr} (hb : b ∈ [e, it]) : b = e ∨ b = it := by simpa using hb
def IteT (K : PySem.W.Frag) (a : Addr) : It where
  go := fun j Hj => ∃ (row : List V) (x : V), SqT K Hj a row ∧ row[j]? = some x
  yld := fun j Hj y Hn => ∃ T x, y = .ref T ∧ Hj T = none ∧ Hn = upd Hj T (.tup [.int (j : Nat), x]) ∧ ∀ row, SqT K Hj a row → row[j]? = some x
  stop := fun j Hj => ∃ row : List V, SqT K Hj a row ∧ row.length ≤ j
/-- how the cells of a running enumerate stand when j items are drawn -/
def tnT (a e it : Addr) (j : Nat) (h : Heap) : Prop := (∃ was, IsEnum h e it ((j : Nat) : Int) was) ∧ h.IsTupleIter it a j ∧ e ≠ it
theorem tnT_obj {a e it : Addr} (j : Nat) (h : Heap) (st : tnT a e it j h) (b : Addr) (hb : b ∈ [e, it]) : ∃ ob, h.get? b = some ob ∧ ∀ v, ob.data ≠ .cell v := by
  rcases st with ⟨⟨was, en⟩, ⟨ob, at_, -, dt⟩, -⟩
  rcases cell_of hb with rfl | rfl
  · exact ⟨_, en, fun _ q => by cases q⟩
  · refine ⟨ob, at_, fun _ q => ?_⟩
    rw [dt] at q
    cases q
/-- one draw of it -/
theorem tnT_item {a e it : Addr} {elts : List Expr} {kk : Nat} {tpos : Pos} (X : Cx) (calm : X.calm = true) (j : Nat) (pins : List (Addr × Obj)) (z : Shared) (sg : L2.St) (Hj : Hp) (E : Value → Shared → Prop)
    (I : Inv X pins sg Hj z) (own : ∀ b ∈ [e, it], FpOk X pins Hj b) (st : tnT a e it j z.heap) (ok : (IteT X.K a).go j Hj) :
    wpAny (model X.prog X.w) X.A (pyNext (.ref e)) (fun r s1 => ∃ u, r = some u ∧
      wpAny (model X.prog X.w) X.A (letOwnedTupleGo (.Tuple elts kk tpos) (.ref e) u) (fun _ s2 => ∃ x Hn, Inv X pins sg Hn s2 ∧ RelV x u ∧ (IteT X.K a).yld j Hj x Hn ∧ tnT a e it (j + 1) s2.heap ∧ ∀ b ∈ [e, it], Hn b = none) E s1) E z := by
  rcases st with ⟨⟨was, en⟩, ti, dif⟩
  rcases ok with ⟨row, x, sq, at_⟩
  rcases I.tuple sq with ⟨vals, rel, tup, -⟩
  rcases rel.get at_ with ⟨w0, w0at, w0rel⟩
  have tup' : z.heap.IsTuple a vals.toArray := tup
  have eOld : e < z.heap.objs.size := Heap.lt_size en
  have itOld : it < z.heap.objs.size := by rcases ti with ⟨_, q, -⟩; exact Heap.lt_size q
  have short : j < vals.toArray.size := by
    have := (List.getElem?_eq_some_iff.mp w0at).1
    simpa using this
  have off : e ∉ [it, a] := by
    intro q
    rcases cell_of q with q | q
    · exact dif q
    · exact enum_apart tup' en q
  refine wpAny_pyNext_enum_itemD (Draws.tuple (A := X.A.in1) (I.ok.hd calm) it a (tup_apart tup' ti) vals.toArray) en ⟨ti, tup'⟩ short dif off ?_
  intro y h1 tk yat out st1 fresh _ kept
  have yw : y = w0 := by
    rw [List.getElem?_toArray, w0at] at yat
    exact (Option.some.inj yat).symm
  subst yw
  refine ⟨_, rfl, wpAny_letOwnedTupleGo_enum (s := { z with heap := h1, toks := tk + 1 }) out fun h2 en2 only => ?_⟩
  have there : h2.get? z.heap.objs.size = some { cls := .type "tuple", data := .seq #[.int j tk, y] } :=
    (only.2 _ (Nat.ne_of_gt eOld)).trans fresh
  have pair : ObjOk X.prog X.w (upd Hj z.heap.objs.size (.tup [.int (j : Nat), x])) h2 z.heap.objs.size (.tup [.int (j : Nat), x]) := by
    refine ⟨?_, [.int j tk, y], .cons ⟨_, rfl⟩ (.cons w0rel .nil), _, there, rfl, _, rfl⟩
    show 2 ≤ sizeLine
    decide
  have same : ∀ b ob, b ∉ [e, it] → z.heap.get? b = some ob → h2.get? b = some ob := fun b ob out' q => by
    have be : b ≠ e := fun c => out' (by rw [c]; exact List.mem_cons_self)
    have bi : b ≠ it := fun c => out' (by rw [c]; exact List.mem_cons_of_mem _ List.mem_cons_self)
    rw [only.2 b be]
    exact kept b ob be bi q
  have I2 : Inv X pins sg (upd Hj z.heap.objs.size (.tup [.int (j : Nat), x])) { z with heap := h2, toks := tk + 1 } :=
    I.turnedNew same own (Nat.le_refl _) pair
  refine ⟨.ref z.heap.objs.size, _, I2, rfl, ⟨_, x, rfl, I.hok.fresh (Nat.le_refl _), rfl, ?_⟩, ⟨⟨y, ?_⟩, st1.1.at fun ob q => (only.2 it dif.symm).trans q, dif⟩, ?_⟩
  · intro row2 sq2
    rw [← I.tuple_inj sq sq2]
    exact at_
  · rw [Int.natCast_succ]
    exact en2
  · intro b hb
    have old : b < z.heap.objs.size := by rcases cell_of hb with rfl | rfl <;> assumption
    rw [upd_ne (Nat.ne_of_lt old)]
    exact (own b hb).1
/-- its end -/
theorem tnT_done {a e it : Addr} (X : Cx) (calm : X.calm = true) (j : Nat) (pins : List (Addr × Obj)) (z : Shared) (sg : L2.St) (Hj : Hp) (E : Value → Shared → Prop)
    (I : Inv X pins sg Hj z) (own : ∀ b ∈ [e, it], FpOk X pins Hj b) (st : tnT a e it j z.heap) (over : (IteT X.K a).stop j Hj) :
    wpAny (model X.prog X.w) X.A (pyNext (.ref e)) (fun r s1 => r = none ∧ Inv X pins sg Hj s1) E z := by
  rcases st with ⟨⟨was, en⟩, ti, dif⟩
  rcases over with ⟨row, sq, long⟩
  rcases I.tuple sq with ⟨vals, rel, tup, -⟩
  have tup' : z.heap.IsTuple a vals.toArray := tup
  have len := rel.length
  have nothing : vals.toArray[j]? = none := by
    rw [List.getElem?_toArray, List.getElem?_eq_none_iff]
    omega
  -- the iterator stands at j, at or beyond the end: as a drawing it gives nothing at j
  have dr : Draws X.prog X.w X.A.in1 it [it, a] j (fun k v => vals.toArray[k]? = some v ∧ k < j) (fun k h => h.IsTupleIter it a k ∧ h.IsTuple a vals.toArray ∧ (k = j ∨ vals.toArray.size = j)) :=
    { live := fun _ _ q => by rcases q.1 with ⟨ob, at_, -⟩; exact ⟨ob, at_⟩
      frame := fun _ _ _ q stay => ⟨q.1.at fun ob c => stay it List.mem_cons_self ob c, q.2.1.at fun ob c => stay a (List.mem_cons_of_mem _ List.mem_cons_self) ob c, q.2.2⟩
      item := fun k z2 Q2 E2 before q give => by
        have size : vals.toArray.size = j := q.2.2.resolve_left (Nat.ne_of_lt before)
        have inside : k < vals.length := by
          rw [List.size_toArray] at size
          omega
        refine wpAny_nextOf_tuple_item q.1 q.2.1 (x := vals.toArray[k]'(size ▸ before)) (by simp [inside]) fun h3 ti3 only => ?_
        exact give _ h3 z2.toks ⟨by simp [inside], before⟩ ⟨ti3, q.2.1.extBut only.extBut (tup_apart tup' ti), .inr size⟩ only
      done := fun _ _ _ q fin => wpAny_nextOf_tuple_end (I.ok.hd calm) q.1 q.2.1 nothing fin }
  refine wpAny_pyNext_enum_endD dr en ⟨ti, tup', .inl rfl⟩ fun h4 only => ⟨rfl, ?_⟩
  rcases own it (by simp) with ⟨o0, o1, -, o3, o4, o5⟩
  exact I.turned (t' := z.toks) (fun b ob c q => only b ob c q) o0 o1 o3 o4 o5
theorem turn_enumT {P : Program} {w : World} {K : PySem.W.Frag} {elts : List Expr} {kk : Nat} {tpos : Pos} (a e it : Addr) :
    Turn P w K (.Tuple elts kk tpos) (IteT K a) [e, it] e (tnT a e it) where
  mem := List.mem_cons_self
  obj := tnT_obj
  keep := fun _ _ _ st stay => ⟨st.1.imp fun _ en => stay e List.mem_cons_self _ en, st.2.1.at fun ob q => stay it (List.mem_cons_of_mem _ List.mem_cons_self) ob q, st.2.2⟩
  item := by
    rintro X rfl rfl rfl calm j pins z sg Hj E I own st ok
    exact tnT_item X calm j pins z sg Hj E I own st ok
  done := by
    rintro X rfl rfl rfl calm j pins z sg Hj E I own st over
    exact tnT_done X calm j pins z sg Hj E I own st over
  self := fun _ _ _ _ _ st fin => st.1.elim fun _ en => wpAny_pyIter_enum en fin
def iEnumT (K : PySem.W.Frag) (ta : TA) : TI := fun sg Hj R => ta sg Hj fun vs Hn => ∃ a row, vs = [.ref a] ∧ SqT K Hn a row ∧ R (IteT K a) Hn
theorem pi_enumT {X : Cx} {e : Expr} {ta : TA} {p pos tpos : Pos} {elts : List Expr} {kk : Nat} (hg : Gl X "enumerate") (hm : X.mg "enumerate" = none) (ha : PA X [e] ta) (hs : starEach [e] X.env = [(false, eval e X.env)] := by rfl) :
    PI X (.Tuple elts kk tpos) (.Call (.Name "enumerate" p) [e] [] pos) (iEnumT X.K ta) where
  run := by
    intro pins z sg Hj R I wants
    refine Call_ ?_
    refine ld_blt I hg hm boot_enumerate ?_
    refine callWith_type1 (thn (ha.run pos pins z sg Hj _ I wants) ?_) hs rfl
    rintro us z1 ⟨vs, Hn, I1, rel, a, row, rfl, sq, res⟩
    rcases rel with _ | ⟨r1, _ | _⟩
    cases r1
    rcases I1.tuple sq with ⟨vals, -, tup, -⟩
    refine run_enum (begins_tuple a vals.toArray) (show z1.heap.IsTuple a vals.toArray from tup) fun h1 en its _ stay => ?_
    refine wpAny_pyIter_enum en ⟨z1.heap.objs.size + 1, [z1.heap.objs.size + 1, z1.heap.objs.size], _, _, Hn, rfl, ?_, turn_enumT a _ z1.heap.objs.size, ?_, ?_, res⟩
    · exact I1.kept stay
    · exact ⟨⟨.none, en⟩, ⟨_, its, rfl, rfl⟩, Nat.succ_ne_self _⟩
    · intro b hb
      have new : z1.heap.objs.size ≤ b := by rcases cell_of hb with rfl | rfl <;> omega
      exact Inv.fpOk I1 new (I1.hok.fresh new)
theorem walk_enumT {K : PySem.W.Frag} {a : Addr} {row : List V} : Walk (IteT K a) row.length (fun Hj => SqT K Hj a row) (YPair (fun j => some (.int (j : Nat))) (fun j => row[j]?)) := by
  constructor
  · intro j _ lt sq
    exact ⟨row, row[j], sq, List.getElem?_eq_getElem lt⟩
  · intro _ sq
    exact ⟨row, sq, Nat.le_refl _⟩
  · rintro j Hj y Hn - sq ⟨T, x, rfl, new, rfl, at_⟩
    exact ⟨T, _, x, rfl, new, rfl, rfl, at_ row sq⟩
def enumD (ds : List PyData) : List PyData := ds.zipIdx.map fun e => pairD (.int (e.2 : Nat)) e.1
theorem itd_enumT {K : PySem.W.Frag} {τ : List Sl} {te : TE} {ds : List PyData} (h : EvD te τ (.tuple ds)) : ItD (iEnumT K (tCons te tNil)) τ (enumD ds) := fun G H σ ows e R r =>
  h G H σ ows e _ fun v G1 H1 g1 p1 => by
    cases p1 with
    | tup h1 h2 =>
      rename_i a xs
      refine ⟨a, xs, rfl, .inl (.inl (g1.k _ _ h1)), r _ G1 H1 g1 ?_⟩
      refine ⟨YPair (fun i => some (.int (i : Nat))) (fun i => xs[i]?), ?_, fun i G2 H2 x H' d hd e1 e2 y => ?_⟩
      · have el : (enumD ds).length = xs.length := by
          unfold enumD
          rw [List.length_map, List.length_zipIdx, h2.length]
        rw [el]
        exact walk_enumT.mono (fun H e => .inl (.inl (e _ _ h1))) fun i H x H' _ _ y => y
      · obtain ⟨T, x', y', rfl, hT, rfl, hx, hy⟩ := y
        obtain ⟨a1, ha1, pa1⟩ := h2.getv hy
        have ex := Option.some.inj hx
        subst ex
        unfold enumD at hd
        rw [List.getElem?_map, List.getElem?_zipIdx, ha1] at hd
        have ed := Option.some.inj hd
        subst ed
        show ∃ G', _ ∧ Rp G' (.ref T) (pairD (.int ((0 + i : Nat) : Int)) a1)
        rw [Nat.zero_add]
        exact go_pair e2 hT (.int _) (Rp.mono e1 _ _ pa1)
end Rb

/-! part RbMath -/
/-! the mathematics, no program in sight -/
namespace Rb

/-! ### tournaments: the rows of a relation -/
def rowsOf (n : Nat) (b : Nat → Nat → Bool) : List (List Nat) := (List.range n).map fun i => (List.range n).filter (b i)
structure TB (n : Nat) (b : Nat → Nat → Bool) : Prop where
  irr : ∀ i, i < n → b i i = false
  tot : ∀ i j, i < n → j < n → i ≠ j → b i j = !b j i
theorem rowsOf_len (n : Nat) (b : Nat → Nat → Bool) : (rowsOf n b).length = n := by
  unfold rowsOf
  rw [List.length_map, List.length_range]
theorem rowsOf_get {n : Nat} {b : Nat → Nat → Bool} {i : Nat} (h : i < n) : (rowsOf n b)[i]? = some ((List.range n).filter (b i)) := by
  unfold rowsOf
  rw [List.getElem?_map, List.getElem?_range h]
  rfl
theorem filter_eq_iff {n : Nat} {p q : Nat → Bool} : (List.range n).filter p = (List.range n).filter q ↔ ∀ j, j < n → p j = q j := by
  constructor
  · intro h j hj
    have m : j ∈ (List.range n).filter p ↔ j ∈ (List.range n).filter q := by rw [h]
    rw [List.mem_filter, List.mem_filter, List.mem_range] at m
    cases hp : p j <;> cases hq : q j <;> simp [hp, hq, hj] at m <;> rfl
  · intro h
    exact List.filter_congr fun j hj => h j (List.mem_range.mp hj)
theorem rowsOf_eq {n : Nat} {b c : Nat → Nat → Bool} : rowsOf n b = rowsOf n c ↔ ∀ i j, i < n → j < n → b i j = c i j := by
  constructor
  · intro h i j hi hj
    have e : (rowsOf n b)[i]? = (rowsOf n c)[i]? := by rw [h]
    rw [rowsOf_get hi, rowsOf_get hi] at e
    exact filter_eq_iff.mp (Option.some.inj e) j hj
  · intro h
    unfold rowsOf
    exact List.map_congr_left fun i hi => filter_eq_iff.mpr fun j hj => h i j (List.mem_range.mp hi) hj

/-! ### orders -/
abbrev Ord := List (Nat × Bool)
/-- who beats whom, pair by pair, in the order of the loops -/
def adds : Ord → List (Nat × Nat)
  | [] => []
  | e :: r => r.map (fun f => if e.2 == f.2 then (e.1, f.1) else (f.1, e.1)) ++ adds r
def byO (o : Ord) (i j : Nat) : Bool := decide ((i, j) ∈ adds o)
def tourBy (o : Ord) : List (List Nat) := rowsOf o.length (byO o)
/-- the players are 0 .. n - 1, each once -/
def Perm0 (o : Ord) : Prop := (o.map (·.1)).Perm (List.range o.length)

theorem adds_iff : ∀ {o : Ord} {x y : Nat}, (x, y) ∈ adds o ↔ ∃ (a c : Nat) (p q : Nat) (s t : Bool), a < c ∧ o[a]? = some (p, s) ∧ o[c]? = some (q, t) ∧ (x, y) = (if s == t then (p, q) else (q, p))
  | [], x, y => by
    constructor
    · intro h
      cases h
    · rintro ⟨a, c, p, q, s, t, _, h, _⟩
      simp at h
  | e :: r, x, y => by
    show (x, y) ∈ r.map (fun f => if e.2 == f.2 then (e.1, f.1) else (f.1, e.1)) ++ adds r ↔ _
    rw [List.mem_append, adds_iff (o := r)]
    constructor
    · rintro (h | ⟨a, c, p, q, s, t, hac, h1, h2, h3⟩)
      · obtain ⟨f, hf, e1⟩ := List.mem_map.mp h
        obtain ⟨k, hk, e2⟩ := List.mem_iff_getElem.mp hf
        refine ⟨0, k + 1, e.1, f.1, e.2, f.2, by omega, rfl, ?_, e1.symm⟩
        rw [List.getElem?_cons_succ, List.getElem?_eq_getElem hk, e2]
      · exact ⟨a + 1, c + 1, p, q, s, t, by omega, by rw [List.getElem?_cons_succ]; exact h1, by rw [List.getElem?_cons_succ]; exact h2, h3⟩
    · rintro ⟨a, c, p, q, s, t, hac, h1, h2, h3⟩
      cases c with
      | zero => omega
      | succ c =>
        rw [List.getElem?_cons_succ] at h2
        cases a with
        | zero =>
          have e1 : e = (p, s) := Option.some.inj h1
          subst e1
          exact .inl (List.mem_map.mpr ⟨(q, t), List.mem_of_getElem? h2, h3.symm⟩)
        | succ a =>
          rw [List.getElem?_cons_succ] at h1
          exact .inr ⟨a, c, p, q, s, t, by omega, h1, h2, h3⟩

section
variable {o : Ord}
theorem perm0_nd (h : Perm0 o) : (o.map (·.1)).Nodup := h.nodup_iff.mpr List.nodup_range
theorem perm0_lt (h : Perm0 o) {k p : Nat} {s : Bool} (e : o[k]? = some (p, s)) : p < o.length := by
  have m : p ∈ o.map (·.1) := List.mem_map.mpr ⟨(p, s), List.mem_of_getElem? e, rfl⟩
  exact List.mem_range.mp (h.mem_iff.mp m)
theorem perm0_at (h : Perm0 o) {p : Nat} (hp : p < o.length) : ∃ (k : Nat) (s : Bool), o[k]? = some (p, s) := by
  have m : p ∈ o.map (·.1) := h.mem_iff.mpr (List.mem_range.mpr hp)
  obtain ⟨e, he, e1⟩ := List.mem_map.mp m
  obtain ⟨k, hk, e2⟩ := List.mem_iff_getElem.mp he
  refine ⟨k, e.2, ?_⟩
  rw [List.getElem?_eq_getElem hk, e2, ← e1]
theorem perm0_inj (h : Perm0 o) {a c p : Nat} {s t : Bool} (h1 : o[a]? = some (p, s)) (h2 : o[c]? = some (p, t)) : a = c := by
  have e1 : (o.map (·.1))[a]? = some p := by
    rw [List.getElem?_map, h1]
    rfl
  have e2 : (o.map (·.1))[c]? = some p := by
    rw [List.getElem?_map, h2]
    rfl
  obtain ⟨l1, q1⟩ := List.getElem?_eq_some_iff.mp e1
  obtain ⟨l2, q2⟩ := List.getElem?_eq_some_iff.mp e2
  exact (List.getElem_inj (perm0_nd h)).mp (q1.trans q2.symm)
/-- by places in the order: who stands where -/
theorem byO_at (h : Perm0 o) {a c p q : Nat} {s t : Bool} (h1 : o[a]? = some (p, s)) (h2 : o[c]? = some (q, t)) : byO o p q = ((decide (a < c) && (s == t)) || (decide (c < a) && (s != t))) := by
  unfold byO
  rw [Bool.eq_iff_iff, decide_eq_true_iff, adds_iff]
  constructor
  · rintro ⟨a', c', p', q', s', t', hac, e1, e2, e3⟩
    by_cases hst : s' = t'
    · subst hst
      rw [if_pos (by simp)] at e3
      obtain ⟨rfl, rfl⟩ := Prod.mk.inj e3
      have ea := perm0_inj h h1 e1
      have ec := perm0_inj h h2 e2
      subst ea ec
      rw [h1] at e1
      rw [h2] at e2
      have := (Prod.mk.inj (Option.some.inj e1)).2
      have := (Prod.mk.inj (Option.some.inj e2)).2
      subst_vars
      simp [hac]
    · rw [if_neg (by simpa using hst)] at e3
      obtain ⟨rfl, rfl⟩ := Prod.mk.inj e3
      have ea := perm0_inj h h1 e2
      have ec := perm0_inj h h2 e1
      subst ea ec
      rw [h1] at e2
      rw [h2] at e1
      have es := (Prod.mk.inj (Option.some.inj e2)).2
      have et := (Prod.mk.inj (Option.some.inj e1)).2
      rw [es, et]
      have hts : ¬ t' = s' := fun z => hst z.symm
      simp [hac, hts]
  · intro hh
    rw [Bool.or_eq_true, Bool.and_eq_true, Bool.and_eq_true, decide_eq_true_iff, decide_eq_true_iff] at hh
    rcases hh with ⟨hac, hst⟩ | ⟨hac, hst⟩
    · exact ⟨a, c, p, q, s, t, hac, h1, h2, by rw [if_pos hst]⟩
    · refine ⟨c, a, q, p, t, s, hac, h2, h1, ?_⟩
      have : ¬ (t == s) = true := by
        intro z
        have e := eq_of_beq z
        subst e
        simp at hst
      rw [if_neg this]
end

/-! ### sorting -/
def ltP (a b : Nat × Nat) : Bool := decide (a.1 < b.1) || (decide (a.1 = b.1) && decide (a.2 < b.2))
def insP (x : Nat × Nat) : List (Nat × Nat) → List (Nat × Nat)
  | [] => [x]
  | y :: r => if ltP y x then y :: insP x r else x :: y :: r
def srtP : List (Nat × Nat) → List (Nat × Nat)
  | [] => []
  | x :: r => insP x (srtP r)
theorem insP_perm (x : Nat × Nat) : ∀ l, (insP x l).Perm (x :: l)
  | [] => List.Perm.refl _
  | y :: r => by
    unfold insP
    split
    · exact ((insP_perm x r).cons y).trans (List.Perm.swap x y r)
    · exact List.Perm.refl _
theorem srtP_perm : ∀ l, (srtP l).Perm l
  | [] => List.Perm.refl _
  | x :: r => (insP_perm x (srtP r)).trans ((srtP_perm r).cons x)
def LeP (a b : Nat × Nat) : Prop := ltP b a = false
theorem leP_tr {a b c : Nat × Nat} (h1 : LeP a b) (h2 : LeP b c) : LeP a c := by
  unfold LeP ltP at *
  simp only [Bool.or_eq_false_iff, Bool.and_eq_false_iff, decide_eq_false_iff_not] at *
  omega
theorem leP_as {a b : Nat × Nat} (h1 : LeP a b) (h2 : LeP b a) : a = b := by
  unfold LeP ltP at *
  simp only [Bool.or_eq_false_iff, Bool.and_eq_false_iff, decide_eq_false_iff_not] at *
  exact Prod.ext (by omega) (by omega)
theorem leP_of {a b : Nat × Nat} (h : ltP a b = true) : LeP a b := by
  unfold LeP ltP at *
  simp only [Bool.or_eq_false_iff, Bool.and_eq_false_iff, decide_eq_false_iff_not, Bool.or_eq_true, Bool.and_eq_true, decide_eq_true_iff] at *
  omega
theorem insP_srt (x : Nat × Nat) : ∀ l, l.Pairwise LeP → (insP x l).Pairwise LeP
  | [], _ => List.pairwise_singleton _ _
  | y :: r, h => by
    obtain ⟨h1, h2⟩ := List.pairwise_cons.mp h
    unfold insP
    split
    · rename_i hl
      refine List.pairwise_cons.mpr ⟨fun z hz => ?_, insP_srt x r h2⟩
      rcases List.mem_cons.mp ((insP_perm x r).mem_iff.mp hz) with e | e
      · rw [e]
        exact leP_of hl
      · exact h1 z e
    · rename_i hl
      have hxy : LeP x y := by
        unfold LeP
        cases q : ltP y x with
        | true => exact absurd q hl
        | false => rfl
      refine List.pairwise_cons.mpr ⟨fun z hz => ?_, h⟩
      rcases List.mem_cons.mp hz with e | e
      · rw [e]
        exact hxy
      · exact leP_tr hxy (h1 z e)
theorem srtP_srt : ∀ l, (srtP l).Pairwise LeP
  | [] => List.Pairwise.nil
  | x :: r => insP_srt x _ (srtP_srt r)
theorem srtP_uniq {l m : List (Nat × Nat)} (h1 : m.Perm l) (h2 : m.Pairwise LeP) : m = srtP l :=
  (h1.trans (srtP_perm l).symm).eq_of_pairwise (fun a b _ _ x y => leP_as x y) h2 (srtP_srt l)

/-! ### the told order -/
section
variable (n : Nat) (b : Nat → Nat → Bool)
def sg (p : Nat) : Bool := p == 0 || b 0 p
def oth (p : Nat) : List Nat := ((List.range (n - 1)).map (1 + ·)).filter fun q => !decide (q = p)
def ahd (p : Nat) : List Nat := (oth n p).filter fun q => b p q == (sg b p == sg b q)
def plc : List (Nat × Nat) := ((List.range (n - 1)).map (1 + ·)).map fun p => ((oth n p).length - (ahd n b p).length, p)
def ordOf : Ord := (0, true) :: (srtP (plc n b)).map fun e => (e.2, sg b e.2)
def toldOf : Option Ord := if tourBy (ordOf n b) = rowsOf n b then some (ordOf n b) else none
end
theorem ordOf_fst (n : Nat) (b : Nat → Nat → Bool) (hn : 1 ≤ n) : ((ordOf n b).map (·.1)).Perm (List.range n) := by
  unfold ordOf
  rw [List.map_cons, List.map_map]
  have e1 : ((srtP (plc n b)).map (fun e => e.2)).Perm ((plc n b).map (fun e => e.2)) := (srtP_perm _).map _
  have e2 : (plc n b).map (fun e => e.2) = (List.range (n - 1)).map (1 + ·) := by
    unfold plc
    rw [List.map_map]
    refine Eq.trans (List.map_congr_left (g := id) fun _ _ => rfl) ?_
    exact List.map_id _
  have e3 : List.range n = 0 :: (List.range (n - 1)).map (1 + ·) := by
    obtain ⟨m, rfl⟩ : ∃ m, n = m + 1 := ⟨n - 1, by omega⟩
    rw [List.range_succ_eq_map, Nat.add_sub_cancel]
    congr 1
    exact List.map_congr_left fun k _ => by omega
  rw [e3]
  refine List.Perm.cons 0 ?_
  rw [← e2]
  exact e1
theorem ordOf_len (n : Nat) (b : Nat → Nat → Bool) (hn : 1 ≤ n) : (ordOf n b).length = n := by
  have h := (ordOf_fst n b hn).length_eq
  rw [List.length_map, List.length_range] at h
  exact h
theorem ordOf_perm (n : Nat) (b : Nat → Nat → Bool) (hn : 1 ≤ n) : Perm0 (ordOf n b) := by
  unfold Perm0
  rw [ordOf_len n b hn]
  exact ordOf_fst n b hn

/-! ### steps -/
def stepsB : List Bool → List Nat
  | [] => []
  | s :: r => List.zipWith (fun a c => if a == c then 2 else 1) (s :: r) (r ++ [!s])
theorem stepsB_len : ∀ ss : List Bool, (stepsB ss).length = ss.length
  | [] => rfl
  | s :: r => by
    unfold stepsB
    rw [List.length_zipWith, List.length_append]
    simp
/-- all rows of signs of a length -/
def bools : Nat → List (List Bool)
  | 0 => [[]]
  | n + 1 => (bools n).flatMap fun l => [false :: l, true :: l]
theorem mem_bools : ∀ l : List Bool, l ∈ bools l.length
  | [] => List.mem_singleton.mpr rfl
  | x :: l => by
    show _ ∈ (bools l.length).flatMap _
    exact List.mem_flatMap.mpr ⟨l, mem_bools l, by cases x <;> simp⟩
def upTo8 : List (List Bool) := (List.range 8).flatMap bools
theorem mem_upTo8 {l : List Bool} (h : l.length ≤ 7) : l ∈ upTo8 := List.mem_flatMap.mpr ⟨l.length, List.mem_range.mpr (by omega), mem_bools l⟩
theorem steps_odd_all : (upTo8.all fun l => (stepsB (true :: l)).sum % 2 == 1 && decide ((stepsB (true :: l)).sum ≤ 2 * (l.length + 1) - 1) && decide (1 ≤ (stepsB (true :: l)).sum)) = true := by decide +kernel
theorem steps_odd {l : List Bool} (h : l.length ≤ 7) : (stepsB (true :: l)).sum % 2 = 1 ∧ (stepsB (true :: l)).sum ≤ 2 * (l.length + 1) - 1 ∧ 1 ≤ (stepsB (true :: l)).sum := by
  have q := List.all_eq_true.mp steps_odd_all l (mem_upTo8 h)
  simp only [Bool.and_eq_true, beq_iff_eq, decide_eq_true_eq] at q
  exact ⟨q.1.1, q.1.2, q.2⟩
/-! turns -/
def turnL {α : Type} (flip : α → α) (o : List α) (a : Nat) : List α := (((o ++ o.map flip) ++ (o ++ o.map flip)).drop a).take o.length
theorem turnL_map {α β : Type} (f : α → α) (g : β → β) (h : α → β) (e : ∀ x, h (f x) = g (h x)) (o : List α) (a : Nat) : (turnL f o a).map h = turnL g (o.map h) a := by
  unfold turnL
  rw [List.map_take, List.map_drop, List.map_append, List.map_append, List.map_map, List.map_map, List.length_map]
  have q : h ∘ f = g ∘ h := funext e
  rw [q]
theorem turns_sum_all : (upTo8.all fun l => (List.range (2 * (l.length + 1))).all fun a => (stepsB (turnL (!·) (true :: l) a)).sum == (stepsB (true :: l)).sum) = true := by decide +kernel
theorem turns_sum {l : List Bool} (h : l.length ≤ 7) {a : Nat} (ha : a < 2 * (l.length + 1)) : (stepsB (turnL (!·) (true :: l) a)).sum = (stepsB (true :: l)).sum := by
  have q := List.all_eq_true.mp (List.all_eq_true.mp turns_sum_all l (mem_upTo8 h)) a (List.mem_range.mpr ha)
  exact eq_of_beq q
/-! places by steps -/
def plAt (ss : List Bool) (st : List Nat) (k : Nat) : Nat := ((st.take k).sum + (if ss.getD k true then 0 else st.sum)) % (2 * st.sum)
def wide : List Nat → List Nat
  | [] => []
  | x :: r => (x + 2) :: r
/-- less than half the ring ahead -/
def farB (m : Int) (x y : Int) : Bool := decide (0 < (y - x) % m) && decide (2 * ((y - x) % m) < m)
def okPl (ss : List Bool) (st : List Nat) : Bool :=
  (List.range ss.length).all fun k => plAt ss st k % 2 == 0 && (List.range ss.length).all fun j =>
    farB st.sum ((plAt ss st k : Int) / 2) ((plAt ss st j : Int) / 2) == ((decide (k < j) && (ss.getD k true == ss.getD j true)) || (decide (j < k) && (ss.getD k true != ss.getD j true)))
theorem okPl_all : (upTo8.all fun l => okPl (true :: l) (stepsB (true :: l)) && okPl (true :: l) (wide (stepsB (true :: l)))) = true := by decide +kernel
theorem okPl_of {ss : List Bool} {st : List Nat} (h : okPl ss st = true) {k : Nat} (hk : k < ss.length) : plAt ss st k % 2 = 0 ∧ ∀ j, j < ss.length →
    farB st.sum ((plAt ss st k : Int) / 2) ((plAt ss st j : Int) / 2) = ((decide (k < j) && (ss.getD k true == ss.getD j true)) || (decide (j < k) && (ss.getD k true != ss.getD j true))) := by
  have q := List.all_eq_true.mp h k (List.mem_range.mpr hk)
  rw [Bool.and_eq_true] at q
  exact ⟨eq_of_beq q.1, fun j hj => eq_of_beq (List.all_eq_true.mp q.2 j (List.mem_range.mpr hj))⟩
theorem okPl_steps {l : List Bool} (h : l.length ≤ 7) : okPl (true :: l) (stepsB (true :: l)) = true := by
  have q := List.all_eq_true.mp okPl_all l (mem_upTo8 h)
  rw [Bool.and_eq_true] at q
  exact q.1
theorem okPl_wide {l : List Bool} (h : l.length ≤ 7) : okPl (true :: l) (wide (stepsB (true :: l))) = true := by
  have q := List.all_eq_true.mp okPl_all l (mem_upTo8 h)
  rw [Bool.and_eq_true] at q
  exact q.2

/-! ### tournaments of places -/
def ofPl (m : Int) (p : List Int) : Nat → Nat → Bool := fun i j => farB m (p.getD i 0) (p.getD j 0)
theorem ofPl_tb {m : Int} {p : List Int} (hm : m % 2 = 1) (h0 : 0 < m) (hp : ∀ x ∈ p, 0 ≤ x ∧ x < m) (hn : p.Nodup) : TB p.length (ofPl m p) := by
  refine ⟨fun i hi => ?_, fun i j hi hj hij => ?_⟩
  · unfold ofPl farB
    rw [Int.sub_self, Int.zero_emod]
    rfl
  · unfold ofPl
    have ei : p.getD i 0 = p[i] := by
      rw [List.getD_eq_getElem?_getD, List.getElem?_eq_getElem hi]
      rfl
    have ej : p.getD j 0 = p[j] := by
      rw [List.getD_eq_getElem?_getD, List.getElem?_eq_getElem hj]
      rfl
    rw [ei, ej]
    obtain ⟨a1, a2⟩ := hp p[i] (List.getElem_mem hi)
    obtain ⟨b1, b2⟩ := hp p[j] (List.getElem_mem hj)
    have ne : p[i] ≠ p[j] := fun z => hij ((List.getElem_inj hn).mp z)
    generalize p[i] = x at *
    generalize p[j] = y at *
    unfold farB
    by_cases hxy : x < y
    · have e1 : (y - x) % m = y - x := Int.emod_eq_of_lt (by omega) (by omega)
      have e2 : (x - y) % m = x - y + m := by
        rw [← Int.add_emod_right]
        exact Int.emod_eq_of_lt (by omega) (by omega)
      rw [e1, e2]
      by_cases hh : 2 * (y - x) < m
      · have z : ¬ (2 * (x - y + m) < m) := by omega
        have z2 : 0 < y - x := by omega
        simp only [hh, z, z2, decide_true, decide_false, Bool.and_self, Bool.and_false, Bool.not_false]
      · have : 2 * (x - y + m) < m := by omega
        simp [hh, this, show 0 < x - y + m by omega]
    · have e2 : (x - y) % m = x - y := Int.emod_eq_of_lt (by omega) (by omega)
      have e1 : (y - x) % m = y - x + m := by
        rw [← Int.add_emod_right]
        exact Int.emod_eq_of_lt (by omega) (by omega)
      rw [e1, e2]
      by_cases hh : 2 * (x - y) < m
      · have z : ¬ (2 * (y - x + m) < m) := by omega
        have z2 : 0 < x - y := by omega
        simp only [hh, z, z2, decide_true, decide_false, Bool.and_self, Bool.and_false, Bool.not_true]
      · have : 2 * (y - x + m) < m := by omega
        simp [hh, this, show 0 < y - x + m by omega]
end Rb

/-! part RbMath2 -/
/-! rows that are filled result by result -/
namespace Rb
def rowAt (as : List (Nat × Nat)) (p : Nat) : List Int := (as.filter fun e => decide (e.1 = p)).map fun e => (e.2 : Int)
def rowsSt (n : Nat) (as : List (Nat × Nat)) : List (List Int) := (List.range n).map (rowAt as)
theorem rowsSt_nil (n : Nat) : rowsSt n [] = List.replicate n [] := by
  unfold rowsSt
  refine List.eq_replicate_iff.mpr ⟨by rw [List.length_map, List.length_range], fun r h => ?_⟩
  obtain ⟨p, _, rfl⟩ := List.mem_map.mp h
  rfl
theorem rowsSt_get {n p : Nat} (as : List (Nat × Nat)) (h : p < n) : (rowsSt n as)[p]? = some (rowAt as p) := by
  unfold rowsSt
  rw [List.getElem?_map, List.getElem?_range h]
  rfl
theorem rowAt_len (as : List (Nat × Nat)) (p : Nat) : (rowAt as p).length ≤ as.length := by
  unfold rowAt
  rw [List.length_map]
  exact List.length_filter_le _ _
theorem rowsSt_add {n x : Nat} (as : List (Nat × Nat)) (y : Nat) : rowsSt n (as ++ [(x, y)]) = (rowsSt n as).set x (rowAt as x ++ [(y : Int)]) := by
  refine List.ext_getElem? fun i => ?_
  by_cases hi : i < n
  · rw [rowsSt_get _ hi]
    by_cases e : x = i
    · subst e
      rw [List.getElem?_set_self (by unfold rowsSt; rw [List.length_map, List.length_range]; exact hi)]
      unfold rowAt
      rw [List.filter_append, List.map_append]
      simp
    · rw [List.getElem?_set_ne e, rowsSt_get _ hi]
      unfold rowAt
      rw [List.filter_append, List.map_append]
      simp [e]
  · rw [List.getElem?_eq_none (by unfold rowsSt; rw [List.length_map, List.length_range]; omega), List.getElem?_eq_none (by rw [List.length_set]; unfold rowsSt; rw [List.length_map, List.length_range]; omega)]
theorem row_srt {n : Nat} {as : List (Nat × Nat)} (nd : as.Nodup) (h2 : ∀ e ∈ as, e.2 < n) (p : Nat) :
    (((List.range n).filter fun j => decide ((p, j) ∈ as)).map fun k : Nat => (k : Int)).Perm (rowAt as p) ∧ (((List.range n).filter fun j => decide ((p, j) ∈ as)).map fun k : Nat => (k : Int)).Pairwise (· ≤ ·) := by
  constructor
  · unfold rowAt
    have e : (as.filter fun e => decide (e.1 = p)).map (fun e => (e.2 : Int)) = ((as.filter fun e => decide (e.1 = p)).map fun e => e.2).map fun k : Nat => (k : Int) := by
      rw [List.map_map]
      rfl
    rw [e]
    refine List.Perm.map _ ((List.perm_ext_iff_of_nodup (List.nodup_range.filter _) ?_).mpr fun j => ?_)
    · have nf := nd.filter fun e => decide (e.1 = p)
      have hp : ∀ e ∈ as.filter (fun e => decide (e.1 = p)), e.1 = p := fun e he => of_decide_eq_true (List.mem_filter.mp he).2
      generalize as.filter (fun e => decide (e.1 = p)) = l at nf hp
      induction l with
      | nil => exact List.nodup_nil
      | cons a l ih =>
        obtain ⟨n1, n2⟩ := List.nodup_cons.mp nf
        rw [List.map_cons]
        refine List.nodup_cons.mpr ⟨fun hm => ?_, ih n2 fun e he => hp e (List.mem_cons_of_mem _ he)⟩
        obtain ⟨c, hc, ec⟩ := List.mem_map.mp hm
        have e1 := hp a List.mem_cons_self
        have e2 := hp c (List.mem_cons_of_mem _ hc)
        exact n1 ((Prod.ext (e1.trans e2.symm) ec.symm : a = c) ▸ hc)
    · rw [List.mem_filter, List.mem_range, decide_eq_true_iff, List.mem_map]
      constructor
      · rintro ⟨_, h⟩
        exact ⟨(p, j), List.mem_filter.mpr ⟨h, by simp⟩, rfl⟩
      · rintro ⟨e, he, rfl⟩
        obtain ⟨h1, h3⟩ := List.mem_filter.mp he
        have h4 : e.1 = p := of_decide_eq_true h3
        refine ⟨h2 e h1, ?_⟩
        rw [← h4]
        exact h1
  · refine List.Pairwise.map _ (fun a b h => ?_) (List.Pairwise.filter _ List.pairwise_lt_range)
    have : a < b := h
    omega
/-! the results of an order -/
def pr (e f : Nat × Bool) : Nat × Nat := if e.2 == f.2 then (e.1, f.1) else (f.1, e.1)
theorem adds_cons (e : Nat × Bool) (r : Ord) : adds (e :: r) = r.map (pr e) ++ adds r := rfl
theorem adds_drop {o : Ord} {i : Nat} {e : Nat × Bool} (h : o[i]? = some e) : adds (o.drop i) = (o.drop (i + 1)).map (pr e) ++ adds (o.drop (i + 1)) := by
  obtain ⟨hl, he⟩ := List.getElem?_eq_some_iff.mp h
  rw [List.drop_eq_getElem_cons hl, he, adds_cons]
theorem adds_len : ∀ o : Ord, (adds o).length ≤ o.length * o.length
  | [] => Nat.zero_le _
  | e :: r => by
    rw [adds_cons, List.length_append, List.length_map, List.length_cons]
    have := adds_len r
    have e1 : (r.length + 1) * (r.length + 1) = r.length * r.length + r.length + r.length + 1 := by
      rw [Nat.add_mul, Nat.mul_add, Nat.one_mul, Nat.mul_one]
      omega
    omega
theorem adds_in : ∀ {o : Ord} {x : Nat × Nat}, x ∈ adds o → x.1 ∈ o.map (·.1) ∧ x.2 ∈ o.map (·.1)
  | [], x, h => by cases h
  | e :: r, x, h => by
    rw [adds_cons] at h
    rw [List.map_cons]
    rcases List.mem_append.mp h with h | h
    · obtain ⟨f, hf, rfl⟩ := List.mem_map.mp h
      have m : f.1 ∈ r.map (·.1) := List.mem_map.mpr ⟨f, hf, rfl⟩
      unfold pr
      split
      · exact ⟨List.mem_cons_self, List.mem_cons_of_mem _ m⟩
      · exact ⟨List.mem_cons_of_mem _ m, List.mem_cons_self⟩
    · obtain ⟨h1, h2⟩ := adds_in h
      exact ⟨List.mem_cons_of_mem _ h1, List.mem_cons_of_mem _ h2⟩
theorem adds_nd : ∀ {o : Ord}, (o.map (·.1)).Nodup → (adds o).Nodup
  | [], _ => List.nodup_nil
  | e :: r, h => by
    rw [List.map_cons] at h
    obtain ⟨h1, h2⟩ := List.nodup_cons.mp h
    rw [adds_cons]
    refine List.nodup_append.mpr ⟨?_, adds_nd h2, fun a ha b hb eab => ?_⟩
    · have ne : ∀ f ∈ r, e.1 ≠ f.1 := fun f hf z => h1 (by
        rw [z]
        exact List.mem_map.mpr ⟨f, hf, rfl⟩)
      clear h h1
      induction r with
      | nil => exact List.nodup_nil
      | cons a l ih =>
        rw [List.map_cons] at h2 ⊢
        obtain ⟨n1, n2⟩ := List.nodup_cons.mp h2
        refine List.nodup_cons.mpr ⟨fun hm => ?_, ih n2 fun f hf => ne f (List.mem_cons_of_mem _ hf)⟩
        obtain ⟨c, hc, ec⟩ := List.mem_map.mp hm
        have na := ne a List.mem_cons_self
        have nc := ne c (List.mem_cons_of_mem _ hc)
        have hca : c.1 = a.1 := by
          unfold pr at ec
          split at ec <;> split at ec
          · exact (Prod.mk.inj ec).2
          · exact absurd (Prod.mk.inj ec).1 na
          · exact absurd (Prod.mk.inj ec).1.symm nc
          · exact (Prod.mk.inj ec).1
        exact n1 (by
          rw [← hca]
          exact List.mem_map.mpr ⟨c, hc, rfl⟩)
    · obtain ⟨f, hf, rfl⟩ := List.mem_map.mp ha
      rw [← eab] at hb
      obtain ⟨q1, q2⟩ := adds_in hb
      unfold pr at q1 q2
      split at q1
      · exact h1 q1
      · rename_i hne
        rw [if_neg hne] at q2
        exact h1 q2
end Rb

/-! part RbDat -/
/-! tournaments, orders as data -/
namespace Rb
open PySem PySem.Spec PyProof.Rows L2
open Evl (Ex)
def iD (n : Nat) : PyData := .int (n : Int)
def rowD (r : List Nat) : PyData := .tuple (r.map iD)
def tD (T : List (List Nat)) : PyData := .tuple (T.map rowD)
def enO (e : Nat × Bool) : PyData := .tuple [iD e.1, .bool e.2]
def oD (o : Ord) : PyData := .tuple (o.map enO)
theorem at_mapN {α : Type} {r : List α} {f : α → PyData} {k : Nat} {x : α} (h : r[k]? = some x) : atI (r.map f) (k : Int) = some (f x) := at_nat (by rw [List.getElem?_map, h]; rfl)
theorem at_Z {α : Type} {r : List α} {f : α → PyData} {z : Int} {k : Nat} {x : α} (e : z = (k : Int)) (h : r[k]? = some x) : atI (r.map f) z = some (f x) := by
  rw [e]
  exact at_mapN h
section
variable {K : PySem.W.Frag} {τ : List Sl} {te ta : TE} {tr : TA}
theorem evd_I {i j : Int} (h : EvD te τ (.int i)) (e : i = j) : EvD te τ (.int j) := e ▸ h
theorem evd_N {i : Int} {n : Nat} (h : EvD te τ (.int i)) (e : i = (n : Int)) : EvD te τ (iD n) := evd_I h e
theorem rngD0 (n : Nat) : rngD 0 n = (List.range n).map iD := by
  unfold rngD iD
  exact List.map_congr_left fun k _ => by rw [Int.zero_add]
theorem rngDN (a n : Nat) : rngD (a : Int) n = ((List.range n).map (a + ·)).map iD := by
  unfold rngD iD
  rw [List.map_map]
  exact List.map_congr_left fun k _ => by
    show PyData.int ((a : Int) + (k : Int)) = PyData.int ((a + k : Nat) : Int)
    congr 1
theorem itd_r1 {n : Nat} (h : EvA tr τ [iD n]) (hn : n ≤ 100000) : ItD (iRng1 tr) τ ((List.range n).map iD) := by
  rw [← rngD0]
  exact itd_rng1 h hn
theorem itd_rZ {z : Int} {n : Nat} (h : EvA tr τ [.int z]) (hz : -100000 ≤ z ∧ z ≤ 100000) (e : z.toNat = n) : ItD (iRng1 tr) τ ((List.range n).map iD) := by
  rw [← rngD0, ← e]
  intro G H σ ows en R r
  refine h G H σ ows en _ fun vs G1 H1 g1 p1 => ?_
  obtain ⟨v, rfl, pv⟩ := rpAll_one p1
  exact ⟨z, by rw [pv.int_inv], by omega, by omega, r _ G1 H1 g1 walkD_rng⟩
theorem itd_r2 {a n : Nat} (h : EvA tr τ [iD a, iD n]) (ha : a ≤ 100000) (hn : n ≤ 100000) : ItD (iRng2 tr) τ (((List.range (n - a)).map (a + ·)).map iD) := by
  have e := itd_rng2 h (by omega) (by omega)
  rw [show ((n : Int) - (a : Int)).toNat = n - a by omega, rngDN] at e
  exact e
theorem evd_all {α : Type} {xs : List α} {f : α → Bool} {r : Bool} (h : EvD te τ (.list (xs.map fun a => PyData.bool (f a)))) (e : xs.all f = r) : EvD (tCB (rAll K) (tCons te tNil)) τ (.bool r) := by
  have h2 : EvD te τ (.list ((xs.map f).map PyData.bool)) := by
    rw [List.map_map]
    exact h
  have q := evd_cb (eva_cons h2 eva_nil) (rc_all (K := K))
  rw [List.all_map] at q
  rw [← e]
  exact q
theorem evd_any {α : Type} {xs : List α} {f : α → Bool} {r : Bool} (h : EvD te τ (.list (xs.map fun a => PyData.bool (f a)))) (e : xs.any f = r) : EvD (tCB (rAny K) (tCons te tNil)) τ (.bool r) := by
  have h2 : EvD te τ (.list ((xs.map f).map PyData.bool)) := by
    rw [List.map_map]
    exact h
  have q := evd_cb (eva_cons h2 eva_nil) (rc_any (K := K))
  rw [List.any_map] at q
  rw [← e]
  exact q
end
end Rb

/-! part RbD1 -/
namespace Rb
open PySem PySem.Spec PyProof.Rows L2
open Evl (Ex)

section
variable {P : Program} {w : World} {K : PySem.W.Frag} {mg : Str → Option Value} {base : Heap} {tk : Tok}

abbrev is_whole_names : List Str := ["value", "low", "high"]
abbrev is_whole_st : Stmt := topS 5
theorem sc_is_whole : FnScope is_whole_names ["value", "low", "high"] (defScope is_whole_st) := ⟨rfl, rfl, rfl, by decide +kernel, rfl, by decide +kernel, by decide +kernel⟩

def R_is_whole (ds : List PyData) (d : PyData) : Prop := ∃ v lo hi : Int, ds = [.int v, .int lo, .int hi] ∧ d = .bool (decide (lo ≤ v) && decide (v ≤ hi))
theorem ca_is_whole (T : Tx mg tk) (A : At K mg "is_whole" is_whole_st ["value", "low", "high"]) : Ca P w K mg base 1 "is_whole" (SpP R_is_whole) := by
  refine ca_pure A sc_is_whole (by
    intro ds d h
    unfold R_is_whole at h
    first
      | (obtain ⟨_, rfl, _⟩ := h; rfl)
      | (obtain ⟨_, _, rfl, _⟩ := h; rfl)
      | (obtain ⟨_, _, _, rfl, _⟩ := h; rfl)
      | (obtain ⟨_, _, _, _, rfl, _⟩ := h; rfl)) (fun f cdv A outer s H E hr => ?_)
  refine ⟨_, (pss_one (ps_ret (pe_and (pe_callB (call_isiK' K rfl) (by rfl) T.n_isinstance (by decide +kernel) (pa_cons (pv 0) (pa_cons (pe_bltn (v := .ty "int") (u := .type "int") (by rfl) T.n_int (by decide +kernel) rfl) pa_nil))) (pe_and (pe_not (pe_callB (call_isiK' K rfl) (by rfl) T.n_isinstance (by decide +kernel) (pa_cons (pv 0) (pa_cons (pe_bltn (v := .ty "bool") (u := .type "bool") (by rfl) T.n_bool (by decide +kernel) rfl) pa_nil)))) (pe_one (pe_chain op_le op_le (pv 1) (pv 0) (pv 2))))))), ?_⟩
  rintro ds d ⟨v, lo, hi, rfl, rfl⟩
  exact ok_ret (evd_cast (evd_andV (evd_isi (evd_dat rfl) isi_ii) fun _ => evd_andV (evd_notV (evd_isi (evd_dat rfl) isi_ib)) fun _ => evd_chain (evd_dat rfl) (evd_dat rfl) rd_ib (evd_dat rfl) rd_ib) rfl) rfl
abbrev is_player_names : List Str := ["value", "many"]
abbrev is_player_st : Stmt := topS 12
theorem sc_is_player : FnScope is_player_names ["value", "many"] (defScope is_player_st) := ⟨rfl, rfl, rfl, by decide +kernel, rfl, by decide +kernel, by decide +kernel⟩

def R_is_player (ds : List PyData) (d : PyData) : Prop := ∃ v m : Int, ds = [.int v, .int m] ∧ d = .bool (decide (0 ≤ v) && decide (v < m))
theorem ca_is_player (T : Tx mg tk) (A : At K mg "is_player" is_player_st ["value", "many"]) : Ca P w K mg base 1 "is_player" (SpP R_is_player) := by
  refine ca_pure A sc_is_player (by
    intro ds d h
    unfold R_is_player at h
    first
      | (obtain ⟨_, rfl, _⟩ := h; rfl)
      | (obtain ⟨_, _, rfl, _⟩ := h; rfl)
      | (obtain ⟨_, _, _, rfl, _⟩ := h; rfl)
      | (obtain ⟨_, _, _, _, rfl, _⟩ := h; rfl)) (fun f cdv A outer s H E hr => ?_)
  refine ⟨_, (pss_one (ps_ret (pe_and (pe_callB (call_isiK' K rfl) (by rfl) T.n_isinstance (by decide +kernel) (pa_cons (pv 0) (pa_cons (pe_bltn (v := .ty "int") (u := .type "int") (by rfl) T.n_int (by decide +kernel) rfl) pa_nil))) (pe_and (pe_not (pe_callB (call_isiK' K rfl) (by rfl) T.n_isinstance (by decide +kernel) (pa_cons (pv 0) (pa_cons (pe_bltn (v := .ty "bool") (u := .type "bool") (by rfl) T.n_bool (by decide +kernel) rfl) pa_nil)))) (pe_one (pe_chain op_le op_lt pe_int (pv 0) (pv 1))))))), ?_⟩
  rintro ds d ⟨v, m, rfl, rfl⟩
  exact ok_ret (evd_cast (evd_andV (evd_isi (evd_dat rfl) isi_ii) fun _ => evd_andV (evd_notV (evd_isi (evd_dat rfl) isi_ib)) fun _ => evd_chain evd_int (evd_dat rfl) rd_ib (evd_dat rfl) rd_ib) rfl) rfl
abbrev beats_names : List Str := ["tournament", "one", "other"]
abbrev beats_st : Stmt := topS 9
theorem sc_beats : FnScope beats_names ["tournament", "one", "other"] (defScope beats_st) := ⟨rfl, rfl, rfl, by decide +kernel, rfl, by decide +kernel, by decide +kernel⟩

def R_beats (ds : List PyData) (d : PyData) : Prop := ∃ (n : Nat) (b : Nat → Nat → Bool) (i j : Nat), ds = [tD (rowsOf n b), iD i, iD j] ∧ i < n ∧ j < n ∧ d = .bool (b i j)
theorem ints_iD (r : List Nat) : r.map iD = (r.map fun k : Nat => (k : Int)).map PyData.int := by
  rw [List.map_map]
  rfl
theorem mem_cast (j : Nat) (r : List Nat) : ((j : Int) ∈ r.map fun k : Nat => (k : Int)) ↔ j ∈ r := by
  rw [List.mem_map]
  exact ⟨fun ⟨a, h, e⟩ => by rw [← Int.ofNat.inj e]; exact h, fun h => ⟨j, h, rfl⟩⟩
theorem ca_beats (T : Tx mg tk) (A : At K mg "beats" beats_st ["tournament", "one", "other"]) : Ca P w K mg base 1 "beats" (SpP R_beats) := by
  refine ca_pure A sc_beats (fun ds d ⟨_, _, _, _, h, _⟩ => by rw [h]; rfl) (fun f cdv A outer s H E hr => ?_)
  refine ⟨_, (pss_one (ps_ret (pe_cmpR (op_inK K rfl) (pv 2) (pe_ix (ix_tupK K rfl) (pv 0) (pv 1) (fun _ _ => rfl)) (by rfl)))), ?_⟩
  rintro ds d ⟨n, b, i, j, rfl, hi, hj, rfl⟩
  refine ok_ret (evd_cast (evd_op (evd_dat rfl) (evd_op (evd_dat rfl) (evd_dat rfl) (rd_ixT (at_mapN (rowsOf_get hi)))) (rd_in (ns := ((List.range n).filter (b i)).map fun k : Nat => (k : Int)) (.inr ?_))) ?_) rfl
  · unfold rowD
    rw [ints_iD]
  · congr 1
    rw [decide_eq_decide.mpr (mem_cast j _), Bool.eq_iff_iff, decide_eq_true_iff, List.mem_filter, List.mem_range]
    exact ⟨fun h => h.2, fun h => ⟨hj, h⟩⟩
abbrev is_climbing_names : List Str := ["value", "many", "one", "at"]
abbrev is_climbing_st : Stmt := topS 7
theorem sc_is_climbing : FnScope is_climbing_names ["value", "many"] (defScope is_climbing_st) := ⟨rfl, rfl, rfl, by decide +kernel, rfl, by decide +kernel, by decide +kernel⟩

def R_is_climbing (ds : List PyData) (d : PyData) : Prop := ∃ (r : List Nat) (n : Nat), ds = [rowD r, iD n] ∧ r.Pairwise (· < ·) ∧ (∀ x ∈ r, x < n) ∧ r.length ≤ 1000 ∧ d = .bool true
theorem ca_is_climbing (T : Tx mg tk) (A : At K mg "is_climbing" is_climbing_st ["value", "many"]) (C_is_whole : Ca P w K mg base 1 "is_whole" (SpP R_is_whole)) : Ca P w K mg base 2 "is_climbing" (SpP R_is_climbing) := by
  refine ca_pure A sc_is_climbing (fun ds d ⟨_, _, h, _⟩ => by rw [h]; rfl) (fun f cdv A outer s H E hr => ?_)
  refine ⟨_, (pss_cons (ps_if (PW.pt (pw_or (pt_not (pt_val (pe_callB (call_isiK' K rfl) (by rfl) T.n_isinstance (by decide +kernel) (pa_cons (pv 0) (pa_cons (pe_bltn (v := .ty "tuple") (u := .type "tuple") (by rfl) T.n_tuple (by decide +kernel) rfl) pa_nil))))) (pw_or1 (pt_not (pt_val (pe_callB (cr_allK K rfl rfl) (by rfl) T.n_all (by decide +kernel) (pa_cons (pe_lc (own := [("one", 2)]) (by rfl) sc_is_climbing.nd (pi_tup (pv 0)) (blkOk_by (own := [("one", 2)]) (N := is_climbing_names) (sc := defScope is_climbing_st) (by decide +kernel)) (fun _ _ _ _ _ => (pg_name (i := 2) sc_is_climbing.nd rfl (by first | exact Or.inl rfl | exact Or.inr rfl))) (fun _ _ _ _ _ => pts_nil) (fun _ _ _ _ _ => (pe_ca C_is_whole hr (by decide) (by rfl) (pa_cons (pv 2) (pa_cons pe_int (pa_cons (pe_op op_sub (pv 1) pe_int) pa_nil)))))) pa_nil)))))))
        (pss_one (ps_ret pe_bl))
        pss_nil)
      (pss_one (ps_ret (pe_callB (cr_allK K rfl rfl) (by rfl) T.n_all (by decide +kernel) (pa_cons (pe_lc (own := [("at", 3)]) (by rfl) sc_is_climbing.nd (pi_range1 (by rfl) T.n_range (pa_cons (pe_op op_sub (pe_callB (call_lenK K rfl) (by rfl) T.n_len (by decide +kernel) (pa_cons (pv 0) pa_nil)) pe_int) pa_nil)) (blkOk_by (own := [("at", 3)]) (N := is_climbing_names) (sc := defScope is_climbing_st) (by decide +kernel)) (fun _ _ _ _ _ => (pg_name (i := 3) sc_is_climbing.nd rfl (by first | exact Or.inl rfl | exact Or.inr rfl))) (fun _ _ _ _ _ => pts_nil) (fun _ _ _ _ _ => (pe_cmpR op_lt (pe_ix (ix_tupK K rfl) (pv 0) (pv 3) (fun _ _ => rfl)) (pe_ix (ix_tupK K rfl) (pv 0) (pe_op op_add (pv 3) pe_int) (fun _ _ => rfl)) (nomark _)))) pa_nil))))), ?_⟩
  rintro ds d ⟨r, n, rfl, hp, hx, hl, rfl⟩
  refine ok_seq (N1 := (· = slots is_climbing_names.length [rowD r, iD n])) ?_ fun τ' e => ?_
  · refine ok_if (b := false) (evt_cast (evt_or (evt_not (evt_B (evd_isi (b := true) (evd_dat rfl) isi_tt))) fun _ => evt_not (evt_B (evd_all (xs := r) (f := fun _ => true) (r := true) (evd_lc0 iD _ (itd_tup (evd_dat rfl)) (by omega) fun a ha => ?_) (by simp)))) rfl) (fun h => nomatch h) fun _ => ok_next rfl
    refine ⟨_, tgd_name, evd_cast (evd_call (R := R_is_whole) (eva_cons (evd_dat rfl) (eva_cons evd_int (eva_cons (evd_op (evd_dat rfl) evd_int rd_ii) eva_nil))) ⟨a, 0, n - 1, rfl, rfl⟩) ?_⟩
    have h1 := hx a ha
    have h2 : decide ((0 : Int) ≤ (a : Int)) = true := decide_eq_true (by omega)
    have h3 : decide ((a : Int) ≤ (n : Int) - 1) = true := decide_eq_true (by omega)
    rw [h2, h3]
    rfl
  · subst e
    refine ok_ret (evd_all (xs := List.range (r.length - 1)) (f := fun _ => true) (r := true) (evd_lc0 iD _ (itd_rZ (eva_cons (evd_op (evd_cb (eva_cons (evd_dat rfl) eva_nil) (rc_len (.inr rfl))) evd_int rd_ii) eva_nil) ?_ ?_) ?_ fun a ha => ?_) (by simp)) rfl
    · rw [List.length_map]
      omega
    · rw [List.length_map]
      omega
    · rw [List.length_range]
      omega
    · have h1 := List.mem_range.mp ha
      have g1 : r[a]? = some r[a] := List.getElem?_eq_getElem (by omega)
      have g2 : r[a + 1]? = some r[a + 1] := List.getElem?_eq_getElem (by omega)
      refine ⟨_, tgd_name, evd_cast (evd_op (evd_op (evd_dat rfl) (evd_dat rfl) (rd_ixT (at_mapN g1))) (evd_op (evd_dat rfl) (evd_op (evd_dat rfl) evd_int rd_ii) (rd_ixT (at_Z (k := a + 1) (by omega) g2))) rd_ib) ?_⟩
      congr 1
      exact decide_eq_true (Int.ofNat_lt.mpr (List.pairwise_iff_getElem.mp hp a (a + 1) (by omega) (by omega) (by omega)))
end
end Rb

/-! part RbD2 -/
namespace Rb
open PySem PySem.Spec PyProof.Rows L2
open Evl (Ex)

theorem rows_pw (n : Nat) (p : Nat → Bool) : ((List.range n).filter p).Pairwise (· < ·) := List.Pairwise.filter _ List.pairwise_lt_range
theorem rows_lt {n : Nat} {p : Nat → Bool} {x : Nat} (h : x ∈ (List.range n).filter p) : x < n := List.mem_range.mp (List.mem_filter.mp h).1
theorem rows_le (n : Nat) (p : Nat → Bool) : ((List.range n).filter p).length ≤ n := Nat.le_trans (List.length_filter_le _ _) (by rw [List.length_range]; exact Nat.le_refl _)
/-- one in a row -/
theorem row_mem {n i : Nat} {p : Nat → Bool} (hi : i < n) : decide ((i : Int) ∈ ((List.range n).filter p).map fun k : Nat => (k : Int)) = p i := by
  rw [decide_eq_decide.mpr (mem_cast i _), Bool.eq_iff_iff, decide_eq_true_iff, List.mem_filter, List.mem_range]
  exact ⟨fun h => h.2, fun h => ⟨hi, h⟩⟩
theorem rowD_ints (r : List Nat) : rowD r = .tuple ((r.map fun k : Nat => (k : Int)).map PyData.int) := by
  unfold rowD
  rw [ints_iD]
theorem evd_rowIn {K : PySem.W.Frag} {τ : List Sl} {ta tb : TE} {n i : Nat} {p : Nat → Bool} (ha : EvD ta τ (iD i)) (hb : EvD tb τ (rowD ((List.range n).filter p))) (hi : i < n) : EvD (tOp (rIn K false) ta tb) τ (.bool (p i)) := by
  rw [← row_mem (p := p) hi]
  exact evd_op ha hb (rd_in (.inr (rowD_ints _)))

section
variable {P : Program} {w : World} {K : PySem.W.Frag} {mg : Str → Option Value} {base : Heap} {tk : Tok}

abbrev is_tournament_names : List Str := ["value", "one", "row", "other"]
abbrev is_tournament_st : Stmt := topS 8
theorem sc_is_tournament : FnScope is_tournament_names ["value"] (defScope is_tournament_st) := ⟨rfl, rfl, rfl, by decide +kernel, rfl, by decide +kernel, by decide +kernel⟩

def R_is_tournament (ds : List PyData) (d : PyData) : Prop := ∃ (n : Nat) (b : Nat → Nat → Bool), ds = [tD (rowsOf n b)] ∧ TB n b ∧ 1 ≤ n ∧ n ≤ 8 ∧ d = .bool true
theorem ca_is_tournament (T : Tx mg tk) (A : At K mg "is_tournament" is_tournament_st ["value"]) (C_is_climbing : Ca P w K mg base 2 "is_climbing" (SpP R_is_climbing)) : Ca P w K mg base 3 "is_tournament" (SpP R_is_tournament) := by
  refine ca_pure A sc_is_tournament (fun ds d ⟨_, _, h, _⟩ => by rw [h]; rfl) (fun f cdv A outer s H E hr => ?_)
  refine ⟨_, (pss_cons (ps_if (PW.pt (pw_or (pt_not (pt_val (pe_callB (call_isiK' K rfl) (by rfl) T.n_isinstance (by decide +kernel) (pa_cons (pv 0) (pa_cons (pe_bltn (v := .ty "tuple") (u := .type "tuple") (by rfl) T.n_tuple (by decide +kernel) rfl) pa_nil))))) (pw_or1 (pt_not (pt_chain op_le op_le pe_int (pe_callB (call_lenK K rfl) (by rfl) T.n_len (by decide +kernel) (pa_cons (pv 0) pa_nil)) (pe_glob (v := .int 8) (by rfl) T.MP ⟨_, rfl⟩))))))
        (pss_one (ps_ret pe_bl))
        pss_nil)
      (pss_cons (ps_if (pt_not (pt_val (pe_callB (cr_allK K rfl rfl) (by rfl) T.n_all (by decide +kernel) (pa_cons (pe_lc (own := [("row", 2)]) (by rfl) sc_is_tournament.nd (pi_tup (pv 0)) (blkOk_by (own := [("row", 2)]) (N := is_tournament_names) (sc := defScope is_tournament_st) (by decide +kernel)) (fun _ _ _ _ _ => (pg_name (i := 2) sc_is_tournament.nd rfl (by first | exact Or.inl rfl | exact Or.inr rfl))) (fun _ _ _ _ _ => pts_nil) (fun _ _ _ _ _ => (pe_ca C_is_climbing hr (by decide) (by rfl) (pa_cons (pv 2) (pa_cons (pe_callB (call_lenK K rfl) (by rfl) T.n_len (by decide +kernel) (pa_cons (pv 0) pa_nil)) pa_nil))))) pa_nil))))
        (pss_one (ps_ret pe_bl))
        pss_nil)
      (pss_cons (ps_for PassesOwn.never rfl (pi_range1 (by rfl) T.n_range (pa_cons (pe_callB (call_lenK K rfl) (by rfl) T.n_len (by decide +kernel) (pa_cons (pv 0) pa_nil)) pa_nil)) (pg_name (i := 1) sc_is_tournament.nd rfl (by first | exact Or.inl rfl | exact Or.inr rfl))
        (pss_one (ps_if (PW.pt (pw_or (pt_cmpR (op_inK K rfl) (pv 1) (pe_ix (ix_tupK K rfl) (pv 0) (pv 1) (fun _ _ => rfl)) (by rfl)) (pw_or1 (pt_not (pt_val (pe_callB (cr_allK K rfl rfl) (by rfl) T.n_all (by decide +kernel) (pa_cons (pe_lc (own := [("other", 3)]) (by rfl) sc_is_tournament.nd (pi_range1 (by rfl) T.n_range (pa_cons (pv 1) pa_nil)) (blkOk_by (own := [("other", 3)]) (N := is_tournament_names) (sc := defScope is_tournament_st) (by decide +kernel)) (fun _ _ _ _ _ => (pg_name (i := 3) sc_is_tournament.nd rfl (by first | exact Or.inl rfl | exact Or.inr rfl))) (fun _ _ _ _ _ => pts_nil) (fun _ _ _ _ _ => (pe_cmpR op_ne (pe_cmpR (op_inK K rfl) (pv 3) (pe_ix (ix_tupK K rfl) (pv 0) (pv 1) (fun _ _ => rfl)) (by rfl)) (pe_cmpR (op_inK K rfl) (pv 1) (pe_ix (ix_tupK K rfl) (pv 0) (pv 3) (fun _ _ => rfl)) (by rfl)) (nomark _)))) pa_nil)))))))
          (pss_one (ps_ret pe_bl))
          pss_nil)))
      (pss_one (ps_ret pe_bl))))), ?_⟩
  rintro ds d ⟨n, b, rfl, hT, h1, h8, rfl⟩
  have hlen : EvD (tCB (fun xs H Q => ∃ p ys, xs = [V.ref p] ∧ (SqL K H p ys ∨ SqT K H p ys) ∧ Q (.int ys.length) H) (tCons (tVar 0) tNil)) [.dat (tD (rowsOf n b)), .un, .un, .un] (iD n) :=
    evd_N (evd_cb (eva_cons (evd_dat rfl) eva_nil) (rc_len (.inr rfl))) (by rw [List.length_map, rowsOf_len])
  refine ok_seq (N1 := (· = [.dat (tD (rowsOf n b)), .un, .un, .un])) ?_ fun τ' e => ?_
  · refine ok_if (b := false) (evt_cast (evt_or (evt_not (evt_B (evd_isi (evd_dat rfl) isi_tt))) fun _ => evt_not (evt_test (evd_chain evd_int hlen rd_ib evd_int rd_ib))) ?_) (fun h => nomatch h) fun _ => ok_next rfl
    rw [decide_eq_true (show (1 : Int) ≤ (n : Int) by omega), decide_eq_true (show (n : Int) ≤ 8 by omega)]
    rfl
  · subst e
    refine ok_seq (N1 := (· = [.dat (tD (rowsOf n b)), .un, .un, .un])) ?_ fun τ' e => ?_
    · refine ok_if (b := false) (evt_cast (evt_not (evt_B (evd_all (xs := rowsOf n b) (f := fun _ => true) (r := true) (evd_lc0 rowD _ (itd_tup (evd_dat rfl)) ?_ fun a ha => ?_) (by simp)))) rfl) (fun h => nomatch h) fun _ => ok_next rfl
      · rw [rowsOf_len]
        omega
      · obtain ⟨i, hi, rfl⟩ := List.mem_map.mp ha
        have hl2 : EvD (tCB (fun xs H Q => ∃ p ys, xs = [V.ref p] ∧ (SqL K H p ys ∨ SqT K H p ys) ∧ Q (.int ys.length) H) (tCons (tVar 0) tNil)) [.dat (tD (rowsOf n b)), .un, .dat (rowD ((List.range n).filter (b i))), .un] (iD n) :=
          evd_N (evd_cb (eva_cons (evd_dat rfl) eva_nil) (rc_len (.inr rfl))) (by rw [List.length_map, rowsOf_len])
        exact ⟨_, tgd_name, evd_call (R := R_is_climbing) (eva_cons (evd_dat rfl) (eva_cons hl2 eva_nil)) ⟨_, n, rfl, rows_pw _ _, fun x hx => rows_lt hx, Nat.le_trans (rows_le _ _) (by omega), rfl⟩⟩
    · subst e
      refine sq_for (itd_r1 (eva_cons hlen eva_nil) (by omega)) (fun _ τ' => ∃ x, τ' = [.dat (tD (rowsOf n b)), x, .un, .un]) ⟨_, rfl⟩ (fun i x τ' hx hI => ?_) fun τ' hI => ?_
      · obtain ⟨y, rfl⟩ := hI
        rw [List.getElem?_map] at hx
        have hi : i < n := by
          cases q : (List.range n)[i]? with
          | none =>
            rw [q] at hx
            cases hx
          | some z =>
            have := (List.getElem?_eq_some_iff.mp q).1
            rw [List.length_range] at this
            exact this
        rw [List.getElem?_range hi] at hx
        have ex := Option.some.inj hx
        subst ex
        refine ⟨_, _, tgd_name, ?_⟩
        refine ok_if (b := false) (evt_cast (evt_or (evt_test (evd_rowIn (evd_dat rfl) (evd_op (evd_dat rfl) (evd_dat rfl) (rd_ixT (at_mapN (rowsOf_get hi)))) hi)) fun _ => evt_not (evt_B (evd_all (xs := List.range i) (f := fun _ => true) (r := true) (evd_lc0 iD _ (itd_r1 (eva_cons (evd_dat rfl) eva_nil) (by omega)) ?_ fun a ha => ?_) (by simp)))) ?_) (fun h => nomatch h) fun _ => ok_next ⟨_, rfl⟩
        · rw [List.length_range]
          omega
        · have hai := List.mem_range.mp ha
          have han : a < n := by omega
          refine ⟨_, tgd_name, evd_cast (evd_op (evd_rowIn (evd_dat rfl) (evd_op (evd_dat rfl) (evd_dat rfl) (rd_ixT (at_mapN (rowsOf_get hi)))) han) (evd_rowIn (evd_dat rfl) (evd_op (evd_dat rfl) (evd_dat rfl) (rd_ixT (at_mapN (rowsOf_get han)))) hi) rd_neB) ?_⟩
          rw [hT.tot i a hi han (by omega)]
          cases b a i <;> rfl
        · rw [hT.irr i hi]
          rfl
      · obtain ⟨y, rfl⟩ := hI
        exact ok_ret evd_bl rfl
abbrev check_tournament_names : List Str := ["value"]
abbrev check_tournament_st : Stmt := topS 11
theorem sc_check_tournament : FnScope check_tournament_names ["value"] (defScope check_tournament_st) := ⟨rfl, rfl, rfl, by decide +kernel, rfl, by decide +kernel, by decide +kernel⟩

def R_check (ds : List PyData) (d : PyData) : Prop := ∃ (n : Nat) (b : Nat → Nat → Bool), ds = [tD (rowsOf n b)] ∧ TB n b ∧ 1 ≤ n ∧ n ≤ 8 ∧ d = .none
abbrev R_check_tournament := R_check
theorem ca_check_tournament (T : Tx mg tk) (A : At K mg "check_tournament" check_tournament_st ["value"]) (C_is_tournament : Ca P w K mg base 3 "is_tournament" (SpP R_is_tournament)) : Ca P w K mg base 4 "check_tournament" (SpP R_check_tournament) := by
  refine ca_pure A sc_check_tournament (fun ds d ⟨_, _, h, _⟩ => by rw [h]; rfl) (fun f cdv A outer s H E hr => ?_)
  refine ⟨_, (pss_one (ps_if (pt_not (pt_val (pe_ca C_is_tournament hr (by decide) (by rfl) (pa_cons (pv 0) pa_nil))))
        (pss_one ps_never)
        pss_nil)), ?_⟩
  rintro ds d ⟨n, b, rfl, hT, h1, h8, rfl⟩
  exact ok_if (b := false) (evt_not (evt_B (evd_call (R := R_is_tournament) (eva_cons (evd_dat rfl) eva_nil) ⟨n, b, rfl, hT, h1, h8, rfl⟩))) (fun h => nomatch h) fun _ => ok_next rfl
end
end Rb

/-! part RbD3 -/
namespace Rb
open PySem PySem.Spec PyProof.Rows L2
open Evl (Ex)

theorem enumD_get {o : Ord} {i : Nat} {x : PyData} (h : (enumD (o.map enO))[i]? = some x) : ∃ e, o[i]? = some e ∧ x = pairD (.int (i : Nat)) (enO e) := by
  unfold enumD at h
  rw [List.getElem?_map, List.getElem?_zipIdx, List.getElem?_map] at h
  cases q : o[i]? with
  | none =>
    rw [q] at h
    cases h
  | some e =>
    rw [q] at h
    have := Option.some.inj h
    refine ⟨e, rfl, ?_⟩
    rw [← this]
    show pairD (.int ((0 + i : Nat) : Int)) (enO e) = _
    rw [Nat.zero_add]
theorem enumD_len (o : Ord) : (enumD (o.map enO)).length = o.length := by
  unfold enumD
  rw [List.length_map, List.length_zipIdx, List.length_map]
theorem drop_mapO (o : Ord) (k : Nat) : (o.map enO).drop k = (o.drop k).map enO := by rw [List.map_drop]

section
variable {P : Program} {w : World} {K : PySem.W.Frag} {mg : Str → Option Value} {base : Heap} {tk : Tok}

abbrev tournament_by_names : List Str := ["order", "rows", "at", "player", "itself", "other", "alike", "entry", "row"]
abbrev tournament_by_st : Stmt := topS 13
theorem sc_tournament_by : FnScope tournament_by_names ["order"] (defScope tournament_by_st) := ⟨rfl, rfl, rfl, by decide +kernel, rfl, by decide +kernel, by decide +kernel⟩

def R_tournament_by (ds : List PyData) (d : PyData) : Prop := ∃ o : Ord, ds = [oD o] ∧ Perm0 o ∧ o.length ≤ 8 ∧ d = tD (tourBy o)
theorem ca_tournament_by (T : Tx mg tk) (A : At K mg "tournament_by" tournament_by_st ["order"]) : Ca P w K mg base 1 "tournament_by" (SpP R_tournament_by) := by
  refine ca_pure A sc_tournament_by (fun ds d ⟨_, h, _⟩ => by rw [h]; rfl) (fun f cdv A outer s H E hr => ?_)
  refine ⟨_, (pss_cons (ps_setLc (own := [("entry", 7)]) (i := 1) (by rfl) sc_tournament_by.nd rfl rfl (sw_true rfl rfl rfl (by decide +kernel)) (pi_tup (pv 0)) (blkOk_by (own := [("entry", 7)]) (N := tournament_by_names) (sc := defScope tournament_by_st) (by decide +kernel)) (fun _ _ _ _ _ => (pg_name (i := 7) sc_tournament_by.nd rfl (by first | exact Or.inl rfl | exact Or.inr rfl))) (fun _ _ _ _ _ => pts_nil) (fun _ _ _ _ _ => (pe_lst pa_nil)))
      (pss_cons (ps_for PassesOwn.never rfl (pi_enumT (by rfl) T.n_enumerate (pa_cons (pv 0) pa_nil)) (pg_tupK K rfl (n := 2) rfl (pgs_cons (pg_name (i := 2) sc_tournament_by.nd rfl (by first | exact Or.inl rfl | exact Or.inr rfl)) (pgs_cons (pg_tupK K rfl (n := 2) rfl (pgs_cons (pg_name (i := 3) sc_tournament_by.nd rfl (by first | exact Or.inl rfl | exact Or.inr rfl)) (pgs_cons (pg_name (i := 4) sc_tournament_by.nd rfl (by first | exact Or.inl rfl | exact Or.inr rfl)) pgs_nil))) pgs_nil)))
        (pss_one (ps_for PassesOwn.never rfl (pi_tup (pe_slice (sl_tupK K rfl) (pv 0) (po_some (pe_op op_add (pv 2) pe_int)) po_none)) (pg_tupK K rfl (n := 2) rfl (pgs_cons (pg_name (i := 5) sc_tournament_by.nd rfl (by first | exact Or.inl rfl | exact Or.inr rfl)) (pgs_cons (pg_name (i := 6) sc_tournament_by.nd rfl (by first | exact Or.inl rfl | exact Or.inr rfl)) pgs_nil)))
          (pss_one (ps_if (pt_cmpR op_eq (pv 4) (pv 6) (nomark _))
            (pss_one (ps_expr (pe_bm PySem.F.plainAttrs_list PySem.F.slot_list_append PySem.F.type_list_append mt_append (pe_ix (ix_listK K rfl) (pv 1) (pv 3) (fun _ _ => rfl)) (pa_cons (pv 5) pa_nil))))
            (pss_one (ps_expr (pe_bm PySem.F.plainAttrs_list PySem.F.slot_list_append PySem.F.type_list_append mt_append (pe_ix (ix_listK K rfl) (pv 1) (pv 5) (fun _ _ => rfl)) (pa_cons (pv 3) pa_nil)))))))))
      (pss_one (ps_ret (pe_callTy (call_tupleK K rfl) (by rfl) T.n_tuple (by decide +kernel) (pa_cons (pe_lc (own := [("row", 8)]) (by rfl) sc_tournament_by.nd (pi_list (pv 1)) (blkOk_by (own := [("row", 8)]) (N := tournament_by_names) (sc := defScope tournament_by_st) (by decide +kernel)) (fun _ _ _ _ _ => (pg_name (i := 8) sc_tournament_by.nd rfl (by first | exact Or.inl rfl | exact Or.inr rfl))) (fun _ _ _ _ _ => pts_nil) (fun _ _ _ _ _ => (pe_callTy (call_tupleK K rfl) (by rfl) T.n_tuple (by decide +kernel) (pa_cons (pe_callB (cr_sortedIK K rfl rfl) (by rfl) T.n_sorted (by decide +kernel) (pa_cons (pv 8) pa_nil)) pa_nil)))) pa_nil)))))), ?_⟩
  rintro ds d ⟨o, rfl, hp, h8, rfl⟩
  have hal : (adds o).length ≤ 64 := Nat.le_trans (adds_len o) (Nat.mul_le_mul h8 h8)
  have hlt : ∀ e ∈ adds o, e.1 < o.length ∧ e.2 < o.length := fun e he => by
    obtain ⟨q1, q2⟩ := adds_in he
    exact ⟨List.mem_range.mp (hp.mem_iff.mp q1), List.mem_range.mp (hp.mem_iff.mp q2)⟩
  refine sq_asgRows (itd_tup (evd_dat rfl)) (by rw [List.length_map]; omega) (fun x hx => ⟨_, tgd_name⟩) ?_
  rw [List.length_map, ← rowsSt_nil]
  refine sq_for (itd_enumT (evd_dat rfl)) (fun i τ' => ∃ (s2 s3 s4 s5 s6 : Sl) (pre : List (Nat × Nat)), τ' = [.dat (oD o), .rws (rowsSt o.length pre), s2, s3, s4, s5, s6, .un, .un] ∧ adds o = pre ++ adds (o.drop i)) ⟨.un, .un, .un, .un, .un, [], rfl, rfl⟩ (fun i x τ' hx hI => ?_) fun τ' hI => ?_
  · obtain ⟨s2, s3, s4, s5, s6, pre, rfl, hpre⟩ := hI
    obtain ⟨e, he, rfl⟩ := enumD_get hx
    rw [adds_drop he, ← List.append_assoc] at hpre
    refine ⟨_, _, tgd_tup (tgsd_cons tgd_name (tgsd_cons (tgd_tup (tgsd_cons tgd_name (tgsd_cons tgd_name tgsd_nil)) rfl) tgsd_nil)) rfl, ?_⟩
    refine ok_for (xs := (o.drop (i + 1)).map enO) ?_ (fun j τ' => ∃ (s5 s6 : Sl), τ' = [.dat (oD o), .rws (rowsSt o.length (pre ++ ((o.drop (i + 1)).take j).map (pr e))), .dat (.int (i : Nat)), .dat (iD e.1), .dat (.bool e.2), s5, s6, .un, .un]) ⟨s5, s6, ?_⟩ (fun j y τ' hy hI => ?_) fun τ' hI => ?_
    · rw [← drop_mapO, ← cut_from]
      exact itd_tup (evd_slT (evd_dat rfl) (evo_some (evd_I (evd_op (evd_dat rfl) evd_int rd_ii) rfl)) evo_none)
    · rw [List.take_zero, List.map_nil, List.append_nil]
      rfl
    · obtain ⟨s5, s6, rfl⟩ := hI
      rw [List.getElem?_map] at hy
      cases q : (o.drop (i + 1))[j]? with
      | none =>
        rw [q] at hy
        cases hy
      | some f =>
        rw [q] at hy
        have ey := Option.some.inj hy
        subst ey
        have hnew : (o.drop (i + 1)).take (j + 1) = (o.drop (i + 1)).take j ++ [f] := by rw [List.take_add_one, q]; rfl
        have hmem : pr e f ∈ adds o := by
          rw [hpre]
          exact List.mem_append_left _ (List.mem_append_right _ (List.mem_map.mpr ⟨f, List.mem_of_getElem? q, rfl⟩))
        have hb := hlt _ hmem
        have hsz : (pre ++ ((o.drop (i + 1)).take j).map (pr e)).length ≤ 64 := by
          have : (adds o).length = _ := congrArg List.length hpre
          rw [List.length_append, List.length_append, List.length_map] at this
          rw [List.length_append, List.length_map, List.length_take]
          have := Nat.min_le_right j (o.drop (i + 1)).length
          omega
        have fin : ∀ {x y : Nat}, pr e f = (x, y) → ∃ (s5 s6 : Sl), [.dat (oD o), .rws ((rowsSt o.length (pre ++ ((o.drop (i + 1)).take j).map (pr e))).set x (rowAt (pre ++ ((o.drop (i + 1)).take j).map (pr e)) x ++ [(y : Int)])), .dat (.int (i : Nat)), .dat (iD e.1), .dat (.bool e.2), .dat (iD f.1), .dat (.bool f.2), .un, .un] = [.dat (oD o), .rws (rowsSt o.length (pre ++ ((o.drop (i + 1)).take (j + 1)).map (pr e))), .dat (.int (i : Nat)), .dat (iD e.1), .dat (.bool e.2), s5, s6, Sl.un, .un] := fun {x y} exy =>
          ⟨_, _, by rw [hnew, List.map_append, ← List.append_assoc, List.map_singleton, exy, rowsSt_add]⟩
        refine ⟨_, _, tgd_two, ?_⟩
        refine ok_if (evt_test (evd_op (evd_dat rfl) (evd_dat rfl) rd_eqB)) (fun hb1 => ?_) fun hb1 => ?_
        · have epr : pr e f = (e.1, f.1) := by
            unfold pr
            rw [if_pos hb1]
          rw [epr] at hb
          exact ok_rowApp rfl (evd_dat rfl) (rowsSt_get _ hb.1) (Nat.lt_of_le_of_lt (rowAt_len _ _) (by omega)) (evd_dat rfl) (fin epr)
        · have epr : pr e f = (f.1, e.1) := by
            unfold pr
            rw [if_neg (by rw [hb1]; decide)]
          rw [epr] at hb
          exact ok_rowApp rfl (evd_dat rfl) (rowsSt_get _ hb.1) (Nat.lt_of_le_of_lt (rowAt_len _ _) (by omega)) (evd_dat rfl) (fin epr)
    · obtain ⟨s5, s6, rfl⟩ := hI
      rw [List.length_map, List.take_length]
      exact ⟨_, _, _, _, _, _, rfl, hpre⟩
  · obtain ⟨s2, s3, s4, s5, s6, pre, rfl, hpre⟩ := hI
    rw [enumD_len, List.drop_eq_nil_of_le (Nat.le_refl _)] at hpre
    have hpre : adds o = pre := by
      rw [hpre]
      show pre ++ [] = pre
      exact List.append_nil _
    subst hpre
    refine ok_sealR (i := 1) rfl ?_
    refine ok_ret (evd_cb (eva_cons (evd_lc0 (xs := List.range o.length) (fun p => .list ((rowAt (adds o) p).map PyData.int)) (fun p => rowD ((List.range o.length).filter (byO o p))) ?_ ?_ fun p hp' => ⟨_, tgd_name, ?_⟩) eva_nil) (rc_tuple (.inl rfl))) ?_
    · have e : (List.range o.length).map (fun p => PyData.list ((rowAt (adds o) p).map PyData.int)) = (rowsSt o.length (adds o)).map fun r => .list (r.map PyData.int) := by
        unfold rowsSt
        rw [List.map_map]
        rfl
      rw [e]
      exact itd_list (evd_dat rfl)
    · rw [List.length_range]
      omega
    · obtain ⟨z1, z2⟩ := row_srt (n := o.length) (adds_nd (perm0_nd hp)) (fun e he => (hlt e he).2) p
      unfold byO rowD
      rw [ints_iD]
      exact evd_cb (eva_cons (evd_cb (eva_cons (evd_dat rfl) eva_nil) (rc_sortedI z1 z2)) eva_nil) (rc_tuple (.inl rfl))
    · unfold tD tourBy rowsOf
      rw [List.map_map]
      rfl
end
end Rb

/-! part RbSrt -/
/-! sorted of pairs; == of tournaments, of orders -/
namespace Rb
open PySem PySem.Spec PyProof.Rows L2
open Evl (Ex)
def enP (e : Nat × Nat) : PyData := .tuple [iD e.1, iD e.2]
def castP (e : Nat × Nat) : Int × Int := ((e.1 : Int), (e.2 : Int))
theorem castP_inj {a b : Nat × Nat} (h : castP a = castP b) : a = b := by
  have h1 := (Prod.mk.inj h).1
  have h2 := (Prod.mk.inj h).2
  exact Prod.ext (Int.ofNat.inj h1) (Int.ofNat.inj h2)
theorem lexB_ltP (a b : Nat × Nat) : SrtO.lexB (castP a) (castP b) = ltP a b := by
  rw [Bool.eq_iff_iff, SrtO.lexB_iff]
  unfold castP ltP
  rw [Bool.or_eq_true, Bool.and_eq_true, decide_eq_true_iff, decide_eq_true_iff, decide_eq_true_iff]
  show (((a.1 : Int) < (b.1 : Int)) ∨ ((a.1 : Int) = (b.1 : Int) ∧ (a.2 : Int) < (b.2 : Int))) ↔ _
  omega
/-- the key of a pair's address -/
def keyAt (H : Hp) : V → Int × Int
  | .ref t => match H t with
    | some (.tup [.int i, .int j]) => (i, j)
    | _ => (0, 0)
  | _ => (0, 0)
theorem keyAt_of {G H : Hp} (k : Ex G H) {v : V} {e : Nat × Nat} (h : Rp G v (enP e)) : keyAt H v = castP e ∧ ∃ t, v = V.ref t ∧ G t = some (.tup [.int e.1, .int e.2]) := by
  unfold enP at h
  cases h with
  | tup h1 h2 =>
    obtain ⟨x, y, rfl, px, py⟩ := rpAll_two h2
    have ex := Rp.int_inv px
    have ey := Rp.int_inv py
    subst ex ey
    refine ⟨?_, _, rfl, h1⟩
    unfold keyAt
    dsimp only
    rw [k _ _ h1]
    rfl
theorem rpAll_each {α : Type} {G : Hp} {enc : α → PyData} : ∀ {vs : List V} {l : List α}, RpAll G vs (l.map enc) → ∀ v ∈ vs, ∃ a ∈ l, Rp G v (enc a)
  | _, [], h => by
    cases h
    intro v hv
    cases hv
  | _, a :: l, h => by
    cases h with
    | cons h1 h2 =>
      intro v hv
      rcases List.mem_cons.mp hv with e | e
      · rw [e]
        exact ⟨a, List.mem_cons_self, h1⟩
      · obtain ⟨b, hb, q⟩ := rpAll_each h2 v e
        exact ⟨b, List.mem_cons_of_mem _ hb, q⟩
theorem keys_of {G H : Hp} (k : Ex G H) : ∀ {vs : List V} {l : List (Nat × Nat)}, RpAll G vs (l.map enP) → vs.map (keyAt H) = l.map castP
  | _, [], h => by
    cases h
    rfl
  | _, e :: l, h => by
    cases h with
    | cons h1 h2 => rw [List.map_cons, List.map_cons, keys_of k h2, (keyAt_of k h1).1]
theorem rpAll_of_keys {G H : Hp} (k : Ex G H) : ∀ {vs : List V} {l : List (Nat × Nat)}, (∀ v ∈ vs, ∃ e, Rp G v (enP e)) → vs.map (keyAt H) = l.map castP → RpAll G vs (l.map enP)
  | [], [], _, _ => .nil
  | [], _ :: _, _, h => by cases h
  | _ :: _, [], _, h => by cases h
  | v :: vs, e :: l, hv, h => by
    rw [List.map_cons, List.map_cons] at h
    obtain ⟨h1, h2⟩ := List.cons.inj h
    obtain ⟨e', p⟩ := hv v List.mem_cons_self
    have := (keyAt_of k p).1
    rw [h1] at this
    have ee := castP_inj this
    subst ee
    exact .cons p (rpAll_of_keys k (fun w hw => hv w (List.mem_cons_of_mem _ hw)) h2)
theorem rc_sortedP {K : PySem.W.Frag} {l : List (Nat × Nat)} : RC (rSortedPO K) [.list (l.map enP)] (.list ((srtP l).map enP)) := fun G H vs k p1 Q q => by
  obtain ⟨v, rfl, pv⟩ := rpAll_one p1
  cases pv with
  | lst h1 h2 =>
    rename_i a xs
    have each := rpAll_each h2
    refine ⟨a, xs, keyAt H, rfl, .inl (.inl (k _ _ h1)), fun x hx => ?_, fun ys p hs hb hn => ?_⟩
    · obtain ⟨e, _, pe⟩ := each x hx
      obtain ⟨q1, t, rfl, q2⟩ := keyAt_of k pe
      refine ⟨t, rfl, ?_⟩
      rw [q1]
      exact k _ _ q2
    · have key := keys_of k h2
      -- the sorted keys
      obtain ⟨m, hm⟩ : ∃ m : List (Nat × Nat), ys.map (keyAt H) = m.map castP := by
        have : ∀ y ∈ ys, ∃ e, keyAt H y = castP e := fun y hy => by
          obtain ⟨e, _, pe⟩ := each y (hb.perm.mem_iff.mp hy)
          exact ⟨e, (keyAt_of k pe).1⟩
        clear hs hb q
        induction ys with
        | nil => exact ⟨[], rfl⟩
        | cons y ys ih =>
          obtain ⟨e, he⟩ := this y List.mem_cons_self
          obtain ⟨m, hm⟩ := ih fun z hz => this z (List.mem_cons_of_mem _ hz)
          exact ⟨e :: m, by rw [List.map_cons, List.map_cons, he, hm]⟩
      have hperm : m.Perm l := by
        have p2 : (m.map castP).Perm (l.map castP) := by
          rw [← hm, ← key]
          exact hb.perm.map _
        have back : ∀ l : List (Nat × Nat), (l.map castP).map (fun e => (e.1.toNat, e.2.toNat)) = l := fun l => by
          rw [List.map_map]
          refine Eq.trans (List.map_congr_left (g := id) fun e _ => ?_) (List.map_id _)
          show (((e.1 : Int)).toNat, ((e.2 : Int)).toNat) = e
          rw [Int.toNat_natCast, Int.toNat_natCast]
        have p3 := p2.map fun e => (e.1.toNat, e.2.toNat)
        rw [back, back] at p3
        exact p3
      have hsrt : m.Pairwise LeP := by
        have s1 : (ys.map (keyAt H)).Pairwise fun a b => SrtO.lexB b a = false := List.pairwise_map.mpr hs
        rw [hm] at s1
        exact (List.pairwise_map.mp s1).imp fun {a b} h => by
          unfold LeP
          rw [← lexB_ltP]
          exact h
      have em := srtP_uniq hperm hsrt
      subst em
      have z := Evl.fresh_back k hn
      exact q _ (upd G p (.lst ys)) _ (Go.new k hn) (.lst upd_same (RpAll.mono (Ex.new z) _ _ (rpAll_of_keys k (fun y hy => by
        obtain ⟨e, _, pe⟩ := each y (hb.perm.mem_iff.mp hy)
        exact ⟨e, pe⟩) hm)))

/-! == -/
theorem canLay_map {α : Type} {f : α → PyData} (hf : ∀ a, (f a).canLay0 = true) : ∀ l : List α, PyData.canLayAll0 (l.map f) = true
  | [] => by simp only [List.map_nil, PyData.canLayAll0]
  | a :: l => by
    rw [List.map_cons]
    simp only [PyData.canLayAll0, hf a, canLay_map hf l, Bool.and_self]
theorem depth_map {α : Type} {f : α → PyData} {k : Nat} (hf : ∀ a, (f a).depth ≤ k) : ∀ l : List α, PyData.depthAll (l.map f) ≤ k
  | [] => by
    simp only [List.map_nil, PyData.depthAll]
    exact Nat.zero_le _
  | a :: l => by
    rw [List.map_cons]
    simp only [PyData.depthAll]
    exact Nat.max_le.mpr ⟨hf a, depth_map hf l⟩
theorem eqv_map {α : Type} [DecidableEq α] {f : α → PyData} (hf : ∀ a b, PyData.eqv (f a) (f b) = decide (a = b)) (l m : List α) : PyData.eqvAll (l.map f) (m.map f) = decide (l = m) := by
  induction l generalizing m with
  | nil =>
    cases m
    · simp only [List.map_nil]; rfl
    · exact (decide_eq_false (fun q => by cases q)).symm
  | cons a l ih =>
    cases m with
    | nil => exact (decide_eq_false (fun q => by cases q)).symm
    | cons b m =>
      show (PyData.eqv (f a) (f b) && PyData.eqvAll (l.map f) (m.map f)) = _
      rw [hf, ih]
      by_cases h : a = b <;> by_cases g : l = m <;> simp [h, g]
theorem iD_eqv (a b : Nat) : PyData.eqv (iD a) (iD b) = decide (a = b) := by
  unfold iD
  simp only [PyData.eqv]
  rw [Bool.eq_iff_iff, beq_iff_eq, decide_eq_true_iff]
  exact ⟨fun h => Int.ofNat.inj h, fun h => by rw [h]⟩
theorem tD_eqv (S T : List (List Nat)) : PyData.eqv (tD S) (tD T) = decide (S = T) := by
  unfold tD
  simp only [PyData.eqv]
  refine eqv_map (fun a b => ?_) S T
  unfold rowD
  simp only [PyData.eqv]
  exact eqv_map iD_eqv a b
theorem tD_shaped (T : List (List Nat)) : SeqAt.shaped (tD T) = true := by
  unfold SeqAt.shaped
  rw [Bool.and_eq_true, decide_eq_true_iff]
  constructor
  · unfold tD
    simp only [PyData.canLay0]
    refine canLay_map (fun r => ?_) T
    unfold rowD
    simp only [PyData.canLay0]
    refine canLay_map (fun a => ?_) r
    unfold iD
    simp only [PyData.canLay0]
  · unfold tD
    simp only [PyData.depth]
    have : PyData.depthAll (T.map rowD) ≤ 1 := depth_map (fun r => by
      unfold rowD
      simp only [PyData.depth]
      have : PyData.depthAll (r.map iD) ≤ 0 := depth_map (fun a => by
        unfold iD
        simp only [PyData.depth]
        exact Nat.le_refl _) r
      omega) T
    omega
theorem enO_shaped (p : Nat) (s : Bool) : SeqAt.shaped (enO (p, s)) = true := by
  unfold SeqAt.shaped enO iD
  simp [PyData.canLay0, PyData.canLayAll0, PyData.depth, PyData.depthAll]
theorem enO_eqv (e f : Nat × Bool) : PyData.eqv (enO e) (enO f) = decide (e = f) := by
  show (PyData.eqv (iD e.1) (iD f.1) && (PyData.eqv (.bool e.2) (.bool f.2) && true)) = _
  rw [iD_eqv, Bool.and_true, Bool.eq_iff_iff]
  simp [Prod.ext_iff, PyData.eqv]
end Rb

/-! part RbD4 -/
namespace Rb
open PySem PySem.Spec PyProof.Rows L2
open Evl (Ex)

theorem oth_lt {n p q : Nat} (h : q ∈ oth n p) : q < n := by
  obtain ⟨k, hk, rfl⟩ := List.mem_map.mp (List.mem_filter.mp h).1
  have := List.mem_range.mp hk
  omega
def encT (o : Option Ord) : PyData := match o with
  | some o => oD o
  | none => .none
theorem plc_get {n : Nat} {b : Nat → Nat → Bool} {i : Nat} (h : i < n - 1) : (plc n b)[i]? = some ((oth n (1 + i)).length - (ahd n b (1 + i)).length, 1 + i) := by
  unfold plc
  rw [List.getElem?_map, List.getElem?_map, List.getElem?_range h]
  rfl
theorem plc_len (n : Nat) (b : Nat → Nat → Bool) : (plc n b).length = n - 1 := by
  unfold plc
  rw [List.length_map, List.length_map, List.length_range]
theorem srt_lt {n : Nat} {b : Nat → Nat → Bool} {e : Nat × Nat} (h : e ∈ srtP (plc n b)) : e.2 < n := by
  have := (srtP_perm _).mem_iff.mp h
  obtain ⟨p, hp, rfl⟩ := List.mem_map.mp this
  obtain ⟨k, hk, rfl⟩ := List.mem_map.mp hp
  have := List.mem_range.mp hk
  show 1 + k < n
  omega

section
variable {P : Program} {w : World} {K : PySem.W.Frag} {mg : Str → Option Value} {base : Heap} {tk : Tok}

abbrev order_of_names : List Str := ["tournament", "many", "signs", "places", "player", "others", "ahead", "order", "other", "before"]
abbrev order_of_st : Stmt := topS 14
theorem sc_order_of : FnScope order_of_names ["tournament"] (defScope order_of_st) := ⟨rfl, rfl, rfl, by decide +kernel, rfl, by decide +kernel, by decide +kernel⟩

def R_order_of (ds : List PyData) (d : PyData) : Prop := ∃ (n : Nat) (b : Nat → Nat → Bool), ds = [tD (rowsOf n b)] ∧ 1 ≤ n ∧ n ≤ 8 ∧ d = encT (toldOf n b)
theorem ca_order_of (T : Tx mg tk) (A : At K mg "order_of" order_of_st ["tournament"]) (C_beats : Ca P w K mg base 1 "beats" (SpP R_beats)) (C_tournament_by : Ca P w K mg base 1 "tournament_by" (SpP R_tournament_by)) : Ca P w K mg base 2 "order_of" (SpP R_order_of) := by
  refine ca_pure A sc_order_of (fun ds d ⟨_, _, h, _⟩ => by rw [h]; rfl) (fun f cdv A outer s H E hr => ?_)
  refine ⟨_, (pss_cons (ps_set (i := 1) sc_order_of.nd rfl (by first | exact Or.inl rfl | exact Or.inr rfl) (pe_callB (call_lenK K rfl) (by rfl) T.n_len (by decide +kernel) (pa_cons (pv 0) pa_nil)))
      (pss_cons (ps_set (i := 2) sc_order_of.nd rfl (by first | exact Or.inl rfl | exact Or.inr rfl) (pe_lc (own := [("player", 4)]) (by rfl) sc_order_of.nd (pi_range1 (by rfl) T.n_range (pa_cons (pv 1) pa_nil)) (blkOk_by (own := [("player", 4)]) (N := order_of_names) (sc := defScope order_of_st) (by decide +kernel)) (fun _ _ _ _ _ => (pg_name (i := 4) sc_order_of.nd rfl (by first | exact Or.inl rfl | exact Or.inr rfl))) (fun _ _ _ _ _ => pts_nil) (fun _ _ _ _ _ => (pe_or (pe_cmpR op_eq (pv 4) pe_int (nomark _)) (pe_one (pe_ca C_beats hr (by decide) (by rfl) (pa_cons (pv 0) (pa_cons pe_int (pa_cons (pv 4) pa_nil)))))))))
      (pss_cons (ps_set (i := 3) sc_order_of.nd rfl (by first | exact Or.inl rfl | exact Or.inr rfl) (pe_lst pa_nil))
      (pss_cons (ps_for PassesOwn.never rfl (pi_range2 (by rfl) T.n_range (pa_cons pe_int (pa_cons (pv 1) pa_nil))) (pg_name (i := 4) sc_order_of.nd rfl (by first | exact Or.inl rfl | exact Or.inr rfl))
        (pss_cons (ps_setLc (own := [("other", 8)]) (i := 5) (by rfl) sc_order_of.nd rfl rfl (sw_true rfl rfl rfl (by decide +kernel)) (pi_range2 (by rfl) T.n_range (pa_cons pe_int (pa_cons (pv 1) pa_nil))) (blkOk_by (own := [("other", 8)]) (N := order_of_names) (sc := defScope order_of_st) (by decide +kernel)) (fun _ _ _ _ _ => (pg_name (i := 8) sc_order_of.nd rfl (by first | exact Or.inl rfl | exact Or.inr rfl))) (fun _ _ _ _ _ => (pts_one (pt_cmpR op_ne (pv 8) (pv 4) (nomark _)))) (fun _ _ _ _ _ => (pv 8)))
        (pss_cons (ps_setLc (own := [("other", 8)]) (i := 6) (by rfl) sc_order_of.nd rfl rfl (sw_true rfl rfl rfl (by decide +kernel)) (pi_list (pv 5)) (blkOk_by (own := [("other", 8)]) (N := order_of_names) (sc := defScope order_of_st) (by decide +kernel)) (fun _ _ _ _ _ => (pg_name (i := 8) sc_order_of.nd rfl (by first | exact Or.inl rfl | exact Or.inr rfl))) (fun _ _ _ _ _ => (pts_one (pt_cmpR op_eq (pe_ca C_beats hr (by decide) (by rfl) (pa_cons (pv 0) (pa_cons (pv 4) (pa_cons (pv 8) pa_nil)))) (pe_cmpR op_eq (pe_ix (ix_listK K rfl) (pv 2) (pv 4) (fun _ _ => rfl)) (pe_ix (ix_listK K rfl) (pv 2) (pv 8) (fun _ _ => rfl)) (nomark _)) (nomark _)))) (fun _ _ _ _ _ => (pv 8)))
        (pss_one (ps_expr (pe_bm PySem.F.plainAttrs_list PySem.F.slot_list_append PySem.F.type_list_append mt_append (pv 3) (pa_cons (pe_tup (pa_cons (pe_op op_sub (pe_callB (call_lenK K rfl) (by rfl) T.n_len (by decide +kernel) (pa_cons (pv 5) pa_nil)) (pe_callB (call_lenK K rfl) (by rfl) T.n_len (by decide +kernel) (pa_cons (pv 6) pa_nil))) (pa_cons (pv 4) pa_nil))) pa_nil)))))))
      (pss_cons (ps_set (i := 7) sc_order_of.nd rfl (by first | exact Or.inl rfl | exact Or.inr rfl) (pe_op (op_catK K rfl) (pe_tup (pa_cons (pe_tup (pa_cons pe_int (pa_cons pe_bl pa_nil))) pa_nil)) (pe_callTy (call_tupleK K rfl) (by rfl) T.n_tuple (by decide +kernel) (pa_cons (pe_lc (own := [("before", 9), ("player", 4)]) (by rfl) sc_order_of.nd (pi_list (pe_callB cr_sortedPO (by rfl) T.n_sorted (by decide +kernel) (pa_cons (pv 3) pa_nil))) (blkOk_by (own := [("before", 9), ("player", 4)]) (N := order_of_names) (sc := defScope order_of_st) (by decide +kernel)) (fun _ _ _ _ _ => (pg_tupK K rfl (n := 2) rfl (pgs_cons (pg_name (i := 9) sc_order_of.nd rfl (by first | exact Or.inl rfl | exact Or.inr rfl)) (pgs_cons (pg_name (i := 4) sc_order_of.nd rfl (by first | exact Or.inl rfl | exact Or.inr rfl)) pgs_nil)))) (fun _ _ _ _ _ => pts_nil) (fun _ _ _ _ _ => (pe_tup (pa_cons (pv 4) (pa_cons (pe_ix (ix_listK K rfl) (pv 2) (pv 4) (fun _ _ => rfl)) pa_nil))))) pa_nil))))
      (pss_one (ps_ret (pe_ifExp (pt_cmpR (op_eqDK K rfl hr.units) (pe_ca C_tournament_by hr (by decide) (by rfl) (pa_cons (pv 7) pa_nil)) (pv 0) (nomark _)) (pv 7) pe_non)))))))), ?_⟩
  rintro ds d ⟨n, b, rfl, h1, h8, rfl⟩
  refine sq_asg (d := iD n) (evd_N (evd_cb (eva_cons (evd_dat rfl) eva_nil) (rc_len (.inr rfl))) (by rw [List.length_map, rowsOf_len])) ?_
  refine sq_asg (d := .list ((List.range n).map fun p => .bool (sg b p))) (evd_lc0 iD _ (itd_r1 (eva_cons (evd_dat rfl) eva_nil) (by omega)) (by rw [List.length_range]; omega) fun p hp => ⟨_, tgd_name, evd_cast (evd_orV (evd_op (evd_dat rfl) evd_int rd_eqI) fun _ => evd_call (R := R_beats) (eva_cons (evd_dat rfl) (eva_cons evd_int (eva_cons (evd_dat rfl) eva_nil))) ⟨n, b, 0, p, rfl, by omega, List.mem_range.mp hp, rfl⟩) ?_⟩) ?_
  · congr 1
    unfold sg
    congr 1
    rw [Bool.eq_iff_iff, decide_eq_true_iff, beq_iff_eq]
    omega
  refine sq_asgF (ds := []) (evf_lst eva_nil (by decide)) ?_
  refine sq_for (itd_r2 (a := 1) (n := n) (eva_cons evd_int (eva_cons (evd_dat rfl) eva_nil)) (by omega) (by omega)) (fun i τ' => ∃ s4 s5 s6 : Sl, τ' = [.dat (tD (rowsOf n b)), .dat (iD n), .dat (.list ((List.range n).map fun p => .bool (sg b p))), .lst (((plc n b).take i).map enP), s4, s5, s6, .un, .un, .un]) ⟨.un, .un, .un, rfl⟩ (fun i x τ' hx hI => ?_) fun τ' hI => ?_
  · obtain ⟨s4, s5, s6, rfl⟩ := hI
    have hi : i < n - 1 := by
      have := (List.getElem?_eq_some_iff.mp hx).1
      rw [List.length_map, List.length_map, List.length_range] at this
      exact this
    rw [List.getElem?_map, List.getElem?_map, List.getElem?_range hi] at hx
    have ex : iD (1 + i) = x := Option.some.inj hx
    subst ex
    have hp : 1 + i < n := by omega
    refine ⟨_, _, tgd_name, ?_⟩
    have sgAt : ∀ {τ : List Sl} {te : TE} {q : Nat}, τ[2]? = some (.dat (.list ((List.range n).map fun p => .bool (sg b p)))) → EvD te τ (iD q) → q < n → EvD (tOp (rIxL K) (tVar 2) te) τ (.bool (sg b q)) := fun hτ he hq =>
      evd_op (evd_dat hτ) he (rd_ixL (at_mapN (f := fun p => PyData.bool (sg b p)) (List.getElem?_range hq)))
    -- others
    refine sq_asg (d := .list ((oth n (1 + i)).map iD)) (evd_lc iD (fun q => !decide (q = 1 + i)) iD (itd_r2 (a := 1) (n := n) (eva_cons evd_int (eva_cons (evd_dat rfl) eva_nil)) (by omega) (by omega)) (by rw [List.length_map, List.length_range]; omega) fun q hq => ⟨_, tgd_name, evt_cast (evt_test (evd_op (evd_dat rfl) (evd_dat rfl) rd_neI)) ?_, fun _ => evd_dat rfl⟩) ?_
    · congr 1
      exact decide_eq_decide.mpr (by omega)
    -- ahead
    refine sq_asg (d := .list ((ahd n b (1 + i)).map iD)) (evd_lc iD (fun q => b (1 + i) q == (sg b (1 + i) == sg b q)) iD (itd_list (evd_dat rfl)) ?_ fun q hq => ⟨_, tgd_name, evt_test (evd_op (evd_call (R := R_beats) (eva_cons (evd_dat rfl) (eva_cons (evd_dat rfl) (eva_cons (evd_dat rfl) eva_nil))) ⟨n, b, 1 + i, q, rfl, hp, oth_lt hq, rfl⟩) (evd_op (sgAt rfl (evd_dat rfl) hp) (sgAt rfl (evd_dat rfl) (oth_lt hq)) rd_eqB) rd_eqB), fun _ => evd_dat rfl⟩) ?_
    · refine Nat.le_trans (List.length_filter_le _ _) ?_
      rw [List.length_map, List.length_range]
      omega
    have hle : (ahd n b (1 + i)).length ≤ (oth n (1 + i)).length := List.length_filter_le _ _
    refine ok_app rfl ?_ (evd_tup (eva_cons (evd_N (n := (oth n (1 + i)).length - (ahd n b (1 + i)).length) (evd_op (evd_cb (eva_cons (evd_dat rfl) eva_nil) (rc_len (.inl rfl))) (evd_cb (eva_cons (evd_dat rfl) eva_nil) (rc_len (.inl rfl))) rd_ii) (by rw [List.length_map, List.length_map]; omega)) (eva_cons (evd_dat rfl) eva_nil)) (Nat.le_of_ble_eq_true rfl)) ⟨.dat (iD (1 + i)), .dat (.list ((oth n (1 + i)).map iD)), .dat (.list ((ahd n b (1 + i)).map iD)), ?_⟩
    · rw [List.length_map, List.length_take]
      have := Nat.min_le_left i (plc n b).length
      omega
    · rw [List.take_add_one, plc_get hi, List.map_append]
      rfl
  · obtain ⟨s4, s5, s6, rfl⟩ := hI
    have el : (((List.range (n - 1)).map (1 + ·)).map iD).length = (plc n b).length := by rw [List.length_map, List.length_map, List.length_range, plc_len]
    rw [el, List.take_length]
    refine ok_seal (i := 3) rfl ?_
    have hord : oD (ordOf n b) = .tuple ([enO (0, true)] ++ (srtP (plc n b)).map fun e => enO (e.2, sg b e.2)) := by
      unfold oD ordOf
      rw [List.map_cons, List.map_map]
      rfl
    refine sq_asg (d := oD (ordOf n b)) ?_ ?_
    · rw [hord]
      refine evd_op (d1 := .tuple [enO (0, true)]) (evd_tup (eva_cons (evd_tup (eva_cons evd_int (eva_cons evd_bl eva_nil)) (Nat.le_of_ble_eq_true rfl)) eva_nil) (Nat.le_of_ble_eq_true rfl)) (evd_cb (eva_cons (evd_lc0 enP (fun e => enO (e.2, sg b e.2)) (itd_list (evd_cb (eva_cons (evd_dat rfl) eva_nil) rc_sortedP)) ?_ fun e he => ?_) eva_nil) (rc_tuple (.inl rfl))) (rd_catT ?_)
      · rw [(srtP_perm _).length_eq, plc_len]
        omega
      · exact ⟨_, tgd_two, evd_tup (eva_cons (evd_dat rfl) (eva_cons (evd_op (evd_dat rfl) (evd_dat rfl) (rd_ixL (at_mapN (f := fun p => PyData.bool (sg b p)) (List.getElem?_range (srt_lt he))))) eva_nil)) (Nat.le_of_ble_eq_true rfl)⟩
      · rw [List.length_map, (srtP_perm _).length_eq, plc_len]
        show 1 + (n - 1) ≤ 100000
        omega
    refine ok_ret (d := encT (toldOf n b)) (evd_if (b := decide (tourBy (ordOf n b) = rowsOf n b)) (evt_test ?_) (fun h => ?_) fun h => ?_) rfl
    · rw [← tD_eqv]
      exact evd_op (evd_call (R := R_tournament_by) (eva_cons (evd_dat rfl) eva_nil) ⟨ordOf n b, rfl, ordOf_perm n b h1, by rw [ordOf_len n b h1]; exact h8, rfl⟩) (evd_dat rfl) (rd_eqD (tD_shaped _) (tD_shaped _))
    · unfold toldOf
      rw [if_pos (of_decide_eq_true h)]
      exact evd_dat rfl
    · unfold toldOf
      rw [if_neg (of_decide_eq_false h)]
      exact evd_non
end
end Rb

/-! part RbD5 -/
namespace Rb
open PySem PySem.Spec PyProof.Rows L2
open Evl (Ex)

def flipO (e : Nat × Bool) : Nat × Bool := (e.1, !e.2)
def ringAt (o : Ord) (a : Nat) : Nat × Bool := (o ++ o.map flipO).getD a (0, true)
def sgs (o : Ord) : List Bool := o.map (·.2)
def stepsO (o : Ord) : List Nat := stepsB (sgs o)
theorem stepsO_len (o : Ord) : (stepsO o).length = o.length := by
  unfold stepsO sgs
  rw [stepsB_len, List.length_map]
theorem turnL_len {o : Ord} {a : Nat} (h : a < o.length + o.length) : (turnL flipO o a).length = o.length := by
  unfold turnL
  rw [List.length_take, List.length_drop, List.length_append, List.length_append, List.length_map]
  omega
theorem turnL_head {o : Ord} {a : Nat} (h : a < o.length + o.length) : (turnL flipO o a)[0]? = some (ringAt o a) := by
  unfold turnL ringAt
  have hl : 0 < o.length := by
    cases o with
    | nil => simp at h
    | cons _ _ => simp
  rw [List.getElem?_take, if_pos hl, List.getElem?_drop, Nat.add_zero, List.getElem?_append_left (by rw [List.length_append, List.length_map]; exact h), List.getD_eq_getElem?_getD, List.getElem?_eq_getElem (by rw [List.length_append, List.length_map]; exact h)]
  rfl
theorem zip_pairD {α : Type} (f : α → PyData) : ∀ l m : List α, List.zipWith pairD (l.map f) (m.map f) = (List.zip l m).map fun e => pairD (f e.1) (f e.2)
  | [], _ => rfl
  | _ :: _, [] => rfl
  | a :: l, c :: m => by
    rw [List.map_cons, List.map_cons, List.zipWith_cons_cons, zip_pairD f l m, List.zip_cons_cons, List.map_cons]
theorem sum_cast : ∀ l : List Nat, (l.map fun k : Nat => (k : Int)).sum = ((l.sum : Nat) : Int)
  | [] => rfl
  | a :: l => by
    rw [List.map_cons, List.sum_cons, List.sum_cons, sum_cast l]
    omega
def encR (o : Option Ord) : PyData := match o with
  | some o => iD (stepsO o).sum
  | none => .none

section
variable {P : Program} {w : World} {K : PySem.W.Frag} {mg : Str → Option Value} {base : Heap} {tk : Tok}

abbrev turns_of_names : List Str := ["order", "row", "ring", "player", "itself", "at"]
abbrev turns_of_st : Stmt := topS 15
theorem sc_turns_of : FnScope turns_of_names ["order"] (defScope turns_of_st) := ⟨rfl, rfl, rfl, by decide +kernel, rfl, by decide +kernel, by decide +kernel⟩

def R_turns_of (ds : List PyData) (d : PyData) : Prop := ∃ o : Ord, ds = [oD o] ∧ o.length ≤ 8 ∧ d = .list ((List.range (o.length + o.length)).map fun a => oD (turnL flipO o a))
theorem ca_turns_of (T : Tx mg tk) (A : At K mg "turns_of" turns_of_st ["order"]) : Ca P w K mg base 1 "turns_of" (SpP R_turns_of) := by
  refine ca_pure A sc_turns_of (fun ds d ⟨_, h, _⟩ => by rw [h]; rfl) (fun f cdv A outer s H E hr => ?_)
  refine ⟨_, (pss_cons (ps_set (i := 1) sc_turns_of.nd rfl (by first | exact Or.inl rfl | exact Or.inr rfl) (pe_op (op_catK K rfl) (pv 0) (pe_callTy (call_tupleK K rfl) (by rfl) T.n_tuple (by decide +kernel) (pa_cons (pe_lc (own := [("player", 3), ("itself", 4)]) (by rfl) sc_turns_of.nd (pi_tup (pv 0)) (blkOk_by (own := [("player", 3), ("itself", 4)]) (N := turns_of_names) (sc := defScope turns_of_st) (by decide +kernel)) (fun _ _ _ _ _ => (pg_tupK K rfl (n := 2) rfl (pgs_cons (pg_name (i := 3) sc_turns_of.nd rfl (by first | exact Or.inl rfl | exact Or.inr rfl)) (pgs_cons (pg_name (i := 4) sc_turns_of.nd rfl (by first | exact Or.inl rfl | exact Or.inr rfl)) pgs_nil)))) (fun _ _ _ _ _ => pts_nil) (fun _ _ _ _ _ => (pe_tup (pa_cons (pv 3) (pa_cons (pe_not (pv 4)) pa_nil))))) pa_nil))))
      (pss_cons (ps_set (i := 2) sc_turns_of.nd rfl (by first | exact Or.inl rfl | exact Or.inr rfl) (pe_op (op_catK K rfl) (pv 1) (pv 1)))
      (pss_one (ps_ret (pe_lc (own := [("at", 5)]) (by rfl) sc_turns_of.nd (pi_range1 (by rfl) T.n_range (pa_cons (pe_callB (call_lenK K rfl) (by rfl) T.n_len (by decide +kernel) (pa_cons (pv 1) pa_nil)) pa_nil)) (blkOk_by (own := [("at", 5)]) (N := turns_of_names) (sc := defScope turns_of_st) (by decide +kernel)) (fun _ _ _ _ _ => (pg_name (i := 5) sc_turns_of.nd rfl (by first | exact Or.inl rfl | exact Or.inr rfl))) (fun _ _ _ _ _ => pts_nil) (fun _ _ _ _ _ => (pe_slice (sl_tupK K rfl) (pv 2) (po_some (pv 5)) (po_some (pe_op op_add (pv 5) (pe_callB (call_lenK K rfl) (by rfl) T.n_len (by decide +kernel) (pa_cons (pv 0) pa_nil))))))))))), ?_⟩
  rintro ds d ⟨o, rfl, h8, rfl⟩
  have hlen : ∀ {τ : List Sl} {l : Ord} {i : Nat}, τ[i]? = some (.dat (oD l)) → EvD (tCB (fun xs H Q => ∃ p ys, xs = [V.ref p] ∧ (SqL K H p ys ∨ SqT K H p ys) ∧ Q (.int ys.length) H) (tCons (tVar i) tNil)) τ (iD l.length) := fun h =>
    evd_N (evd_cb (eva_cons (evd_dat h) eva_nil) (rc_len (.inr rfl))) (by rw [List.length_map])
  refine sq_asg (d := oD (o ++ o.map flipO)) (evd_cast (evd_op (d1 := oD o) (d2 := oD (o.map flipO)) (evd_dat rfl) (evd_cast (evd_cb (eva_cons (evd_lc0 enO (fun e => enO (flipO e)) (itd_tup (evd_dat rfl)) (by omega) fun e he => ⟨_, tgd_two, evd_tup (eva_cons (evd_dat rfl) (eva_cons (evd_notV (evd_dat rfl)) eva_nil)) (Nat.le_of_ble_eq_true rfl)⟩) eva_nil) (rc_tuple (.inl rfl))) ?_) (rd_catT ?_)) ?_) ?_
  · unfold oD
    rw [List.map_map]
    rfl
  · rw [List.length_map, List.length_map, List.length_map]
    omega
  · unfold oD
    rw [List.map_append]
  refine sq_asg (d := oD ((o ++ o.map flipO) ++ (o ++ o.map flipO))) (evd_cast (evd_op (evd_dat rfl) (evd_dat rfl) (rd_catT ?_)) ?_) ?_
  · rw [List.length_map, List.length_append, List.length_map]
    omega
  · unfold oD
    simp only [List.map_append]
  refine ok_ret (evd_lc0 iD (fun a => oD (turnL flipO o a)) (itd_r1 (eva_cons (evd_cast (hlen rfl) (by rw [List.length_append, List.length_map])) eva_nil) (by omega)) (by rw [List.length_range]; omega) fun a ha => ⟨_, tgd_name, evd_cast (evd_slT (hi := some ((a + o.length : Nat) : Int)) (evd_dat rfl) (evo_some (evd_dat rfl)) (evo_some (evd_I (evd_op (evd_dat rfl) (hlen rfl) rd_ii) (by omega)))) ?_⟩) rfl
  have ha := List.mem_range.mp ha
  rw [cut_mid _ _ _ (by rw [List.length_map, List.length_append, List.length_append, List.length_map]; omega)]
  unfold oD turnL
  rw [List.map_take, List.map_drop, show a + o.length - a = o.length by omega]
abbrev steps_of_names : List Str := ["order", "signs", "following", "player", "itself", "one", "other"]
abbrev steps_of_st : Stmt := topS 16
theorem sc_steps_of : FnScope steps_of_names ["order"] (defScope steps_of_st) := ⟨rfl, rfl, rfl, by decide +kernel, rfl, by decide +kernel, by decide +kernel⟩

def R_steps_of (ds : List PyData) (d : PyData) : Prop := ∃ o : Ord, ds = [oD o] ∧ 1 ≤ o.length ∧ o.length ≤ 8 ∧ d = .list ((stepsO o).map iD)
theorem ca_steps_of (T : Tx mg tk) (A : At K mg "steps_of" steps_of_st ["order"]) : Ca P w K mg base 1 "steps_of" (SpP R_steps_of) := by
  refine ca_pure A sc_steps_of (fun ds d ⟨_, h, _⟩ => by rw [h]; rfl) (fun f cdv A outer s H E hr => ?_)
  refine ⟨_, (pss_cons (ps_setLc (own := [("player", 3), ("itself", 4)]) (i := 1) (by rfl) sc_steps_of.nd rfl rfl (sw_true rfl rfl rfl (by decide +kernel)) (pi_tup (pv 0)) (blkOk_by (own := [("player", 3), ("itself", 4)]) (N := steps_of_names) (sc := defScope steps_of_st) (by decide +kernel)) (fun _ _ _ _ _ => (pg_tupK K rfl (n := 2) rfl (pgs_cons (pg_name (i := 3) sc_steps_of.nd rfl (by first | exact Or.inl rfl | exact Or.inr rfl)) (pgs_cons (pg_name (i := 4) sc_steps_of.nd rfl (by first | exact Or.inl rfl | exact Or.inr rfl)) pgs_nil)))) (fun _ _ _ _ _ => pts_nil) (fun _ _ _ _ _ => (pv 4)))
      (pss_cons (ps_set (i := 2) sc_steps_of.nd rfl (by first | exact Or.inl rfl | exact Or.inr rfl) (pe_op op_cat (pe_slice (sl_listK K rfl) (pv 1) (po_some pe_int) po_none) (pe_lst (pa_cons (pe_not (pe_ix (ix_listK K rfl) (pv 1) pe_int (fun _ _ => rfl))) pa_nil))))
      (pss_one (ps_ret (pe_lc (own := [("one", 5), ("other", 6)]) (by rfl) sc_steps_of.nd (pi_zip (by rfl) T.n_zip (pa_cons (pv 1) (pa_cons (pv 2) pa_nil))) (blkOk_by (own := [("one", 5), ("other", 6)]) (N := steps_of_names) (sc := defScope steps_of_st) (by decide +kernel)) (fun _ _ _ _ _ => (pg_tupK K rfl (n := 2) rfl (pgs_cons (pg_name (i := 5) sc_steps_of.nd rfl (by first | exact Or.inl rfl | exact Or.inr rfl)) (pgs_cons (pg_name (i := 6) sc_steps_of.nd rfl (by first | exact Or.inl rfl | exact Or.inr rfl)) pgs_nil)))) (fun _ _ _ _ _ => pts_nil) (fun _ _ _ _ _ => (pe_ifExp (pt_cmpR op_eq (pv 5) (pv 6) (nomark _)) pe_int pe_int))))))), ?_⟩
  rintro ds d ⟨o, rfl, h1, h8, rfl⟩
  obtain ⟨s, r, hsr⟩ : ∃ s r, sgs o = s :: r := by
    cases o with
    | nil => simp at h1
    | cons e o => exact ⟨e.2, o.map (·.2), rfl⟩
  have hrl : r.length + 1 = o.length := by
    have : (sgs o).length = o.length := by
      unfold sgs
      rw [List.length_map]
    rw [hsr] at this
    exact this
  refine sq_asg (d := .list ((s :: r).map PyData.bool)) (evd_cast (evd_lc0 enO (fun e => .bool e.2) (itd_tup (evd_dat rfl)) (by omega) fun e he => ⟨_, tgd_two, evd_dat rfl⟩) ?_) ?_
  · rw [← hsr]
    unfold sgs
    rw [List.map_map]
    rfl
  refine sq_asg (d := .list ((r ++ [!s]).map PyData.bool)) (evd_cast (evd_op (d1 := .list (r.map PyData.bool)) (evd_cast (evd_slL (evd_dat rfl) (evo_some (i := ((1 : Nat) : Int)) evd_int) evo_none) ?_) (evd_lst (eva_cons (evd_notV (evd_op (evd_dat rfl) evd_int (rd_ixL (d := .bool s) (at_nat (j := 0) rfl)))) eva_nil) (Nat.le_of_ble_eq_true rfl)) (rd_catL ?_)) ?_) ?_
  · rw [cut_from]
    rfl
  · rw [List.length_map]
    show r.length + 1 ≤ 100000
    omega
  · rw [List.map_append]
    rfl
  refine ok_ret (evd_cast (evd_lc0 (fun e : Bool × Bool => pairD (.bool e.1) (.bool e.2)) (fun e => iD (if e.1 == e.2 then 2 else 1)) (xs := List.zip (s :: r) (r ++ [!s])) ?_ ?_ fun e he => ⟨_, tgd_two, evd_if (evt_test (evd_op (evd_dat rfl) (evd_dat rfl) rd_eqB)) (fun h => ?_) fun h => ?_⟩) ?_) rfl
  · rw [← zip_pairD]
    exact itd_zip (eva_cons (evd_dat rfl) (eva_cons (evd_dat rfl) eva_nil))
  · rw [List.length_zip, List.length_cons]
    omega
  · rw [if_pos h]
    exact evd_int
  · rw [if_neg (by rw [h]; decide)]
    exact evd_int
  · unfold stepsO
    rw [hsr]
    congr 1
    show _ = (List.zipWith (fun a c => if a == c then 2 else 1) (s :: r) (r ++ [!s])).map iD
    rw [← List.map_uncurry_zip_eq_zipWith, List.map_map]
    rfl
abbrev ring_of_names : List Str := ["tournament", "order"]
abbrev ring_of_st : Stmt := topS 17
theorem sc_ring_of : FnScope ring_of_names ["tournament"] (defScope ring_of_st) := ⟨rfl, rfl, rfl, by decide +kernel, rfl, by decide +kernel, by decide +kernel⟩

def R_ring_of (ds : List PyData) (d : PyData) : Prop := ∃ (n : Nat) (b : Nat → Nat → Bool), ds = [tD (rowsOf n b)] ∧ 1 ≤ n ∧ n ≤ 8 ∧ d = encR (toldOf n b)
theorem told_len {n : Nat} {b : Nat → Nat → Bool} {o : Ord} (h1 : 1 ≤ n) (h : toldOf n b = some o) : o = ordOf n b ∧ o.length = n ∧ Perm0 o ∧ tourBy o = rowsOf n b := by
  unfold toldOf at h
  split at h
  · rename_i ht
    have e := Option.some.inj h
    subst e
    exact ⟨rfl, ordOf_len n b h1, ordOf_perm n b h1, ht⟩
  · cases h
theorem ca_ring_of (T : Tx mg tk) (A : At K mg "ring_of" ring_of_st ["tournament"]) (C_order_of : Ca P w K mg base 2 "order_of" (SpP R_order_of)) (C_steps_of : Ca P w K mg base 1 "steps_of" (SpP R_steps_of)) : Ca P w K mg base 3 "ring_of" (SpP R_ring_of) := by
  refine ca_pure A sc_ring_of (fun ds d ⟨_, _, h, _⟩ => by rw [h]; rfl) (fun f cdv A outer s H E hr => ?_)
  refine ⟨_, (pss_cons (ps_set (i := 1) sc_ring_of.nd rfl (by first | exact Or.inl rfl | exact Or.inr rfl) (pe_ca C_order_of hr (by decide) (by rfl) (pa_cons (pv 0) pa_nil)))
      (pss_one (ps_ret (pe_ifExp (pt_cmpR op_isN (pv 1) pe_non (nomark _)) pe_non (pe_callB (cr_sumK K rfl rfl) (by rfl) T.n_sum (by decide +kernel) (pa_cons (pe_ca C_steps_of hr (by decide) (by rfl) (pa_cons (pv 1) pa_nil)) pa_nil)))))), ?_⟩
  rintro ds d ⟨n, b, rfl, h1, h8, rfl⟩
  refine sq_asg (d := encT (toldOf n b)) (evd_call (R := R_order_of) (eva_cons (evd_dat rfl) eva_nil) ⟨n, b, rfl, h1, h8, rfl⟩) ?_
  refine ok_ret (d := encR (toldOf n b)) (evd_if (b := isNon (encT (toldOf n b))) (evt_test (evd_op (evd_dat rfl) evd_non rd_isN)) (fun h => ?_) fun h => ?_) rfl
  · cases q : toldOf n b with
    | none => exact evd_non
    | some o =>
      rw [q] at h
      cases h
  · cases q : toldOf n b with
    | none =>
      rw [q] at h
      cases h
    | some o =>
      obtain ⟨_, hl, _, _⟩ := told_len h1 q
      refine evd_cast (evd_cb (eva_cons (evd_cast (evd_call (R := R_steps_of) (eva_cons (evd_dat rfl) eva_nil) ⟨o, rfl, by omega, by omega, rfl⟩) ?_) eva_nil) (rc_sum (ns := (stepsO o).map fun k : Nat => (k : Int)))) ?_
      · rw [ints_iD]
      · rw [sum_cast]
        rfl
abbrev told_order_names : List Str := ["tournament"]
abbrev told_order_st : Stmt := topS 18
theorem sc_told_order : FnScope told_order_names ["tournament"] (defScope told_order_st) := ⟨rfl, rfl, rfl, by decide +kernel, rfl, by decide +kernel, by decide +kernel⟩

def R_told_order (ds : List PyData) (d : PyData) : Prop := ∃ (n : Nat) (b : Nat → Nat → Bool), ds = [tD (rowsOf n b)] ∧ TB n b ∧ 1 ≤ n ∧ n ≤ 8 ∧ d = encT (toldOf n b)
theorem sq_drop {te : TE} {τ : List Sl} {d : PyData} {u : TS} {N : List Sl → Prop} {R : List Sl → PyData → Prop} (h : EvD te τ d) (k : Ok u τ N R) : Ok (tSeq (tDrop te) u) τ N R := ok_seq (N1 := (· = τ)) (fun G0 H0 σ H D s n r => by
  obtain ⟨ows, G, s⟩ := s
  exact h G H σ ows s.en _ fun v G1 H1 g1 p1 => n τ σ H1 rfl ⟨ows, G1, s.step g1⟩) fun _ e => by
  subst e
  exact k
theorem ca_told_order (T : Tx mg tk) (A : At K mg "told_order" told_order_st ["tournament"]) (C_check_tournament : Ca P w K mg base 4 "check_tournament" (SpP R_check_tournament)) (C_order_of : Ca P w K mg base 2 "order_of" (SpP R_order_of)) : Ca P w K mg base 5 "told_order" (SpP R_told_order) := by
  refine ca_pure A sc_told_order (fun ds d ⟨_, _, h, _⟩ => by rw [h]; rfl) (fun f cdv A outer s H E hr => ?_)
  refine ⟨_, (pss_cons (ps_expr (pe_ca C_check_tournament hr (by decide) (by rfl) (pa_cons (pv 0) pa_nil)))
      (pss_one (ps_ret (pe_ca C_order_of hr (by decide) (by rfl) (pa_cons (pv 0) pa_nil))))), ?_⟩
  rintro ds d ⟨n, b, rfl, hT, h1, h8, rfl⟩
  exact sq_drop (evd_call (R := R_check) (eva_cons (evd_dat rfl) eva_nil) ⟨n, b, rfl, hT, h1, h8, rfl⟩) (ok_ret (evd_call (R := R_order_of) (eva_cons (evd_dat rfl) eva_nil) ⟨n, b, rfl, h1, h8, rfl⟩) rfl)
abbrev least_ring_names : List Str := ["tournament"]
abbrev least_ring_st : Stmt := topS 20
theorem sc_least_ring : FnScope least_ring_names ["tournament"] (defScope least_ring_st) := ⟨rfl, rfl, rfl, by decide +kernel, rfl, by decide +kernel, by decide +kernel⟩

def R_least_ring (ds : List PyData) (d : PyData) : Prop := ∃ (n : Nat) (b : Nat → Nat → Bool), ds = [tD (rowsOf n b)] ∧ TB n b ∧ 1 ≤ n ∧ n ≤ 8 ∧ d = encR (toldOf n b)
theorem ca_least_ring (T : Tx mg tk) (A : At K mg "least_ring" least_ring_st ["tournament"]) (C_check_tournament : Ca P w K mg base 4 "check_tournament" (SpP R_check_tournament)) (C_ring_of : Ca P w K mg base 3 "ring_of" (SpP R_ring_of)) : Ca P w K mg base 5 "least_ring" (SpP R_least_ring) := by
  refine ca_pure A sc_least_ring (fun ds d ⟨_, _, h, _⟩ => by rw [h]; rfl) (fun f cdv A outer s H E hr => ?_)
  refine ⟨_, (pss_cons (ps_expr (pe_ca C_check_tournament hr (by decide) (by rfl) (pa_cons (pv 0) pa_nil)))
      (pss_one (ps_ret (pe_ca C_ring_of hr (by decide) (by rfl) (pa_cons (pv 0) pa_nil))))), ?_⟩
  rintro ds d ⟨n, b, rfl, hT, h1, h8, rfl⟩
  exact sq_drop (evd_call (R := R_check) (eva_cons (evd_dat rfl) eva_nil) ⟨n, b, rfl, hT, h1, h8, rfl⟩) (ok_ret (evd_call (R := R_ring_of) (eva_cons (evd_dat rfl) eva_nil) ⟨n, b, rfl, h1, h8, rfl⟩) rfl)
abbrev turned_order_names : List Str := ["tournament", "player", "itself", "order", "turn"]
abbrev turned_order_st : Stmt := topS 19
theorem sc_turned_order : FnScope turned_order_names ["tournament", "player", "itself"] (defScope turned_order_st) := ⟨rfl, rfl, rfl, by decide +kernel, rfl, by decide +kernel, by decide +kernel⟩

def R_turned_order (ds : List PyData) (d : PyData) : Prop := ∃ (n : Nat) (b : Nat → Nat → Bool) (o : Ord) (p : Nat) (s : Bool) (a : Nat), ds = [tD (rowsOf n b), iD p, .bool s] ∧ TB n b ∧ 1 ≤ n ∧ n ≤ 8 ∧ p < n ∧ toldOf n b = some o ∧
  ((List.range (o.length + o.length)).filter fun a => decide (ringAt o a = (p, s)))[0]? = some a ∧ d = oD (turnL flipO o a)
theorem ca_turned_order (T : Tx mg tk) (A : At K mg "turned_order" turned_order_st ["tournament", "player", "itself"]) (C_check_tournament : Ca P w K mg base 4 "check_tournament" (SpP R_check_tournament)) (C_is_player : Ca P w K mg base 1 "is_player" (SpP R_is_player)) (C_order_of : Ca P w K mg base 2 "order_of" (SpP R_order_of)) (C_turns_of : Ca P w K mg base 1 "turns_of" (SpP R_turns_of)) : Ca P w K mg base 5 "turned_order" (SpP R_turned_order) := by
  refine ca_pure A sc_turned_order (fun ds d ⟨_, _, _, _, _, _, h, _⟩ => by rw [h]; rfl) (fun f cdv A outer s H E hr => ?_)
  refine ⟨_, (pss_cons (ps_expr (pe_ca C_check_tournament hr (by decide) (by rfl) (pa_cons (pv 0) pa_nil)))
      (pss_cons (ps_if (pt_not (pt_val (pe_ca C_is_player hr (by decide) (by rfl) (pa_cons (pv 1) (pa_cons (pe_callB (call_lenK K rfl) (by rfl) T.n_len (by decide +kernel) (pa_cons (pv 0) pa_nil)) pa_nil)))))
        (pss_one ps_never)
        pss_nil)
      (pss_cons (ps_if (pt_not (pt_val (pe_callB (call_isiK' K rfl) (by rfl) T.n_isinstance (by decide +kernel) (pa_cons (pv 2) (pa_cons (pe_bltn (v := .ty "bool") (u := .type "bool") (by rfl) T.n_bool (by decide +kernel) rfl) pa_nil)))))
        (pss_one ps_never)
        pss_nil)
      (pss_cons (ps_set (i := 3) sc_turned_order.nd rfl (by first | exact Or.inl rfl | exact Or.inr rfl) (pe_ca C_order_of hr (by decide) (by rfl) (pa_cons (pv 0) pa_nil)))
      (pss_cons (ps_if (pt_cmpR op_isN (pv 3) pe_non (nomark _))
        (pss_one (ps_ret pe_non))
        pss_nil)
      (pss_one (ps_ret (pe_ix (ix_listK K rfl) (pe_lc (own := [("turn", 4)]) (by rfl) sc_turned_order.nd (pi_list (pe_ca C_turns_of hr (by decide) (by rfl) (pa_cons (pv 3) pa_nil))) (blkOk_by (own := [("turn", 4)]) (N := turned_order_names) (sc := defScope turned_order_st) (by decide +kernel)) (fun _ _ _ _ _ => (pg_name (i := 4) sc_turned_order.nd rfl (by first | exact Or.inl rfl | exact Or.inr rfl))) (fun _ _ _ _ _ => (pts_one (pt_cmpR (op_eqDK K rfl hr.units) (pe_ix (ix_tupK K rfl) (pv 4) pe_int (fun _ _ => rfl)) (pe_tup (pa_cons (pv 1) (pa_cons (pv 2) pa_nil))) (nomark _)))) (fun _ _ _ _ _ => (pv 4))) pe_int (fun _ _ => rfl))))))))), ?_⟩
  rintro ds d ⟨n, b, o, p, s, a, rfl, hT, h1, h8, hp, ho, ha, rfl⟩
  obtain ⟨_, hl, _, _⟩ := told_len h1 ho
  refine sq_drop (evd_call (R := R_check) (eva_cons (evd_dat rfl) eva_nil) ⟨n, b, rfl, hT, h1, h8, rfl⟩) ?_
  refine sq_skip (evt_cast (evt_not (evt_B (b := true) (evd_cast (evd_call (R := R_is_player) (eva_cons (evd_dat rfl) (eva_cons (evd_N (n := n) (evd_cb (eva_cons (evd_dat rfl) eva_nil) (rc_len (.inr rfl))) (by rw [List.length_map, rowsOf_len])) eva_nil)) ⟨p, n, rfl, rfl⟩) ?_))) rfl) ?_
  · rw [decide_eq_true (show (0 : Int) ≤ (p : Int) by omega), decide_eq_true (show (p : Int) < (n : Int) by omega)]
    rfl
  refine sq_skip (evt_cast (evt_not (evt_B (evd_isi (evd_dat rfl) isi_bb))) rfl) ?_
  refine sq_asg (d := oD o) (evd_cast (evd_call (R := R_order_of) (eva_cons (evd_dat rfl) eva_nil) ⟨n, b, rfl, h1, h8, rfl⟩) (by rw [ho]; rfl)) ?_
  refine sq_skip (evt_cast (evt_test (evd_op (evd_dat rfl) evd_non rd_isN)) rfl) ?_
  refine ok_ret (d := oD (turnL flipO o a)) (evd_op (evd_lc (fun a => oD (turnL flipO o a)) (fun a => decide (ringAt o a = (p, s))) (fun a => oD (turnL flipO o a)) (xs := List.range (o.length + o.length)) (itd_list (evd_call (R := R_turns_of) (eva_cons (evd_dat rfl) eva_nil) ⟨o, rfl, by omega, rfl⟩)) (by rw [List.length_range]; omega) fun c hc => ⟨_, tgd_name, ?_, fun _ => evd_dat rfl⟩) evd_int (rd_ixL (at_mapN (k := 0) ha))) rfl
  have hc := List.mem_range.mp hc
  refine evt_test (evd_cast (evd_op (evd_op (evd_dat rfl) evd_int (rd_ixT (at_mapN (k := 0) (turnL_head hc)))) (evd_tup (eva_cons (evd_dat rfl) (eva_cons (evd_dat rfl) eva_nil)) (Nat.le_of_ble_eq_true rfl)) (rd_eqD (enO_shaped _ _) (enO_shaped p s))) ?_)
  congr 1
  exact enO_eqv (ringAt o c) (p, s)
end
end Rb

/-! part RbD6 -/
namespace Rb
open PySem PySem.Spec PyProof.Rows L2
open Evl (Ex)

section
variable {P : Program} {w : World} {K : PySem.W.Frag} {mg : Str → Option Value} {base : Heap} {tk : Tok}

abbrev _law_next_names : List Str := ["_law_stream_here", "_law_many", "_law_k", "_law_cell", "_law_digit"]
abbrev _law_next_st : Stmt := topS 23
theorem sc__law_next : FnScope _law_next_names ["_law_stream_here", "_law_many"] (defScope _law_next_st) := ⟨rfl, rfl, rfl, by decide +kernel, rfl, by decide +kernel, by decide +kernel⟩

def Pre__law_next (ds : List PyData) : Prop := ∃ m : Nat, ds = [iD m] ∧ 1 ≤ m ∧ m ≤ 1000
def R__law_next (ds : List PyData) (d : PyData) : Prop := ∃ m k : Nat, ds = [iD m] ∧ k < m ∧ d = iD k
theorem ca__law_next (T : Tx mg tk) (A : At K mg "_law_next" _law_next_st ["_law_stream_here", "_law_many"]) : Ca P w K mg base 1 "_law_next" (SpS Pre__law_next R__law_next) := by
  refine ca_stm A sc__law_next (fun ds ⟨_, h, _⟩ => by rw [h]; rfl) (fun f cdv A outer s H E hr => ?_)
  refine ⟨_, (pss_cons (ps_if (pt_cmpR op_eq (pe_ix (ix_listK K rfl) (pv 0) pe_int (fun _ _ => rfl)) pe_int (nomark _))
        (pss_cons (ps_set (i := 2) sc__law_next.nd rfl (by first | exact Or.inl rfl | exact Or.inr rfl) (pe_ix (ix_listK K rfl) (pv 0) pe_int (fun _ _ => rfl)))
        (pss_cons (ps_set (i := 3) sc__law_next.nd rfl (by first | exact Or.inl rfl | exact Or.inr rfl) (pe_op op_add pe_int (pv 2)))
        (pss_cons (ps_if (pt_cmpR op_lt (pv 2) (pe_callB (call_lenK K rfl) (by rfl) T.n_len (by decide +kernel) (pa_cons (pe_ix (ix_listK K rfl) (pv 0) pe_int (fun _ _ => rfl)) pa_nil)) (nomark _))
          (pss_one (ps_set (i := 3) sc__law_next.nd rfl (by first | exact Or.inl rfl | exact Or.inr rfl) (pe_callB call_abs (by rfl) T.n_abs (by decide +kernel) (pa_cons (pe_ix (ix_listK K rfl) (pe_ix (ix_listK K rfl) (pv 0) pe_int (fun _ _ => rfl)) (pv 2) (fun _ _ => rfl)) pa_nil))))
          pss_nil)
        (pss_cons (ps_if (pt_cmpR op_lt (pv 3) (pe_op op_pow pe_int pe_int) (nomark _))
          (pss_cons (ps_set (i := 3) sc__law_next.nd rfl (by first | exact Or.inl rfl | exact Or.inr rfl) (pe_op op_mod (pe_callTy call_int1 (by rfl) T.n_int (by decide +kernel) (pa_cons (pe_op op_add (pe_op op_add (pe_op op_mul (pv 3) pe_int) (pe_op op_mul (pv 2) pe_int)) pe_int) pa_nil)) pe_int))
          (pss_one (ps_set (i := 3) sc__law_next.nd rfl (by first | exact Or.inl rfl | exact Or.inr rfl) (pe_op op_add (pe_op op_mul (pe_op op_mod (pe_callTy call_int1 (by rfl) T.n_int (by decide +kernel) (pa_cons (pe_op op_add (pe_op op_mul (pv 3) pe_int) pe_int) pa_nil)) pe_int) pe_int) (pv 3)))))
          pss_nil)
        (pss_cons (ps_asg (pv 3) (pg_sub (pv 0) pe_int set_list))
        (pss_one (ps_asg (pe_op op_add (pv 2) pe_int) (pg_sub (pv 0) pe_int set_list))))))))
        pss_nil)
      (pss_cons (ps_set (i := 4) sc__law_next.nd rfl (by first | exact Or.inl rfl | exact Or.inr rfl) (pe_op op_mod (pe_callTy call_int1 (by rfl) T.n_int (by decide +kernel) (pa_cons (pe_ix (ix_listK K rfl) (pv 0) pe_int (fun _ _ => rfl)) pa_nil)) (pv 1)))
      (pss_cons (ps_asg (pe_op op_fdiv (pe_ix (ix_listK K rfl) (pv 0) pe_int (fun _ _ => rfl)) (pv 1)) (pg_sub (pv 0) pe_int set_list))
      (pss_one (ps_ret (pv 4)))))), ?_⟩
  rintro p ds ⟨m, rfl, h1, hm⟩
  refine ok_stmOpen (i := 0) rfl fun ns c k hk => ?_
  refine ok_seq (N1 := fun τ' => ∃ ns c k s2 s3, 0 ≤ k ∧ τ' = [.lsA p (stmD ns c k), .dat (iD m), s2, s3, .un]) ?_ fun τ' e => ?_
  · refine ok_if (evt_test (evd_op (evd_ixA rfl evd_int (at_nat (j := 1) rfl)) evd_int rd_eqI)) (fun _ => ?_) fun _ => ok_next ⟨ns, c, k, _, _, hk, rfl⟩
    refine sq_asg (d := .int k) (evd_ixA rfl evd_int (at_nat (j := 2) rfl)) ?_
    refine sq_asg (d := .int (7 + k)) (evd_op evd_int (evd_dat rfl) rd_ii) ?_
    refine ok_seq (N1 := fun τ' => ∃ cell, τ' = [.lsA p (stmD ns c k), .dat (iD m), .dat (.int k), .dat (.int cell), .un]) ?_ fun τ' e => ?_
    · refine ok_if (evt_test (evd_op (evd_dat rfl) (evd_cb (eva_cons (evd_ixA (d := .list (ns.map PyData.int)) rfl evd_int (at_nat (j := 0) rfl)) eva_nil) (rc_len (.inl rfl))) rd_ib)) (fun h => ?_) fun _ => ok_next ⟨_, rfl⟩
      have hlt := of_decide_eq_true h
      rw [List.length_map] at hlt
      have hkn : k.toNat < ns.length := by omega
      exact ok_asg (evd_cb (eva_cons (evd_op (evd_ixA (d := .list (ns.map PyData.int)) rfl evd_int (at_nat (j := 0) rfl)) (evd_dat rfl) (rd_ixL (at_Z (f := PyData.int) (k := k.toNat) (by omega) (List.getElem?_eq_getElem hkn)))) eva_nil) rc_abs) ⟨_, rfl⟩
    · obtain ⟨cell, rfl⟩ := e
      refine ok_seq (N1 := fun τ' => ∃ cell, τ' = [.lsA p (stmD ns c k), .dat (iD m), .dat (.int k), .dat (.int cell), .un]) ?_ fun τ' e => ?_
      · refine ok_if (evt_test (evd_op (evd_dat rfl) (evd_op evd_int evd_int (rd_ic ⟨by decide, by decide, by decide⟩)) rd_ib)) (fun h => ?_) fun _ => ok_next ⟨_, rfl⟩
        refine sq_asg (evd_op (evd_cb (eva_cons (evd_op (evd_op (evd_op (evd_dat rfl) evd_int (rd_ic (.inr ⟨by decide, by decide⟩))) (evd_op (evd_dat rfl) evd_int (rd_ic (.inr ⟨by decide, by decide⟩))) rd_ii) evd_int rd_ii) eva_nil) rc_int) evd_int (rd_ic (by decide))) ?_
        exact ok_asg (evd_op (evd_op (evd_op (evd_cb (eva_cons (evd_op (evd_op (evd_dat rfl) evd_int (rd_ic (.inr ⟨by decide, by decide⟩))) evd_int rd_ii) eva_nil) rc_int) evd_int (rd_ic (by decide))) evd_int (rd_ic (.inr ⟨by decide, by decide⟩))) (evd_dat rfl) rd_ii) ⟨_, rfl⟩
      · obtain ⟨cell, rfl⟩ := e
        refine sq_setA (i := 0) (j := 1) rfl (evd_dat rfl) evd_int (by show 1 < 3; decide) ?_
        exact ok_setA (i := 0) (j := 2) rfl (evd_op (evd_dat rfl) evd_int rd_ii) evd_int (by show 2 < 3; decide) ⟨ns, cell, k + 1, _, _, by omega, rfl⟩
  · obtain ⟨ns, c, k, s2, s3, hk, rfl⟩ := e
    have hm0 : (0 : Int) < (m : Int) := by omega
    refine sq_asg (d := iD (c % m).toNat) (evd_N (evd_op (evd_cb (eva_cons (evd_ixA (d := .int c) rfl evd_int (at_nat (j := 1) rfl)) eva_nil) rc_int) (evd_dat rfl) (rd_ic hm0)) (Int.toNat_of_nonneg (Int.emod_nonneg _ (by omega))).symm) ?_
    refine sq_setA (i := 0) (j := 1) rfl (evd_op (evd_ixA (d := .int c) rfl evd_int (at_nat (j := 1) rfl)) (evd_dat rfl) (rd_ic (C := CDiv) ⟨hm0, by omega⟩)) evd_int (by show 1 < 3; decide) ?_
    refine ok_stmClose (i := 0) (ns := ns) (c := c / m) (kk := k) rfl hk ?_
    refine ok_ret (evd_dat rfl) ⟨rfl, m, (c % m).toNat, rfl, ?_, rfl⟩
    have := Int.emod_lt_of_pos c hm0
    have := Int.emod_nonneg c (show (m : Int) ≠ 0 by omega)
    omega
abbrev _law_is_integer_names : List Str := ["_law_actual"]
abbrev _law_is_integer_st : Stmt := topS 24
theorem sc__law_is_integer : FnScope _law_is_integer_names ["_law_actual"] (defScope _law_is_integer_st) := ⟨rfl, rfl, rfl, by decide +kernel, rfl, by decide +kernel, by decide +kernel⟩

def R__law_is_integer (ds : List PyData) (d : PyData) : Prop := ∃ a : Int, ds = [.int a] ∧ d = .bool true
theorem ca__law_is_integer (T : Tx mg tk) (A : At K mg "_law_is_integer" _law_is_integer_st ["_law_actual"]) : Ca P w K mg base 1 "_law_is_integer" (SpP R__law_is_integer) := by
  refine ca_pure A sc__law_is_integer (fun ds d ⟨_, h, _⟩ => by rw [h]; rfl) (fun f cdv A outer s H E hr => ?_)
  refine ⟨_, (pss_one (ps_ret (pe_and (pe_callB (call_isiK' K rfl) (by rfl) T.n_isinstance (by decide +kernel) (pa_cons (pv 0) (pa_cons (pe_bltn (v := .ty "int") (u := .type "int") (by rfl) T.n_int (by decide +kernel) rfl) pa_nil))) (pe_one (pe_not (pe_callB (call_isiK' K rfl) (by rfl) T.n_isinstance (by decide +kernel) (pa_cons (pv 0) (pa_cons (pe_bltn (v := .ty "bool") (u := .type "bool") (by rfl) T.n_bool (by decide +kernel) rfl) pa_nil)))))))), ?_⟩
  rintro ds d ⟨a, rfl, rfl⟩
  exact ok_ret (evd_cast (evd_andV (evd_isi (evd_dat rfl) isi_ii) fun _ => evd_notV (evd_isi (evd_dat rfl) isi_ib)) rfl) rfl
abbrev _law_equal_names : List Str := ["_law_actual", "_law_due", "_law_at"]
abbrev _law_equal_st : Stmt := topS 25
theorem sc__law_equal : FnScope _law_equal_names ["_law_actual", "_law_due"] (defScope _law_equal_st) := ⟨rfl, rfl, rfl, by decide +kernel, rfl, by decide +kernel, by decide +kernel⟩

def R__law_equal (ds : List PyData) (d : PyData) : Prop := ∃ a b : Int, ds = [.int a, .int b] ∧ d = .bool (decide (a = b))
theorem ca__law_equal (T : Tx mg tk) (A : At K mg "_law_equal" _law_equal_st ["_law_actual", "_law_due"]) (C__law_is_integer : Ca P w K mg base 1 "_law_is_integer" (SpP R__law_is_integer)) : Ca P w K mg base 2 "_law_equal" (SpP R__law_equal) := by
  refine ca_pure A sc__law_equal (fun ds d ⟨_, _, h, _⟩ => by rw [h]; rfl) (fun f cdv A outer s H E hr => ?_)
  refine ⟨_, (pss_cons (ps_if (pt_cmpR op_isN (pv 1) pe_non (nomark _))
        (pss_one ps_never)
        pss_nil)
      (pss_cons (ps_if (pt_val (pe_callB (call_isiK' K rfl) (by rfl) T.n_isinstance (by decide +kernel) (pa_cons (pv 1) (pa_cons (pe_bltn (v := .ty "bool") (u := .type "bool") (by rfl) T.n_bool (by decide +kernel) rfl) pa_nil))))
        (pss_one ps_never)
        pss_nil)
      (pss_cons (ps_if (pt_val (pe_callB (call_isiK' K rfl) (by rfl) T.n_isinstance (by decide +kernel) (pa_cons (pv 1) (pa_cons (pe_bltn (v := .ty "int") (u := .type "int") (by rfl) T.n_int (by decide +kernel) rfl) pa_nil))))
        (pss_one (ps_ret (pe_and (pe_ca C__law_is_integer hr (by decide) (by rfl) (pa_cons (pv 0) pa_nil)) (pe_one (pe_cmpR op_eq (pv 0) (pv 1) (nomark _))))))
        pss_nil)
      (pss_cons ps_never
      (pss_cons ps_never
      (pss_cons ps_never
      (pss_cons ps_never
      (pss_one ps_never)))))))), ?_⟩
  rintro ds d ⟨a, b, rfl, rfl⟩
  refine sq_skip (evt_cast (evt_test (evd_op (evd_dat rfl) evd_non rd_isN)) rfl) ?_
  refine sq_skip (evt_B (evd_isi (evd_dat rfl) isi_ib)) ?_
  refine sq_take (evt_B (evd_isi (evd_dat rfl) isi_ii)) ?_
  exact ok_ret (evd_cast (evd_andV (evd_call (R := R__law_is_integer) (eva_cons (evd_dat rfl) eva_nil) ⟨a, rfl, rfl⟩) fun _ => evd_op (evd_dat rfl) (evd_dat rfl) rd_eqI) rfl) rfl
end
end Rb

/-! part RbD7 -/
namespace Rb
open PySem PySem.Spec PyProof.Rows L2
open Evl (Ex)

theorem getD_at {p : List Int} {i : Nat} (h : i < p.length) : p[i]? = some (p.getD i 0) := by
  rw [List.getD_eq_getElem?_getD, List.getElem?_eq_getElem h]
  rfl
def farD (m : Int) (p : List Int) (i : Nat) : PyData := .list ((List.range p.length).map fun j => .int ((p.getD j 0 - p.getD i 0) % m))
theorem rngGet {n i : Nat} {x : PyData} {f : Nat → PyData} (h : ((List.range n).map f)[i]? = some x) : i < n ∧ x = f i := by
  rw [List.getElem?_map] at h
  cases q : (List.range n)[i]? with
  | none =>
    rw [q] at h
    cases h
  | some z =>
    rw [q] at h
    obtain ⟨hl, e⟩ := List.getElem?_eq_some_iff.mp q
    rw [List.getElem_range] at e
    subst e
    rw [List.length_range] at hl
    exact ⟨hl, (Option.some.inj h).symm⟩

section
variable {P : Program} {w : World} {K : PySem.W.Frag} {mg : Str → Option Value} {base : Heap} {tk : Tok}

abbrev _law_of_places_names : List Str := ["_law_ring", "_law_places", "_law_rows", "_law_one", "_law_far", "_law_other"]
abbrev _law_of_places_st : Stmt := topS 26
theorem sc__law_of_places : FnScope _law_of_places_names ["_law_ring", "_law_places"] (defScope _law_of_places_st) := ⟨rfl, rfl, rfl, by decide +kernel, rfl, by decide +kernel, by decide +kernel⟩

def R__law_of_places (ds : List PyData) (d : PyData) : Prop := ∃ (m : Int) (dp : PyData) (p : List Int), ds = [.int m, dp] ∧ isSeq dp (p.map PyData.int) ∧ 0 < m ∧ p.length ≤ 8 ∧ d = tD (rowsOf p.length (ofPl m p))
theorem ca__law_of_places (T : Tx mg tk) (A : At K mg "_law_of_places" _law_of_places_st ["_law_ring", "_law_places"]) : Ca P w K mg base 1 "_law_of_places" (SpP R__law_of_places) := by
  refine ca_pure A sc__law_of_places (fun ds d ⟨_, _, _, h, _⟩ => by rw [h]; rfl) (fun f cdv A outer s H E hr => ?_)
  refine ⟨_, (pss_cons (ps_set (i := 2) sc__law_of_places.nd rfl (by first | exact Or.inl rfl | exact Or.inr rfl) (pe_lst pa_nil))
      (pss_cons (ps_for PassesOwn.never rfl (pi_range1 (by rfl) T.n_range (pa_cons (pe_callB (call_lenK K rfl) (by rfl) T.n_len (by decide +kernel) (pa_cons (pv 1) pa_nil)) pa_nil)) (pg_name (i := 3) sc__law_of_places.nd rfl (by first | exact Or.inl rfl | exact Or.inr rfl))
        (pss_cons (ps_set (i := 4) sc__law_of_places.nd rfl (by first | exact Or.inl rfl | exact Or.inr rfl) (pe_lc (own := [("_law_other", 5)]) (by rfl) sc__law_of_places.nd (pi_range1 (by rfl) T.n_range (pa_cons (pe_callB (call_lenK K rfl) (by rfl) T.n_len (by decide +kernel) (pa_cons (pv 1) pa_nil)) pa_nil)) (blkOk_by (own := [("_law_other", 5)]) (N := _law_of_places_names) (sc := defScope _law_of_places_st) (by decide +kernel)) (fun _ _ _ _ _ => (pg_name (i := 5) sc__law_of_places.nd rfl (by first | exact Or.inl rfl | exact Or.inr rfl))) (fun _ _ _ _ _ => pts_nil) (fun _ _ _ _ _ => (pe_op op_mod (pe_callTy call_int1 (by rfl) T.n_int (by decide +kernel) (pa_cons (pe_op op_sub (pe_ix (ix_seqK K rfl) (pv 1) (pv 5) (fun _ _ => rfl)) (pe_ix (ix_seqK K rfl) (pv 1) (pv 3) (fun _ _ => rfl))) pa_nil)) (pv 0)))))
        (pss_one (ps_expr (pe_bm PySem.F.plainAttrs_list PySem.F.slot_list_append PySem.F.type_list_append mt_append (pv 2) (pa_cons (pe_callTy (call_tupleK K rfl) (by rfl) T.n_tuple (by decide +kernel) (pa_cons (pe_lc (own := [("_law_other", 5)]) (by rfl) sc__law_of_places.nd (pi_range1 (by rfl) T.n_range (pa_cons (pe_callB (call_lenK K rfl) (by rfl) T.n_len (by decide +kernel) (pa_cons (pv 1) pa_nil)) pa_nil)) (blkOk_by (own := [("_law_other", 5)]) (N := _law_of_places_names) (sc := defScope _law_of_places_st) (by decide +kernel)) (fun _ _ _ _ _ => (pg_name (i := 5) sc__law_of_places.nd rfl (by first | exact Or.inl rfl | exact Or.inr rfl))) (fun _ _ _ _ _ => (pts_one (PW.pt (pw_and (pt_cmpR op_lt pe_int (pe_ix (ix_listK K rfl) (pv 4) (pv 5) (fun _ _ => rfl)) (nomark _)) (pw_and1 (pt_cmpR op_lt (pe_op op_mul pe_int (pe_ix (ix_listK K rfl) (pv 4) (pv 5) (fun _ _ => rfl))) (pv 0) (nomark _))))))) (fun _ _ _ _ _ => (pv 5))) pa_nil)) pa_nil))))))
      (pss_one (ps_ret (pe_callTy (call_tupleK K rfl) (by rfl) T.n_tuple (by decide +kernel) (pa_cons (pv 2) pa_nil)))))), ?_⟩
  rintro ds d ⟨m, dp, p, rfl, hs, hm, h8, rfl⟩
  have hlen : ∀ {τ : List Sl}, τ[1]? = some (.dat dp) → EvD (tCB (fun xs H Q => ∃ p ys, xs = [V.ref p] ∧ (SqL K H p ys ∨ SqT K H p ys) ∧ Q (.int ys.length) H) (tCons (tVar 1) tNil)) τ (iD p.length) := fun h =>
    evd_N (evd_cb (eva_cons (evd_dat h) eva_nil) (rc_len hs)) (by rw [List.length_map])
  have hix : ∀ {τ : List Sl} {te : TE} {i : Nat}, τ[1]? = some (.dat dp) → EvD te τ (iD i) → i < p.length → EvD (tOp (rIx K) (tVar 1) te) τ (.int (p.getD i 0)) := fun h he hi =>
    evd_op (evd_dat h) he (rd_ix hs (at_mapN (getD_at hi)))
  refine sq_asgF (ds := []) (evf_lst eva_nil (by decide)) ?_
  refine sq_for (itd_r1 (eva_cons (hlen rfl) eva_nil) (by omega)) (fun i τ' => ∃ s3 s4 : Sl, i ≤ p.length ∧ τ' = [.dat (.int m), .dat dp, .lst ((List.range i).map fun k => rowD ((List.range p.length).filter (ofPl m p k))), s3, s4, .un]) ⟨.un, .un, Nat.zero_le _, rfl⟩ (fun i x τ' hx hI => ?_) fun τ' hI => ?_
  · obtain ⟨s3, s4, _, rfl⟩ := hI
    obtain ⟨hi, rfl⟩ := rngGet hx
    refine ⟨_, _, tgd_name, ?_⟩
    refine sq_asg (d := farD m p i) (evd_lc0 iD (fun j => .int ((p.getD j 0 - p.getD i 0) % m)) (itd_r1 (eva_cons (hlen rfl) eva_nil) (by omega)) (by rw [List.length_range]; omega) fun j hj => ⟨_, tgd_name, evd_op (evd_cb (eva_cons (evd_op (hix rfl (evd_dat rfl) (List.mem_range.mp hj)) (hix rfl (evd_dat rfl) hi) rd_ii) eva_nil) rc_int) (evd_dat rfl) (rd_ic hm)⟩) ?_
    have hfar : ∀ {τ : List Sl} {te : TE} {j : Nat}, τ[4]? = some (.dat (farD m p i)) → EvD te τ (iD j) → j < p.length → EvD (tOp (rIxL K) (tVar 4) te) τ (.int ((p.getD j 0 - p.getD i 0) % m)) := fun h he hj =>
      evd_op (evd_dat h) he (rd_ixL (at_mapN (f := fun j => PyData.int ((p.getD j 0 - p.getD i 0) % m)) (List.getElem?_range hj)))
    refine ok_app (ds := (List.range i).map fun k => rowD ((List.range p.length).filter (ofPl m p k))) rfl ?_ (d := rowD ((List.range p.length).filter (ofPl m p i))) (evd_cb (eva_cons (evd_lc iD (ofPl m p i) iD (itd_r1 (eva_cons (hlen rfl) eva_nil) (by omega)) (by rw [List.length_range]; omega) fun j hj => ⟨_, tgd_name, ?_, fun _ => evd_dat rfl⟩) eva_nil) (rc_tuple (.inl rfl))) ⟨.dat (iD i), .dat (farD m p i), hi, ?_⟩
    · rw [List.length_map, List.length_range]
      omega
    · have hj := List.mem_range.mp hj
      exact evt_and (evt_test (evd_op evd_int (hfar rfl (evd_dat rfl) hj) rd_ib)) fun _ => evt_test (evd_op (evd_op evd_int (hfar rfl (evd_dat rfl) hj) (rd_ic (.inl ⟨by decide, by decide⟩))) (evd_dat rfl) rd_ib)
    · rw [List.range_succ, List.map_append]
      rfl
  · obtain ⟨s3, s4, _, rfl⟩ := hI
    rw [List.length_map, List.length_range]
    refine ok_seal (i := 2) rfl ?_
    refine ok_ret (evd_cb (eva_cons (evd_dat rfl) eva_nil) (rc_tuple (.inl rfl))) ?_
    unfold tD rowsOf
    rw [List.map_map]
    rfl

/-- the results drawn so far: of each pair up to (i, j) one of the two ways -/
structure Dr (n i j : Nat) (as : List (Nat × Nat)) : Prop where
  nd : as.Nodup
  lt : ∀ e ∈ as, e.1 < n ∧ e.2 < n
  pr : ∀ x y, (x, y) ∈ as → (x < y ∧ (x < i ∨ (x = i ∧ y < j))) ∨ (y < x ∧ (y < i ∨ (y = i ∧ x < j)))
  one : ∀ x y, x < y → y < n → (x < i ∨ (x = i ∧ y < j)) → ((x, y) ∈ as ∧ (y, x) ∉ as) ∨ ((y, x) ∈ as ∧ (x, y) ∉ as)
theorem Dr.start (n : Nat) : Dr n 0 0 [] := ⟨List.nodup_nil, fun e h => (nomatch h), fun x y h => (nomatch h), fun x y h1 h2 h3 => by omega⟩
theorem Dr.next {n i : Nat} {as : List (Nat × Nat)} (d : Dr n i n as) : Dr n (i + 1) 0 as := ⟨d.nd, d.lt, fun x y h => by
  have := d.pr x y h
  omega, fun x y h1 h2 h3 => d.one x y h1 h2 (by omega)⟩
theorem Dr.row {n i : Nat} {as : List (Nat × Nat)} (d : Dr n i 0 as) : Dr n i (i + 1) as := ⟨d.nd, d.lt, fun x y h => by
  have := d.pr x y h
  omega, fun x y h1 h2 h3 => d.one x y h1 h2 (by omega)⟩
theorem Dr.add {n i j : Nat} {as : List (Nat × Nat)} (d : Dr n i j as) (h1 : i < j) (h2 : j < n) {a c : Nat} (hac : (a = i ∧ c = j) ∨ (a = j ∧ c = i)) : Dr n i (j + 1) (as ++ [(a, c)]) := by
  have out : ∀ x y, (x, y) ∈ as → ¬ ((x = i ∧ y = j) ∨ (x = j ∧ y = i)) := fun x y h z => by
    have := d.pr x y h
    omega
  refine ⟨List.nodup_append.mpr ⟨d.nd, by simp, fun e he f hf q => ?_⟩, fun e he => ?_, fun x y h => ?_, fun x y q1 q2 q3 => ?_⟩
  · rw [List.mem_singleton.mp hf] at q
    rw [q] at he
    exact out a c he hac
  · rcases List.mem_append.mp he with h | h
    · exact d.lt e h
    · rw [List.mem_singleton.mp h]
      show a < n ∧ c < n
      omega
  · rcases List.mem_append.mp h with h | h
    · have := d.pr x y h
      omega
    · have e := List.mem_singleton.mp h
      have e1 := (Prod.mk.inj e).1
      have e2 := (Prod.mk.inj e).2
      omega
  · by_cases hn : x = i ∧ y = j
    · obtain ⟨rfl, rfl⟩ := hn
      rcases hac with ⟨rfl, rfl⟩ | ⟨rfl, rfl⟩
      · refine .inl ⟨List.mem_append_right _ (List.mem_singleton.mpr rfl), fun h => ?_⟩
        rcases List.mem_append.mp h with h | h
        · exact out _ _ h (.inr ⟨rfl, rfl⟩)
        · have := (Prod.mk.inj (List.mem_singleton.mp h)).1
          omega
      · refine .inr ⟨List.mem_append_right _ (List.mem_singleton.mpr rfl), fun h => ?_⟩
        rcases List.mem_append.mp h with h | h
        · exact out _ _ h (.inl ⟨rfl, rfl⟩)
        · have := (Prod.mk.inj (List.mem_singleton.mp h)).1
          omega
    · have keep : ∀ u v, ((u = x ∧ v = y) ∨ (u = y ∧ v = x)) → ((u, v) ∈ as ++ [(a, c)] ↔ (u, v) ∈ as) := fun u v huv => by
        rw [List.mem_append, List.mem_singleton]
        constructor
        · rintro (h | h)
          · exact h
          · have e1 := (Prod.mk.inj h).1
            have e2 := (Prod.mk.inj h).2
            omega
        · exact .inl
      rw [keep x y (.inl ⟨rfl, rfl⟩), keep y x (.inr ⟨rfl, rfl⟩)]
      exact d.one x y q1 q2 (by omega)
theorem Dr.tb {n : Nat} {as : List (Nat × Nat)} (d : Dr n n 0 as) : TB n fun x y => decide ((x, y) ∈ as) := by
  refine ⟨fun x hx => decide_eq_false fun h => ?_, fun x y hx hy hxy => ?_⟩
  · have := d.pr x x h
    omega
  · have : (x, y) ∈ as ↔ ¬ (y, x) ∈ as := by
      rcases Nat.lt_or_gt_of_ne hxy with h | h
      · rcases d.one x y h hy (by omega) with ⟨p, q⟩ | ⟨p, q⟩
        · exact ⟨fun _ => q, fun _ => p⟩
        · exact ⟨fun z => absurd z q, fun z => absurd p z⟩
      · rcases d.one y x h hx (by omega) with ⟨p, q⟩ | ⟨p, q⟩
        · exact ⟨fun z => absurd z q, fun z => absurd p z⟩
        · exact ⟨fun _ => q, fun _ => p⟩
    by_cases hm : (y, x) ∈ as
    · have h1 : ¬ (x, y) ∈ as := fun z => this.mp z hm
      simp [hm, h1]
    · have h1 := this.mpr hm
      simp [hm, h1]

abbrev _law_drawn_names : List Str := ["_law_stream_here", "_law_many", "_law_rows", "_law_one", "_law_other", "_law_player", "_law_row"]
abbrev _law_drawn_st : Stmt := topS 27
theorem sc__law_drawn : FnScope _law_drawn_names ["_law_stream_here", "_law_many"] (defScope _law_drawn_st) := ⟨rfl, rfl, rfl, by decide +kernel, rfl, by decide +kernel, by decide +kernel⟩

def Pre__law_drawn (ds : List PyData) : Prop := ∃ n : Nat, ds = [iD n] ∧ 1 ≤ n ∧ n ≤ 8
def R__law_drawn (ds : List PyData) (d : PyData) : Prop := ∃ (n : Nat) (b : Nat → Nat → Bool), ds = [iD n] ∧ TB n b ∧ d = tD (rowsOf n b)
theorem evs_next {τ : List Sl} {i : Nat} {p : Addr} {te : TE} {m : Nat} {E : XK} (hi : τ[i]? = some (.stm p)) (h : EvD te τ (iD m)) (h1 : 1 ≤ m) (h2 : m ≤ 1000) : EvS (tCall (SpS Pre__law_next R__law_next) [] E (tCons (tVar i) (tCons te tNil))) τ (fun d => ∃ k, k < m ∧ d = iD k) :=
  evs_callS hi (EvA.s (eva_cons h eva_nil)) (fun ds e => ⟨m, e, h1, h2⟩) fun ds d e ⟨m', k, e2, hk, hd⟩ => by
    subst e
    have := List.cons.inj e2
    have e3 : m = m' := Int.ofNat.inj (PyData.int.inj this.1)
    subst e3
    exact ⟨k, hk, hd⟩
/-- .. == 0 -/
theorem evs_is0 {τ : List Sl} {te : TE} {m : Nat} (h : EvS te τ (fun d => ∃ k, k < m ∧ d = iD k)) : EvS (tOp rEq te (tC (.int 0))) τ (fun d => ∃ b, d = .bool b) :=
  evs_op h (EvD.s (evd_int (i := 0))) fun d1 d2 ⟨k, _, e1⟩ e2 => by
    subst e1 e2
    exact ⟨_, ⟨_, rfl⟩, rd_eqI⟩
theorem ca__law_drawn (T : Tx mg tk) (A : At K mg "_law_drawn" _law_drawn_st ["_law_stream_here", "_law_many"]) (C__law_next : Ca P w K mg base 1 "_law_next" (SpS Pre__law_next R__law_next)) : Ca P w K mg base 2 "_law_drawn" (SpS Pre__law_drawn R__law_drawn) := by
  refine ca_stm A sc__law_drawn (fun ds ⟨_, h, _⟩ => by rw [h]; rfl) (fun f cdv A outer s H E hr => ?_)
  refine ⟨_, (pss_cons (ps_setLc (own := [("_law_player", 5)]) (i := 2) (by rfl) sc__law_drawn.nd rfl rfl (sw_true rfl rfl rfl (by decide +kernel)) (pi_range1 (by rfl) T.n_range (pa_cons (pv 1) pa_nil)) (blkOk_by (own := [("_law_player", 5)]) (N := _law_drawn_names) (sc := defScope _law_drawn_st) (by decide +kernel)) (fun _ _ _ _ _ => (pg_name (i := 5) sc__law_drawn.nd rfl (by first | exact Or.inl rfl | exact Or.inr rfl))) (fun _ _ _ _ _ => pts_nil) (fun _ _ _ _ _ => (pe_lst pa_nil)))
      (pss_cons (ps_for PassesOwn.never rfl (pi_range1 (by rfl) T.n_range (pa_cons (pv 1) pa_nil)) (pg_name (i := 3) sc__law_drawn.nd rfl (by first | exact Or.inl rfl | exact Or.inr rfl))
        (pss_one (ps_for PassesOwn.never rfl (pi_range2 (by rfl) T.n_range (pa_cons (pe_op op_add (pv 3) pe_int) (pa_cons (pv 1) pa_nil))) (pg_name (i := 4) sc__law_drawn.nd rfl (by first | exact Or.inl rfl | exact Or.inr rfl))
          (pss_one (ps_if (pt_cmpR op_eq (pe_ca C__law_next hr (by decide) (by rfl) (pa_cons (pv 0) (pa_cons pe_int pa_nil))) pe_int (nomark _))
            (pss_one (ps_expr (pe_bm PySem.F.plainAttrs_list PySem.F.slot_list_append PySem.F.type_list_append mt_append (pe_ix (ix_listK K rfl) (pv 2) (pv 3) (fun _ _ => rfl)) (pa_cons (pv 4) pa_nil))))
            (pss_one (ps_expr (pe_bm PySem.F.plainAttrs_list PySem.F.slot_list_append PySem.F.type_list_append mt_append (pe_ix (ix_listK K rfl) (pv 2) (pv 4) (fun _ _ => rfl)) (pa_cons (pv 3) pa_nil)))))))))
      (pss_one (ps_ret (pe_callTy (call_tupleK K rfl) (by rfl) T.n_tuple (by decide +kernel) (pa_cons (pe_lc (own := [("_law_row", 6)]) (by rfl) sc__law_drawn.nd (pi_list (pv 2)) (blkOk_by (own := [("_law_row", 6)]) (N := _law_drawn_names) (sc := defScope _law_drawn_st) (by decide +kernel)) (fun _ _ _ _ _ => (pg_name (i := 6) sc__law_drawn.nd rfl (by first | exact Or.inl rfl | exact Or.inr rfl))) (fun _ _ _ _ _ => pts_nil) (fun _ _ _ _ _ => (pe_callTy (call_tupleK K rfl) (by rfl) T.n_tuple (by decide +kernel) (pa_cons (pe_callB (cr_sortedIK K rfl rfl) (by rfl) T.n_sorted (by decide +kernel) (pa_cons (pv 6) pa_nil)) pa_nil)))) pa_nil)))))), ?_⟩
  rintro p ds ⟨n, rfl, h1, h8⟩
  refine sq_asgRows (itd_r1 (eva_cons (evd_dat rfl) eva_nil) (by omega)) (by rw [List.length_map, List.length_range]; omega) (fun x hx => ⟨_, tgd_name⟩) ?_
  rw [List.length_map, List.length_range, ← rowsSt_nil]
  refine sq_for (itd_r1 (n := n) (eva_cons (evd_dat rfl) eva_nil) (by omega)) (fun i τ' => ∃ (s3 s4 : Sl) (as : List (Nat × Nat)), Dr n i 0 as ∧ as.length ≤ i * 8 ∧ τ' = [.stm p, .dat (iD n), .rws (rowsSt n as), s3, s4, .un, .un]) ⟨.un, .un, [], Dr.start n, Nat.zero_le _, rfl⟩ (fun i x τ' hx hI => ?_) fun τ' hI => ?_
  · obtain ⟨s3, s4, as, hd, hl, rfl⟩ := hI
    obtain ⟨hi, rfl⟩ := rngGet hx
    refine ⟨_, _, tgd_name, ?_⟩
    refine ok_for (itd_r2 (a := i + 1) (n := n) (eva_cons (evd_I (evd_op (evd_dat rfl) evd_int rd_ii) rfl) (eva_cons (evd_dat rfl) eva_nil)) (by omega) (by omega)) (fun j τ' => ∃ (s4 : Sl) (as : List (Nat × Nat)), Dr n i (i + 1 + j) as ∧ as.length ≤ i * 8 + j ∧ τ' = [.stm p, .dat (iD n), .rws (rowsSt n as), .dat (iD i), s4, .un, .un]) ⟨s4, as, hd.row, hl, rfl⟩ (fun j y τ' hy hI => ?_) fun τ' hI => ?_
    · obtain ⟨s4, as, hd, hl, rfl⟩ := hI
      rw [List.map_map] at hy
      obtain ⟨hj, ey⟩ := rngGet hy
      have ey : y = iD (i + 1 + j) := ey
      subst ey
      have hjn : i + 1 + j < n := by omega
      refine ⟨_, _, tgd_name, ?_⟩
      have hi8 : i * 8 ≤ 64 := by omega
      refine ok_ifS (evs_is0 (evs_next (i := 0) (m := 2) rfl evd_int (by decide) (by decide))) fun d ⟨b, eb⟩ => ⟨b, eb, fun _ => ?_, fun _ => ?_⟩
      · exact ok_rowApp rfl (evd_dat rfl) (rowsSt_get as hi) (Nat.lt_of_le_of_lt (rowAt_len _ _) (by omega)) (evd_dat rfl) ⟨_, as ++ [(i, i + 1 + j)], hd.add (by omega) hjn (.inl ⟨rfl, rfl⟩), by rw [List.length_append, List.length_singleton]; omega, by rw [rowsSt_add]; rfl⟩
      · exact ok_rowApp rfl (evd_dat rfl) (rowsSt_get as hjn) (Nat.lt_of_le_of_lt (rowAt_len _ _) (by omega)) (evd_dat rfl) ⟨_, as ++ [(i + 1 + j, i)], hd.add (by omega) hjn (.inr ⟨rfl, rfl⟩), by rw [List.length_append, List.length_singleton]; omega, by rw [rowsSt_add]; rfl⟩
    · obtain ⟨s4, as, hd, hl, rfl⟩ := hI
      rw [List.length_map, List.length_map, List.length_range] at hd hl
      have e : i + 1 + (n - (i + 1)) = n := by omega
      rw [e] at hd
      exact ⟨_, _, as, hd.next, by omega, rfl⟩
  · obtain ⟨s3, s4, as, hd, hl, rfl⟩ := hI
    rw [List.length_map, List.length_range] at hd hl
    refine ok_sealR (i := 2) rfl ?_
    refine ok_ret (d := tD (rowsOf n fun x y => decide ((x, y) ∈ as))) (evd_cast (evd_cb (eva_cons (evd_lc0 (xs := List.range n) (fun p => .list ((rowAt as p).map PyData.int)) (fun p => rowD ((List.range n).filter fun y => decide ((p, y) ∈ as))) ?_ ?_ fun p hp' => ⟨_, tgd_name, ?_⟩) eva_nil) (rc_tuple (.inl rfl))) ?_) ⟨rfl, n, _, rfl, hd.tb, rfl⟩
    · have e : (List.range n).map (fun p => PyData.list ((rowAt as p).map PyData.int)) = (rowsSt n as).map fun r => .list (r.map PyData.int) := by
        unfold rowsSt
        rw [List.map_map]
        rfl
      rw [e]
      exact itd_list (evd_dat rfl)
    · rw [List.length_range]
      omega
    · obtain ⟨z1, z2⟩ := row_srt (n := n) hd.nd (fun e he => (hd.lt e he).2) p
      unfold rowD
      rw [ints_iD]
      exact evd_cb (eva_cons (evd_cb (eva_cons (evd_dat rfl) eva_nil) (rc_sortedI z1 z2)) eva_nil) (rc_tuple (.inl rfl))
    · unfold tD rowsOf
      rw [List.map_map]
      rfl
end
end Rb

/-! part RbD8 -/
namespace Rb
open PySem PySem.Spec PyProof.Rows L2
open Evl (Ex)

section
variable {P : Program} {w : World} {K : PySem.W.Frag} {mg : Str → Option Value} {base : Heap} {tk : Tok}

abbrev _law_circular_names : List Str := ["_law_stream_here", "_law_many", "_law_ring", "_law_left", "_law_places", "_law_player"]
abbrev _law_circular_st : Stmt := topS 28
theorem sc__law_circular : FnScope _law_circular_names ["_law_stream_here", "_law_many"] (defScope _law_circular_st) := ⟨rfl, rfl, rfl, by decide +kernel, rfl, by decide +kernel, by decide +kernel⟩

def Pre__law_circular (ds : List PyData) : Prop := ∃ n : Nat, ds = [iD n] ∧ 1 ≤ n ∧ n ≤ 8
def R__law_circular (ds : List PyData) (d : PyData) : Prop := ∃ (n : Nat) (b : Nat → Nat → Bool), ds = [iD n] ∧ TB n b ∧ d = tD (rowsOf n b)
theorem erase_perm {α : Type} : ∀ {l : List α} {m : Nat} {x : α}, l[m]? = some x → ([x] ++ l.eraseIdx m).Perm l
  | [], _, _, h => by simp at h
  | a :: l, 0, x, h => by
    have e := Option.some.inj h
    subst e
    exact List.Perm.refl _
  | a :: l, m + 1, x, h => by
    have ih := erase_perm (l := l) (m := m) (x := x) (by simpa using h)
    exact (List.Perm.swap a x _).trans (ih.cons a)
theorem pop_perm {α : Type} {ps ls : List α} {m : Nat} {x : α} (h : ls[m]? = some x) : ((ps ++ [x]) ++ ls.eraseIdx m).Perm (ps ++ ls) := by
  rw [List.append_assoc]
  exact List.Perm.append_left _ (erase_perm h)
theorem erase_map {α β : Type} (f : α → β) : ∀ (l : List α) (m : Nat), (l.map f).eraseIdx m = (l.eraseIdx m).map f
  | [], _ => rfl
  | _ :: _, 0 => rfl
  | a :: l, m + 1 => by
    show f a :: (l.map f).eraseIdx m = f a :: (l.eraseIdx m).map f
    rw [erase_map f l m]
theorem ca__law_circular (T : Tx mg tk) (A : At K mg "_law_circular" _law_circular_st ["_law_stream_here", "_law_many"]) (C__law_next : Ca P w K mg base 1 "_law_next" (SpS Pre__law_next R__law_next)) (C__law_of_places : Ca P w K mg base 1 "_law_of_places" (SpP R__law_of_places)) : Ca P w K mg base 2 "_law_circular" (SpS Pre__law_circular R__law_circular) := by
  refine ca_stm A sc__law_circular (fun ds ⟨_, h, _⟩ => by rw [h]; rfl) (fun f cdv A outer s H E hr => ?_)
  refine ⟨_, (pss_cons (ps_set (i := 2) sc__law_circular.nd rfl (by first | exact Or.inl rfl | exact Or.inr rfl) (pe_op op_sub (pe_op op_mul pe_int (pe_op op_add (pv 1) (pe_ca C__law_next hr (by decide) (by rfl) (pa_cons (pv 0) (pa_cons pe_int pa_nil))))) pe_int))
      (pss_cons (ps_set (i := 3) sc__law_circular.nd rfl (by first | exact Or.inl rfl | exact Or.inr rfl) (pe_listRg rfl (by rfl) T.n_list (prg_1 (by rfl) T.n_range (pv 2))))
      (pss_cons (ps_set (i := 4) sc__law_circular.nd rfl (by first | exact Or.inl rfl | exact Or.inr rfl) (pe_lst pa_nil))
      (pss_cons (ps_for PassesOwn.never rfl (pi_range1 (by rfl) T.n_range (pa_cons (pv 1) pa_nil)) (pg_name (i := 5) sc__law_circular.nd rfl (by first | exact Or.inl rfl | exact Or.inr rfl))
        (pss_one (ps_expr (pe_bm PySem.F.plainAttrs_list PySem.F.slot_list_append PySem.F.type_list_append mt_append (pv 4) (pa_cons (pe_bm PySem.F.plainAttrs_list PySem.F.slot_list_pop PySem.F.type_list_pop mt_popAt (pv 3) (pa_cons (pe_ca C__law_next hr (by decide) (by rfl) (pa_cons (pv 0) (pa_cons (pe_callB (call_lenK K rfl) (by rfl) T.n_len (by decide +kernel) (pa_cons (pv 3) pa_nil)) pa_nil))) pa_nil)) pa_nil)))))
      (pss_one (ps_ret (pe_ca C__law_of_places hr (by decide) (by rfl) (pa_cons (pv 2) (pa_cons (pv 4) pa_nil))))))))), ?_⟩
  rintro p ds ⟨n, rfl, h1, h8⟩
  refine sq_asgS (P := fun d => ∃ r : Nat, r % 2 = 1 ∧ n ≤ r ∧ r ≤ 1000 ∧ d = iD r) (evs_op (P1 := fun d => ∃ r : Nat, r % 2 = 0 ∧ n + 1 ≤ r ∧ r ≤ 1000 ∧ d = iD r) (evs_op (EvD.s (evd_int (i := 2))) (evs_op (P := fun d => ∃ r : Nat, n ≤ r ∧ r ≤ 500 ∧ d = iD r) (EvD.s (evd_dat (d := iD n) rfl)) (evs_next (i := 0) (m := 4) rfl evd_int (by decide) (by decide)) ?_) ?_) (EvD.s (evd_int (i := 1))) ?_) ?_
  · intro d1 d2 e1 e2
    obtain ⟨k, hk, rfl⟩ := e2
    subst e1
    exact ⟨iD (n + k), ⟨n + k, by omega, by omega, rfl⟩, rd_ii⟩
  · intro d1 d2 e1 e2
    obtain ⟨r, hr1, hr2, rfl⟩ := e2
    subst e1
    refine ⟨.int (2 * (r : Int)), ⟨2 * r, by omega, by omega, by omega, ?_⟩, rd_ic (C := CMul) (.inl ⟨by decide, by decide⟩)⟩
    show PyData.int (2 * (r : Int)) = PyData.int ((2 * r : Nat) : Int)
    congr 1
  · intro d1 d2 e1 e2
    obtain ⟨r, hr0, hr1, hr2, rfl⟩ := e1
    subst e2
    refine ⟨.int ((r : Int) - 1), ⟨r - 1, by omega, by omega, by omega, ?_⟩, rd_ii⟩
    show PyData.int ((r : Int) - 1) = PyData.int ((r - 1 : Nat) : Int)
    congr 1
    omega
  · rintro d ⟨r, hodd, hnr, hr, rfl⟩
    refine sq_asgF (evf_listRg (evd_dat rfl) (by omega)) ?_
    refine sq_asgF (ds := []) (evf_lst eva_nil (by decide)) ?_
    refine sq_for (itd_r1 (n := n) (eva_cons (evd_dat rfl) eva_nil) (by omega)) (fun i τ' => ∃ (s5 : Sl) (ls ps : List Int), (ps ++ ls).Perm ((List.range r).map fun k : Nat => (k : Int)) ∧ ps.length = i ∧ τ' = [.stm p, .dat (iD n), .dat (iD r), .lst (ls.map PyData.int), .lst (ps.map PyData.int), s5]) ⟨.un, _, [], List.Perm.refl _, rfl, rfl⟩ (fun i x τ' hx hI => ?_) fun τ' hI => ?_
    · obtain ⟨s5, ls, ps, hp, hl, rfl⟩ := hI
      obtain ⟨hi, rfl⟩ := rngGet hx
      have hlen : ls.length = r - i := by
        have := hp.length_eq
        rw [List.length_append, List.length_map, List.length_range] at this
        omega
      refine ⟨_, _, tgd_name, ?_⟩
      refine ok_appPop (i := 4) (j := 3) (by decide) rfl rfl ?_ (evs_next (i := 0) (m := ls.length) rfl (evd_N (evd_lenM rfl) (by rw [List.length_map])) (by omega) (by omega)) fun d ⟨k, hk, e⟩ => ⟨k, .int ls[k], e, ?_, by omega, .dat (iD i), ls.eraseIdx k, ps ++ [ls[k]], (pop_perm (List.getElem?_eq_getElem hk)).trans hp, ?_, ?_⟩
      · rw [List.length_map]
        omega
      · rw [List.getElem?_map, List.getElem?_eq_getElem hk]
        rfl
      · rw [List.length_append, List.length_singleton, hl]
      · rw [erase_map, List.map_append]
        rfl
    · obtain ⟨s5, ls, ps, hp, hl, rfl⟩ := hI
      rw [List.length_map, List.length_range] at hl
      refine ok_seal (i := 4) rfl ?_
      have hall : (ps ++ ls).Nodup := hp.nodup_iff.mpr (List.Pairwise.map _ (fun a b h => by
        have : a ≠ b := h
        omega) List.nodup_range)
      have hmem : ∀ x ∈ ps, 0 ≤ x ∧ x < (r : Int) := fun x hx => by
        obtain ⟨k, hk, rfl⟩ := List.mem_map.mp (hp.mem_iff.mp (List.mem_append_left _ hx))
        have := List.mem_range.mp hk
        omega
      refine ok_ret (d := tD (rowsOf n (ofPl r ps))) (evd_call (R := R__law_of_places) (eva_cons (evd_dat rfl) (eva_cons (evd_dat rfl) eva_nil)) ⟨r, _, ps, rfl, .inl rfl, by omega, by omega, by rw [hl]⟩) ⟨rfl, n, ofPl r ps, rfl, ?_, rfl⟩
      have := ofPl_tb (m := (r : Int)) (by omega) (by omega) hmem (List.nodup_append.mp hall).1
      rw [hl] at this
      exact this
abbrev _law_some_names : List Str := ["_law_stream_here", "_law_most", "_law_many"]
abbrev _law_some_st : Stmt := topS 29
theorem sc__law_some : FnScope _law_some_names ["_law_stream_here", "_law_most"] (defScope _law_some_st) := ⟨rfl, rfl, rfl, by decide +kernel, rfl, by decide +kernel, by decide +kernel⟩

def Pre__law_some (ds : List PyData) : Prop := ∃ m : Nat, ds = [iD m] ∧ 1 ≤ m ∧ m ≤ 8
def R__law_some (ds : List PyData) (d : PyData) : Prop := ∃ (m n : Nat) (b : Nat → Nat → Bool), ds = [iD m] ∧ 1 ≤ n ∧ n ≤ m ∧ TB n b ∧ d = tD (rowsOf n b)
theorem ca__law_some (T : Tx mg tk) (A : At K mg "_law_some" _law_some_st ["_law_stream_here", "_law_most"]) (C__law_next : Ca P w K mg base 1 "_law_next" (SpS Pre__law_next R__law_next)) (C__law_drawn : Ca P w K mg base 2 "_law_drawn" (SpS Pre__law_drawn R__law_drawn)) (C__law_circular : Ca P w K mg base 2 "_law_circular" (SpS Pre__law_circular R__law_circular)) : Ca P w K mg base 3 "_law_some" (SpS Pre__law_some R__law_some) := by
  refine ca_stm A sc__law_some (fun ds ⟨_, h, _⟩ => by rw [h]; rfl) (fun f cdv A outer s H E hr => ?_)
  refine ⟨_, (pss_cons (ps_set (i := 2) sc__law_some.nd rfl (by first | exact Or.inl rfl | exact Or.inr rfl) (pe_op op_add pe_int (pe_ca C__law_next hr (by decide) (by rfl) (pa_cons (pv 0) (pa_cons (pv 1) pa_nil)))))
      (pss_cons (ps_if (pt_cmpR op_eq (pe_ca C__law_next hr (by decide) (by rfl) (pa_cons (pv 0) (pa_cons pe_int pa_nil))) pe_int (nomark _))
        (pss_one (ps_ret (pe_ca C__law_drawn hr (by decide) (by rfl) (pa_cons (pv 0) (pa_cons (pv 2) pa_nil)))))
        pss_nil)
      (pss_one (ps_ret (pe_ca C__law_circular hr (by decide) (by rfl) (pa_cons (pv 0) (pa_cons (pv 2) pa_nil))))))), ?_⟩
  rintro p ds ⟨m, rfl, h1, h8⟩
  refine sq_asgS (P := fun d => ∃ n : Nat, 1 ≤ n ∧ n ≤ m ∧ d = iD n) (evs_op (EvD.s (evd_int (i := 1))) (evs_next (i := 0) (m := m) rfl (evd_dat rfl) h1 (by omega)) ?_) ?_
  · intro d1 d2 e1 e2
    obtain ⟨k, hk, rfl⟩ := e2
    subst e1
    refine ⟨.int (1 + (k : Int)), ⟨1 + k, by omega, by omega, ?_⟩, rd_ii⟩
    show PyData.int (1 + (k : Int)) = PyData.int ((1 + k : Nat) : Int)
    congr 1
  · rintro d ⟨n, hn1, hnm, rfl⟩
    refine ok_seq (N1 := (· = [.stm p, .dat (iD m), .dat (iD n)])) (ok_ifS (evs_is0 (evs_next (i := 0) (m := 3) rfl evd_int (by decide) (by decide))) fun d ⟨b, eb⟩ => ⟨b, eb, fun _ => ?_, fun _ => ok_next rfl⟩) fun τ' e => ?_
    · refine ok_retS (P := fun d => ∃ b, TB n b ∧ d = tD (rowsOf n b)) (evs_callS (i := 0) rfl (EvA.s (eva_cons (evd_dat rfl) eva_nil)) (fun ds e => ⟨n, e, hn1, by omega⟩) fun ds d e ⟨n', b, e2, hb, hd⟩ => ?_) fun d ⟨b, hb, hd⟩ => ⟨rfl, m, n, b, rfl, hn1, hnm, hb, hd⟩
      subst e
      have e3 : n = n' := Int.ofNat.inj (PyData.int.inj (List.cons.inj e2).1)
      subst e3
      exact ⟨b, hb, hd⟩
    · subst e
      refine ok_retS (P := fun d => ∃ b, TB n b ∧ d = tD (rowsOf n b)) (evs_callS (i := 0) rfl (EvA.s (eva_cons (evd_dat rfl) eva_nil)) (fun ds e => ⟨n, e, hn1, by omega⟩) fun ds d e ⟨n', b, e2, hb, hd⟩ => ?_) fun d ⟨b, hb, hd⟩ => ⟨rfl, m, n, b, rfl, hn1, hnm, hb, hd⟩
      subst e
      have e3 : n = n' := Int.ofNat.inj (PyData.int.inj (List.cons.inj e2).1)
      subst e3
      exact ⟨b, hb, hd⟩
end
end Rb

/-! part RbD9 -/
namespace Rb
open PySem PySem.Spec PyProof.Rows L2
open Evl (Ex)

def sgx (s : Bool) (r : List Bool) : List Bool := s :: (r ++ [!s])
theorem stepsB_cons (s : Bool) (r : List Bool) : stepsB (s :: r) = List.zipWith (fun a c => if a == c then 2 else 1) (s :: r) (r ++ [!s]) := rfl
theorem steps_alt {o : Ord} {s : Bool} {r : List Bool} (h : sgs o = s :: r) : (List.range o.length).map (fun k => PyData.int (2 - (if ((sgx s r).getD k true != (sgx s r).getD (k + 1) true) = true then 1 else 0))) = (stepsO o).map iD := by
  have hl : r.length + 1 = o.length := by
    have : (sgs o).length = o.length := by
      unfold sgs
      rw [List.length_map]
    rw [h] at this
    exact this
  refine List.ext_getElem? fun k => ?_
  by_cases hk : k < o.length
  · rw [List.getElem?_map, List.getElem?_range hk, List.getElem?_map]
    unfold stepsO
    have e1 : (s :: r)[k]? = some ((sgx s r).getD k true) := by
      rw [List.getD_eq_getElem?_getD]
      have : (sgx s r)[k]? = (s :: r)[k]? := by
        show ((s :: r) ++ [!s])[k]? = _
        exact List.getElem?_append_left (by rw [List.length_cons]; omega)
      rw [this, List.getElem?_eq_getElem (by rw [List.length_cons]; omega)]
      rfl
    have e2 : (r ++ [!s])[k]? = some ((sgx s r).getD (k + 1) true) := by
      rw [List.getD_eq_getElem?_getD]
      show _ = some (((s :: (r ++ [!s]))[k + 1]?).getD true)
      rw [List.getElem?_cons_succ, List.getElem?_eq_getElem (by rw [List.length_append, List.length_singleton]; omega)]
      rfl
    rw [h, stepsB_cons, List.getElem?_zipWith, e1, e2]
    dsimp only [Option.map_some]
    generalize (sgx s r).getD k true = x
    generalize (sgx s r).getD (k + 1) true = y
    cases x <;> cases y <;> rfl
  · rw [List.getElem?_eq_none (by rw [List.length_map, List.length_range]; omega), List.getElem?_eq_none (by rw [List.length_map, stepsO_len]; omega)]
/-! places by steps -/
def keyO (o : Ord) (k : Nat) : Nat := (o.getD k (0, true)).1
def valO (o : Ord) (st : List Nat) (k : Nat) : Nat := (st.take k).sum + (if (sgs o).getD k true then 0 else st.sum)
def kvsO (o : Ord) (st : List Nat) (i : Nat) : List (Int × Int) := (List.range i).map fun k => ((keyO o k : Int), (valO o st k : Int))
def posO (o : Ord) (p : Nat) : Nat := (o.map (·.1)).idxOf p
def placeO (o : Ord) (st : List Nat) (p : Nat) : Nat := plAt (sgs o) st (posO o p)
theorem getD_O {o : Ord} {k p : Nat} {s : Bool} (h : o[k]? = some (p, s)) : keyO o k = p ∧ (sgs o).getD k true = s := by
  unfold keyO sgs
  rw [List.getD_eq_getElem?_getD, List.getD_eq_getElem?_getD, h, List.getElem?_map, h]
  exact ⟨rfl, rfl⟩
theorem posO_at {o : Ord} (hp : Perm0 o) {p : Nat} (h : p < o.length) : ∃ s, o[posO o p]? = some (p, s) := by
  have m : p ∈ o.map (·.1) := hp.mem_iff.mpr (List.mem_range.mpr h)
  have hl : posO o p < (o.map (·.1)).length := List.idxOf_lt_length_of_mem m
  have hl2 := hl
  rw [List.length_map] at hl2
  have e : (o.map (·.1))[posO o p] = p := List.getElem_idxOf hl
  rw [List.getElem_map] at e
  exact ⟨o[posO o p].2, by rw [List.getElem?_eq_getElem hl2]; exact congrArg some (Prod.ext e rfl)⟩
theorem posO_of {o : Ord} (hp : Perm0 o) {k p : Nat} {s : Bool} (h : o[k]? = some (p, s)) : posO o p = k := by
  obtain ⟨t, ht⟩ := posO_at hp (perm0_lt hp h)
  exact perm0_inj hp ht h
theorem kvs_new {o : Ord} (hp : Perm0 o) (st : List Nat) {i p : Nat} {s : Bool} (h : o[i]? = some (p, s)) : ∀ e ∈ kvsO o st i, e.1 ≠ (p : Int) := fun e he z => by
  obtain ⟨k, hk, rfl⟩ := List.mem_map.mp he
  have hki := List.mem_range.mp hk
  have hil := (List.getElem?_eq_some_iff.mp h).1
  have hkk : o[k]? = some (o[k].1, o[k].2) := List.getElem?_eq_getElem (by omega)
  have e1 := (getD_O hkk).1
  have z' : keyO o k = p := Int.ofNat.inj z
  rw [e1] at z'
  rw [z'] at hkk
  have := perm0_inj hp hkk h
  omega
theorem kvs_find {o : Ord} (hp : Perm0 o) (st : List Nat) {k p : Nat} {s : Bool} (h : o[k]? = some (p, s)) : (kvsO o st o.length).find? (fun e => decide (e.1 = (p : Int))) = some ((p : Int), (valO o st k : Int)) := by
  have hk := (List.getElem?_eq_some_iff.mp h).1
  have hmem : ((p : Int), (valO o st k : Int)) ∈ kvsO o st o.length := List.mem_map.mpr ⟨k, List.mem_range.mpr hk, by rw [(getD_O h).1]⟩
  cases q : (kvsO o st o.length).find? (fun e => decide (e.1 = (p : Int))) with
  | none =>
    have := List.find?_eq_none.mp q _ hmem
    simp at this
  | some e =>
    have h1 : e.1 = (p : Int) := by
      have := List.find?_some q
      exact of_decide_eq_true this
    obtain ⟨j, hj, rfl⟩ := List.mem_map.mp (List.mem_of_find?_eq_some q)
    have hjl := List.mem_range.mp hj
    have hjj : o[j]? = some (o[j].1, o[j].2) := List.getElem?_eq_getElem hjl
    have z' : keyO o j = p := Int.ofNat.inj h1
    have e1 := (getD_O hjj).1
    rw [e1] at z'
    rw [z'] at hjj
    have := perm0_inj hp hjj h
    subst this
    rw [e1, z']
theorem kvs_succ (o : Ord) (st : List Nat) (i : Nat) : kvsO o st (i + 1) = kvsO o st i ++ [((keyO o i : Int), (valO o st i : Int))] := by
  unfold kvsO
  rw [List.range_succ, List.map_append]
  rfl
/-! all places -/
def extP (r : Nat) (ps : List Nat) : List (List Nat) := ((List.range r).filter fun x => !decide (x ∈ ps)).map fun x => ps ++ [x]
def longP (r : Nat) (fs : List (List Nat)) : List (List Nat) := fs.flatMap (extP r)
def allP (r : Nat) : Nat → List (List Nat)
  | 0 => [[0]]
  | k + 1 => longP r (allP r k)
theorem extP_len (r : Nat) (ps : List Nat) : (extP r ps).length ≤ r := by
  unfold extP
  rw [List.length_map]
  refine Nat.le_trans (List.length_filter_le _ _) ?_
  rw [List.length_range]
  exact Nat.le_refl _
theorem longP_len (r : Nat) : ∀ fs : List (List Nat), (longP r fs).length ≤ fs.length * r
  | [] => Nat.zero_le _
  | f :: fs => by
    unfold longP
    rw [List.flatMap_cons, List.length_append, List.length_cons, Nat.add_mul, Nat.one_mul]
    have h1 := extP_len r f
    have h2 := longP_len r fs
    unfold longP at h2
    omega
theorem allP_small : ∀ r, r < 6 → ∀ k, k < 4 → (allP r k).length ≤ 125 := by decide +kernel
theorem longP_snoc (r : Nat) (fs : List (List Nat)) (f : List Nat) : longP r (fs ++ [f]) = longP r fs ++ extP r f := by
  unfold longP
  rw [List.flatMap_append, List.flatMap_cons, List.flatMap_nil, List.append_nil]

section
variable {P : Program} {w : World} {K : PySem.W.Frag} {mg : Str → Option Value} {base : Heap} {tk : Tok}

abbrev _law_steps_names : List Str := ["_law_order", "_law_signs", "_law_player", "_law_itself", "_law_k"]
abbrev _law_steps_st : Stmt := topS 30
theorem sc__law_steps : FnScope _law_steps_names ["_law_order"] (defScope _law_steps_st) := ⟨rfl, rfl, rfl, by decide +kernel, rfl, by decide +kernel, by decide +kernel⟩

abbrev R__law_steps := R_steps_of
theorem ca__law_steps (T : Tx mg tk) (A : At K mg "_law_steps" _law_steps_st ["_law_order"]) : Ca P w K mg base 1 "_law_steps" (SpP R__law_steps) := by
  refine ca_pure A sc__law_steps (fun ds d ⟨_, h, _⟩ => by rw [h]; rfl) (fun f cdv A outer s H E hr => ?_)
  refine ⟨_, (pss_cons (ps_set (i := 1) sc__law_steps.nd rfl (by first | exact Or.inl rfl | exact Or.inr rfl) (pe_lc (own := [("_law_player", 2), ("_law_itself", 3)]) (by rfl) sc__law_steps.nd (pi_tup (pv 0)) (blkOk_by (own := [("_law_player", 2), ("_law_itself", 3)]) (N := _law_steps_names) (sc := defScope _law_steps_st) (by decide +kernel)) (fun _ _ _ _ _ => (pg_tupK K rfl (n := 2) rfl (pgs_cons (pg_name (i := 2) sc__law_steps.nd rfl (by first | exact Or.inl rfl | exact Or.inr rfl)) (pgs_cons (pg_name (i := 3) sc__law_steps.nd rfl (by first | exact Or.inl rfl | exact Or.inr rfl)) pgs_nil)))) (fun _ _ _ _ _ => pts_nil) (fun _ _ _ _ _ => (pv 3))))
      (pss_cons (ps_expr (pe_bm PySem.F.plainAttrs_list PySem.F.slot_list_append PySem.F.type_list_append mt_append (pv 1) (pa_cons (pe_not (pe_ix (ix_listK K rfl) (pv 1) pe_int (fun _ _ => rfl))) pa_nil)))
      (pss_one (ps_ret (pe_lc (own := [("_law_k", 4)]) (by rfl) sc__law_steps.nd (pi_range1 (by rfl) T.n_range (pa_cons (pe_callB (call_lenK K rfl) (by rfl) T.n_len (by decide +kernel) (pa_cons (pv 0) pa_nil)) pa_nil)) (blkOk_by (own := [("_law_k", 4)]) (N := _law_steps_names) (sc := defScope _law_steps_st) (by decide +kernel)) (fun _ _ _ _ _ => (pg_name (i := 4) sc__law_steps.nd rfl (by first | exact Or.inl rfl | exact Or.inr rfl))) (fun _ _ _ _ _ => pts_nil) (fun _ _ _ _ _ => (pe_op op_sub pe_int (pe_callTy call_int1 (by rfl) T.n_int (by decide +kernel) (pa_cons (pe_cmpR op_ne (pe_ix (ix_listK K rfl) (pv 1) (pv 4) (fun _ _ => rfl)) (pe_ix (ix_listK K rfl) (pv 1) (pe_op op_add (pv 4) pe_int) (fun _ _ => rfl)) (nomark _)) pa_nil))))))))), ?_⟩
  rintro ds d ⟨o, rfl, h1, h8, rfl⟩
  obtain ⟨s, r, hsr⟩ : ∃ s r, sgs o = s :: r := by
    cases o with
    | nil => simp at h1
    | cons e o => exact ⟨e.2, o.map (·.2), rfl⟩
  have hrl : r.length + 1 = o.length := by
    have : (sgs o).length = o.length := by
      unfold sgs
      rw [List.length_map]
    rw [hsr] at this
    exact this
  have F1 : EvF (tLc (iTup K (tVar 0)) (gTup K 2 (gCons (gName 2) (gCons (gName 3) gNil))) tYes (tVar 3) [2, 3]) [.dat (oD o), .un, .un, .un, .un] ((s :: r).map PyData.bool) := by
    have f := evf_lc0 (te := tVar 3) (g := gTup K 2 (gCons (gName 2) (gCons (gName 3) gNil))) (vs := [2, 3]) (τ := [.dat (oD o), .un, .un, .un, .un]) (xs := o) enO (fun e => .bool e.2) (itd_tup (K := K) (evd_dat (i := 0) rfl)) (by omega) fun e he => ⟨_, tgd_two, evd_dat rfl⟩
    rw [← hsr]
    unfold sgs
    rw [List.map_map]
    exact f
  refine sq_asgF F1 ?_
  refine sq_app (ds := (s :: r).map PyData.bool) rfl ?_ (d := .bool (!s)) (evd_notV (evd_ixM (d := .bool s) rfl evd_int (at_nat (j := 0) rfl))) ?_
  · rw [List.length_map, List.length_cons]
    omega
  refine ok_seal (i := 1) rfl ?_
  have hd : (s :: r).map PyData.bool ++ [PyData.bool (!s)] = (sgx s r).map PyData.bool := by
    unfold sgx
    rw [List.map_cons, List.map_cons, List.map_append]
    rfl
  have hx : ∀ {τ : List Sl} {te : TE} {k : Nat}, τ[1]? = some (.dat (.list ((s :: r).map PyData.bool ++ [PyData.bool (!s)]))) → EvD te τ (iD k) → k < o.length + 1 → EvD (tOp (rIxL K) (tVar 1) te) τ (.bool ((sgx s r).getD k true)) := fun {τ te k} h he hk => by
    rw [hd] at h
    refine evd_op (evd_dat h) he (rd_ixL (at_mapN ?_))
    have hl : k < (sgx s r).length := by
      unfold sgx
      rw [List.length_cons, List.length_append, List.length_singleton]
      omega
    rw [List.getD_eq_getElem?_getD, List.getElem?_eq_getElem hl]
    rfl
  refine ok_ret (evd_cast (evd_lc0 iD (fun k => PyData.int (2 - (if ((sgx s r).getD k true != (sgx s r).getD (k + 1) true) = true then 1 else 0))) (xs := List.range o.length) (itd_r1 (eva_cons (evd_N (evd_cb (eva_cons (evd_dat rfl) eva_nil) (rc_len (.inr rfl))) (by rw [List.length_map])) eva_nil) (by omega)) (by rw [List.length_range]; omega) fun k hk => ⟨_, tgd_name, evd_op evd_int (evd_cb (eva_cons (evd_op (hx rfl (evd_dat rfl) ?_) (hx (k := k + 1) rfl (evd_I (evd_op (evd_dat rfl) evd_int rd_ii) rfl) ?_) rd_neB) eva_nil) rc_intB) rd_ii⟩) ?_) rfl
  · have := List.mem_range.mp hk
    omega
  · have := List.mem_range.mp hk
    omega
  · rw [steps_alt hsr]
abbrev _law_by_steps_names : List Str := ["_law_order", "_law_steps_here", "_law_half", "_law_places", "_law_at", "_law_k", "_law_place", "_law_row", "_law_player"]
abbrev _law_by_steps_st : Stmt := topS 31
theorem sc__law_by_steps : FnScope _law_by_steps_names ["_law_order", "_law_steps_here"] (defScope _law_by_steps_st) := ⟨rfl, rfl, rfl, by decide +kernel, rfl, by decide +kernel, by decide +kernel⟩

def R__law_by_steps (ds : List PyData) (d : PyData) : Prop := ∃ (o : Ord) (st : List Nat), ds = [oD o, .list (st.map iD)] ∧ Perm0 o ∧ 1 ≤ o.length ∧ o.length ≤ 8 ∧ st.length = o.length ∧ 0 < st.sum ∧ d = .tuple [iD st.sum, .list ((List.range o.length).map fun p => iD (placeO o st p))]
theorem take_sum {st : List Nat} {i x : Nat} (h : st[i]? = some x) : (st.take (i + 1)).sum = (st.take i).sum + x := by
  rw [List.take_add_one, h, List.sum_append]
  simp
theorem ca__law_by_steps (T : Tx mg tk) (A : At K mg "_law_by_steps" _law_by_steps_st ["_law_order", "_law_steps_here"]) : Ca P w K mg base 1 "_law_by_steps" (SpP R__law_by_steps) := by
  refine ca_pure A sc__law_by_steps (fun ds d ⟨_, _, h, _⟩ => by rw [h]; rfl) (fun f cdv A outer s H E hr => ?_)
  refine ⟨_, (pss_cons (ps_set (i := 2) sc__law_by_steps.nd rfl (by first | exact Or.inl rfl | exact Or.inr rfl) (pe_callB (cr_sumK K rfl rfl) (by rfl) T.n_sum (by decide +kernel) (pa_cons (pv 1) pa_nil)))
      (pss_cons (ps_set (i := 3) sc__law_by_steps.nd rfl (by first | exact Or.inl rfl | exact Or.inr rfl) pe_dnewK)
      (pss_cons (ps_set (i := 4) sc__law_by_steps.nd rfl (by first | exact Or.inl rfl | exact Or.inr rfl) pe_int)
      (pss_cons (ps_for PassesOwn.never rfl (pi_range1 (by rfl) T.n_range (pa_cons (pe_callB (call_lenK K rfl) (by rfl) T.n_len (by decide +kernel) (pa_cons (pv 0) pa_nil)) pa_nil)) (pg_name (i := 5) sc__law_by_steps.nd rfl (by first | exact Or.inl rfl | exact Or.inr rfl))
        (pss_cons (ps_set (i := 6) sc__law_by_steps.nd rfl (by first | exact Or.inl rfl | exact Or.inr rfl) (pv 4))
        (pss_cons (ps_if (pt_not (pt_val (pe_ix (ix_tupK K rfl) (pe_ix (ix_tupK K rfl) (pv 0) (pv 5) (fun _ _ => rfl)) pe_int (fun _ _ => rfl))))
          (pss_one (ps_set (i := 6) sc__law_by_steps.nd rfl (by first | exact Or.inl rfl | exact Or.inr rfl) (pe_op op_add (pv 4) (pv 2))))
          pss_nil)
        (pss_cons (ps_dput (hu_of hr) (pv 3) (pe_ix (ix_tupK K rfl) (pe_ix (ix_tupK K rfl) (pv 0) (pv 5) (fun _ _ => rfl)) pe_int (fun _ _ => rfl)) (pv 6) rfl)
        (pss_one (ps_set (i := 4) sc__law_by_steps.nd rfl (by first | exact Or.inl rfl | exact Or.inr rfl) (pe_op op_add (pv 4) (pe_ix (ix_listK K rfl) (pv 1) (pv 5) (fun _ _ => rfl)))))))))
      (pss_cons (ps_set (i := 7) sc__law_by_steps.nd rfl (by first | exact Or.inl rfl | exact Or.inr rfl) (pe_lst pa_nil))
      (pss_cons (ps_for PassesOwn.never rfl (pi_range1 (by rfl) T.n_range (pa_cons (pe_callB (call_lenK K rfl) (by rfl) T.n_len (by decide +kernel) (pa_cons (pv 0) pa_nil)) pa_nil)) (pg_name (i := 8) sc__law_by_steps.nd rfl (by first | exact Or.inl rfl | exact Or.inr rfl))
        (pss_cons (ps_set (i := 6) sc__law_by_steps.nd rfl (by first | exact Or.inl rfl | exact Or.inr rfl) (pe_op op_mod (pe_callTy call_int1 (by rfl) T.n_int (by decide +kernel) (pa_cons (pe_dget (hu_of hr) (pv 3) (pv 8) (fun _ _ => rfl)) pa_nil)) (pe_op op_mul pe_int (pv 2))))
        (pss_one (ps_expr (pe_bm PySem.F.plainAttrs_list PySem.F.slot_list_append PySem.F.type_list_append mt_append (pv 7) (pa_cons (pv 6) pa_nil))))))
      (pss_one (ps_ret (pe_tup (pa_cons (pv 2) (pa_cons (pv 7) pa_nil))))))))))), ?_⟩
  rintro ds d ⟨o, st, rfl, hp, h1, h8, hst, hpos, rfl⟩
  refine sq_asg (d := iD st.sum) (evd_cast (evd_cb (eva_cons (evd_cast (evd_dat rfl) (congrArg PyData.list (ints_iD st))) eva_nil) rc_sum) (congrArg PyData.int (sum_cast st))) ?_
  refine ok_seq (N1 := (· = [.dat (oD o), .dat (.list (st.map iD)), .dat (iD st.sum), .dic (kvsO o st 0), .un, .un, .un, .un, .un])) (ok_newD rfl) fun τ' e => ?_
  subst e
  refine sq_asg (d := iD (st.take 0).sum) evd_int ?_
  refine sq_for (itd_r1 (n := o.length) (eva_cons (evd_N (evd_cb (eva_cons (evd_dat rfl) eva_nil) (rc_len (.inr rfl))) (by rw [List.length_map])) eva_nil) (by omega)) (fun i τ' => ∃ s5 s6 : Sl, τ' = [.dat (oD o), .dat (.list (st.map iD)), .dat (iD st.sum), .dic (kvsO o st i), .dat (iD (st.take i).sum), s5, s6, .un, .un]) ⟨.un, .un, rfl⟩ (fun i x τ' hx hI => ?_) fun τ' hI => ?_
  · obtain ⟨s5, s6, rfl⟩ := hI
    obtain ⟨hi, rfl⟩ := rngGet hx
    have ho : o[i]? = some (o[i].1, o[i].2) := List.getElem?_eq_getElem hi
    have hsti : st[i]? = some st[i] := List.getElem?_eq_getElem (by omega)
    obtain ⟨hk1, hk2⟩ := getD_O ho
    refine ⟨_, _, tgd_name, ?_⟩
    refine sq_asg (d := iD (st.take i).sum) (evd_dat rfl) ?_
    refine ok_seq (N1 := (· = [.dat (oD o), .dat (.list (st.map iD)), .dat (iD st.sum), .dic (kvsO o st i), .dat (iD (st.take i).sum), .dat (iD i), .dat (iD (valO o st i)), .un, .un])) (ok_if (evt_not (evt_B (evd_op (evd_op (evd_dat rfl) (evd_dat rfl) (rd_ixT (at_mapN ho))) evd_int (rd_ixT (d := .bool o[i].2) (at_nat (j := 1) rfl))))) (fun h => ?_) fun h => ?_) fun τ' e => ?_
    · have hb : o[i].2 = false := by
        cases q : o[i].2 with
        | false => rfl
        | true =>
          rw [q] at h
          cases h
      refine ok_asg (d := iD (valO o st i)) (evd_N (evd_op (evd_dat rfl) (evd_dat rfl) rd_ii) ?_) rfl
      unfold valO
      rw [hk2, hb]
      show ((st.take i).sum : Int) + (st.sum : Int) = (((st.take i).sum + st.sum : Nat) : Int)
      omega
    · have hb : o[i].2 = true := by
        cases q : o[i].2 with
        | true => rfl
        | false =>
          rw [q] at h
          cases h
      have hv : valO o st i = (st.take i).sum := by
        unfold valO
        rw [hk2, hb]
        exact Nat.add_zero _
      refine ok_next ?_
      rw [hv]
      rfl
    · subst e
      refine ok_seq (N1 := (· = [.dat (oD o), .dat (.list (st.map iD)), .dat (iD st.sum), .dic (kvsO o st (i + 1)), .dat (iD (st.take i).sum), .dat (iD i), .dat (iD (valO o st i)), .un, .un])) (ok_dput (a := (keyO o i : Int)) (z := (valO o st i : Int)) rfl ?_ (evd_dat rfl) (evd_op (evd_op (evd_dat rfl) (evd_dat rfl) (rd_ixT (at_mapN ho))) evd_int (rd_ixT (at_nat (j := 0) (by rw [hk1]; rfl)))) ?_ ?_) fun τ' e => ?_
      · unfold kvsO
        rw [List.length_map, List.length_range]
        omega
      · rw [hk1]
        exact kvs_new hp st ho
      · rw [kvs_succ]
        rfl
      · subst e
        refine ok_asg (d := iD (st.take (i + 1)).sum) (evd_N (evd_op (evd_dat rfl) (evd_op (evd_dat rfl) (evd_dat rfl) (rd_ixL (at_mapN hsti))) rd_ii) ?_) ⟨.dat (iD i), .dat (iD (valO o st i)), rfl⟩
        rw [take_sum hsti]
        omega
  · obtain ⟨s5, s6, rfl⟩ := hI
    rw [List.length_map, List.length_range]
    refine sq_asgF (ds := []) (evf_lst eva_nil (by decide)) ?_
    refine sq_for (itd_r1 (n := o.length) (eva_cons (evd_N (evd_cb (eva_cons (evd_dat rfl) eva_nil) (rc_len (.inr rfl))) (by rw [List.length_map])) eva_nil) (by omega)) (fun i τ' => ∃ s6 s8 : Sl, i ≤ o.length ∧ τ' = [.dat (oD o), .dat (.list (st.map iD)), .dat (iD st.sum), .dic (kvsO o st o.length), .dat (iD (st.take o.length).sum), s5, s6, .lst ((List.range i).map fun p => iD (placeO o st p)), s8]) ⟨s6, .un, Nat.zero_le _, rfl⟩ (fun i x τ' hx hI => ?_) fun τ' hI => ?_
    · obtain ⟨s6, s8, _, rfl⟩ := hI
      obtain ⟨hi, rfl⟩ := rngGet hx
      refine ⟨_, _, tgd_name, ?_⟩
      obtain ⟨s, hs⟩ := posO_at hp hi
      refine sq_asg (d := iD (placeO o st i)) (evd_N (evd_op (evd_cb (eva_cons (evd_dget (z := (valO o st (posO o i) : Int)) rfl (evd_dat rfl) (kvs_find hp st hs)) eva_nil) rc_int) (evd_op evd_int (evd_dat rfl) (rd_ic (C := CMul) (.inl ⟨by decide, by decide⟩))) (rd_ic ?_)) ?_) ?_
      · show (0 : Int) < 2 * (st.sum : Int)
        omega
      · unfold placeO plAt valO
        rfl
      · refine ok_app (ds := (List.range i).map fun p => iD (placeO o st p)) rfl ?_ (d := iD (placeO o st i)) (evd_dat rfl) ⟨.dat (iD (placeO o st i)), .dat (iD i), hi, ?_⟩
        · rw [List.length_map, List.length_range]
          omega
        · rw [List.range_succ, List.map_append]
          rfl
    · obtain ⟨s6, s8, _, rfl⟩ := hI
      rw [List.length_map, List.length_range]
      refine ok_seal (i := 7) rfl ?_
      exact ok_ret (evd_tup (eva_cons (evd_dat rfl) (eva_cons (evd_dat rfl) eva_nil)) (Nat.le_of_ble_eq_true rfl)) rfl
abbrev _law_all_places_names : List Str := ["_law_ring", "_law_many", "_law_found", "_law_player", "_law_longer", "_law_places", "_law_place"]
abbrev _law_all_places_st : Stmt := topS 32
theorem sc__law_all_places : FnScope _law_all_places_names ["_law_ring", "_law_many"] (defScope _law_all_places_st) := ⟨rfl, rfl, rfl, by decide +kernel, rfl, by decide +kernel, by decide +kernel⟩

def R__law_all_places (ds : List PyData) (d : PyData) : Prop := ∃ r m : Nat, ds = [iD r, iD m] ∧ r < 6 ∧ 1 ≤ m ∧ m ≤ 4 ∧ d = .list ((allP r (m - 1)).map rowD)
theorem ca__law_all_places (T : Tx mg tk) (A : At K mg "_law_all_places" _law_all_places_st ["_law_ring", "_law_many"]) : Ca P w K mg base 1 "_law_all_places" (SpP R__law_all_places) := by
  refine ca_pure A sc__law_all_places (fun ds d ⟨_, _, h, _⟩ => by rw [h]; rfl) (fun f cdv A outer s H E hr => ?_)
  refine ⟨_, (pss_cons (ps_set (i := 2) sc__law_all_places.nd rfl (by first | exact Or.inl rfl | exact Or.inr rfl) (pe_lst (pa_cons (pe_tup (pa_cons pe_int pa_nil)) pa_nil)))
      (pss_cons (ps_for PassesOwn.never rfl (pi_range2 (by rfl) T.n_range (pa_cons pe_int (pa_cons (pv 1) pa_nil))) (pg_name (i := 3) sc__law_all_places.nd rfl (by first | exact Or.inl rfl | exact Or.inr rfl))
        (pss_cons (ps_set (i := 4) sc__law_all_places.nd rfl (by first | exact Or.inl rfl | exact Or.inr rfl) (pe_lst pa_nil))
        (pss_cons (ps_for PassesOwn.never rfl (pi_list (pv 2)) (pg_name (i := 5) sc__law_all_places.nd rfl (by first | exact Or.inl rfl | exact Or.inr rfl))
          (pss_one (ps_set (i := 4) sc__law_all_places.nd rfl (by first | exact Or.inl rfl | exact Or.inr rfl) (pe_op op_cat (pv 4) (pe_lc (own := [("_law_place", 6)]) (by rfl) sc__law_all_places.nd (pi_range1 (by rfl) T.n_range (pa_cons (pv 0) pa_nil)) (blkOk_by (own := [("_law_place", 6)]) (N := _law_all_places_names) (sc := defScope _law_all_places_st) (by decide +kernel)) (fun _ _ _ _ _ => (pg_name (i := 6) sc__law_all_places.nd rfl (by first | exact Or.inl rfl | exact Or.inr rfl))) (fun _ _ _ _ _ => (pts_one (pt_cmpR (op_notInK K rfl) (pv 6) (pv 5) (by rfl)))) (fun _ _ _ _ _ => (pe_op (op_catK K rfl) (pv 5) (pe_tup (pa_cons (pv 6) pa_nil)))))))))
        (pss_one (ps_set (i := 2) sc__law_all_places.nd rfl (by first | exact Or.inl rfl | exact Or.inr rfl) (pv 4))))))
      (pss_one (ps_ret (pv 2))))), ?_⟩
  rintro ds d ⟨r, m, rfl, hr, h1, h4, rfl⟩
  refine sq_asg (d := .list ((allP r 0).map rowD)) (evd_lst (eva_cons (evd_tup (eva_cons evd_int eva_nil) (Nat.le_of_ble_eq_true rfl)) eva_nil) (Nat.le_of_ble_eq_true rfl)) ?_
  refine sq_for (itd_r2 (a := 1) (n := m) (eva_cons evd_int (eva_cons (evd_dat rfl) eva_nil)) (by omega) (by omega)) (fun i τ' => ∃ s3 s4 s5 : Sl, τ' = [.dat (iD r), .dat (iD m), .dat (.list ((allP r i).map rowD)), s3, s4, s5, .un]) ⟨.un, .un, .un, rfl⟩ (fun i x τ' hx hI => ?_) fun τ' hI => ?_
  · obtain ⟨s3, s4, s5, rfl⟩ := hI
    rw [List.map_map] at hx
    obtain ⟨hi, ex⟩ := rngGet hx
    have ex : x = iD (1 + i) := ex
    subst ex
    have hsm := allP_small r hr i (by omega)
    refine ⟨_, _, tgd_name, ?_⟩
    refine sq_asg (d := .list []) (evd_lst eva_nil (Nat.le_of_ble_eq_true rfl)) ?_
    refine sq_for (itd_list (evd_dat rfl)) (fun j τ' => ∃ s5 : Sl, τ' = [.dat (iD r), .dat (iD m), .dat (.list ((allP r i).map rowD)), .dat (iD (1 + i)), .dat (.list ((longP r ((allP r i).take j)).map rowD)), s5, .un]) ⟨s5, rfl⟩ (fun j y τ' hy hI => ?_) fun τ' hI => ?_
    · obtain ⟨s5, rfl⟩ := hI
      rw [List.getElem?_map] at hy
      cases q : (allP r i)[j]? with
      | none =>
        rw [q] at hy
        cases hy
      | some ps =>
        rw [q] at hy
        have ey : rowD ps = y := Option.some.inj hy
        subst ey
        have hplen : ps.length ≤ 99999 := by
          have : ∀ k, ∀ ps ∈ allP r k, ps.length = k + 1 := by
            intro k
            induction k with
            | zero =>
              intro ps h
              rw [List.mem_singleton.mp h]
              rfl
            | succ k ih =>
              intro ps h
              obtain ⟨qs, hq, h2⟩ := List.mem_flatMap.mp h
              obtain ⟨z, _, rfl⟩ := List.mem_map.mp h2
              rw [List.length_append, List.length_singleton, ih qs hq]
          have := this i ps (List.mem_of_getElem? q)
          omega
        refine ⟨_, _, tgd_name, ?_⟩
        refine ok_asg (d := .list ((longP r ((allP r i).take (j + 1))).map rowD)) (evd_cast (evd_op (evd_dat rfl) (evd_lc (xs := List.range r) iD (fun x => !decide (x ∈ ps)) (fun x => rowD (ps ++ [x])) (itd_r1 (eva_cons (evd_dat rfl) eva_nil) (by omega)) (by rw [List.length_range]; omega) fun z hz => ⟨_, tgd_name, evt_cast (evt_test (evd_op (evd_dat rfl) (evd_dat rfl) (rd_notIn (ns := ps.map fun k : Nat => (k : Int)) (.inr (rowD_ints ps))))) ?_, fun _ => evd_cast (evd_op (evd_dat rfl) (evd_tup (eva_cons (evd_dat rfl) eva_nil) (Nat.le_of_ble_eq_true rfl)) (rd_catT ?_)) ?_⟩) (rd_catL ?_)) ?_) ⟨.dat (rowD ps), rfl⟩
        · rw [decide_eq_decide.mpr (mem_cast z ps)]
        · rw [List.length_map]
          show ps.length + 1 ≤ 100000
          omega
        · unfold rowD
          rw [List.map_append]
          rfl
        · rw [List.length_map, List.length_map]
          have b1 := longP_len r ((allP r i).take j)
          have b2 : ((allP r i).take j).length ≤ 125 := by
            rw [List.length_take]
            have := Nat.min_le_right j (allP r i).length
            omega
          have b3 : ((allP r i).take j).length * r ≤ 125 * 6 := Nat.mul_le_mul b2 (by omega)
          have b4 := List.length_filter_le (fun x => !decide (x ∈ ps)) (List.range r)
          rw [List.length_range] at b4
          omega
        · rw [List.take_add_one, q]
          show _ = PyData.list ((longP r ((allP r i).take j ++ [ps])).map rowD)
          rw [longP_snoc, List.map_append]
          unfold extP
          rw [List.map_map]
          rfl
    · obtain ⟨s5, rfl⟩ := hI
      rw [List.length_map, List.take_length]
      exact ok_asg (evd_dat rfl) ⟨_, _, _, rfl⟩
  · obtain ⟨s3, s4, s5, rfl⟩ := hI
    rw [List.length_map, List.length_map, List.length_range]
    exact ok_ret (evd_dat rfl) rfl
end
end Rb

/-! part RbMath3 -/
/-! the law's mathematics -/
namespace Rb
theorem sgs_ord (n : Nat) (b : Nat → Nat → Bool) : ∃ l, sgs (ordOf n b) = true :: l := ⟨_, rfl⟩
section
variable {n : Nat} {b : Nat → Nat → Bool} {o : Ord}
theorem told_sg (h1 : 1 ≤ n) (h8 : n ≤ 8) (h : toldOf n b = some o) : ∃ l, sgs o = true :: l ∧ l.length ≤ 7 ∧ l.length + 1 = n := by
  obtain ⟨e, hl, _, _⟩ := told_len h1 h
  subst e
  obtain ⟨l, e⟩ := sgs_ord n b
  have hs : (sgs (ordOf n b)).length = n := by
    unfold sgs
    rw [List.length_map, hl]
  rw [e, List.length_cons] at hs
  exact ⟨l, e, by omega, hs⟩
theorem told_ring (h1 : 1 ≤ n) (h8 : n ≤ 8) (h : toldOf n b = some o) : (stepsO o).sum % 2 = 1 ∧ (stepsO o).sum ≤ 2 * n - 1 ∧ 1 ≤ (stepsO o).sum := by
  obtain ⟨l, e, hl, hn⟩ := told_sg h1 h8 h
  unfold stepsO
  rw [e, ← hn]
  exact steps_odd hl
theorem ringAt_lo {k : Nat} {e : Nat × Bool} (h : o[k]? = some e) : ringAt o k = e := by
  unfold ringAt
  rw [List.getD_eq_getElem?_getD, List.getElem?_append_left (List.getElem?_eq_some_iff.mp h).1, h]
  rfl
theorem ringAt_hi {k : Nat} {e : Nat × Bool} (h : o[k]? = some e) : ringAt o (o.length + k) = flipO e := by
  unfold ringAt
  rw [List.getD_eq_getElem?_getD, List.getElem?_append_right (by omega), Nat.add_sub_cancel_left, List.getElem?_map, h]
  rfl
theorem turn_there (hp : Perm0 o) {p : Nat} (h : p < o.length) (s : Bool) : ∃ a, ((List.range (o.length + o.length)).filter fun a => decide (ringAt o a = (p, s)))[0]? = some a ∧ a < o.length + o.length := by
  obtain ⟨k, t, hk⟩ := perm0_at hp h
  have hkl := (List.getElem?_eq_some_iff.mp hk).1
  have : ∃ a, a ∈ (List.range (o.length + o.length)).filter fun a => decide (ringAt o a = (p, s)) := by
    by_cases e : t = s
    · subst e
      exact ⟨k, List.mem_filter.mpr ⟨List.mem_range.mpr (by omega), decide_eq_true (ringAt_lo hk)⟩⟩
    · refine ⟨o.length + k, List.mem_filter.mpr ⟨List.mem_range.mpr (by omega), decide_eq_true ?_⟩⟩
      rw [ringAt_hi hk]
      unfold flipO
      congr 1
      cases t <;> cases s <;> first | rfl | exact absurd rfl e
  obtain ⟨a, ha⟩ := this
  cases q : (List.range (o.length + o.length)).filter fun a => decide (ringAt o a = (p, s)) with
  | nil =>
    rw [q] at ha
    cases ha
  | cons c r =>
    refine ⟨c, rfl, ?_⟩
    have : c ∈ (List.range (o.length + o.length)).filter fun a => decide (ringAt o a = (p, s)) := by
      rw [q]
      exact List.mem_cons_self
    exact List.mem_range.mp (List.mem_filter.mp this).1
theorem turn_sum (h1 : 1 ≤ n) (h8 : n ≤ 8) (h : toldOf n b = some o) {a : Nat} (ha : a < o.length + o.length) : (stepsO (turnL flipO o a)).sum = (stepsO o).sum := by
  obtain ⟨l, e, hl, hn⟩ := told_sg h1 h8 h
  have hol : o.length = n := (told_len h1 h).2.1
  unfold stepsO
  have e2 : sgs (turnL flipO o a) = turnL (!·) (sgs o) a := turnL_map flipO (!·) (·.2) (fun _ => rfl) o a
  rw [e2, e]
  exact turns_sum hl (by omega)
/-! places -/
def halfs (o : Ord) (st : List Nat) : List Int := (List.range o.length).map fun p => (placeO o st p : Int) / 2
theorem halfs_len (o : Ord) (st : List Nat) : (halfs o st).length = o.length := by
  unfold halfs
  rw [List.length_map, List.length_range]
theorem halfs_get {st : List Nat} {i : Nat} (h : i < o.length) : (halfs o st).getD i 0 = (placeO o st i : Int) / 2 := by
  unfold halfs
  rw [List.getD_eq_getElem?_getD, List.getElem?_map, List.getElem?_range h]
  rfl
theorem posO_lt (hp : Perm0 o) {i : Nat} (h : i < o.length) : posO o i < (sgs o).length := by
  obtain ⟨s, hs⟩ := posO_at hp h
  unfold sgs
  rw [List.length_map]
  exact (List.getElem?_eq_some_iff.mp hs).1
theorem place_even (hp : Perm0 o) {st : List Nat} (ok : okPl (sgs o) st = true) {i : Nat} (h : i < o.length) : placeO o st i % 2 = 0 := (okPl_of ok (posO_lt hp h)).1
theorem place_rel (hp : Perm0 o) {st : List Nat} (ok : okPl (sgs o) st = true) : rowsOf o.length (ofPl (st.sum : Int) (halfs o st)) = tourBy o := by
  unfold tourBy
  refine rowsOf_eq.mpr fun i j hi hj => ?_
  unfold ofPl
  rw [halfs_get hi, halfs_get hj]
  obtain ⟨s, hs⟩ := posO_at hp hi
  obtain ⟨t, ht⟩ := posO_at hp hj
  rw [byO_at hp hs ht]
  unfold placeO
  rw [(okPl_of ok (posO_lt hp hi)).2 _ (posO_lt hp hj), (getD_O hs).2, (getD_O ht).2]
theorem ok_steps (h1 : 1 ≤ n) (h8 : n ≤ 8) (h : toldOf n b = some o) : okPl (sgs o) (stepsO o) = true ∧ okPl (sgs o) (wide (stepsO o)) = true := by
  obtain ⟨l, e, hl, hn⟩ := told_sg h1 h8 h
  unfold stepsO
  rw [e]
  exact ⟨okPl_steps hl, okPl_wide hl⟩
theorem wide_len : ∀ st : List Nat, (wide st).length = st.length
  | [] => rfl
  | _ :: _ => rfl
theorem wide_sum : ∀ {st : List Nat}, 0 < st.length → (wide st).sum = st.sum + 2
  | [], h => by simp at h
  | x :: r, _ => by
    show ((x + 2) :: r).sum = (x :: r).sum + 2
    rw [List.sum_cons, List.sum_cons]
    omega
end
/-! lesser rings -/
theorem told_congr {n : Nat} {b c : Nat → Nat → Bool} (h1 : 1 ≤ n) (h : rowsOf n b = rowsOf n c) : toldOf n b = toldOf n c := by
  have hr := rowsOf_eq.mp h
  have hsg : ∀ q, q < n → sg b q = sg c q := fun q hq => by
    unfold sg
    rw [hr 0 q (by omega) hq]
  have hah : ∀ p, p < n → ahd n b p = ahd n c p := fun p hp => List.filter_congr fun q hq => by
    have hq' := oth_lt hq
    rw [hr p q hp hq', hsg p hp, hsg q hq']
  have hpl : plc n b = plc n c := List.map_congr_left fun p hp => by
    obtain ⟨k, hk, rfl⟩ := List.mem_map.mp hp
    have := List.mem_range.mp hk
    rw [hah (1 + k) (by omega)]
  have hor : ordOf n b = ordOf n c := by
    unfold ordOf
    rw [hpl]
    congr 1
    exact List.map_congr_left fun e he => by rw [hsg e.2 (srt_lt he)]
  unfold toldOf
  rw [hor, h]
def lessOk (r n : Nat) : Bool := (allP r (n - 1)).all fun ps => match toldOf n (ofPl (r : Int) (ps.map fun k : Nat => (k : Int))) with
  | some o => decide ((stepsO o).sum ≤ r)
  | none => false
theorem less_all : ([1, 3, 5].all fun r => [1, 2, 3, 4].all fun n => decide (r < n) || lessOk r n) = true := by decide +kernel
theorem allP_len {r : Nat} : ∀ k, ∀ ps ∈ allP r k, ps.length = k + 1
  | 0, ps, h => by
    rw [List.mem_singleton.mp h]
    rfl
  | k + 1, ps, h => by
    obtain ⟨qs, hq, h2⟩ := List.mem_flatMap.mp h
    obtain ⟨z, _, rfl⟩ := List.mem_map.mp h2
    rw [List.length_append, List.length_singleton, allP_len k qs hq]
theorem less_ne {r n : Nat} {b : Nat → Nat → Bool} (hr : r = 1 ∨ r = 3 ∨ r = 5) (h1 : 1 ≤ n) (h4 : n ≤ 4) (hrn : n ≤ r) (ht : ∀ o, toldOf n b = some o → r < (stepsO o).sum) {ps : List Nat} (hp : ps ∈ allP r (n - 1)) :
    rowsOf n (ofPl (r : Int) (ps.map fun k : Nat => (k : Int))) ≠ rowsOf n b := fun z => by
  have q := List.all_eq_true.mp (List.all_eq_true.mp less_all r (by rcases hr with e | e | e <;> subst e <;> decide)) n (by
    have : n = 1 ∨ n = 2 ∨ n = 3 ∨ n = 4 := by omega
    rcases this with e | e | e | e <;> subst e <;> decide)
  rw [Bool.or_eq_true, decide_eq_true_iff] at q
  rcases q with q | q
  · omega
  · have q2 := List.all_eq_true.mp q ps hp
    rw [told_congr h1 z] at q2
    cases w : toldOf n b with
    | none =>
      rw [w] at q2
      cases q2
    | some o =>
      rw [w] at q2
      have := of_decide_eq_true q2
      have := ht o w
      omega
end Rb

/-! part RbD10 -/
namespace Rb
open PySem PySem.Spec PyProof.Rows L2
open Evl (Ex)

theorem two_of {a c x : PyData} {i : Nat} (h : [a, c][i]? = some x) : x = a ∨ x = c := by
  rcases i with _ | _ | i
  · exact .inl (Option.some.inj h).symm
  · exact .inr (Option.some.inj h).symm
  · simp at h
theorem three_of {a c e x : PyData} {i : Nat} (h : [a, c, e][i]? = some x) : x = a ∨ x = c ∨ x = e := by
  rcases i with _ | _ | _ | i
  · exact .inl (Option.some.inj h).symm
  · exact .inr (.inl (Option.some.inj h).symm)
  · exact .inr (.inr (Option.some.inj h).symm)
  · simp at h
theorem halfs_ints (o : Ord) (st : List Nat) : (List.range o.length).map (fun p => PyData.int ((placeO o st p : Int) / 2)) = (halfs o st).map PyData.int := by
  unfold halfs
  rw [List.map_map]
  rfl

theorem Ok.run {t : TS} {τ : List Sl} {N : List Sl → Prop} {R : List Sl → PyData → Prop} {G0 H0 : Hp} {σ : L2.St} {H : Hp} {D : Ends} (h : Ok t τ N R) (s : Stx G0 H0 τ σ H) (n : ∀ τ' σ' H', N τ' → Stx G0 H0 τ' σ' H' → D.nx σ' H') (r : ∀ τ' d v σ' ows' G' H', R τ' d → Sta G0 H0 τ' σ' ows' G' H' → Rp G' v d → D.rt v H') : t D σ H := h G0 H0 σ H D s n r

section
variable {P : Program} {w : World} {K : PySem.W.Frag} {mg : Str → Option Value} {base : Heap} {tk : Tok}

abbrev _law_stream_names : List Str := ["_law_script"]
abbrev _law_stream_st : Stmt := topS 22
theorem sc__law_stream : FnScope _law_stream_names ["_law_script"] (defScope _law_stream_st) := ⟨rfl, rfl, rfl, by decide +kernel, rfl, by decide +kernel, by decide +kernel⟩

def SpSt (K : PySem.W.Frag) : Sp := fun vs H Q _ => ∃ (a : Addr) (ns : List Int), vs = [.ref a] ∧ SqL K H a (ns.map V.int) ∧
  ∀ l p, H l = none → upd H l (.lst (ns.map V.int)) p = none → Q (.ref p) (upd (upd H l (.lst (ns.map V.int))) p (.lst [.ref l, .int 0, .int 0]))
theorem ca__law_stream (T : Tx mg tk) (A : At K mg "_law_stream" _law_stream_st ["_law_script"]) : Ca P w K mg base 1 "_law_stream" (SpSt K) := by
  obtain ⟨f, fd, F, hm, b⟩ := A.ex
  refine ⟨f, fd, _, F.ok sc__law_stream (fun vs H Q E h => ?_) (fun cdv A outer s H vs Q E hr h => ?_), hm, F.kp, b⟩
  · obtain ⟨a, ns, rfl, _⟩ := h
    rfl
  · obtain ⟨a, ns, rfl, hS, q⟩ := h
    refine ⟨_, (pss_one (ps_ret (pe_lst (pa_cons (pe_callTy call_list_of (by rfl) T.n_list (by decide +kernel) (pa_cons (pv 0) pa_nil)) (pa_cons pe_int (pa_cons pe_int pa_nil)))))), ?_⟩
    exact ⟨.ref a, rfl, a, ns.map V.int, rfl, .inl hS, fun l hl => ⟨by show 3 ≤ sizeLine; decide, fun p hp => q l p hl hp⟩⟩
abbrev law_names : List Str := ["_law_script", "_law_stream_here", "_law_small", "_law_large", "_law_tournament", "_law_told", "_law_ring", "_law_steps_here", "_law_player", "_law_half", "_law_row", "_law_wide", "_law_least", "_law_lesser", "_law_place", "_law_places"]
abbrev law_st : Stmt := topS 33
theorem sc_law : FnScope law_names ["_law_script"] (defScope law_st) := ⟨rfl, rfl, rfl, by decide +kernel, rfl, by decide +kernel, by decide +kernel⟩

def spLaw (K : PySem.W.Frag) : Sp := fun vs H Q _ => ∃ (a : Addr) (ns : List Int), vs = [.ref a] ∧ SqL K H a (ns.map V.int) ∧ ns.length ≤ 63 ∧ ∀ H', Q (.bl true) H'
set_option maxHeartbeats 4000000 in
theorem ok_law (T : Tx mg tk) {f : Addr} {fd : FuncData} (F : Fun K "law" "law" law_st f fd) (C__law_stream : Ca P w K mg base 1 "_law_stream" (SpSt K)) (C__law_next : Ca P w K mg base 1 "_law_next" (SpS Pre__law_next R__law_next)) (C__law_some : Ca P w K mg base 3 "_law_some" (SpS Pre__law_some R__law_some)) (C__law_circular : Ca P w K mg base 2 "_law_circular" (SpS Pre__law_circular R__law_circular)) (C_told_order : Ca P w K mg base 5 "told_order" (SpP R_told_order)) (C_least_ring : Ca P w K mg base 5 "least_ring" (SpP R_least_ring)) (C_turned_order : Ca P w K mg base 5 "turned_order" (SpP R_turned_order)) (C__law_steps : Ca P w K mg base 1 "_law_steps" (SpP R__law_steps)) (C__law_equal : Ca P w K mg base 2 "_law_equal" (SpP R__law_equal)) (C__law_by_steps : Ca P w K mg base 1 "_law_by_steps" (SpP R__law_by_steps)) (C__law_of_places : Ca P w K mg base 1 "_law_of_places" (SpP R__law_of_places)) (C__law_all_places : Ca P w K mg base 1 "_law_all_places" (SpP R__law_all_places)) : FnOk P w K mg base CX0 6 f fd ["_law_script"] (spLaw K) := by
  refine F.ok sc_law (fun vs H Q E h => ?_) (fun cdv A outer s H vs Q E hr h => ?_)
  · obtain ⟨a, ns, rfl, _⟩ := h
    rfl
  · obtain ⟨a, ns, rfl, hS, hlen, q⟩ := h
    refine ⟨_, (pss_cons (ps_set (i := 1) sc_law.nd rfl (by first | exact Or.inl rfl | exact Or.inr rfl) (pe_ca C__law_stream hr (by decide) (by rfl) (pa_cons (pv 0) pa_nil)))
      (pss_cons (ps_set (i := 2) sc_law.nd rfl (by first | exact Or.inl rfl | exact Or.inr rfl) (pe_ca C__law_some hr (by decide) (by rfl) (pa_cons (pv 1) (pa_cons pe_int pa_nil))))
      (pss_cons (ps_set (i := 3) sc_law.nd rfl (by first | exact Or.inl rfl | exact Or.inr rfl) (pe_ca C__law_circular hr (by decide) (by rfl) (pa_cons (pv 1) (pa_cons (pe_op op_add pe_int (pe_ca C__law_next hr (by decide) (by rfl) (pa_cons (pv 1) (pa_cons pe_int pa_nil)))) pa_nil))))
      (pss_cons (ps_for PassesOwn.never rfl (pi_list (pe_lst (pa_cons (pv 2) (pa_cons (pv 3) pa_nil)))) (pg_name (i := 4) sc_law.nd rfl (by first | exact Or.inl rfl | exact Or.inr rfl))
        (pss_cons (ps_set (i := 5) sc_law.nd rfl (by first | exact Or.inl rfl | exact Or.inr rfl) (pe_ca C_told_order hr (by decide) (by rfl) (pa_cons (pv 4) pa_nil)))
        (pss_cons (ps_set (i := 6) sc_law.nd rfl (by first | exact Or.inl rfl | exact Or.inr rfl) (pe_ca C_least_ring hr (by decide) (by rfl) (pa_cons (pv 4) pa_nil)))
        (pss_one (ps_if (pt_cmpR op_isN (pv 5) pe_non (nomark _))
          (pss_one (ps_if (pt_cmpR op_notN (pv 6) pe_non (nomark _))
            (pss_one (ps_ret pe_bl))
            pss_nil))
          (pss_cons (ps_set (i := 7) sc_law.nd rfl (by first | exact Or.inl rfl | exact Or.inr rfl) (pe_ca C__law_steps hr (by decide) (by rfl) (pa_cons (pv 5) pa_nil)))
          (pss_cons (ps_if (PW.pt (pw_or (pt_not (pt_val (pe_ca C__law_equal hr (by decide) (by rfl) (pa_cons (pv 6) (pa_cons (pe_callB (cr_sumK K rfl rfl) (by rfl) T.n_sum (by decide +kernel) (pa_cons (pv 7) pa_nil)) pa_nil))))) (pw_or (pt_cmpR op_ne (pe_op op_mod (pe_callTy call_int1 (by rfl) T.n_int (by decide +kernel) (pa_cons (pv 6) pa_nil)) pe_int) pe_int (nomark _)) (pw_or1 (pt_cmpR op_gt (pv 6) (pe_op op_sub (pe_op op_mul pe_int (pe_callB (call_lenK K rfl) (by rfl) T.n_len (by decide +kernel) (pa_cons (pv 5) pa_nil))) pe_int) (nomark _))))))
            (pss_one (ps_ret pe_bl))
            pss_nil)
          (pss_cons (ps_set (i := 8) sc_law.nd rfl (by first | exact Or.inl rfl | exact Or.inr rfl) (pe_ca C__law_next hr (by decide) (by rfl) (pa_cons (pv 1) (pa_cons (pe_callB (call_lenK K rfl) (by rfl) T.n_len (by decide +kernel) (pa_cons (pv 5) pa_nil)) pa_nil))))
          (pss_cons (ps_if (pt_cmpR op_ne (pe_callB (cr_sumK K rfl rfl) (by rfl) T.n_sum (by decide +kernel) (pa_cons (pe_ca C__law_steps hr (by decide) (by rfl) (pa_cons (pe_ca C_turned_order hr (by decide) (by rfl) (pa_cons (pv 4) (pa_cons (pv 8) (pa_cons pe_bl pa_nil)))) pa_nil)) pa_nil)) (pv 6) (nomark _))
            (pss_one (ps_ret pe_bl))
            pss_nil)
          (pss_cons (ps_asg (pe_ca C__law_by_steps hr (by decide) (by rfl) (pa_cons (pv 5) (pa_cons (pv 7) pa_nil))) (pg_tupK K rfl (n := 2) rfl (pgs_cons (pg_name (i := 9) sc_law.nd rfl (by first | exact Or.inl rfl | exact Or.inr rfl)) (pgs_cons (pg_name (i := 10) sc_law.nd rfl (by first | exact Or.inl rfl | exact Or.inr rfl)) pgs_nil))))
          (pss_cons (ps_if (PW.pt (pw_or (pt_not (pt_val (pe_callB (cr_allK K rfl rfl) (by rfl) T.n_all (by decide +kernel) (pa_cons (pe_lc (own := [("_law_place", 14)]) (by rfl) sc_law.nd (pi_list (pv 10)) (blkOk_by (own := [("_law_place", 14)]) (N := law_names) (sc := defScope law_st) (by decide +kernel)) (fun _ _ _ _ _ => (pg_name (i := 14) sc_law.nd rfl (by first | exact Or.inl rfl | exact Or.inr rfl))) (fun _ _ _ _ _ => pts_nil) (fun _ _ _ _ _ => (pe_cmpR op_eq (pe_op op_mod (pe_callTy call_int1 (by rfl) T.n_int (by decide +kernel) (pa_cons (pv 14) pa_nil)) pe_int) pe_int (nomark _)))) pa_nil)))) (pw_or1 (pt_cmpR (op_neDK K rfl hr.units) (pe_ca C__law_of_places hr (by decide) (by rfl) (pa_cons (pv 9) (pa_cons (pe_lc (own := [("_law_place", 14)]) (by rfl) sc_law.nd (pi_list (pv 10)) (blkOk_by (own := [("_law_place", 14)]) (N := law_names) (sc := defScope law_st) (by decide +kernel)) (fun _ _ _ _ _ => (pg_name (i := 14) sc_law.nd rfl (by first | exact Or.inl rfl | exact Or.inr rfl))) (fun _ _ _ _ _ => pts_nil) (fun _ _ _ _ _ => (pe_op op_fdiv (pv 14) pe_int))) pa_nil))) (pv 4) (nomark _)))))
            (pss_one (ps_ret pe_bl))
            pss_nil)
          (pss_cons (ps_set (i := 11) sc_law.nd rfl (by first | exact Or.inl rfl | exact Or.inr rfl) (pe_op op_cat (pe_lst (pa_cons (pe_op op_add (pe_ix (ix_listK K rfl) (pv 7) pe_int (fun _ _ => rfl)) pe_int) pa_nil)) (pe_slice (sl_listK K rfl) (pv 7) (po_some pe_int) po_none)))
          (pss_cons (ps_asg (pe_ca C__law_by_steps hr (by decide) (by rfl) (pa_cons (pv 5) (pa_cons (pv 11) pa_nil))) (pg_tupK K rfl (n := 2) rfl (pgs_cons (pg_name (i := 9) sc_law.nd rfl (by first | exact Or.inl rfl | exact Or.inr rfl)) (pgs_cons (pg_name (i := 10) sc_law.nd rfl (by first | exact Or.inl rfl | exact Or.inr rfl)) pgs_nil))))
          (pss_one (ps_if (PW.pt (pw_or (pt_not (pt_val (pe_callB (cr_allK K rfl rfl) (by rfl) T.n_all (by decide +kernel) (pa_cons (pe_lc (own := [("_law_place", 14)]) (by rfl) sc_law.nd (pi_list (pv 10)) (blkOk_by (own := [("_law_place", 14)]) (N := law_names) (sc := defScope law_st) (by decide +kernel)) (fun _ _ _ _ _ => (pg_name (i := 14) sc_law.nd rfl (by first | exact Or.inl rfl | exact Or.inr rfl))) (fun _ _ _ _ _ => pts_nil) (fun _ _ _ _ _ => (pe_cmpR op_eq (pe_op op_mod (pe_callTy call_int1 (by rfl) T.n_int (by decide +kernel) (pa_cons (pv 14) pa_nil)) pe_int) pe_int (nomark _)))) pa_nil)))) (pw_or1 (pt_cmpR (op_neDK K rfl hr.units) (pe_ca C__law_of_places hr (by decide) (by rfl) (pa_cons (pv 9) (pa_cons (pe_lc (own := [("_law_place", 14)]) (by rfl) sc_law.nd (pi_list (pv 10)) (blkOk_by (own := [("_law_place", 14)]) (N := law_names) (sc := defScope law_st) (by decide +kernel)) (fun _ _ _ _ _ => (pg_name (i := 14) sc_law.nd rfl (by first | exact Or.inl rfl | exact Or.inr rfl))) (fun _ _ _ _ _ => pts_nil) (fun _ _ _ _ _ => (pe_op op_fdiv (pv 14) pe_int))) pa_nil))) (pv 4) (nomark _)))))
            (pss_one (ps_ret pe_bl))
            pss_nil)))))))))))))))
      (pss_cons (ps_set (i := 12) sc_law.nd rfl (by first | exact Or.inl rfl | exact Or.inr rfl) (pe_ca C_least_ring hr (by decide) (by rfl) (pa_cons (pv 2) pa_nil)))
      (pss_cons (ps_for PassesOwn.never rfl (pi_list (pe_lst (pa_cons pe_int (pa_cons pe_int (pa_cons pe_int pa_nil))))) (pg_name (i := 13) sc_law.nd rfl (by first | exact Or.inl rfl | exact Or.inr rfl))
        (pss_one (ps_if (PW.pt (pw_and (pt_cmpR op_ge (pv 13) (pe_callB (call_lenK K rfl) (by rfl) T.n_len (by decide +kernel) (pa_cons (pv 2) pa_nil)) (nomark _)) (pw_and1 (PW.pt (pw_or (pt_cmpR op_isN (pv 12) pe_non (nomark _)) (pw_or1 (pt_cmpR op_lt (pv 13) (pv 12) (nomark _))))))))
          (pss_one (ps_if (pt_val (pe_callB (cr_anyK K rfl rfl) (by rfl) T.n_any (by decide +kernel) (pa_cons (pe_lc (own := [("_law_places", 15)]) (by rfl) sc_law.nd (pi_list (pe_ca C__law_all_places hr (by decide) (by rfl) (pa_cons (pv 13) (pa_cons (pe_callB (call_lenK K rfl) (by rfl) T.n_len (by decide +kernel) (pa_cons (pv 2) pa_nil)) pa_nil)))) (blkOk_by (own := [("_law_places", 15)]) (N := law_names) (sc := defScope law_st) (by decide +kernel)) (fun _ _ _ _ _ => (pg_name (i := 15) sc_law.nd rfl (by first | exact Or.inl rfl | exact Or.inr rfl))) (fun _ _ _ _ _ => pts_nil) (fun _ _ _ _ _ => (pe_cmpR (op_eqDK K rfl hr.units) (pe_ca C__law_of_places hr (by decide) (by rfl) (pa_cons (pv 13) (pa_cons (pv 15) pa_nil))) (pv 2) (nomark _)))) pa_nil)))
            (pss_one (ps_ret pe_bl))
            pss_nil))
          pss_nil)))
      (pss_one (ps_ret pe_bl)))))))), ?_⟩
    refine ⟨.ref a, rfl, a, ns, rfl, hS, fun l p hl hp => ?_⟩
    have hnl : l ≠ p := fun z => by
      rw [z, upd_same] at hp
      cases hp
    have hp0 : H p = none := by
      rw [upd_ne hnl.symm] at hp
      exact hp
    have e0 : Ex (fun _ => none) H := fun _ _ z => nomatch z
    have g1 := Go.new (o := .lst (ns.map V.int)) e0 hl
    have g2 := g1.trans (Go.hid (o := .lst [.ref l, .int 0, .int 0]) g1.k hp)
    have st : Stx (fun _ => none) H [.un, .stm p, .un, .un, .un, .un, .un, .un, .un, .un, .un, .un, .un, .un, .un, .un] [some (.ref a), some (.ref p), none, none, none, none, none, none, none, none, none, none, none, none, none, none] (upd (upd H l (.lst (ns.map V.int))) p (.lst [.ref l, .int 0, .int 0])) := by
      refine ⟨[[], [p], [], [], [], [], [], [], [], [], [], [], [], [], [], []], _, g2, ⟨?_, (by simp : [p].Nodup), g2.k, fun b hb => ?_⟩, fun b hb => ?_⟩
      · refine .cons rfl (.cons ⟨rfl, rfl, l, 0, 0, ns, upd_same, by decide, upd_same⟩ ?_)
        exact .cons rfl (.cons rfl (.cons rfl (.cons rfl (.cons rfl (.cons rfl (.cons rfl (.cons rfl (.cons rfl (.cons rfl (.cons rfl (.cons rfl (.cons rfl (.cons rfl .nil)))))))))))))
      · rw [List.mem_singleton.mp hb, upd_ne hnl.symm]
      · rw [List.mem_singleton.mp hb]
        exact hp0
    show tSeq _ _ _ _ _
    refine Ok.run (N := fun _ => False) (R := fun _ d => d = .bool true) ?_ st (fun _ _ _ z => z.elim) fun τ' d v σ' ows' G' H' hd z pv => ?_
    rotate_left
    · subst hd
      rw [pv.bl_inv]
      exact q H'
    clear st g1 g2 q hS
    -- small, large
    refine sq_asgS (P := fun d => ∃ n b, 1 ≤ n ∧ n ≤ 4 ∧ TB n b ∧ d = tD (rowsOf n b)) (evs_callS (i := 1) (p := p) rfl (EvA.s (eva_cons (evd_int (i := 4)) eva_nil)) (fun ds e => ⟨4, e, by decide, by decide⟩) fun ds d e ⟨m, n, b, e2, h1, hm, hb, hd⟩ => ?a1) ?k1
    case a1 =>
      subst e
      have e3 : (4 : Int) = (m : Int) := PyData.int.inj (List.cons.inj e2).1
      exact ⟨n, b, h1, by omega, hb, hd⟩
    rintro _ ⟨n₀, b₀, hn1, hn4, hT0, rfl⟩
    refine sq_asgS (P := fun d => ∃ n b, 1 ≤ n ∧ n ≤ 8 ∧ TB n b ∧ d = tD (rowsOf n b)) (evs_callS (i := 1) (p := p) (PA := fun ds => ∃ n : Nat, ds = [iD n] ∧ 1 ≤ n ∧ n ≤ 8) rfl (fun G0 H0 σ ows G H s Q q => evsa_one (P1 := fun d => ∃ n : Nat, 1 ≤ n ∧ n ≤ 8 ∧ d = iD n) (evs_op (EvD.s (evd_int (i := 1))) (evs_next (i := 1) (m := 8) (p := p) rfl evd_int (by decide) (by decide)) fun d1 d2 e1 e2 => ?a2) G0 H0 σ ows G H s Q fun ds vs G1 H1 ⟨d, e, n, h1, h2, e2⟩ => q ds vs G1 H1 ⟨n, by rw [e, e2], h1, h2⟩) (fun ds e => e) fun ds d ⟨n', e, h1, h2⟩ ⟨n, b, e2, hb, hd⟩ => ?a3) ?k2
    case a2 =>
      obtain ⟨k, hk, rfl⟩ := e2
      subst e1
      refine ⟨.int (1 + (k : Int)), ⟨1 + k, by omega, by omega, ?_⟩, rd_ii⟩
      show PyData.int (1 + (k : Int)) = PyData.int ((1 + k : Nat) : Int)
      congr 1
    case a3 =>
      subst e
      have e3 : n' = n := Int.ofNat.inj (PyData.int.inj (List.cons.inj e2).1)
      subst e3
      exact ⟨n', b, h1, h2, hb, hd⟩
    rintro _ ⟨n₁, b₁, hm1, hm8, hT1, rfl⟩
    -- both
    refine sq_for (itd_list (evd_lst (eva_cons (evd_dat rfl) (eva_cons (evd_dat rfl) eva_nil)) (Nat.le_of_ble_eq_true rfl))) (fun _ τ' => ∃ s4 s5 s6 s7 s8 s9 s10 s11 : Sl, τ' = [.un, .stm p, .dat (tD (rowsOf n₀ b₀)), .dat (tD (rowsOf n₁ b₁)), s4, s5, s6, s7, s8, s9, s10, s11, .un, .un, .un, .un]) ⟨.un, .un, .un, .un, .un, .un, .un, .un, rfl⟩ (fun i x τ' hx hI => ?_) fun τ' hI => ?_
    · obtain ⟨s4, s5, s6, s7, s8, s9, s10, s11, rfl⟩ := hI
      obtain ⟨n, b, h1, h8, hT, rfl⟩ : ∃ n b, 1 ≤ n ∧ n ≤ 8 ∧ TB n b ∧ x = tD (rowsOf n b) := by
        rcases two_of hx with e | e
        · exact ⟨n₀, b₀, hn1, by omega, hT0, e⟩
        · exact ⟨n₁, b₁, hm1, hm8, hT1, e⟩
      clear hx
      refine ⟨_, _, tgd_name, ?_⟩
      refine sq_asg (d := encT (toldOf n b)) (evd_call (R := R_told_order) (eva_cons (evd_dat rfl) eva_nil) ⟨n, b, rfl, hT, h1, h8, rfl⟩) ?_
      refine sq_asg (d := encR (toldOf n b)) (evd_call (R := R_least_ring) (eva_cons (evd_dat rfl) eva_nil) ⟨n, b, rfl, hT, h1, h8, rfl⟩) ?_
      refine ok_if (b := isNon (encT (toldOf n b))) (evt_test (evd_op (evd_dat rfl) evd_non rd_isN)) (fun h => ?_) fun h => ?_
      · cases hto : toldOf n b with
        | some o =>
          rw [hto] at h
          cases h
        | none => exact ok_if (b := false) (evt_test (evd_op (evd_dat rfl) evd_non rd_notN)) (fun h => nomatch h) fun _ => ok_next ⟨_, _, _, _, _, _, _, _, rfl⟩
      · cases hto : toldOf n b with
        | none =>
          rw [hto] at h
          cases h
        | some o => 
          clear h
          obtain ⟨_, hol, hpm, htb⟩ := told_len h1 hto
          obtain ⟨hodd, hle, hpos⟩ := told_ring h1 h8 hto
          obtain ⟨ok1, ok2⟩ := ok_steps h1 h8 hto
          have hsl := stepsO_len o
          have hwl : (wide (stepsO o)).length = o.length := by rw [wide_len, hsl]
          have hws : 0 < (wide (stepsO o)).sum := by
            rw [wide_sum (by omega)]
            omega
          refine sq_asg (d := .list ((stepsO o).map iD)) (evd_call (R := R__law_steps) (eva_cons (evd_dat rfl) eva_nil) ⟨o, rfl, by omega, by omega, rfl⟩) ?_
          have hsum : ∀ {τ : List Sl} {te : TE} {l : List Nat}, EvD te τ (.list (l.map iD)) → EvD (tCB (rSum K) (tCons te tNil)) τ (iD l.sum) := fun {τ te l} h => evd_cast (evd_cb (eva_cons (evd_cast h (congrArg PyData.list (ints_iD l))) eva_nil) rc_sum) (congrArg PyData.int (sum_cast l))
          refine sq_skip (evt_cast (evt_or (evt_not (evt_B (b := true) (evd_cast (evd_call (R := R__law_equal) (eva_cons (evd_dat rfl) (eva_cons (hsum (evd_dat rfl)) eva_nil)) ⟨_, _, rfl, rfl⟩) ?_))) fun _ => evt_or (evt_test (evd_op (evd_op (evd_cb (eva_cons (evd_dat rfl) eva_nil) rc_int) evd_int (rd_ic (by decide))) evd_int rd_neI)) fun _ => evt_test (evd_op (evd_dat rfl) (evd_op (evd_op evd_int (evd_cb (eva_cons (evd_dat rfl) eva_nil) (rc_len (.inr rfl))) (rd_ic (C := CMul) (.inl ⟨by decide, by decide⟩))) evd_int rd_ii) rd_ib)) ?_) ?_
          · rw [decide_eq_true rfl]
          · rw [List.length_map, hol, decide_eq_true (show ((stepsO o).sum : Int) % 2 = 1 by omega), decide_eq_false (show ¬ (2 * (n : Int) - 1 < ((stepsO o).sum : Int)) by omega)]
            rfl
          refine sq_asgS (evs_next (i := 1) (p := p) (m := n) rfl (evd_N (evd_cb (eva_cons (evd_dat rfl) eva_nil) (rc_len (.inr rfl))) (by rw [List.length_map, hol])) h1 (by omega)) ?_
          rintro _ ⟨pl, hpl, rfl⟩
          obtain ⟨a, ha, hal⟩ := turn_there hpm (p := pl) (by omega) false
          have htl := turnL_len hal
          refine sq_skip (evt_cast (evt_test (evd_op (hsum (evd_call (R := R__law_steps) (eva_cons (evd_call (R := R_turned_order) (eva_cons (evd_dat rfl) (eva_cons (evd_dat rfl) (eva_cons evd_bl eva_nil))) ⟨n, b, o, pl, false, a, rfl, hT, h1, h8, hpl, hto, ha, rfl⟩) eva_nil) ⟨turnL flipO o a, rfl, by omega, by omega, rfl⟩)) (evd_dat rfl) rd_neI)) ?_) ?_
          · rw [turn_sum h1 h8 hto hal, decide_eq_true rfl]
            rfl
          refine sq_asgT (d := .tuple [iD (stepsO o).sum, .list ((List.range o.length).map fun p => iD (placeO o (stepsO o) p))]) (evd_call (R := R__law_by_steps) (eva_cons (evd_dat rfl) (eva_cons (evd_dat rfl) eva_nil)) ⟨o, (stepsO o), rfl, hpm, by omega, by omega, hsl, hpos, rfl⟩) tgd_two ?_
          refine sq_skip (evt_cast (evt_or (a := false) (b := false) ?_ fun _ => ?_) rfl) ?_
          · refine evt_not (evt_B (evd_all (xs := List.range o.length) (f := fun p => decide ((placeO o (stepsO o) p : Int) % 2 = 0)) (r := true) (evd_lc0 (fun p => iD (placeO o (stepsO o) p)) (fun p => .bool (decide ((placeO o (stepsO o) p : Int) % 2 = 0))) (itd_list (evd_dat rfl)) (by rw [List.length_range]; omega) fun p hp => ⟨_, tgd_name, evd_op (evd_op (evd_cb (eva_cons (evd_dat rfl) eva_nil) rc_int) evd_int (rd_ic (by decide))) evd_int rd_eqI⟩) ?_))
            refine List.all_eq_true.mpr fun p hp => decide_eq_true ?_
            have := place_even hpm ok1 (List.mem_range.mp hp)
            omega
          · refine evt_cast (evt_test (evd_op (evd_call (R := R__law_of_places) (eva_cons (evd_dat rfl) (eva_cons (evd_lc0 (fun p => iD (placeO o (stepsO o) p)) (fun p => .int ((placeO o (stepsO o) p : Int) / 2)) (itd_list (evd_dat rfl)) (by rw [List.length_range]; omega) fun p hp => ⟨_, tgd_name, evd_op (evd_dat rfl) evd_int (rd_ic (C := CDiv) ⟨by decide, by decide⟩)⟩) eva_nil)) ⟨((stepsO o).sum : Int), _, halfs o (stepsO o), rfl, .inl (congrArg PyData.list (halfs_ints o (stepsO o))), ?_, ?_, rfl⟩) (evd_dat rfl) (rd_neD (tD_shaped _) (tD_shaped _)))) ?_
            · have := hpos
              omega
            · rw [halfs_len]
              omega
            · rw [tD_eqv, halfs_len, place_rel hpm ok1, htb, decide_eq_true rfl]
              rfl
          refine sq_asg (d := .list ((wide (stepsO o)).map iD)) ?_ ?_
          · obtain ⟨x, r, hxr⟩ : ∃ x r, stepsO o = x :: r := by
              cases hq : stepsO o with
              | nil =>
                rw [hq] at hsl
                rw [← hol, ← hsl] at h1
                simp at h1
              | cons x r => exact ⟨x, r, rfl⟩
            have hrl : r.length + 1 = o.length := by
              rw [hxr] at hsl
              exact hsl
            rw [hxr]
            refine evd_cast (evd_op (d1 := .list [iD (x + 2)]) (d2 := .list (r.map iD)) (evd_lst (eva_cons (evd_N (n := x + 2) (evd_op (evd_op (evd_dat rfl) evd_int (rd_ixL (at_mapN (k := 0) rfl))) evd_int rd_ii) rfl) eva_nil) (Nat.le_of_ble_eq_true rfl)) (evd_cast (evd_slL (evd_dat rfl) (evo_some (i := ((1 : Nat) : Int)) evd_int) evo_none) ?_) (rd_catL ?_)) rfl
            · rw [cut_from]
              rfl
            · rw [List.length_map]
              show 1 + r.length ≤ 100000
              omega
          refine sq_asgT (d := .tuple [iD (wide (stepsO o)).sum, .list ((List.range o.length).map fun p => iD (placeO o (wide (stepsO o)) p))]) (evd_call (R := R__law_by_steps) (eva_cons (evd_dat rfl) (eva_cons (evd_dat rfl) eva_nil)) ⟨o, (wide (stepsO o)), rfl, hpm, by omega, by omega, hwl, hws, rfl⟩) tgd_two ?_
          refine ok_if (b := false) (evt_cast (evt_or (a := false) (b := false) ?_ fun _ => ?_) rfl) (fun h => nomatch h) fun _ => ok_next ⟨_, _, _, _, _, _, _, _, rfl⟩
          · refine evt_not (evt_B (evd_all (xs := List.range o.length) (f := fun p => decide ((placeO o (wide (stepsO o)) p : Int) % 2 = 0)) (r := true) (evd_lc0 (fun p => iD (placeO o (wide (stepsO o)) p)) (fun p => .bool (decide ((placeO o (wide (stepsO o)) p : Int) % 2 = 0))) (itd_list (evd_dat rfl)) (by rw [List.length_range]; omega) fun p hp => ⟨_, tgd_name, evd_op (evd_op (evd_cb (eva_cons (evd_dat rfl) eva_nil) rc_int) evd_int (rd_ic (by decide))) evd_int rd_eqI⟩) ?_))
            refine List.all_eq_true.mpr fun p hp => decide_eq_true ?_
            have := place_even hpm ok2 (List.mem_range.mp hp)
            omega
          · refine evt_cast (evt_test (evd_op (evd_call (R := R__law_of_places) (eva_cons (evd_dat rfl) (eva_cons (evd_lc0 (fun p => iD (placeO o (wide (stepsO o)) p)) (fun p => .int ((placeO o (wide (stepsO o)) p : Int) / 2)) (itd_list (evd_dat rfl)) (by rw [List.length_range]; omega) fun p hp => ⟨_, tgd_name, evd_op (evd_dat rfl) evd_int (rd_ic (C := CDiv) ⟨by decide, by decide⟩)⟩) eva_nil)) ⟨((wide (stepsO o)).sum : Int), _, halfs o (wide (stepsO o)), rfl, .inl (congrArg PyData.list (halfs_ints o (wide (stepsO o)))), ?_, ?_, rfl⟩) (evd_dat rfl) (rd_neD (tD_shaped _) (tD_shaped _)))) ?_
            · have := hws
              omega
            · rw [halfs_len]
              omega
            · rw [tD_eqv, halfs_len, place_rel hpm ok2, htb, decide_eq_true rfl]
              rfl
    · obtain ⟨s4, s5, s6, s7, s8, s9, s10, s11, rfl⟩ := hI
      refine sq_asg (d := encR (toldOf n₀ b₀)) (evd_call (R := R_least_ring) (eva_cons (evd_dat rfl) eva_nil) ⟨n₀, b₀, rfl, hT0, hn1, by omega, rfl⟩) ?_
      refine sq_for (itd_list (evd_lst (eva_cons (evd_int (i := ((1 : Nat) : Int))) (eva_cons (evd_int (i := ((3 : Nat) : Int))) (eva_cons (evd_int (i := ((5 : Nat) : Int))) eva_nil))) (Nat.le_of_ble_eq_true rfl))) (fun _ τ' => ∃ s13 : Sl, τ' = [.un, .stm p, .dat (tD (rowsOf n₀ b₀)), .dat (tD (rowsOf n₁ b₁)), s4, s5, s6, s7, s8, s9, s10, s11, .dat (encR (toldOf n₀ b₀)), s13, .un, .un]) ⟨.un, rfl⟩ (fun i x τ' hx hI => ?_) fun τ' hI => ?_
      · obtain ⟨s13, rfl⟩ := hI
        obtain ⟨r, hr, rfl⟩ : ∃ r : Nat, (r = 1 ∨ r = 3 ∨ r = 5) ∧ x = iD r := by
          rcases three_of hx with e | e | e
          · exact ⟨1, .inl rfl, e⟩
          · exact ⟨3, .inr (.inl rfl), e⟩
          · exact ⟨5, .inr (.inr rfl), e⟩
        clear hx
        refine ⟨_, _, tgd_name, ?_⟩
        have hlenT : ∀ {τ : List Sl}, τ[2]? = some (.dat (tD (rowsOf n₀ b₀))) → EvD (tCB (fun xs H Q => ∃ p ys, xs = [V.ref p] ∧ (SqL K H p ys ∨ SqT K H p ys) ∧ Q (.int ys.length) H) (tCons (tVar 2) tNil)) τ (iD n₀) := fun h =>
          evd_N (evd_cb (eva_cons (evd_dat h) eva_nil) (rc_len (.inr rfl))) (by rw [List.length_map, rowsOf_len])
        have hm2 : (∀ o, toldOf n₀ b₀ = some o → r < (stepsO o).sum) ∨ ∃ o, toldOf n₀ b₀ = some o ∧ ¬ r < (stepsO o).sum := by
          cases hto : toldOf n₀ b₀ with
          | none => exact .inl fun o h => nomatch h
          | some o =>
            by_cases hlt : r < (stepsO o).sum
            · exact .inl fun o' h => by
                rw [← Option.some.inj h]
                exact hlt
            · exact .inr ⟨o, rfl, hlt⟩
        rcases hm2 with hless | ⟨o, hto, hge⟩
        · refine ok_if (b := decide (n₀ ≤ r)) (evt_cast (evt_and (b := true) (evt_test (evd_op (evd_dat rfl) (hlenT rfl) rd_ib)) fun _ => ?_) ?_) (fun h => ?_) fun _ => ok_next ⟨_, rfl⟩
          · cases hto : toldOf n₀ b₀ with
            | none => exact evt_cast (evt_or (b := true) (evt_test (evd_op (evd_dat rfl) evd_non rd_isN)) fun h => nomatch h) rfl
            | some o => exact evt_cast (evt_or (evt_test (evd_op (evd_dat rfl) evd_non rd_isN)) fun _ => evt_test (evd_op (evd_dat rfl) (evd_dat rfl) rd_ib)) (by
                show decide ((r : Int) < ((stepsO o).sum : Int)) = true
                have := hless o hto
                exact decide_eq_true (by omega))
          · rw [Bool.and_true]
            exact decide_eq_decide.mpr (by omega)
          · have hrn := of_decide_eq_true h
            refine ok_if (b := false) (evt_B (evd_any (xs := allP r (n₀ - 1)) (f := fun ps => PyData.eqv (tD (rowsOf n₀ (ofPl (r : Int) (ps.map fun k : Nat => (k : Int))))) (tD (rowsOf n₀ b₀))) (r := false) (evd_lc0 rowD (fun ps => .bool (PyData.eqv (tD (rowsOf n₀ (ofPl (r : Int) (ps.map fun k : Nat => (k : Int))))) (tD (rowsOf n₀ b₀)))) ?_ ?_ fun ps hps => ⟨_, tgd_name, ?_⟩) ?_)) (fun h => nomatch h) fun _ => ok_next ⟨_, rfl⟩
            · exact itd_list (evd_call (R := R__law_all_places) (eva_cons (evd_dat rfl) (eva_cons (hlenT rfl) eva_nil)) ⟨r, n₀, rfl, by omega, hn1, hn4, rfl⟩)
            · have := allP_small r (by omega) (n₀ - 1) (by omega)
              omega
            · have hpl := allP_len _ ps hps
              refine evd_op (evd_cast (evd_call (R := R__law_of_places) (eva_cons (evd_dat rfl) (eva_cons (evd_dat rfl) eva_nil)) ⟨(r : Int), _, ps.map fun k : Nat => (k : Int), rfl, .inr (rowD_ints ps), by omega, ?_, rfl⟩) ?_) (evd_dat rfl) (rd_eqD (tD_shaped _) (tD_shaped _))
              · rw [List.length_map]
                omega
              · rw [List.length_map, hpl, show n₀ - 1 + 1 = n₀ by omega]
            · refine List.any_eq_false.mpr fun ps hps h => ?_
              rw [tD_eqv] at h
              exact less_ne hr hn1 hn4 hrn hless hps (of_decide_eq_true h)
        · refine ok_if (b := false) (evt_cast (evt_and (b := false) (evt_test (evd_op (evd_dat rfl) (hlenT rfl) rd_ib)) fun _ => ?_) (Bool.and_false _)) (fun h => nomatch h) fun _ => ok_next ⟨_, rfl⟩
          rw [hto]
          exact evt_cast (evt_or (evt_test (evd_op (evd_dat rfl) evd_non rd_isN)) fun _ => evt_test (evd_op (evd_dat rfl) (evd_dat rfl) rd_ib)) (by
            show decide ((r : Int) < ((stepsO o).sum : Int)) = false
            exact decide_eq_false (by omega))
      · obtain ⟨s13, rfl⟩ := hI
        exact ok_ret evd_bl rfl
end
end Rb

/-! part RbEnd -/
/-! what the top has written; the end -/
namespace Rb
open PySem PySem.Spec PyProof.Rows L2
/-- a def of the text as the top has written it at f -/
def Pl (K : PySem.W.Frag) (x : Str) (st : Stmt) (f : Addr) : Prop := ∃ (oc : Value) (od : Option Addr) (kV dc pm : Value) (an : Option Addr) (cd ct : Value) (sl : Array (Option Value)),
  K.lookup f = some ⟨oc, od, .func (PySem.W.fnOf x x (defArgs st) (defBody st) (defScope st) .none kV dc pm an cd ct), sl⟩ ∧ PySem.W.codeIn K cd x = true ∧ PySem.W.keepIn K (.ref f) = true
theorem pl_mk {K : PySem.W.Frag} {x : Str} {st : Stmt} {f : Addr} {oc : Value} {od : Option Addr} {kV dc pm : Value} {an : Option Addr} {cd ct : Value} {sl : Array (Option Value)} (l : K.lookup f = some ⟨oc, od, .func (PySem.W.fnOf x x (defArgs st) (defBody st) (defScope st) .none kV dc pm an cd ct), sl⟩)
    (c : PySem.W.codeIn K cd x = true) (k : PySem.W.keepIn K (.ref f) = true) : Pl K x st f := ⟨oc, od, kV, dc, pm, an, cd, ct, sl, l, c, k⟩
theorem Pl.fn {K : PySem.W.Frag} {x : Str} {st : Stmt} {f : Addr} (p : Pl K x st f) : ∃ fd, Fun K x x st f fd := by
  obtain ⟨oc, od, kV, dc, pm, an, cd, ct, sl, l, c, k⟩ := p
  exact ⟨_, fun_mk l c k⟩

theorem at_is_whole {K : PySem.W.Frag} {mg : Str → Option Value} {h : Heap} {f : Addr} (X : K.In h) (G : h.Ns mainGlobals mg) (a : PySem.W.nsIn K mainGlobals "is_whole" = some (some (.ref f))) (p : Pl K "is_whole" is_whole_st f) : At K mg "is_whole" is_whole_st ["value", "low", "high"] := by
  obtain ⟨fd, F⟩ := p.fn
  exact ⟨f, fd, F, PySem.W.mg_of X G a, F.binds fun _ _ _ _ _ _ us hl => match us, hl with | [_, _, _], _ => rfl⟩
theorem at_is_player {K : PySem.W.Frag} {mg : Str → Option Value} {h : Heap} {f : Addr} (X : K.In h) (G : h.Ns mainGlobals mg) (a : PySem.W.nsIn K mainGlobals "is_player" = some (some (.ref f))) (p : Pl K "is_player" is_player_st f) : At K mg "is_player" is_player_st ["value", "many"] := by
  obtain ⟨fd, F⟩ := p.fn
  exact ⟨f, fd, F, PySem.W.mg_of X G a, F.binds fun _ _ _ _ _ _ us hl => match us, hl with | [_, _], _ => rfl⟩
theorem at_beats {K : PySem.W.Frag} {mg : Str → Option Value} {h : Heap} {f : Addr} (X : K.In h) (G : h.Ns mainGlobals mg) (a : PySem.W.nsIn K mainGlobals "beats" = some (some (.ref f))) (p : Pl K "beats" beats_st f) : At K mg "beats" beats_st ["tournament", "one", "other"] := by
  obtain ⟨fd, F⟩ := p.fn
  exact ⟨f, fd, F, PySem.W.mg_of X G a, F.binds fun _ _ _ _ _ _ us hl => match us, hl with | [_, _, _], _ => rfl⟩
theorem at_is_climbing {K : PySem.W.Frag} {mg : Str → Option Value} {h : Heap} {f : Addr} (X : K.In h) (G : h.Ns mainGlobals mg) (a : PySem.W.nsIn K mainGlobals "is_climbing" = some (some (.ref f))) (p : Pl K "is_climbing" is_climbing_st f) : At K mg "is_climbing" is_climbing_st ["value", "many"] := by
  obtain ⟨fd, F⟩ := p.fn
  exact ⟨f, fd, F, PySem.W.mg_of X G a, F.binds fun _ _ _ _ _ _ us hl => match us, hl with | [_, _], _ => rfl⟩
theorem at_is_tournament {K : PySem.W.Frag} {mg : Str → Option Value} {h : Heap} {f : Addr} (X : K.In h) (G : h.Ns mainGlobals mg) (a : PySem.W.nsIn K mainGlobals "is_tournament" = some (some (.ref f))) (p : Pl K "is_tournament" is_tournament_st f) : At K mg "is_tournament" is_tournament_st ["value"] := by
  obtain ⟨fd, F⟩ := p.fn
  exact ⟨f, fd, F, PySem.W.mg_of X G a, F.binds fun _ _ _ _ _ _ us hl => match us, hl with | [_], _ => rfl⟩
theorem at_check_tournament {K : PySem.W.Frag} {mg : Str → Option Value} {h : Heap} {f : Addr} (X : K.In h) (G : h.Ns mainGlobals mg) (a : PySem.W.nsIn K mainGlobals "check_tournament" = some (some (.ref f))) (p : Pl K "check_tournament" check_tournament_st f) : At K mg "check_tournament" check_tournament_st ["value"] := by
  obtain ⟨fd, F⟩ := p.fn
  exact ⟨f, fd, F, PySem.W.mg_of X G a, F.binds fun _ _ _ _ _ _ us hl => match us, hl with | [_], _ => rfl⟩
theorem at_tournament_by {K : PySem.W.Frag} {mg : Str → Option Value} {h : Heap} {f : Addr} (X : K.In h) (G : h.Ns mainGlobals mg) (a : PySem.W.nsIn K mainGlobals "tournament_by" = some (some (.ref f))) (p : Pl K "tournament_by" tournament_by_st f) : At K mg "tournament_by" tournament_by_st ["order"] := by
  obtain ⟨fd, F⟩ := p.fn
  exact ⟨f, fd, F, PySem.W.mg_of X G a, F.binds fun _ _ _ _ _ _ us hl => match us, hl with | [_], _ => rfl⟩
theorem at_order_of {K : PySem.W.Frag} {mg : Str → Option Value} {h : Heap} {f : Addr} (X : K.In h) (G : h.Ns mainGlobals mg) (a : PySem.W.nsIn K mainGlobals "order_of" = some (some (.ref f))) (p : Pl K "order_of" order_of_st f) : At K mg "order_of" order_of_st ["tournament"] := by
  obtain ⟨fd, F⟩ := p.fn
  exact ⟨f, fd, F, PySem.W.mg_of X G a, F.binds fun _ _ _ _ _ _ us hl => match us, hl with | [_], _ => rfl⟩
theorem at_turns_of {K : PySem.W.Frag} {mg : Str → Option Value} {h : Heap} {f : Addr} (X : K.In h) (G : h.Ns mainGlobals mg) (a : PySem.W.nsIn K mainGlobals "turns_of" = some (some (.ref f))) (p : Pl K "turns_of" turns_of_st f) : At K mg "turns_of" turns_of_st ["order"] := by
  obtain ⟨fd, F⟩ := p.fn
  exact ⟨f, fd, F, PySem.W.mg_of X G a, F.binds fun _ _ _ _ _ _ us hl => match us, hl with | [_], _ => rfl⟩
theorem at_steps_of {K : PySem.W.Frag} {mg : Str → Option Value} {h : Heap} {f : Addr} (X : K.In h) (G : h.Ns mainGlobals mg) (a : PySem.W.nsIn K mainGlobals "steps_of" = some (some (.ref f))) (p : Pl K "steps_of" steps_of_st f) : At K mg "steps_of" steps_of_st ["order"] := by
  obtain ⟨fd, F⟩ := p.fn
  exact ⟨f, fd, F, PySem.W.mg_of X G a, F.binds fun _ _ _ _ _ _ us hl => match us, hl with | [_], _ => rfl⟩
theorem at_ring_of {K : PySem.W.Frag} {mg : Str → Option Value} {h : Heap} {f : Addr} (X : K.In h) (G : h.Ns mainGlobals mg) (a : PySem.W.nsIn K mainGlobals "ring_of" = some (some (.ref f))) (p : Pl K "ring_of" ring_of_st f) : At K mg "ring_of" ring_of_st ["tournament"] := by
  obtain ⟨fd, F⟩ := p.fn
  exact ⟨f, fd, F, PySem.W.mg_of X G a, F.binds fun _ _ _ _ _ _ us hl => match us, hl with | [_], _ => rfl⟩
theorem at_told_order {K : PySem.W.Frag} {mg : Str → Option Value} {h : Heap} {f : Addr} (X : K.In h) (G : h.Ns mainGlobals mg) (a : PySem.W.nsIn K mainGlobals "told_order" = some (some (.ref f))) (p : Pl K "told_order" told_order_st f) : At K mg "told_order" told_order_st ["tournament"] := by
  obtain ⟨fd, F⟩ := p.fn
  exact ⟨f, fd, F, PySem.W.mg_of X G a, F.binds fun _ _ _ _ _ _ us hl => match us, hl with | [_], _ => rfl⟩
theorem at_least_ring {K : PySem.W.Frag} {mg : Str → Option Value} {h : Heap} {f : Addr} (X : K.In h) (G : h.Ns mainGlobals mg) (a : PySem.W.nsIn K mainGlobals "least_ring" = some (some (.ref f))) (p : Pl K "least_ring" least_ring_st f) : At K mg "least_ring" least_ring_st ["tournament"] := by
  obtain ⟨fd, F⟩ := p.fn
  exact ⟨f, fd, F, PySem.W.mg_of X G a, F.binds fun _ _ _ _ _ _ us hl => match us, hl with | [_], _ => rfl⟩
theorem at_turned_order {K : PySem.W.Frag} {mg : Str → Option Value} {h : Heap} {f : Addr} (X : K.In h) (G : h.Ns mainGlobals mg) (a : PySem.W.nsIn K mainGlobals "turned_order" = some (some (.ref f))) (p : Pl K "turned_order" turned_order_st f) : At K mg "turned_order" turned_order_st ["tournament", "player", "itself"] := by
  obtain ⟨fd, F⟩ := p.fn
  exact ⟨f, fd, F, PySem.W.mg_of X G a, F.binds fun _ _ _ _ _ _ us hl => match us, hl with | [_, _, _], _ => rfl⟩
theorem at__law_stream {K : PySem.W.Frag} {mg : Str → Option Value} {h : Heap} {f : Addr} (X : K.In h) (G : h.Ns mainGlobals mg) (a : PySem.W.nsIn K mainGlobals "_law_stream" = some (some (.ref f))) (p : Pl K "_law_stream" _law_stream_st f) : At K mg "_law_stream" _law_stream_st ["_law_script"] := by
  obtain ⟨fd, F⟩ := p.fn
  exact ⟨f, fd, F, PySem.W.mg_of X G a, F.binds fun _ _ _ _ _ _ us hl => match us, hl with | [_], _ => rfl⟩
theorem at__law_next {K : PySem.W.Frag} {mg : Str → Option Value} {h : Heap} {f : Addr} (X : K.In h) (G : h.Ns mainGlobals mg) (a : PySem.W.nsIn K mainGlobals "_law_next" = some (some (.ref f))) (p : Pl K "_law_next" _law_next_st f) : At K mg "_law_next" _law_next_st ["_law_stream_here", "_law_many"] := by
  obtain ⟨fd, F⟩ := p.fn
  exact ⟨f, fd, F, PySem.W.mg_of X G a, F.binds fun _ _ _ _ _ _ us hl => match us, hl with | [_, _], _ => rfl⟩
theorem at__law_is_integer {K : PySem.W.Frag} {mg : Str → Option Value} {h : Heap} {f : Addr} (X : K.In h) (G : h.Ns mainGlobals mg) (a : PySem.W.nsIn K mainGlobals "_law_is_integer" = some (some (.ref f))) (p : Pl K "_law_is_integer" _law_is_integer_st f) : At K mg "_law_is_integer" _law_is_integer_st ["_law_actual"] := by
  obtain ⟨fd, F⟩ := p.fn
  exact ⟨f, fd, F, PySem.W.mg_of X G a, F.binds fun _ _ _ _ _ _ us hl => match us, hl with | [_], _ => rfl⟩
theorem at__law_equal {K : PySem.W.Frag} {mg : Str → Option Value} {h : Heap} {f : Addr} (X : K.In h) (G : h.Ns mainGlobals mg) (a : PySem.W.nsIn K mainGlobals "_law_equal" = some (some (.ref f))) (p : Pl K "_law_equal" _law_equal_st f) : At K mg "_law_equal" _law_equal_st ["_law_actual", "_law_due"] := by
  obtain ⟨fd, F⟩ := p.fn
  exact ⟨f, fd, F, PySem.W.mg_of X G a, F.binds fun _ _ _ _ _ _ us hl => match us, hl with | [_, _], _ => rfl⟩
theorem at__law_of_places {K : PySem.W.Frag} {mg : Str → Option Value} {h : Heap} {f : Addr} (X : K.In h) (G : h.Ns mainGlobals mg) (a : PySem.W.nsIn K mainGlobals "_law_of_places" = some (some (.ref f))) (p : Pl K "_law_of_places" _law_of_places_st f) : At K mg "_law_of_places" _law_of_places_st ["_law_ring", "_law_places"] := by
  obtain ⟨fd, F⟩ := p.fn
  exact ⟨f, fd, F, PySem.W.mg_of X G a, F.binds fun _ _ _ _ _ _ us hl => match us, hl with | [_, _], _ => rfl⟩
theorem at__law_drawn {K : PySem.W.Frag} {mg : Str → Option Value} {h : Heap} {f : Addr} (X : K.In h) (G : h.Ns mainGlobals mg) (a : PySem.W.nsIn K mainGlobals "_law_drawn" = some (some (.ref f))) (p : Pl K "_law_drawn" _law_drawn_st f) : At K mg "_law_drawn" _law_drawn_st ["_law_stream_here", "_law_many"] := by
  obtain ⟨fd, F⟩ := p.fn
  exact ⟨f, fd, F, PySem.W.mg_of X G a, F.binds fun _ _ _ _ _ _ us hl => match us, hl with | [_, _], _ => rfl⟩
theorem at__law_circular {K : PySem.W.Frag} {mg : Str → Option Value} {h : Heap} {f : Addr} (X : K.In h) (G : h.Ns mainGlobals mg) (a : PySem.W.nsIn K mainGlobals "_law_circular" = some (some (.ref f))) (p : Pl K "_law_circular" _law_circular_st f) : At K mg "_law_circular" _law_circular_st ["_law_stream_here", "_law_many"] := by
  obtain ⟨fd, F⟩ := p.fn
  exact ⟨f, fd, F, PySem.W.mg_of X G a, F.binds fun _ _ _ _ _ _ us hl => match us, hl with | [_, _], _ => rfl⟩
theorem at__law_some {K : PySem.W.Frag} {mg : Str → Option Value} {h : Heap} {f : Addr} (X : K.In h) (G : h.Ns mainGlobals mg) (a : PySem.W.nsIn K mainGlobals "_law_some" = some (some (.ref f))) (p : Pl K "_law_some" _law_some_st f) : At K mg "_law_some" _law_some_st ["_law_stream_here", "_law_most"] := by
  obtain ⟨fd, F⟩ := p.fn
  exact ⟨f, fd, F, PySem.W.mg_of X G a, F.binds fun _ _ _ _ _ _ us hl => match us, hl with | [_, _], _ => rfl⟩
theorem at__law_steps {K : PySem.W.Frag} {mg : Str → Option Value} {h : Heap} {f : Addr} (X : K.In h) (G : h.Ns mainGlobals mg) (a : PySem.W.nsIn K mainGlobals "_law_steps" = some (some (.ref f))) (p : Pl K "_law_steps" _law_steps_st f) : At K mg "_law_steps" _law_steps_st ["_law_order"] := by
  obtain ⟨fd, F⟩ := p.fn
  exact ⟨f, fd, F, PySem.W.mg_of X G a, F.binds fun _ _ _ _ _ _ us hl => match us, hl with | [_], _ => rfl⟩
theorem at__law_by_steps {K : PySem.W.Frag} {mg : Str → Option Value} {h : Heap} {f : Addr} (X : K.In h) (G : h.Ns mainGlobals mg) (a : PySem.W.nsIn K mainGlobals "_law_by_steps" = some (some (.ref f))) (p : Pl K "_law_by_steps" _law_by_steps_st f) : At K mg "_law_by_steps" _law_by_steps_st ["_law_order", "_law_steps_here"] := by
  obtain ⟨fd, F⟩ := p.fn
  exact ⟨f, fd, F, PySem.W.mg_of X G a, F.binds fun _ _ _ _ _ _ us hl => match us, hl with | [_, _], _ => rfl⟩
theorem at__law_all_places {K : PySem.W.Frag} {mg : Str → Option Value} {h : Heap} {f : Addr} (X : K.In h) (G : h.Ns mainGlobals mg) (a : PySem.W.nsIn K mainGlobals "_law_all_places" = some (some (.ref f))) (p : Pl K "_law_all_places" _law_all_places_st f) : At K mg "_law_all_places" _law_all_places_st ["_law_ring", "_law_many"] := by
  obtain ⟨fd, F⟩ := p.fn
  exact ⟨f, fd, F, PySem.W.mg_of X G a, F.binds fun _ _ _ _ _ _ us hl => match us, hl with | [_, _], _ => rfl⟩
theorem all_mk {l : PySem.W.OpenLaw} {w : World} {K : PySem.W.Frag} {h : Heap} {mg : Str → Option Value} {fa f_law f_is_whole f_is_player f_beats f_is_climbing f_is_tournament f_check_tournament f_tournament_by f_order_of f_turns_of f_steps_of f_ring_of f_told_order f_least_ring f_turned_order f__law_stream f__law_next f__law_is_integer f__law_equal f__law_of_places f__law_drawn f__law_circular f__law_some f__law_steps f__law_by_steps f__law_all_places : Addr} {tk : Tok} (X : K.In h) (G : h.Ns mainGlobals mg) (hfa : mg "law" = some (.ref fa))
    (a_is_whole : PySem.W.nsIn K mainGlobals "is_whole" = some (some (.ref f_is_whole))) (p_is_whole : Pl K "is_whole" is_whole_st f_is_whole)
    (a_is_player : PySem.W.nsIn K mainGlobals "is_player" = some (some (.ref f_is_player))) (p_is_player : Pl K "is_player" is_player_st f_is_player)
    (a_beats : PySem.W.nsIn K mainGlobals "beats" = some (some (.ref f_beats))) (p_beats : Pl K "beats" beats_st f_beats)
    (a_is_climbing : PySem.W.nsIn K mainGlobals "is_climbing" = some (some (.ref f_is_climbing))) (p_is_climbing : Pl K "is_climbing" is_climbing_st f_is_climbing)
    (a_is_tournament : PySem.W.nsIn K mainGlobals "is_tournament" = some (some (.ref f_is_tournament))) (p_is_tournament : Pl K "is_tournament" is_tournament_st f_is_tournament)
    (a_check_tournament : PySem.W.nsIn K mainGlobals "check_tournament" = some (some (.ref f_check_tournament))) (p_check_tournament : Pl K "check_tournament" check_tournament_st f_check_tournament)
    (a_tournament_by : PySem.W.nsIn K mainGlobals "tournament_by" = some (some (.ref f_tournament_by))) (p_tournament_by : Pl K "tournament_by" tournament_by_st f_tournament_by)
    (a_order_of : PySem.W.nsIn K mainGlobals "order_of" = some (some (.ref f_order_of))) (p_order_of : Pl K "order_of" order_of_st f_order_of)
    (a_turns_of : PySem.W.nsIn K mainGlobals "turns_of" = some (some (.ref f_turns_of))) (p_turns_of : Pl K "turns_of" turns_of_st f_turns_of)
    (a_steps_of : PySem.W.nsIn K mainGlobals "steps_of" = some (some (.ref f_steps_of))) (p_steps_of : Pl K "steps_of" steps_of_st f_steps_of)
    (a_ring_of : PySem.W.nsIn K mainGlobals "ring_of" = some (some (.ref f_ring_of))) (p_ring_of : Pl K "ring_of" ring_of_st f_ring_of)
    (a_told_order : PySem.W.nsIn K mainGlobals "told_order" = some (some (.ref f_told_order))) (p_told_order : Pl K "told_order" told_order_st f_told_order)
    (a_least_ring : PySem.W.nsIn K mainGlobals "least_ring" = some (some (.ref f_least_ring))) (p_least_ring : Pl K "least_ring" least_ring_st f_least_ring)
    (a_turned_order : PySem.W.nsIn K mainGlobals "turned_order" = some (some (.ref f_turned_order))) (p_turned_order : Pl K "turned_order" turned_order_st f_turned_order)
    (a__law_stream : PySem.W.nsIn K mainGlobals "_law_stream" = some (some (.ref f__law_stream))) (p__law_stream : Pl K "_law_stream" _law_stream_st f__law_stream)
    (a__law_next : PySem.W.nsIn K mainGlobals "_law_next" = some (some (.ref f__law_next))) (p__law_next : Pl K "_law_next" _law_next_st f__law_next)
    (a__law_is_integer : PySem.W.nsIn K mainGlobals "_law_is_integer" = some (some (.ref f__law_is_integer))) (p__law_is_integer : Pl K "_law_is_integer" _law_is_integer_st f__law_is_integer)
    (a__law_equal : PySem.W.nsIn K mainGlobals "_law_equal" = some (some (.ref f__law_equal))) (p__law_equal : Pl K "_law_equal" _law_equal_st f__law_equal)
    (a__law_of_places : PySem.W.nsIn K mainGlobals "_law_of_places" = some (some (.ref f__law_of_places))) (p__law_of_places : Pl K "_law_of_places" _law_of_places_st f__law_of_places)
    (a__law_drawn : PySem.W.nsIn K mainGlobals "_law_drawn" = some (some (.ref f__law_drawn))) (p__law_drawn : Pl K "_law_drawn" _law_drawn_st f__law_drawn)
    (a__law_circular : PySem.W.nsIn K mainGlobals "_law_circular" = some (some (.ref f__law_circular))) (p__law_circular : Pl K "_law_circular" _law_circular_st f__law_circular)
    (a__law_some : PySem.W.nsIn K mainGlobals "_law_some" = some (some (.ref f__law_some))) (p__law_some : Pl K "_law_some" _law_some_st f__law_some)
    (a__law_steps : PySem.W.nsIn K mainGlobals "_law_steps" = some (some (.ref f__law_steps))) (p__law_steps : Pl K "_law_steps" _law_steps_st f__law_steps)
    (a__law_by_steps : PySem.W.nsIn K mainGlobals "_law_by_steps" = some (some (.ref f__law_by_steps))) (p__law_by_steps : Pl K "_law_by_steps" _law_by_steps_st f__law_by_steps)
    (a__law_all_places : PySem.W.nsIn K mainGlobals "_law_all_places" = some (some (.ref f__law_all_places))) (p__law_all_places : Pl K "_law_all_places" _law_all_places_st f__law_all_places)
    (a_law : PySem.W.nsIn K mainGlobals "law" = some (some (.ref f_law))) (p_law : Pl K "law" law_st f_law)
    (z_isinstance : PySem.W.nsIn K mainGlobals "isinstance" = some none)
    (z_int : PySem.W.nsIn K mainGlobals "int" = some none)
    (z_bool : PySem.W.nsIn K mainGlobals "bool" = some none)
    (z_str : PySem.W.nsIn K mainGlobals "str" = some none)
    (z_tuple : PySem.W.nsIn K mainGlobals "tuple" = some none)
    (z_list : PySem.W.nsIn K mainGlobals "list" = some none)
    (z_all : PySem.W.nsIn K mainGlobals "all" = some none)
    (z_any : PySem.W.nsIn K mainGlobals "any" = some none)
    (z_range : PySem.W.nsIn K mainGlobals "range" = some none)
    (z_len : PySem.W.nsIn K mainGlobals "len" = some none)
    (z_sum : PySem.W.nsIn K mainGlobals "sum" = some none)
    (z_sorted : PySem.W.nsIn K mainGlobals "sorted" = some none)
    (z_zip : PySem.W.nsIn K mainGlobals "zip" = some none)
    (z_enumerate : PySem.W.nsIn K mainGlobals "enumerate" = some none)
    (z_abs : PySem.W.nsIn K mainGlobals "abs" = some none)
    (zMP : PySem.W.nsIn K mainGlobals "MOST_PLAYERS" = some (some (.int 8 tk))) :
    ∃ fd : FuncData, (∀ (s : Shared) (v : Value), BindsTo s fd ⟨[v], []⟩ [("_law_script", v)]) ∧ ∀ base : Heap, K.In base → base.Ns mainGlobals mg → FnOk l.prog w K mg base CX0 6 fa fd ["_law_script"] (spLaw K) := by
  have e := hfa.symm.trans (PySem.W.mg_of X G a_law)
  cases e
  have T : Tx mg tk := ⟨PySem.W.mg_none_of X G z_isinstance, PySem.W.mg_none_of X G z_int, PySem.W.mg_none_of X G z_bool, PySem.W.mg_none_of X G z_str, PySem.W.mg_none_of X G z_tuple, PySem.W.mg_none_of X G z_list, PySem.W.mg_none_of X G z_all, PySem.W.mg_none_of X G z_any, PySem.W.mg_none_of X G z_range, PySem.W.mg_none_of X G z_len, PySem.W.mg_none_of X G z_sum, PySem.W.mg_none_of X G z_sorted, PySem.W.mg_none_of X G z_zip, PySem.W.mg_none_of X G z_enumerate, PySem.W.mg_none_of X G z_abs, PySem.W.mg_of X G zMP⟩
  obtain ⟨oc, od, kV, dc, pm, an, cd, ct, sl, hl, hc, hk⟩ := p_law
  refine ⟨PySem.W.fnOf "law" "law" (defArgs law_st) (defBody law_st) (defScope law_st) .none kV dc pm an cd ct, fun s v => .of_eq rfl, fun base _ _ => ?_⟩
  · have C_is_whole := ca_is_whole (P := l.prog) (w := w) (base := base) T (at_is_whole X G a_is_whole p_is_whole) 
    have C_is_player := ca_is_player (P := l.prog) (w := w) (base := base) T (at_is_player X G a_is_player p_is_player) 
    have C_beats := ca_beats (P := l.prog) (w := w) (base := base) T (at_beats X G a_beats p_beats) 
    have C_is_climbing := ca_is_climbing (P := l.prog) (w := w) (base := base) T (at_is_climbing X G a_is_climbing p_is_climbing) C_is_whole
    have C_is_tournament := ca_is_tournament (P := l.prog) (w := w) (base := base) T (at_is_tournament X G a_is_tournament p_is_tournament) C_is_climbing
    have C_check_tournament := ca_check_tournament (P := l.prog) (w := w) (base := base) T (at_check_tournament X G a_check_tournament p_check_tournament) C_is_tournament
    have C_tournament_by := ca_tournament_by (P := l.prog) (w := w) (base := base) T (at_tournament_by X G a_tournament_by p_tournament_by) 
    have C_order_of := ca_order_of (P := l.prog) (w := w) (base := base) T (at_order_of X G a_order_of p_order_of) C_beats C_tournament_by
    have C_turns_of := ca_turns_of (P := l.prog) (w := w) (base := base) T (at_turns_of X G a_turns_of p_turns_of) 
    have C_steps_of := ca_steps_of (P := l.prog) (w := w) (base := base) T (at_steps_of X G a_steps_of p_steps_of) 
    have C_ring_of := ca_ring_of (P := l.prog) (w := w) (base := base) T (at_ring_of X G a_ring_of p_ring_of) C_order_of C_steps_of
    have C_told_order := ca_told_order (P := l.prog) (w := w) (base := base) T (at_told_order X G a_told_order p_told_order) C_check_tournament C_order_of
    have C_least_ring := ca_least_ring (P := l.prog) (w := w) (base := base) T (at_least_ring X G a_least_ring p_least_ring) C_check_tournament C_ring_of
    have C_turned_order := ca_turned_order (P := l.prog) (w := w) (base := base) T (at_turned_order X G a_turned_order p_turned_order) C_check_tournament C_is_player C_order_of C_turns_of
    have C__law_stream := ca__law_stream (P := l.prog) (w := w) (base := base) T (at__law_stream X G a__law_stream p__law_stream) 
    have C__law_next := ca__law_next (P := l.prog) (w := w) (base := base) T (at__law_next X G a__law_next p__law_next) 
    have C__law_is_integer := ca__law_is_integer (P := l.prog) (w := w) (base := base) T (at__law_is_integer X G a__law_is_integer p__law_is_integer) 
    have C__law_equal := ca__law_equal (P := l.prog) (w := w) (base := base) T (at__law_equal X G a__law_equal p__law_equal) C__law_is_integer
    have C__law_of_places := ca__law_of_places (P := l.prog) (w := w) (base := base) T (at__law_of_places X G a__law_of_places p__law_of_places) 
    have C__law_drawn := ca__law_drawn (P := l.prog) (w := w) (base := base) T (at__law_drawn X G a__law_drawn p__law_drawn) C__law_next
    have C__law_circular := ca__law_circular (P := l.prog) (w := w) (base := base) T (at__law_circular X G a__law_circular p__law_circular) C__law_next C__law_of_places
    have C__law_some := ca__law_some (P := l.prog) (w := w) (base := base) T (at__law_some X G a__law_some p__law_some) C__law_next C__law_drawn C__law_circular
    have C__law_steps := ca__law_steps (P := l.prog) (w := w) (base := base) T (at__law_steps X G a__law_steps p__law_steps) 
    have C__law_by_steps := ca__law_by_steps (P := l.prog) (w := w) (base := base) T (at__law_by_steps X G a__law_by_steps p__law_by_steps) 
    have C__law_all_places := ca__law_all_places (P := l.prog) (w := w) (base := base) T (at__law_all_places X G a__law_all_places p__law_all_places) 
    exact ok_law T (fun_mk hl hc hk) C__law_stream C__law_next C__law_some C__law_circular C_told_order C_least_ring C_turned_order C__law_steps C__law_equal C__law_by_steps C__law_of_places C__law_all_places
end Rb

open PySem PySem.W PyProof.Rows in
set_option maxRecDepth 100000 in
set_option maxHeartbeats 0 in
theorem PySem.Challenge.cw_ringbeats_k20_whole_least_rings_holds : PySem.Challenge.rw_ringbeats_k20_whole_least_rings.Holds := by
  w_on; o_law; k_head; (case hw => w_witness2)
  k_fill
  refine L2.walk_of (l := PySem.Challenge.rw_ringbeats_k20_whole_least_rings) (n := 63) (k := 6) (x := "_law_script") (CX := fun _ => L2.CX0) (sp := fun w => Rb.spLaw _) rfl (by decide) rfl ⟨rfl, by decide, by decide⟩ (fun w h Y => PySem.W.kIn_of Y) ?F (fun _ _ a ns hl _ hS => ⟨a, ns, rfl, hS, hl, fun _ => rfl⟩) (fun _ _ _ _ _ h => h)
  case F =>
    intro w mg fa h KX G hmg
    refine' Rb.all_mk KX G hmg ?a_is_whole ?p_is_whole ?a_is_player ?p_is_player ?a_beats ?p_beats ?a_is_climbing ?p_is_climbing ?a_is_tournament ?p_is_tournament ?a_check_tournament ?p_check_tournament ?a_tournament_by ?p_tournament_by ?a_order_of ?p_order_of ?a_turns_of ?p_turns_of ?a_steps_of ?p_steps_of ?a_ring_of ?p_ring_of ?a_told_order ?p_told_order ?a_least_ring ?p_least_ring ?a_turned_order ?p_turned_order ?a__law_stream ?p__law_stream ?a__law_next ?p__law_next ?a__law_is_integer ?p__law_is_integer ?a__law_equal ?p__law_equal ?a__law_of_places ?p__law_of_places ?a__law_drawn ?p__law_drawn ?a__law_circular ?p__law_circular ?a__law_some ?p__law_some ?a__law_steps ?p__law_steps ?a__law_by_steps ?p__law_by_steps ?a__law_all_places ?p__law_all_places ?a_law ?p_law ?z_isinstance ?z_int ?z_bool ?z_str ?z_tuple ?z_list ?z_all ?z_any ?z_range ?z_len ?z_sum ?z_sorted ?z_zip ?z_enumerate ?z_abs ?zMP
    (case a_is_whole => k_is)
    (case p_is_whole => refine' Rb.pl_mk ?l ?c ?k; (case l => k_is); (case c => k_is); (case k => k_is))
    (case a_is_player => k_is)
    (case p_is_player => refine' Rb.pl_mk ?l ?c ?k; (case l => k_is); (case c => k_is); (case k => k_is))
    (case a_beats => k_is)
    (case p_beats => refine' Rb.pl_mk ?l ?c ?k; (case l => k_is); (case c => k_is); (case k => k_is))
    (case a_is_climbing => k_is)
    (case p_is_climbing => refine' Rb.pl_mk ?l ?c ?k; (case l => k_is); (case c => k_is); (case k => k_is))
    (case a_is_tournament => k_is)
    (case p_is_tournament => refine' Rb.pl_mk ?l ?c ?k; (case l => k_is); (case c => k_is); (case k => k_is))
    (case a_check_tournament => k_is)
    (case p_check_tournament => refine' Rb.pl_mk ?l ?c ?k; (case l => k_is); (case c => k_is); (case k => k_is))
    (case a_tournament_by => k_is)
    (case p_tournament_by => refine' Rb.pl_mk ?l ?c ?k; (case l => k_is); (case c => k_is); (case k => k_is))
    (case a_order_of => k_is)
    (case p_order_of => refine' Rb.pl_mk ?l ?c ?k; (case l => k_is); (case c => k_is); (case k => k_is))
    (case a_turns_of => k_is)
    (case p_turns_of => refine' Rb.pl_mk ?l ?c ?k; (case l => k_is); (case c => k_is); (case k => k_is))
    (case a_steps_of => k_is)
    (case p_steps_of => refine' Rb.pl_mk ?l ?c ?k; (case l => k_is); (case c => k_is); (case k => k_is))
    (case a_ring_of => k_is)
    (case p_ring_of => refine' Rb.pl_mk ?l ?c ?k; (case l => k_is); (case c => k_is); (case k => k_is))
    (case a_told_order => k_is)
    (case p_told_order => refine' Rb.pl_mk ?l ?c ?k; (case l => k_is); (case c => k_is); (case k => k_is))
    (case a_least_ring => k_is)
    (case p_least_ring => refine' Rb.pl_mk ?l ?c ?k; (case l => k_is); (case c => k_is); (case k => k_is))
    (case a_turned_order => k_is)
    (case p_turned_order => refine' Rb.pl_mk ?l ?c ?k; (case l => k_is); (case c => k_is); (case k => k_is))
    (case a__law_stream => k_is)
    (case p__law_stream => refine' Rb.pl_mk ?l ?c ?k; (case l => k_is); (case c => k_is); (case k => k_is))
    (case a__law_next => k_is)
    (case p__law_next => refine' Rb.pl_mk ?l ?c ?k; (case l => k_is); (case c => k_is); (case k => k_is))
    (case a__law_is_integer => k_is)
    (case p__law_is_integer => refine' Rb.pl_mk ?l ?c ?k; (case l => k_is); (case c => k_is); (case k => k_is))
    (case a__law_equal => k_is)
    (case p__law_equal => refine' Rb.pl_mk ?l ?c ?k; (case l => k_is); (case c => k_is); (case k => k_is))
    (case a__law_of_places => k_is)
    (case p__law_of_places => refine' Rb.pl_mk ?l ?c ?k; (case l => k_is); (case c => k_is); (case k => k_is))
    (case a__law_drawn => k_is)
    (case p__law_drawn => refine' Rb.pl_mk ?l ?c ?k; (case l => k_is); (case c => k_is); (case k => k_is))
    (case a__law_circular => k_is)
    (case p__law_circular => refine' Rb.pl_mk ?l ?c ?k; (case l => k_is); (case c => k_is); (case k => k_is))
    (case a__law_some => k_is)
    (case p__law_some => refine' Rb.pl_mk ?l ?c ?k; (case l => k_is); (case c => k_is); (case k => k_is))
    (case a__law_steps => k_is)
    (case p__law_steps => refine' Rb.pl_mk ?l ?c ?k; (case l => k_is); (case c => k_is); (case k => k_is))
    (case a__law_by_steps => k_is)
    (case p__law_by_steps => refine' Rb.pl_mk ?l ?c ?k; (case l => k_is); (case c => k_is); (case k => k_is))
    (case a__law_all_places => k_is)
    (case p__law_all_places => refine' Rb.pl_mk ?l ?c ?k; (case l => k_is); (case c => k_is); (case k => k_is))
    (case a_law => k_is)
    (case p_law => refine' Rb.pl_mk ?l ?c ?k; (case l => k_is); (case c => k_is); (case k => k_is))
    (case z_isinstance => k_is)
    (case z_int => k_is)
    (case z_bool => k_is)
    (case z_str => k_is)
    (case z_tuple => k_is)
    (case z_list => k_is)
    (case z_all => k_is)
    (case z_any => k_is)
    (case z_range => k_is)
    (case z_len => k_is)
    (case z_sum => k_is)
    (case z_sorted => k_is)
    (case z_zip => k_is)
    (case z_enumerate => k_is)
    (case z_abs => k_is)
    (case zMP => k_is)
