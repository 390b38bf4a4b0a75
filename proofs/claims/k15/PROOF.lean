import PyProof.Rows.All
import HandS.ForMost
import HandS.ForExc
import HandS.Wide
import HandS.WideBits
import HandS.Gcd
import HandS.IsInst
import HandS.Style
import HandS.Deep
import HandS.TupAny
import HandS.TryOnly
import HandS.Flow
import HandS.RaiseMore
import HandS.EndBits
import HandS.Dict
import PyProof.P3Eq
import PyProof.ReprLen
import HandS.Text
import PySem.Challenge.RW_wheretrue_k15_words_of_a_line
set_option Elab.async false
set_option linter.all false
set_option maxRecDepth 100000
set_option maxHeartbeats 4000000
set_option Elab.async false
set_option linter.all false
set_option maxRecDepth 100000
namespace VL
open PySem PySem.Spec PyProof.Rows L2

abbrev D := PyData
abbrev Fg := PySem.W.Frag
abbrev Sg := L2.St
set_option autoImplicit false

/-! ### data in a heap -/
mutual
inductive Rp (K : Fg) (H : Hp) : D → V → Prop
  | non : Rp K H .none .non
  | bl (b : Bool) : Rp K H (.bool b) (.bl b)
  | int (i : Int) : Rp K H (.int i) (.int i)
  | str (x : Str) : Rp K H (.str x) (.str x)
  | lst {a : Addr} {xs : List V} {ds : List D} : SqL K H a xs → RpL K H ds xs → Rp K H (.list ds) (.ref a)
  | tup {a : Addr} {xs : List V} {ds : List D} : SqT K H a xs → RpL K H ds xs → Rp K H (.tuple ds) (.ref a)
inductive RpL (K : Fg) (H : Hp) : List D → List V → Prop
  | nil : RpL K H [] []
  | cons {v : V} {vs : List V} {d : D} {ds : List D} : Rp K H d v → RpL K H ds vs → RpL K H (d :: ds) (v :: vs)
end

theorem Rd.mono {H H' : Hp} {a : Addr} {u : HO} (e : Same H H') (h : Rd H a u) : Rd H' a u := by
  rcases h with h | ⟨o, h⟩
  · exact .inl (e _ _ h)
  · exact .inr ⟨o, e _ _ h⟩
theorem SqT.mono {K : Fg} {H H' : Hp} {a : Addr} {xs : List V} (e : Same H H') (h : SqT K H a xs) : SqT K H' a xs := by
  rcases h with h | h
  · exact .inl (Rd.mono e h)
  · exact .inr h
section
variable {K : Fg} {H H' : Hp}
mutual
theorem Rp.mono (e : Same H H') : ∀ {d : D} {v : V}, Rp K H d v → Rp K H' d v
  | _, _, .non => .non
  | _, _, .bl b => .bl b
  | _, _, .int i => .int i
  | _, _, .str x => .str x
  | _, _, .lst h r => .lst (Same.seq e h) (RpL.mono e r)
  | _, _, .tup h r => .tup (SqT.mono e h) (RpL.mono e r)
theorem RpL.mono (e : Same H H') : ∀ {d : List D} {v : List V}, RpL K H d v → RpL K H' d v
  | _, _, .nil => .nil
  | _, _, .cons h r => .cons (Rp.mono e h) (RpL.mono e r)
end
mutual
theorem Rp.dp : ∀ {d : D} {v : V}, Rp K H d v → Dp K H v d
  | _, _, .non => .non
  | _, _, .bl b => .bl b
  | _, _, .int i => .int i
  | _, _, .str x => .str x
  | _, _, .lst h r => .lst h (RpL.dp r)
  | _, _, .tup h r => .tup h (RpL.dp r)
theorem RpL.dp : ∀ {d : List D} {v : List V}, RpL K H d v → DpAll K H v d
  | _, _, .nil => .nil
  | _, _, .cons h r => .cons (Rp.dp h) (RpL.dp r)
end
theorem RpL.length : ∀ {ds : List D} {vs : List V}, RpL K H ds vs → ds.length = vs.length
  | _, _, .nil => rfl
  | _, _, .cons _ r => congrArg (· + 1) (RpL.length r)
theorem RpL.get : ∀ {ds : List D} {vs : List V} {i : Nat} {d : D}, RpL K H ds vs → ds[i]? = some d → ∃ v, vs[i]? = some v ∧ Rp K H d v
  | _, _, _, _, .nil, e => by simp at e
  | _, _, 0, _, .cons h _, e => by simp at e; subst e; exact ⟨_, rfl, h⟩
  | _, _, i + 1, _, .cons _ r, e => by
    obtain ⟨v, h1, h2⟩ := RpL.get (i := i) r (by simpa using e)
    exact ⟨v, by simpa using h1, h2⟩
theorem RpL.append : ∀ {ds es : List D} {vs ws : List V}, RpL K H ds vs → RpL K H es ws → RpL K H (ds ++ es) (vs ++ ws)
  | _, _, _, _, .nil, s => s
  | _, _, _, _, .cons h r, s => .cons h (RpL.append r s)
theorem RpL.take : ∀ {ds : List D} {vs : List V} (n : Nat), RpL K H ds vs → RpL K H (ds.take n) (vs.take n)
  | _, _, 0, _ => .nil
  | _, _, _ + 1, .nil => .nil
  | _, _, n + 1, .cons h r => .cons h (RpL.take n r)
theorem RpL.drop : ∀ {ds : List D} {vs : List V} (n : Nat), RpL K H ds vs → RpL K H (ds.drop n) (vs.drop n)
  | _, _, 0, r => r
  | _, _, _ + 1, .nil => .nil
  | _, _, n + 1, .cons _ r => RpL.drop n r
theorem RpL.set {d : D} {v : V} (q : Rp K H d v) : ∀ {ds : List D} {vs : List V} (i : Nat), RpL K H ds vs → RpL K H (ds.set i d) (vs.set i v)
  | _, _, _, .nil => .nil
  | _, _, 0, .cons _ r => .cons q r
  | _, _, i + 1, .cons h r => .cons h (RpL.set q i r)
theorem RpL.reverse {ds : List D} {vs : List V} (r : RpL K H ds vs) : RpL K H ds.reverse vs.reverse := by
  induction ds generalizing vs with
  | nil => cases r; exact .nil
  | cons d ds ih =>
    cases r with
    | cons h r =>
      rw [List.reverse_cons, List.reverse_cons]
      exact (ih r).append (.cons h .nil)
theorem RpL.dropLast {ds : List D} {vs : List V} (r : RpL K H ds vs) : RpL K H ds.dropLast vs.dropLast := by
  rw [List.dropLast_eq_take, List.dropLast_eq_take, r.length]
  exact r.take _
theorem RpL.replicate {ds : List D} {vs : List V} (r : RpL K H ds vs) : ∀ n : Nat, RpL K H (List.replicate n ds).flatten (List.replicate n vs).flatten
  | 0 => .nil
  | n + 1 => by
    rw [List.replicate_succ, List.replicate_succ, List.flatten_cons, List.flatten_cons]
    exact r.append (RpL.replicate r n)
theorem RpL.ints : ∀ {ns : List Int} {vs : List V}, RpL K H (ns.map PyData.int) vs → vs = ns.map V.int
  | [], _, r => by cases r; rfl
  | n :: ns, _, r => by
    cases r with
    | cons h r => cases h; rw [RpL.ints r]; rfl
theorem RpL.of_ints : ∀ (ns : List Int), RpL K H (ns.map PyData.int) (ns.map V.int)
  | [] => .nil
  | n :: ns => .cons (.int n) (RpL.of_ints ns)
end

/-! ### the frozen part and the whole -/
/-- from (Hs, H) to (Hs', H'): nothing that stood is changed, what is newly frozen is new -/
structure Ext (Hs H Hs' H' : Hp) : Prop where
  sub : Same Hs' H'
  same : Same H H'
  grow : Same Hs Hs'
  fresh : ∀ p o, Hs' p = some o → Hs p = none → H p = none
theorem Ext.refl {Hs H : Hp} (h : Same Hs H) : Ext Hs H Hs H := ⟨h, .refl _, .refl _, fun p o a b => by rw [a] at b; cases b⟩
theorem Ext.trans {Hs H Hs1 H1 Hs2 H2 : Hp} (a : Ext Hs H Hs1 H1) (b : Ext Hs1 H1 Hs2 H2) : Ext Hs H Hs2 H2 where
  sub := b.sub
  same := a.same.trans b.same
  grow := a.grow.trans b.grow
  fresh := fun p o h1 h2 => by
    cases e : Hs1 p with
    | none => exact a.same.free (b.fresh p o h1 e)
    | some u => exact a.fresh p u e h2
/-- a new object, frozen at once -/
theorem Ext.new {Hs H : Hp} {p : Addr} {o : HO} (h : Same Hs H) (hp : H p = none) : Ext Hs H (upd Hs p o) (upd H p o) where
  sub := fun b u e => by
    by_cases hb : b = p
    · subst hb; rw [upd_same] at e ⊢; exact e
    · rw [upd_ne hb] at e ⊢; exact h b u e
  same := fun b u e => by rw [upd_ne (ne_of_none e hp)]; exact e
  grow := fun b u e => by rw [upd_ne (ne_of_none (h b u e) hp)]; exact e
  fresh := fun b u e n => by
    by_cases hb : b = p
    · subst hb; exact hp
    · rw [upd_ne hb] at e; rw [e] at n; cases n
/-- a new object, not frozen -/
theorem Ext.hid {Hs H : Hp} {p : Addr} {o : HO} (h : Same Hs H) (hp : H p = none) : Ext Hs H Hs (upd H p o) where
  sub := fun b u e => by rw [upd_ne (ne_of_none (h b u e) hp)]; exact h b u e
  same := fun b u e => by rw [upd_ne (ne_of_none e hp)]; exact e
  grow := .refl _
  fresh := fun b u e n => by rw [e] at n; cases n
/-- what was new and not frozen is frozen -/
theorem Ext.frz {Hs H Hs' H' : Hp} {p : Addr} {o : HO} (e : Ext Hs H Hs' H') (h0 : H p = none) (h1 : H' p = some o) (h2 : Hs' p = none) : Ext Hs H (upd Hs' p o) H' where
  sub := fun b u q => by
    by_cases hb : b = p
    · subst hb; rw [upd_same] at q; cases q; exact h1
    · rw [upd_ne hb] at q; exact e.sub b u q
  same := e.same
  grow := e.grow.trans fun b u q => by rw [upd_ne (ne_of_none q h2)]; exact q
  fresh := fun b u q n => by
    by_cases hb : b = p
    · subst hb; exact h0
    · rw [upd_ne hb] at q; exact e.fresh b u q n

/-! ### slots -/
inductive SD where
  | no
  | sh (d : D)
  | ow (l : List D)
  | bo (l : List D)
abbrev Ev := List SD
/-- the heap at the start, without the list that is lent; that list's address -/
structure Gx where
  h : Hp
  b : Option Addr

def RelS (K : Fg) (G : Gx) (Hs H : Hp) : SD → Option (Option V) → Prop
  | .no, _ => True
  | .sh d, x => ∃ v, x = some (some v) ∧ Rp K Hs d v
  | .ow l, x => ∃ p vs, x = some (some (.ref p)) ∧ G.h p = none ∧ Hs p = none ∧ H p = some (.lst vs) ∧ RpL K Hs l vs ∧ G.b ≠ some p
  | .bo l, x => ∃ p vs, x = some (some (.ref p)) ∧ G.b = some p ∧ H p = some (.lst vs) ∧ RpL K Hs l vs

structure RelE (K : Fg) (S : Hp) (G : Gx) (Hs H : Hp) (σ : Sg) (ρ : Ev) : Prop where
  sub : Same Hs H
  old : Same G.h H
  ext : Same S Hs
  new : ∀ p o, Hs p = some o → S p = none → G.h p = none
  len : ρ.length = σ.length
  slot : ∀ (i : Nat) (r : SD), ρ[i]? = some r → RelS K G Hs H r σ[i]?
  bor : ∀ p, G.b = some p → G.h p = none ∧ Hs p = none ∧ H p ≠ none
  one : ∀ (i j : Nat) (l m : List D), ρ[i]? = some (.bo l) → ρ[j]? = some (.bo m) → i = j
  dis : ∀ (i j : Nat) (l m : List D) (p : Addr), ρ[i]? = some (.ow l) → ρ[j]? = some (.ow m) → σ[i]? = some (some (.ref p)) → σ[j]? = some (some (.ref p)) → i = j

section
variable {K : Fg} {S Hs H Hs' H' : Hp} {G : Gx} {σ : Sg} {ρ : Ev}
theorem RelE.step (r : RelE K S G Hs H σ ρ) (e : Ext Hs H Hs' H') : RelE K S G Hs' H' σ ρ where
  sub := e.sub
  old := r.old.trans e.same
  ext := r.ext.trans e.grow
  new := fun p o a b => by
    cases q : Hs p with
    | none => exact r.old.free (e.fresh p o a q)
    | some u => exact r.new p u q b
  len := r.len
  slot := fun i s hs => by
    have q := r.slot i s hs
    cases s with
    | no => trivial
    | sh d =>
      obtain ⟨v, e1, e2⟩ := q
      exact ⟨v, e1, e2.mono e.grow⟩
    | ow l =>
      obtain ⟨p, vs, e1, e2, e3, e4, e5, e6⟩ := q
      refine ⟨p, vs, e1, e2, ?_, e.same _ _ e4, e5.mono e.grow, e6⟩
      cases q : Hs' p with
      | none => rfl
      | some u =>
        have := e.fresh p u q e3
        rw [e4] at this; cases this
    | bo l =>
      obtain ⟨p, vs, e1, e2, e3, e4⟩ := q
      exact ⟨p, vs, e1, e2, e.same _ _ e3, e4.mono e.grow⟩
  dis := r.dis
  bor := fun p hp => by
    obtain ⟨h1, h2, h3⟩ := r.bor p hp
    refine ⟨h1, ?_, fun z => h3 (e.same.free z)⟩
    cases q : Hs' p with
    | none => rfl
    | some u => exact (h3 (e.fresh p u q h2)).elim
  one := r.one
theorem RelE.get {i : Nat} {d : D} (r : RelE K S G Hs H σ ρ) (h : ρ[i]? = some (.sh d)) : ∃ v, σ[i]? = some (some v) ∧ Rp K Hs d v := r.slot i _ h
theorem RelE.own' {i : Nat} {l : List D} (r : RelE K S G Hs H σ ρ) (h : ρ[i]? = some (.ow l)) : ∃ p vs, σ[i]? = some (some (.ref p)) ∧ G.h p = none ∧ Hs p = none ∧ H p = some (.lst vs) ∧ RpL K Hs l vs ∧ G.b ≠ some p := r.slot i _ h
theorem RelE.own {i : Nat} {l : List D} (r : RelE K S G Hs H σ ρ) (h : ρ[i]? = some (.ow l)) : ∃ p vs, σ[i]? = some (some (.ref p)) ∧ G.h p = none ∧ Hs p = none ∧ H p = some (.lst vs) ∧ RpL K Hs l vs :=
  let ⟨p, vs, e1, e2, e3, e4, e5, _⟩ := r.own' h
  ⟨p, vs, e1, e2, e3, e4, e5⟩
theorem RelE.lent {i : Nat} {l : List D} (r : RelE K S G Hs H σ ρ) (h : ρ[i]? = some (.bo l)) : ∃ p vs, σ[i]? = some (some (.ref p)) ∧ G.b = some p ∧ H p = some (.lst vs) ∧ RpL K Hs l vs := r.slot i _ h

theorem set_get {α : Type} {l : List α} {i j : Nat} {x y : α} (h : (l.set i x)[j]? = some y) : (j = i ∧ i < l.length ∧ y = x) ∨ (j ≠ i ∧ l[j]? = some y) := by
  by_cases e : j = i
  · subst e
    by_cases hl : j < l.length
    · rw [List.getElem?_set_self hl] at h
      exact .inl ⟨rfl, hl, (Option.some.inj h).symm⟩
    · rw [List.getElem?_eq_none (by simpa using hl)] at h; cases h
  · rw [List.getElem?_set_ne (Ne.symm e)] at h
    exact .inr ⟨e, h⟩
/-- a slot is forgotten, or what stands there is shared data -/
theorem RelE.set {i : Nat} {d : D} {v : V} (r : RelE K S G Hs H σ ρ) (h : Rp K Hs d v) : RelE K S G Hs H (σ.set i (some v)) (ρ.set i (.sh d)) where
  sub := r.sub
  old := r.old
  ext := r.ext
  new := r.new
  len := by simpa using r.len
  slot := fun j s hs => by
    rcases set_get hs with ⟨rfl, hl, rfl⟩ | ⟨hj, hs⟩
    · exact ⟨v, by rw [List.getElem?_set_self (by rw [← r.len]; exact hl)], h⟩
    · rw [List.getElem?_set_ne (Ne.symm hj)]
      exact r.slot j s hs
  dis := fun j k l m p a b c d' => by
    rcases set_get a with ⟨_, _, e⟩ | ⟨hj, a⟩
    · cases e
    · rcases set_get b with ⟨_, _, e⟩ | ⟨hk, b⟩
      · cases e
      · rw [List.getElem?_set_ne (Ne.symm hj)] at c
        rw [List.getElem?_set_ne (Ne.symm hk)] at d'
        exact r.dis j k l m p a b c d'
  bor := r.bor
  one := fun j k l m a b => by
    rcases set_get a with ⟨_, _, e⟩ | ⟨_, a⟩
    · cases e
    · rcases set_get b with ⟨_, _, e⟩ | ⟨_, b⟩
      · cases e
      · exact r.one j k l m a b
theorem RelE.setNo {i : Nat} {v : Option V} (r : RelE K S G Hs H σ ρ) : RelE K S G Hs H (σ.set i v) (ρ.set i .no) where
  sub := r.sub
  old := r.old
  ext := r.ext
  new := r.new
  len := by simpa using r.len
  slot := fun j s hs => by
    rcases set_get hs with ⟨rfl, hl, rfl⟩ | ⟨hj, hs⟩
    · trivial
    · rw [List.getElem?_set_ne (Ne.symm hj)]
      exact r.slot j s hs
  dis := fun j k l m p a b c d' => by
    rcases set_get a with ⟨_, _, e⟩ | ⟨hj, a⟩
    · cases e
    · rcases set_get b with ⟨_, _, e⟩ | ⟨hk, b⟩
      · cases e
      · rw [List.getElem?_set_ne (Ne.symm hj)] at c
        rw [List.getElem?_set_ne (Ne.symm hk)] at d'
        exact r.dis j k l m p a b c d'
  bor := r.bor
  one := fun j k l m a b => by
    rcases set_get a with ⟨_, _, e⟩ | ⟨_, a⟩
    · cases e
    · rcases set_get b with ⟨_, _, e⟩ | ⟨_, b⟩
      · cases e
      · exact r.one j k l m a b
/-- a new list of one's own -/
theorem RelE.setOw {i : Nat} {l : List D} {p : Addr} {vs : List V} (r : RelE K S G Hs H σ ρ) (e : Ext Hs H Hs' H') (h0 : H p = none) (h1 : Hs' p = none) (h2 : H' p = some (.lst vs)) (h3 : RpL K Hs' l vs) :
    RelE K S G Hs' H' (σ.set i (some (.ref p))) (ρ.set i (.ow l)) := by
  have r' := r.step e
  have nb : G.b ≠ some p := fun z => (r.bor p z).2.2 h0
  have away : ∀ (j : Nat) (m : List D), ρ[j]? = some (.ow m) → σ[j]? = some (some (.ref p)) → False := fun j m hj hs => by
    obtain ⟨q, ws, e1, _, _, e4, _⟩ := r.own hj
    rw [hs] at e1; cases e1
    rw [h0] at e4; cases e4
  refine ⟨r'.sub, r'.old, r'.ext, r'.new, by simpa using r.len, fun j s hs => ?_, r'.bor, fun j k l m a b => ?_, fun j k l m q a b c d' => ?_⟩
  · rcases set_get hs with ⟨rfl, hl, rfl⟩ | ⟨hj, hs⟩
    · exact ⟨p, vs, by rw [List.getElem?_set_self (by rw [← r.len]; exact hl)], r.old.free h0, h1, h2, h3, nb⟩
    · rw [List.getElem?_set_ne (Ne.symm hj)]
      exact r'.slot j s hs
  · rcases set_get a with ⟨_, _, e⟩ | ⟨_, a⟩
    · cases e
    · rcases set_get b with ⟨_, _, e⟩ | ⟨_, b⟩
      · cases e
      · exact r.one j k l m a b
  · rcases set_get a with ⟨rfl, hl, e⟩ | ⟨hj, a'⟩
    · rcases set_get b with ⟨rfl, _, e⟩ | ⟨hk, b'⟩
      · rfl
      · rw [List.getElem?_set_self (by rw [← r.len]; exact hl)] at c
        rw [List.getElem?_set_ne (Ne.symm hk)] at d'
        cases c
        exact (away k m b' d').elim
    · rcases set_get b with ⟨rfl, hl, e⟩ | ⟨hk, b'⟩
      · rw [List.getElem?_set_self (by rw [← r.len]; exact hl)] at d'
        rw [List.getElem?_set_ne (Ne.symm hj)] at c
        cases d'
        exact (away j l a' c).elim
      · rw [List.getElem?_set_ne (Ne.symm hj)] at c
        rw [List.getElem?_set_ne (Ne.symm hk)] at d'
        exact r.dis j k l m q a' b' c d'
/-- a list of one's own is changed -/
theorem RelE.wr {i : Nat} {l l' : List D} {p : Addr} {ws : List V} (r : RelE K S G Hs H σ ρ) (hi : ρ[i]? = some (.ow l)) (hs : σ[i]? = some (some (.ref p))) (h : RpL K Hs l' ws) :
    RelE K S G Hs (upd H p (.lst ws)) σ (ρ.set i (.ow l')) := by
  obtain ⟨q, us, e1, e2, e3, e4, e5, e6⟩ := r.own' hi
  rw [hs] at e1; cases e1
  refine ⟨fun b u e => ?_, fun b u e => ?_, r.ext, r.new, by simpa using r.len, fun j s hj => ?_, fun a ha => ?_, fun j k l m a b => ?_, fun j k m n q a b c d' => ?_⟩
  · rw [upd_ne (ne_of_none e e3)]; exact r.sub b u e
  · rw [upd_ne (ne_of_none e e2)]; exact r.old b u e
  · rcases set_get hj with ⟨rfl, hl, rfl⟩ | ⟨hj', hj⟩
    · exact ⟨p, ws, hs, e2, e3, upd_same, h, e6⟩
    · have q := r.slot j s hj
      cases s with
      | no => trivial
      | sh d => exact q
      | ow m =>
        obtain ⟨q, xs, f1, f2, f3, f4, f5, f6⟩ := q
        refine ⟨q, xs, f1, f2, f3, ?_, f5, f6⟩
        rw [upd_ne]
        · exact f4
        · rintro rfl
          exact hj' (r.dis j i m l q hj hi f1 hs)
      | bo m =>
        obtain ⟨q, xs, f1, f2, f3, f4⟩ := q
        refine ⟨q, xs, f1, f2, ?_, f4⟩
        rw [upd_ne]
        · exact f3
        · rintro rfl
          exact e6 f2
  · obtain ⟨h1, h2, h3⟩ := r.bor a ha
    refine ⟨h1, h2, ?_⟩
    rw [upd_ne]
    · exact h3
    · rintro rfl
      exact e6 ha
  · rcases set_get a with ⟨_, _, e⟩ | ⟨_, a⟩
    · cases e
    · rcases set_get b with ⟨_, _, e⟩ | ⟨_, b⟩
      · cases e
      · exact r.one j k l m a b
  · have go : ∀ (j : Nat) (m : List D), (ρ.set i (.ow l'))[j]? = some (.ow m) → ∃ m', ρ[j]? = some (.ow m') := fun j m h => by
      rcases set_get h with ⟨rfl, _, _⟩ | ⟨_, h⟩
      · exact ⟨l, hi⟩
      · exact ⟨m, h⟩
    obtain ⟨m', a'⟩ := go j m a
    obtain ⟨n', b'⟩ := go k n b
    exact r.dis j k m' n' q a' b' c d'
/-- the lent list is changed -/
theorem RelE.wrB {i : Nat} {l l' : List D} {p : Addr} {ws : List V} (r : RelE K S G Hs H σ ρ) (hi : ρ[i]? = some (.bo l)) (hs : σ[i]? = some (some (.ref p))) (h : RpL K Hs l' ws) :
    RelE K S G Hs (upd H p (.lst ws)) σ (ρ.set i (.bo l')) := by
  obtain ⟨q, us, e1, e6, e4, e5⟩ := r.lent hi
  rw [hs] at e1; cases e1
  obtain ⟨e2, e3, _⟩ := r.bor p e6
  refine ⟨fun b u e => ?_, fun b u e => ?_, r.ext, r.new, by simpa using r.len, fun j s hj => ?_, fun a ha => ?_, fun j k l m a b => ?_, fun j k m n q a b c d' => ?_⟩
  · rw [upd_ne (ne_of_none e e3)]; exact r.sub b u e
  · rw [upd_ne (ne_of_none e e2)]; exact r.old b u e
  · rcases set_get hj with ⟨rfl, hl, rfl⟩ | ⟨hj', hj⟩
    · exact ⟨p, ws, hs, e6, upd_same, h⟩
    · have q := r.slot j s hj
      cases s with
      | no => trivial
      | sh d => exact q
      | ow m =>
        obtain ⟨q, xs, f1, f2, f3, f4, f5, f6⟩ := q
        refine ⟨q, xs, f1, f2, f3, ?_, f5, f6⟩
        rw [upd_ne]
        · exact f4
        · rintro rfl
          exact f6 e6
      | bo m => exact (hj' (r.one j i m l hj hi)).elim
  · rw [e6] at ha; cases ha
    exact ⟨e2, e3, by rw [upd_same]; simp⟩
  · have go : ∀ (j : Nat) (m : List D), (ρ.set i (.bo l'))[j]? = some (.bo m) → j = i := fun j m h => by
      rcases set_get h with ⟨rfl, _, _⟩ | ⟨_, h⟩
      · rfl
      · exact r.one j i m _ h hi
    rw [go j l a, go k m b]
  · rcases set_get a with ⟨_, _, e⟩ | ⟨_, a⟩
    · cases e
    · rcases set_get b with ⟨_, _, e⟩ | ⟨_, b⟩
      · cases e
      · exact r.dis j k m n q a b c d'
/-- a list of one's own is frozen -/
theorem RelE.fz {i : Nat} {l : List D} (r : RelE K S G Hs H σ ρ) (hi : ρ[i]? = some (.ow l)) : ∃ Hs', Same Hs Hs' ∧ RelE K S G Hs' H σ (ρ.set i (.sh (.list l))) := by
  obtain ⟨p, vs, e1, e2, e3, e4, e5, e6⟩ := r.own' hi
  have g : Same Hs (upd Hs p (.lst vs)) := fun b u q => by rw [upd_ne (ne_of_none q e3)]; exact q
  refine ⟨upd Hs p (.lst vs), g, fun b u q => ?_, r.old, r.ext.trans g, fun b u q n => ?_, by simpa using r.len, fun j s hj => ?_, fun a ha => ?_, fun j k l m a b => ?_, fun j k m n q a b c d' => ?_⟩
  · by_cases hb : b = p
    · subst hb; rw [upd_same] at q; cases q; exact e4
    · rw [upd_ne hb] at q; exact r.sub b u q
  · by_cases hb : b = p
    · subst hb; exact e2
    · rw [upd_ne hb] at q; exact r.new b u q n
  · rcases set_get hj with ⟨rfl, hl, rfl⟩ | ⟨hj', hj⟩
    · exact ⟨_, e1, .lst (.inl (.inl upd_same)) (e5.mono g)⟩
    · have q := r.slot j s hj
      cases s with
      | no => trivial
      | sh d =>
        obtain ⟨v, q1, q2⟩ := q
        exact ⟨v, q1, q2.mono g⟩
      | ow m =>
        obtain ⟨q, xs, f1, f2, f3, f4, f5, f6⟩ := q
        refine ⟨q, xs, f1, f2, ?_, f4, f5.mono g, f6⟩
        rw [upd_ne]
        · exact f3
        · rintro rfl
          exact hj' (r.dis j i m l q hj hi f1 e1)
      | bo m =>
        obtain ⟨q, xs, f1, f2, f3, f4⟩ := q
        exact ⟨q, xs, f1, f2, f3, f4.mono g⟩
  · obtain ⟨h1, h2, h3⟩ := r.bor a ha
    refine ⟨h1, ?_, h3⟩
    rw [upd_ne]
    · exact h2
    · rintro rfl
      exact e6 ha
  · rcases set_get a with ⟨_, _, e⟩ | ⟨_, a⟩
    · cases e
    · rcases set_get b with ⟨_, _, e⟩ | ⟨_, b⟩
      · cases e
      · exact r.one j k l m a b
  · rcases set_get a with ⟨_, _, e⟩ | ⟨hj, a⟩
    · cases e
    · rcases set_get b with ⟨_, _, e⟩ | ⟨hk, b⟩
      · cases e
      · exact r.dis j k m n q a b c d'
end

/-! ### outcomes -/
/-- an exception: its class's name, its fields -/
structure Xn where
  name : Str
  flds : List (Str × D) := []
inductive R (α : Type) where
  | ok (a : α)
  | ex (x : Xn)
  | bad
def R.bind {α β : Type} (r : R α) (f : α → R β) : R β := match r with
  | .ok a => f a
  | .ex x => .ex x
  | .bad => .bad
instance : Monad R where
  pure := .ok
  bind := R.bind
theorem ok_bind {α β : Type} (a : α) (f : α → R β) : (R.ok a >>= f) = f a := rfl
theorem ex_bind {α β : Type} (x : Xn) (f : α → R β) : (R.ex x >>= f) = .ex x := rfl
theorem bad_bind {α β : Type} (f : α → R β) : ((R.bad : R α) >>= f) = .bad := rfl
theorem pure_ok {α : Type} (a : α) : (pure a : R α) = .ok a := rfl

inductive Out where
  | nx (ρ : Ev)
  | rt (r : SD)
  | rtB (r : SD) (ρ : Ev)
  | bk (ρ : Ev)
  | ct (ρ : Ev)
  | ex (x : Xn) (ρ : Ev)
  | bad
end VL

set_option Elab.async false
set_option linter.all false
set_option maxRecDepth 100000
set_option autoImplicit false
namespace VL
open PySem PySem.Spec PyProof.Rows L2

/-! ### what is wanted behind an evaluation -/
/-- the exception told by x, as it lies -/
def XRp (K : Fg) (mg : Str → Option Value) (H : Hp) (x : Xn) (cls : Value) (dd : Option Addr) : Prop :=
  mg x.name = some cls ∧ (x.flds = [] ∨ ∃ a vs, dd = some a ∧ H a = some (.xd vs) ∧ vs.map (·.1) = x.flds.map (·.1) ∧ RpL K H (x.flds.map (·.2)) (vs.map (·.2)))

def Post {α : Type} (K : Fg) (mg : Str → Option Value) (W : WX) (Hs H : Hp) (σ : Sg) : R α → (α → Hp → Hp → Prop) → Prop
  | .ok a, P => ∀ Hs' H', Ext Hs H Hs' H' → P a Hs' H'
  | .ex x, _ => ∀ Hs' H' cls dd, Ext Hs H Hs' H' → XRp K mg H' x cls dd → W cls dd σ H'
  | .bad, _ => False

section
variable {K : Fg} {mg : Str → Option Value} {W : WX} {Hs H Hs1 H1 : Hp} {σ : Sg} {α β : Type}
theorem Post.up {r : R α} {P : α → Hp → Hp → Prop} (e : Ext Hs H Hs1 H1) (h : Post K mg W Hs H σ r P) : Post K mg W Hs1 H1 σ r P := by
  cases r with
  | ok a => exact fun Hs' H' e' => h Hs' H' (e.trans e')
  | ex x => exact fun Hs' H' cls dd e' hx => h Hs' H' cls dd (e.trans e') hx
  | bad => exact h
theorem Post.imp {r : R α} {P P' : α → Hp → Hp → Prop} (h : Post K mg W Hs H σ r P) (hp : ∀ a Hs' H', Ext Hs H Hs' H' → P a Hs' H' → P' a Hs' H') : Post K mg W Hs H σ r P' := by
  cases r with
  | ok a => exact fun Hs' H' e' => hp _ _ _ e' (h Hs' H' e')
  | ex x => exact h
  | bad => exact h
theorem Post.bind {r : R α} {f : α → R β} {P : β → Hp → Hp → Prop} (h : Post K mg W Hs H σ (r.bind f) P) : Post K mg W Hs H σ r (fun a Hs' H' => Post K mg W Hs' H' σ (f a) P) := by
  cases r with
  | ok a => exact fun Hs' H' e => Post.up e h
  | ex x => exact h
  | bad => exact h
theorem Post.now {a : α} {P : α → Hp → Hp → Prop} (hs : Same Hs H) (h : Post K mg W Hs H σ (.ok a) P) : P a Hs H := h Hs H (.refl hs)
end

/-! ### the readings -/
/-- read at once: a list whose items are frozen, or frozen data -/
def Pk (K : Fg) (Hs H : Hp) (d : D) (v : V) : Prop := Rp K Hs d v ∨ ∃ l a xs, d = .list l ∧ v = .ref a ∧ SqL K H a xs ∧ RpL K Hs l xs
theorem Pk.up {K : Fg} {Hs H Hs1 H1 : Hp} {d : D} {v : V} (h : Pk K Hs H d v) (e : Ext Hs H Hs1 H1) : Pk K Hs1 H1 d v := by
  rcases h with h | ⟨l, a, xs, h1, h2, h3, h4⟩
  · exact .inl (h.mono e.grow)
  · exact .inr ⟨l, a, xs, h1, h2, Same.seq e.same h3, h4.mono e.grow⟩
theorem Pk.rp {K : Fg} {Hs H : Hp} {d : D} {v : V} (h : Pk K Hs H d v) (e : Same Hs H) : Rp K H d v := by
  rcases h with h | ⟨l, a, xs, rfl, rfl, h3, h4⟩
  · exact h.mono e
  · exact .lst h3 (h4.mono e)
theorem Pk.list {K : Fg} {Hs H : Hp} {l : List D} {v : V} (h : Pk K Hs H (.list l) v) (e : Same Hs H) : ∃ a xs, v = .ref a ∧ SqL K H a xs ∧ RpL K Hs l xs := by
  rcases h with h | ⟨l', a, xs, h1, h2, h3, h4⟩
  · cases h with
    | lst h1 h2 => exact ⟨_, _, rfl, Same.seq e h1, h2⟩
  · cases h1
    exact ⟨a, xs, h2, h3, h4⟩
theorem Pk.tup {K : Fg} {Hs H : Hp} {l : List D} {v : V} (h : Pk K Hs H (.tuple l) v) (e : Same Hs H) : ∃ a xs, v = .ref a ∧ SqT K H a xs ∧ RpL K Hs l xs := by
  rcases h with h | ⟨l', a, xs, h1, h2, h3, h4⟩
  · cases h with
    | tup h1 h2 => exact ⟨_, _, rfl, SqT.mono e h1, h2⟩
  · cases h1
theorem Pk.int {K : Fg} {Hs H : Hp} {i : Int} {v : V} (h : Pk K Hs H (.int i) v) : v = .int i := by
  rcases h with h | ⟨l', a, xs, h1, h2, h3, h4⟩
  · cases h; rfl
  · cases h1
theorem Pk.bl {K : Fg} {Hs H : Hp} {i : Bool} {v : V} (h : Pk K Hs H (.bool i) v) : v = .bl i := by
  rcases h with h | ⟨l', a, xs, h1, h2, h3, h4⟩
  · cases h; rfl
  · cases h1
theorem Pk.str {K : Fg} {Hs H : Hp} {i : Str} {v : V} (h : Pk K Hs H (.str i) v) : v = .str i := by
  rcases h with h | ⟨l', a, xs, h1, h2, h3, h4⟩
  · cases h; rfl
  · cases h1
theorem Pk.non {K : Fg} {Hs H : Hp} {v : V} (h : Pk K Hs H .none v) : v = .non := by
  rcases h with h | ⟨l', a, xs, h1, h2, h3, h4⟩
  · cases h; rfl
  · cases h1

def tE (K : Fg) (mg : Str → Option Value) (W : WX) (f : Ev → R D) : TE := fun σ H Q => ∃ S G Hs ρ, RelE K S G Hs H σ ρ ∧ Post K mg W Hs H σ (f ρ) (fun d Hs' H' => ∀ v, Rp K Hs' d v → Q v H')
/-- read at once -/
def tPk (K : Fg) (mg : Str → Option Value) (W : WX) (f : Ev → R D) : TE := fun σ H Q => ∃ S G Hs ρ, RelE K S G Hs H σ ρ ∧ Post K mg W Hs H σ (f ρ) (fun d Hs' H' => ∀ v, Pk K Hs' H' d v → Q v H')
/-- a new list -/
def tO (K : Fg) (mg : Str → Option Value) (W : WX) (f : Ev → R (List D)) : TE := fun σ H Q => ∃ S G Hs ρ, RelE K S G Hs H σ ρ ∧
  Post K mg W Hs H σ (f ρ) (fun l Hs' H' => ∀ p vs, H p = none → Hs' p = none → H' p = some (.lst vs) → RpL K Hs' l vs → Q (.ref p) H')
def tT (K : Fg) (mg : Str → Option Value) (W : WX) (f : Ev → R Bool) : TT := fun σ H Q => ∃ S G Hs ρ, RelE K S G Hs H σ ρ ∧ Post K mg W Hs H σ (f ρ) (fun b _ H' => Q b H')
def tA (K : Fg) (mg : Str → Option Value) (W : WX) (f : Ev → R (List D)) : TA := fun σ H Q => ∃ S G Hs ρ, RelE K S G Hs H σ ρ ∧ Post K mg W Hs H σ (f ρ) (fun ds Hs' H' => ∀ vs, RpL K Hs' ds vs → Q vs H')

def VE (X : Cx) (W : WX) (e : Expr) (f : Ev → R D) : Prop := PE X e (tE X.K X.mg W f)
def VP (X : Cx) (W : WX) (e : Expr) (f : Ev → R D) : Prop := PE X e (tPk X.K X.mg W f)
def VO (X : Cx) (W : WX) (e : Expr) (f : Ev → R (List D)) : Prop := PE X e (tO X.K X.mg W f)
def VT (X : Cx) (W : WX) (e : Expr) (f : Ev → R Bool) : Prop := PT X e (tT X.K X.mg W f)
def VW (X : Cx) (W : WX) (e : Expr) (f : Ev → R Bool) : Prop := PW X e (tT X.K X.mg W f)
def VA (X : Cx) (W : WX) (es : List Expr) (f : Ev → R (List D)) : Prop := PA X es (tA X.K X.mg W f)

theorem PE.imp {X : Cx} {e : Expr} {t t' : TE} (h : PE X e t) (i : ∀ σ H Q, t' σ H Q → t σ H Q) : PE X e t' := ⟨fun pins s σ H Q I q => h.run pins s σ H Q I (i σ H Q q)⟩
theorem PT.imp {X : Cx} {e : Expr} {t t' : TT} (h : PT X e t) (i : ∀ σ H Q, t' σ H Q → t σ H Q) : PT X e t' := ⟨fun pins s σ H Q I q => h.run pins s σ H Q I (i σ H Q q)⟩
theorem PW.imp {X : Cx} {e : Expr} {t t' : TT} (h : PW X e t) (i : ∀ σ H Q, t' σ H Q → t σ H Q) : PW X e t' := ⟨fun wh pins s σ H Q I q => h.run wh pins s σ H Q I (i σ H Q q)⟩
theorem PA.imp {X : Cx} {es : List Expr} {t t' : TA} (h : PA X es t) (i : ∀ σ H Q, t' σ H Q → t σ H Q) : PA X es t' := ⟨fun pos pins s σ H Q I q => h.run pos pins s σ H Q I (i σ H Q q)⟩
theorem PS.imp {X : Cx} {st : Stmt} {t t' : TS} (h : PS X st t) (i : ∀ D σ H, t' D σ H → t D σ H) : PS X st t' := ⟨fun pins s σ H D I q => h.run pins s σ H D I (i D σ H q)⟩
theorem PSs.imp {X : Cx} {st : List Stmt} {t t' : TS} (h : PSs X st t) (i : ∀ D σ H, t' D σ H → t D σ H) : PSs X st t' := ⟨fun pins s σ H D I q => h.run pins s σ H D I (i D σ H q)⟩
theorem PG.imp {X : Cx} {tg : Expr} {t t' : TG} (h : PG X tg t) (i : ∀ v σ H Q, t' v σ H Q → t v σ H Q) : PG X tg t' := ⟨fun pins s σ H v u Q I r q => h.run pins s σ H v u Q I r (i v σ H Q q)⟩
theorem PI.imp {X : Cx} {tg iter : Expr} {t t' : TI} (h : PI X tg iter t) (i : ∀ σ H Q, t' σ H Q → t σ H Q) : PI X tg iter t' := ⟨fun pins s σ H Q I q => h.run pins s σ H Q I (i σ H Q q)⟩

/-- a computation whose exception is not wanted -/
def noex {α : Type} : R α → R α
  | .ok a => .ok a
  | _ => .bad
def ofO {α : Type} : Option α → R α
  | some a => .ok a
  | none => .bad
theorem ofO_some {α : Type} (a : α) : ofO (some a) = .ok a := rfl
theorem bind_ok {α β : Type} (a : α) (f : α → R β) : (R.ok a).bind f = f a := rfl
theorem bind_ex {α β : Type} (x : Xn) (f : α → R β) : (R.ex x : R α).bind f = .ex x := rfl
theorem bind_bad {α β : Type} (f : α → R β) : (R.bad : R α).bind f = .bad := rfl

/-! ### combinators -/
def cst {α : Type} (a : α) : Ev → R α := fun _ => .ok a
def eVar (i : Nat) : Ev → R D := fun ρ => match ρ[i]? with
  | some (.sh d) => .ok d
  | _ => .bad
/-- .. or a list of one's own, read at once -/
def eOwn (i : Nat) : Ev → R D := fun ρ => match ρ[i]? with
  | some (.sh d) => .ok d
  | some (.ow l) => .ok (.list l)
  | some (.bo l) => .ok (.list l)
  | _ => .bad
def e1 {α β : Type} (F : α → Option β) (f : Ev → R α) : Ev → R β := fun ρ => (f ρ).bind fun x => ofO (F x)
def e2 {α β γ : Type} (F : α → β → Option γ) (f : Ev → R α) (g : Ev → R β) : Ev → R γ := fun ρ => (f ρ).bind fun x => (g ρ).bind fun y => ofO (F x y)
def eCons (f : Ev → R D) (g : Ev → R (List D)) : Ev → R (List D) := fun ρ => (f ρ).bind fun x => (g ρ).bind fun xs => .ok (x :: xs)
def eLst (f : Ev → R (List D)) : Ev → R D := fun ρ => (f ρ).bind fun l => .ok (.list l)
def eIf {α : Type} (c : Ev → R Bool) (f g : Ev → R α) : Ev → R α := fun ρ => (c ρ).bind fun b => if b then f ρ else g ρ
def eAnd (f g : Ev → R Bool) : Ev → R Bool := fun ρ => (f ρ).bind fun b => if b then g ρ else .ok false
def eOr (f g : Ev → R Bool) : Ev → R Bool := fun ρ => (f ρ).bind fun b => if b then .ok true else g ρ
def eNot (f : Ev → R Bool) : Ev → R Bool := fun ρ => (f ρ).bind fun b => .ok (!b)

section
variable {X : Cx} {W : WX} {e a b c : Expr} {es : List Expr} {pos : Pos} {f g : Ev → R D} {fl : Ev → R (List D)} {fb gb : Ev → R Bool}

theorem VE.vp (h : VE X W e f) : VP X W e f := PE.imp h fun σ H Q ⟨S, G, Hs, ρ, r, p⟩ => ⟨S, G, Hs, ρ, r, p.imp fun _ _ _ e q v hv => q v (.inl hv)⟩
theorem VO.ve (h : VO X W e fl) : VE X W e (eLst fl) := PE.imp h fun σ H Q ⟨S, G, Hs, ρ, r, p⟩ => ⟨S, G, Hs, ρ, r, by
  unfold eLst at p
  cases q : fl ρ with
  | bad => rw [q] at p; exact p
  | ex x => rw [q] at p; exact p
  | ok l =>
    rw [q] at p
    refine fun Hs' H' e p' vs h0 h1 h2 h3 => ?_
    exact p _ _ (e.frz h0 h2 h1) _ (.lst (.inl (.inl upd_same)) (h3.mono fun b u z => by rw [upd_ne (ne_of_none z h1)]; exact z))⟩

/-! ### names, constants -/
theorem ve_pe {v : V} {d : D} (h : PE X e (tC v)) (hd : ∀ K H, Rp K H d v) : VE X W e (cst d) := PE.imp h fun σ H Q ⟨S, G, Hs, ρ, r, p⟩ => p.now r.sub v (hd _ _)
theorem ve_int {i j pos} : VE X W (.Constant (.int i) j pos) (cst (.int i)) := ve_pe pe_int fun _ _ => .int i
theorem ve_bl {i j pos} : VE X W (.Constant (.bool i) j pos) (cst (.bool i)) := ve_pe pe_bl fun _ _ => .bl i
theorem ve_non {j pos} : VE X W (.Constant .none j pos) (cst .none) := ve_pe pe_non fun _ _ => .non
theorem ve_str {i j pos} : VE X W (.Constant (.str i) j pos) (cst (.str i)) := ve_pe pe_str fun _ _ => .str i
theorem ve_var (i : Nat) {x : Str} {pos : Pos} (h : PE X (.Name x pos) (tVar i)) : VE X W (.Name x pos) (eVar i) := PE.imp h fun σ H Q ⟨S, G, Hs, ρ, r, p⟩ => by
  unfold eVar at p
  cases q : ρ[i]? with
  | none => rw [q] at p; exact p.elim
  | some s =>
    rw [q] at p
    cases s with
    | no => exact p.elim
    | ow l => exact p.elim
    | bo l => exact p.elim
    | sh d =>
      obtain ⟨v, e1, e2⟩ := r.get q
      exact ⟨v, e1, p.now r.sub v e2⟩
theorem vp_var (i : Nat) {x : Str} {pos : Pos} (h : PE X (.Name x pos) (tVar i)) : VP X W (.Name x pos) (eOwn i) := PE.imp h fun σ H Q ⟨S, G, Hs, ρ, r, p⟩ => by
  unfold eOwn at p
  cases q : ρ[i]? with
  | none => rw [q] at p; exact p.elim
  | some s =>
    rw [q] at p
    cases s with
    | no => exact p.elim
    | ow l =>
      obtain ⟨a, vs, e1, _, _, e4, e5⟩ := r.own q
      exact ⟨_, e1, p.now r.sub _ (.inr ⟨l, a, vs, rfl, rfl, .inl (.inl e4), e5⟩)⟩
    | bo l =>
      obtain ⟨a, vs, e1, _, e4, e5⟩ := r.lent q
      exact ⟨_, e1, p.now r.sub _ (.inr ⟨l, a, vs, rfl, rfl, .inl (.inl e4), e5⟩)⟩
    | sh d =>
      obtain ⟨v, e1, e2⟩ := r.get q
      exact ⟨v, e1, p.now r.sub v (.inl e2)⟩

/-! ### operators -/
def OpD (K : Fg) (r : R2) (F : D → D → Option D) : Prop := ∀ (Hs H : Hp) (x y : D) (u v : V) (Q : VK) (d : D), Same Hs H → F x y = some d → Pk K Hs H x u → Pk K Hs H y v →
  (∀ Hs' H' w, Ext Hs H Hs' H' → Rp K Hs' d w → Q w H') → r u v H Q
def OpO (K : Fg) (r : R2) (F : D → D → Option (List D)) : Prop := ∀ (Hs H : Hp) (x y : D) (u v : V) (Q : VK) (l : List D), Same Hs H → F x y = some l → Pk K Hs H x u → Pk K Hs H y v →
  (∀ Hs' H' p vs, Ext Hs H Hs' H' → H p = none → Hs' p = none → H' p = some (.lst vs) → RpL K Hs' l vs → Q (.ref p) H') → r u v H Q
theorem sim_op {K : Fg} {mg : Str → Option Value} {r : R2} {F : D → D → Option D} (hd : OpD K r F) : ∀ σ H Q, tE K mg W (e2 F f g) σ H Q → tOp r (tPk K mg W f) (tPk K mg W g) σ H Q := fun σ H Q ⟨S, G, Hs, ρ, r, p⟩ => by
  refine ⟨S, G, Hs, ρ, r, (Post.bind p).imp fun x Hs1 H1 e q u hu => ?_⟩
  refine ⟨S, G, Hs1, ρ, r.step e, (Post.bind q).imp fun y Hs2 H2 e' q' v hv => ?_⟩
  cases z : F x y with
  | none => rw [z] at q'; exact q'.elim
  | some d =>
    rw [z] at q'
    exact hd Hs2 H2 x y u v Q d e'.sub z (hu.up e') hv fun Hs' H' w e'' hw => q' Hs' H' e'' w hw
theorem sim_opO {K : Fg} {mg : Str → Option Value} {r : R2} {F : D → D → Option (List D)} (hd : OpO K r F) : ∀ σ H Q, tO K mg W (e2 F f g) σ H Q → tOp r (tPk K mg W f) (tPk K mg W g) σ H Q := fun σ H Q ⟨S, G, Hs, ρ, r, p⟩ => by
  refine ⟨S, G, Hs, ρ, r, (Post.bind p).imp fun x Hs1 H1 e q u hu => ?_⟩
  refine ⟨S, G, Hs1, ρ, r.step e, (Post.bind q).imp fun y Hs2 H2 e' q' v hv => ?_⟩
  cases z : F x y with
  | none => rw [z] at q'; exact q'.elim
  | some d =>
    rw [z] at q'
    exact hd Hs2 H2 x y u v Q d e'.sub z (hu.up e') hv fun Hs' H' w vs e'' h0 h1 h2 h3 => q' Hs' H' e'' w vs ((e.trans e').same.free h0) h1 h2 h3
theorem ve_op {op : Operator} {r : R2} {F : D → D → Option D} (ho : OpR X (binaryOp op) r) (hd : OpD X.K r F) (ha : VP X W a f) (hb : VP X W b g) : VE X W (.BinOp a op b pos) (e2 F f g) := PE.imp (pe_op ho ha hb) (sim_op hd)
theorem vo_op {op : Operator} {r : R2} {F : D → D → Option (List D)} (ho : OpR X (binaryOp op) r) (hd : OpO X.K r F) (ha : VP X W a f) (hb : VP X W b g) : VO X W (.BinOp a op b pos) (e2 F f g) := PE.imp (pe_op ho ha hb) (sim_opO hd)
theorem ve_cmp {op : CmpOp} {r : R2} {F : D → D → Option D} (ho : OpR X (compareOp op) r) (hd : OpD X.K r F) (ha : VP X W a f) (hb : VP X W b g) (hm : behindInMarks op b = false) : VE X W (.Compare a [op] [b] pos) (e2 F f g) := PE.imp (pe_cmpR ho ha hb hm) (sim_op hd)
theorem ve_ix {r : R2} {F : D → D → Option D} (hr : IxR X r) (hd : OpD X.K r F) (ha : VP X W a f) (hb : VP X W b g) (hs : PlainIx b) : VE X W (.Subscript a b pos) (e2 F f g) := PE.imp (pe_ix hr ha hb hs) (sim_op hd)
/-- one place -/
def UnD (K : Fg) (r : V → Hp → VK → Prop) (F : D → Option D) : Prop := ∀ (Hs H : Hp) (x : D) (u : V) (Q : VK) (d : D), Same Hs H → F x = some d → Pk K Hs H x u →
  (∀ Hs' H' w, Ext Hs H Hs' H' → Rp K Hs' d w → Q w H') → r u H Q
theorem sim_un {K : Fg} {mg : Str → Option Value} {r : V → Hp → VK → Prop} {F : D → Option D} (hd : UnD K r F) : ∀ σ H Q, tE K mg W (e1 F f) σ H Q → tUn r (tPk K mg W f) σ H Q := fun σ H Q ⟨S, G, Hs, ρ, r, p⟩ => by
  refine ⟨S, G, Hs, ρ, r, (Post.bind p).imp fun x Hs1 H1 e q u hu => ?_⟩
  cases z : F x with
  | none => rw [z] at q; exact q.elim
  | some d =>
    rw [z] at q
    exact hd Hs1 H1 x u Q d e.sub z hu fun Hs' H' w e'' hw => q Hs' H' e'' w hw
theorem ve_un {op : UnaryOp} {r : V → Hp → VK → Prop} {F : D → Option D} (ho : UnR X (unaryOp op) r) (hd : UnD X.K r F) (ha : VP X W a f) : VE X W (.UnaryOp op a pos) (e1 F f) := PE.imp (pe_un ho ha) (sim_un hd)

/-! ### tests -/
def bOf : D → Option Bool
  | .bool b => some b
  | _ => none
def truD : D → Option Bool
  | .none => some false
  | .bool b => some b
  | .int i => some (i != 0)
  | .str x => if x.length ≤ sizeLine then some ((x.length : Int) != 0) else none
  | .list l => some (!l.isEmpty)
  | .tuple l => some (!l.isEmpty)
  | .dict _ => none
theorem truV_of {K : Fg} {Hs H : Hp} {d : D} {v : V} {k : Bool} (hs : Same Hs H) (h : Pk K Hs H d v) (e : truD d = some k) : TruV K v H k := by
  have emp : ∀ {l : List D} {xs : List V}, RpL K Hs l xs → (!l.isEmpty) = !xs.isEmpty := fun {l xs} r => by cases r <;> rfl
  cases d with
  | none => cases h.non; exact (Option.some.inj e).symm
  | bool b => cases h.bl; exact (Option.some.inj e).symm
  | int i => cases h.int; exact (Option.some.inj e).symm
  | str x =>
    cases h.str
    have e' : (if x.length ≤ sizeLine then some ((x.length : Int) != 0) else none) = some k := e
    split at e'
    · rename_i hz
      exact ⟨hz, (Option.some.inj e').symm⟩
    · cases e'
  | list l =>
    obtain ⟨a, xs, rfl, h1, h2⟩ := h.list hs
    exact .inl ⟨xs, h1, by rw [← emp h2]; exact (Option.some.inj e).symm⟩
  | tuple l =>
    obtain ⟨a, xs, rfl, h1, h2⟩ := h.tup hs
    exact .inr (.inl ⟨xs, h1, by rw [← emp h2]; exact (Option.some.inj e).symm⟩)
  | dict _ => cases e
theorem vt_tru (ha : VP X W a f) (he : ∀ whole, isTrue a X.env whole = (do let v ← whole; standAt a.pos; holding [v] (truthy v))) : VT X W a (e1 truD f) := PT.imp (pt_truth ha he) fun σ H Q ⟨S, G, Hs, ρ, r, p⟩ => by
  refine ⟨S, G, Hs, ρ, r, (Post.bind p).imp fun x Hs1 H1 e q u hu => ?_⟩
  cases z : truD x with
  | none => rw [z] at q; exact q.elim
  | some k =>
    rw [z] at q
    exact ⟨k, truV_of e.sub hu z, q.now e.sub⟩
/-- a comparison as a test -/
theorem vt_cmp {op : CmpOp} {r : R2} {F : D → D → Option D} (ho : OpR X (compareOp op) r) (hd : OpD X.K r F) (ha : VP X W a f) (hb : VP X W b g) (hm : behindInMarks op b = false) : VT X W (.Compare a [op] [b] pos) (e1 bOf (e2 F f g)) := by
  refine PT.imp (pt_cmpR ho ha hb hm) fun σ H Q ⟨S, G, Hs, ρ, r, p⟩ => ?_
  refine sim_op hd σ H _ ⟨S, G, Hs, ρ, r, (Post.bind p).imp fun x Hs1 H1 e q v hv => ?_⟩
  cases x with
  | bool k => cases hv; exact ⟨k, rfl, q.now e.sub⟩
  | none => exact q.elim
  | int _ => exact q.elim
  | str _ => exact q.elim
  | list _ => exact q.elim
  | tuple _ => exact q.elim
  | dict _ => exact q.elim
theorem sim_and {K : Fg} {mg : Str → Option Value} : ∀ σ H Q, tT K mg W (eAnd fb gb) σ H Q → tAnd (tT K mg W fb) (tT K mg W gb) σ H Q := fun σ H Q ⟨S, G, Hs, ρ, r, p⟩ => by
  refine ⟨S, G, Hs, ρ, r, (Post.bind p).imp fun k Hs1 H1 e q => ?_⟩
  cases k with
  | true => exact ⟨S, G, Hs1, ρ, r.step e, q⟩
  | false => exact q.now e.sub
theorem sim_or {K : Fg} {mg : Str → Option Value} : ∀ σ H Q, tT K mg W (eOr fb gb) σ H Q → tOr (tT K mg W fb) (tT K mg W gb) σ H Q := fun σ H Q ⟨S, G, Hs, ρ, r, p⟩ => by
  refine ⟨S, G, Hs, ρ, r, (Post.bind p).imp fun k Hs1 H1 e q => ?_⟩
  cases k with
  | false => exact ⟨S, G, Hs1, ρ, r.step e, q⟩
  | true => exact q.now e.sub
theorem VW.vt (h : VW X W e fb) : VT X W e fb := PW.pt h
theorem vw_and1 (ha : VT X W a fb) : VW X W (.BoolOp .And [a] pos) fb := pw_and1 ha
theorem vw_or1 (ha : VT X W a fb) : VW X W (.BoolOp .Or [a] pos) fb := pw_or1 ha
theorem vw_and {rest : List Expr} (ha : VT X W a fb) (hb : VW X W (.BoolOp .And (b :: rest) pos) gb) : VW X W (.BoolOp .And (a :: b :: rest) pos) (eAnd fb gb) := PW.imp (pw_and ha hb) sim_and
theorem vw_or {rest : List Expr} (ha : VT X W a fb) (hb : VW X W (.BoolOp .Or (b :: rest) pos) gb) : VW X W (.BoolOp .Or (a :: b :: rest) pos) (eOr fb gb) := PW.imp (pw_or ha hb) sim_or
theorem vt_not (ha : VT X W a fb) : VT X W (.UnaryOp .Not a pos) (eNot fb) := PT.imp (pt_not ha) fun σ H Q ⟨S, G, Hs, ρ, r, p⟩ =>
  ⟨S, G, Hs, ρ, r, (Post.bind p).imp fun k Hs1 H1 e q => q.now e.sub⟩
theorem ve_ifExp (hc : VT X W c fb) (ha : VE X W a f) (hb : VE X W b g) : VE X W (.IfExp c a b pos) (eIf fb f g) := PE.imp (pe_ifExp hc ha hb) fun σ H Q ⟨S, G, Hs, ρ, r, p⟩ => by
  refine ⟨S, G, Hs, ρ, r, (Post.bind p).imp fun k Hs1 H1 e q => ?_⟩
  cases k with
  | true => exact ⟨S, G, Hs1, ρ, r.step e, q⟩
  | false => exact ⟨S, G, Hs1, ρ, r.step e, q⟩

/-! ### arguments, displays -/
theorem va_nil : VA X W [] (cst []) := PA.imp pa_nil fun σ H Q ⟨S, G, Hs, ρ, r, p⟩ => p.now r.sub [] .nil
theorem va_cons (ha : VE X W e f) (hr : VA X W es fl) (hs : starEach (e :: es) X.env = (false, eval e X.env) :: starEach es X.env := by rfl) : VA X W (e :: es) (eCons f fl) := PA.imp (pa_cons ha hr hs) fun σ H Q ⟨S, G, Hs, ρ, r, p⟩ => by
  refine ⟨S, G, Hs, ρ, r, (Post.bind p).imp fun x Hs1 H1 e q u hu => ?_⟩
  refine ⟨S, G, Hs1, ρ, r.step e, (Post.bind q).imp fun xs Hs2 H2 e' q' us hus => ?_⟩
  exact q'.now e'.sub (u :: us) (.cons (hu.mono e'.grow) hus)
def lim (l : List D) : Option (List D) := if l.length ≤ sizeLine then some l else none
theorem lim_some {l l' : List D} (h : lim l = some l') : l' = l ∧ l.length ≤ sizeLine := by
  unfold lim at h
  split at h
  · rename_i z
    exact ⟨(Option.some.inj h).symm, z⟩
  · cases h
def tupD (l : List D) : Option D := (lim l).map .tuple
theorem ve_tup {x1 : Nat} (h : VA X W es fl) : VE X W (.Tuple es x1 pos) (e1 tupD fl) := PE.imp (pe_tup h) fun σ H Q ⟨S, G, Hs, ρ, r, p⟩ => by
  refine ⟨S, G, Hs, ρ, r, (Post.bind p).imp fun l Hs1 H1 e q us hus => ?_⟩
  unfold tupD at q
  cases z : lim l with
  | none => rw [z] at q; exact q.elim
  | some l' =>
    rw [z] at q
    obtain ⟨rfl, hz⟩ := lim_some z
    refine ⟨by rw [← hus.length]; exact hz, fun p hp => ?_⟩
    have x := Ext.new (o := .tup us) e.sub hp
    exact q _ _ x _ (.tup (.inl (.inl upd_same)) (hus.mono x.grow))
theorem vo_lst (h : VA X W es fl) : VO X W (.List es pos) (e1 lim fl) := PE.imp (pe_lst h) fun σ H Q ⟨S, G, Hs, ρ, r, p⟩ => by
  refine ⟨S, G, Hs, ρ, r, (Post.bind p).imp fun l Hs1 H1 e q us hus => ?_⟩
  cases z : lim l with
  | none => rw [z] at q; exact q.elim
  | some l' =>
    rw [z] at q
    obtain ⟨rfl, hz⟩ := lim_some z
    refine ⟨by rw [← hus.length]; exact hz, fun p hp => ?_⟩
    have x := Ext.hid (o := .lst us) e.sub hp
    refine q _ _ x p us (e.same.free hp) ?_ upd_same hus
    cases y : Hs1 p with
    | none => rfl
    | some o => rw [e.sub _ _ y] at hp; cases hp
end
end VL

set_option Elab.async false
set_option linter.all false
set_option maxRecDepth 100000
set_option autoImplicit false
namespace VL
open PySem PySem.Spec PyProof.Rows L2

/-! ### operators by data -/
/-- a two-place operator of the machine computes F on data -/
def DOp (X : Cx) (f : Value → Value → Sem Value) (F : D → D → Option D) : Prop := ∃ r, OpR X f r ∧ OpD X.K r F
def DOpO (X : Cx) (f : Value → Value → Sem Value) (F : D → D → Option (List D)) : Prop := ∃ r, OpR X f r ∧ OpO X.K r F

section
variable {X : Cx} {pins : List (Addr × Obj)} {σ : Sg} {H : Hp} {s : Shared} {a b : Addr} {xs zs : List V}
/-- a list that is read, its very object -/
theorem rd_obj (I : Inv X pins σ H s) (h : SqL X.K H a xs) : xs.length ≤ sizeLine ∧ ∃ (its : List Value) (n : Nat) (sl : Array (Option Value)), Vals xs its ∧ xs.length = its.length ∧ s.heap.get? a = some { cls := .type "list", dict := none, data := .seq its.toArray n, slots := sl } := by
  obtain ⟨its, r, ⟨o, n, e, hc, hd, hs⟩, z⟩ := I.list h
  obtain ⟨c, d, dt, sl⟩ := o
  simp only at hc hd hs
  subst hc hd hs
  exact ⟨z, its, n, sl, r, r.length, e⟩
end
open PySem.AutoSeq1 (wpAny_loadPart') in
theorem list_mulW (l : Addr) (items : Array Value) (n : Nat) (sl : Array (Option Value)) (x : Int) (u : Tok) (hc0 : ¬(!Builtin.List.listFitsIndex x) = true) (hc1 : ¬items.size * x.toNat > (2 ^ 63 - 1) / 8) (hc2 : ¬Builtin.List.listTooLong (items.size * x.toNat) = true) :
    Meets (Builtin.«list.__mul__» ⟨[.ref l, .int x u], []⟩) (fun _ R s => s.heap.get? l = some { cls := .type "list", dict := none, data := .seq items n, slots := sl } ∧ R (.ok (.ret (Value.ref s.heap.objs.size))) { s with heap := s.heap.push { cls := Value.type "list", data := Data.seq (List.foldl (fun x1 x2 => x1 ++ x2) #[] (List.replicate (if items.isEmpty = true then 0 else x.toNat) items)) }, toks := s.toks }) :=
  .of_wp fun prog w A R s h => by
    obtain ⟨hp, g, d, tk, os⟩ := s; obtain ⟨hl, h⟩ := h
    have hsz := PySem.AutoListH.joined_fits hc2
    wp_walk using wpAny_loadPart' hl
    refine wpAny_ite_false (decide_eq_false (Nat.not_lt.mpr hsz)) ?_; wp_walk using wpAny_loadPart' hl; exact ⟨_, rfl, h⟩
open PySem.AutoSeq1 (wpAny_loadPart') in
theorem int_rmulW (a : Int) (t : Tok) (l : Addr) (items : Array Value) (n : Nat) (sl : Array (Option Value)) :
    Meets (Builtin.«int.__rmul__» ⟨[.int a t, .ref l], []⟩) (fun _ R s => s.heap.get? l = some { cls := .type "list", dict := none, data := .seq items n, slots := sl } ∧ R (.ok (.ret Value.notImplemented)) s) :=
  .of_wp fun prog w A R s h => by obtain ⟨hp, g, d, tk, os⟩ := s; obtain ⟨hl, h⟩ := h; wp_walk using wpAny_loadPart' hl; exact ⟨_, rfl, h⟩
section
variable {X : Cx}
def rCatS (K : Fg) : R2 := fun x y H Q => ∃ l b xs zs, x = .ref l ∧ y = .ref b ∧ SqL K H l xs ∧ SqL K H b zs ∧ xs.length + zs.length ≤ sizeLine ∧ ∀ p, H p = none → Q (.ref p) (upd H p (.lst (xs ++ zs)))
theorem op_catR : OpR X (binaryOp .Add) (rCatS X.K) := by
  intro pins s σ H x y v u Q I rx ry h
  obtain ⟨l, b, xs, zs, rfl, rfl, hH, hB, hz, q⟩ := h
  cases rx
  cases ry
  obtain ⟨z, its, n, sl, r, hl, e⟩ := rd_obj I hH
  obtain ⟨z2, its2, n2, sl2, r2, hl2, e2⟩ := rd_obj I hB
  have ea : its.toArray ++ its2.toArray = (its ++ its2).toArray := by simp
  refine concat_meets ⟨_, e, rfl⟩ ⟨_, e2, rfl⟩ noFill_list_add seq_list_add PySem.F.slot_list_add PySem.F.entry_list_add (PySem.F.args_list_add_2 _ _) (list_addW l b its.toArray its2.toArray n n2 none none sl sl2 (by rw [List.size_toArray, List.size_toArray]; omega)) ⟨e, e2, ?_⟩
  rw [ea]
  exact ⟨.ref _, _, I.lnew (t' := s.toks) (r.append r2) (by rw [List.length_append]; omega), rfl, q _ I.fresh⟩
def rRepR (K : Fg) : R2 := fun x y H Q => ∃ l k xs, x = .ref l ∧ y = .int k ∧ SqL K H l xs ∧ -(2 ^ 63) ≤ k ∧ k < 2 ^ 63 ∧ xs.length * k.toNat ≤ sizeLine ∧
  ∀ p, H p = none → Q (.ref p) (upd H p (.lst (List.replicate k.toNat xs).flatten))
theorem op_repR : OpR X (binaryOp .Mult) (rRepR X.K) := by
  intro pins s σ H x y v u Q I rx ry h
  obtain ⟨l, k, xs, rfl, rfl, hH, h1, h2, hz, q⟩ := h
  cases rx
  obtain ⟨t, rfl⟩ := ry
  obtain ⟨z, its, n, sl, r, hl, e⟩ := rd_obj I hH
  have hlen : its.toArray.size * k.toNat ≤ sizeLine := by rw [List.size_toArray, ← hl]; exact hz
  have hcap : ¬ its.toArray.size * k.toNat > (2 ^ 63 - 1) / 8 := by
    have : (sizeLine : Nat) ≤ (2 ^ 63 - 1) / 8 := by decide
    omega
  have hfit : ¬ (!Builtin.List.listFitsIndex k) = true := by
    rw [fitsIndex_both h1 h2]
    exact Bool.false_ne_true
  have hlong : ¬ Builtin.List.listTooLong (its.toArray.size * k.toNat) = true := by
    rw [notLongL hlen]
    exact Bool.false_ne_true
  have hnew : List.foldl (fun x1 x2 => x1 ++ x2) #[] (List.replicate (if its.toArray.isEmpty = true then 0 else k.toNat) its.toArray) = (List.replicate k.toNat its).flatten.toArray := by
    have f0 : ∀ m : Nat, List.foldl (fun x1 x2 => x1 ++ x2) #[] (List.replicate m its.toArray) = (List.replicate m its).flatten.toArray := fun m => by
      have := foldl_rep its m []
      rw [List.nil_append] at this
      exact this
    rw [f0]
    cases its with
    | nil => simp
    | cons a r' => rw [if_neg (by simp)]
  refine wpAny_binaryOp_repeat_ref (T := "list") (U := "int") (by decide) ⟨_, e, rfl⟩ (fun s' => typeIs_int s' k t) noFill_list_mul F.fills_int_mul F.slot_int_rmul repeat_list F.slot_int_index.lookup
    (call_meets F.slot_int_rmul (typeIs_int s k t) F.entry_int_rmul (F.args_int_rmul_2 _ _) (int_rmulW k t l its.toArray n sl)
      ⟨e, rfl, ⟨_, e, rfl⟩, call_meets F.slot_list_mul ⟨_, e, rfl⟩ F.entry_list_mul (F.args_list_mul_2 _ _) (list_mulW l its.toArray n sl k t hfit hcap hlong) ⟨e, ?_⟩⟩)
  rw [hnew]
  exact ⟨.ref _, _, I.lnew (t' := s.toks) (r.rep k.toNat) (by rw [PyProof.Rows.lm_len_rep_flat, Nat.mul_comm]; exact hz), rfl, q _ I.fresh⟩
end

/-! ### the data functions -/
def okMul (i j : Int) : Bool := decide ((Builtin.Int.intBits i : Int) + (Builtin.Int.intBits j : Int) ≤ 134217728)
def okDiv (i j : Int) : Bool := decide (j ≠ 0) && !(Builtin.divisionGoesByPylong i j)
def okPow (i j : Int) : Bool := decide (0 ≤ j ∧ j ≤ 1000000 ∧ i.natAbs < 2 ^ 64)
def catD (a b : List D) : Option (List D) := if a.length + b.length ≤ sizeLine then some (a ++ b) else none
def repD (a : List D) (k : Int) : Option (List D) := if -(2 ^ 63) ≤ k ∧ k < 2 ^ 63 ∧ a.length * k.toNat ≤ sizeLine then some (List.replicate k.toNat a).flatten else none
def addD : D → D → Option D
  | .int i, .int j => some (.int (i + j))
  | .str a, .str b => if a.length + b.length ≤ sizeLine then some (.str (a ++ b)) else none
  | .list a, .list b => (catD a b).map .list
  | _, _ => none
def addO : D → D → Option (List D)
  | .list a, .list b => catD a b
  | _, _ => none
def subD : D → D → Option D
  | .int i, .int j => some (.int (i - j))
  | _, _ => none
def mulD : D → D → Option D
  | .int i, .int j => if okMul i j then some (.int (i * j)) else none
  | .list a, .int k => (repD a k).map .list
  | _, _ => none
def mulO : D → D → Option (List D)
  | .list a, .int k => repD a k
  | _, _ => none
def fdivD : D → D → Option D
  | .int i, .int j => if okDiv i j then some (.int (i.fdiv j)) else none
  | _, _ => none
def modD : D → D → Option D
  | .int i, .int j => if j ≠ 0 then some (.int (i.fmod j)) else none
  | _, _ => none
def powD : D → D → Option D
  | .int i, .int j => if okPow i j then some (.int (i ^ j.toNat)) else none
  | _, _ => none
def ltD : D → D → Option D
  | .int i, .int j => some (.bool (decide (i < j)))
  | _, _ => none
def leD : D → D → Option D
  | .int i, .int j => some (.bool (decide (i ≤ j)))
  | _, _ => none
def gtD : D → D → Option D
  | .int i, .int j => some (.bool (decide (j < i)))
  | _, _ => none
def geD : D → D → Option D
  | .int i, .int j => some (.bool (decide (j ≤ i)))
  | _, _ => none
def eqS : D → D → Option Bool
  | .str x, .str y => some (decide (x = y))
  | _, _ => none
def eqD (a b : D) : Option D := if SeqAt.shaped a && SeqAt.shaped b then some (.bool (PyData.eqv a b)) else (eqS a b).map .bool
def neD (a b : D) : Option D := if SeqAt.shaped a && SeqAt.shaped b then some (.bool (!PyData.eqv a b)) else (eqS a b).map fun b => .bool (!b)
def isNonD : D → Bool
  | .none => true
  | _ => false
def isD : D → D → Option D
  | .bool a, .bool b => some (.bool (decide (a = b)))
  | a, .none => some (.bool (isNonD a))
  | _, _ => none
def isnotD : D → D → Option D
  | .bool a, .bool b => some (.bool (!decide (a = b)))
  | a, .none => some (.bool (!isNonD a))
  | _, _ => none
def negD : D → Option D
  | .int i => some (.int (-i))
  | _ => none
def ixD : D → D → Option D
  | .list l, .int i => atI l i
  | .tuple l, .int i => atI l i
  | .str z, .int i => if z.length ≤ sizeLine then (atI z.cps.toList i).map fun c => .str ⟨#[c]⟩ else none
  | _, _ => none
def flatD : D → Bool
  | .none | .bool _ | .int _ | .str _ => true
  | _ => false
def inD (x y : D) : Option Bool := match y with
  | .list ds => if SeqAt.shaped x && SeqAt.shaped (.list ds) then some (ds.any fun z => PyData.eqv z x) else none
  | .tuple ds => if flatD x && ds.all flatD then some (ds.any fun z => PyData.eqv z x) else none
  | .str j => match x with
    | .str i => some (!(Builtin.Str.occurrences j i 0 j.length 1).isEmpty)
    | _ => none
  | _ => none
def memD (x y : D) : Option D := (inD x y).map .bool
def nmemD (x y : D) : Option D := (inD x y).map fun b => .bool (!b)

section
variable {K : Fg} {Hs H : Hp}
theorem same_at {p : Addr} (h : Same Hs H) (n : H p = none) : Hs p = none := h.free n
theorem RpL.get' : ∀ {ds : List D} {vs : List V} {i : Nat} {v : V}, RpL K H ds vs → vs[i]? = some v → ∃ d, ds[i]? = some d ∧ Rp K H d v
  | _, _, _, _, .nil, e => by simp at e
  | _, _, 0, _, .cons h _, e => by simp at e; subst e; exact ⟨_, rfl, h⟩
  | _, _, i + 1, _, .cons _ r, e => by
    obtain ⟨v, h1, h2⟩ := RpL.get' (i := i) r (by simpa using e)
    exact ⟨v, by simpa using h1, h2⟩
theorem RpL.at {ds : List D} {vs : List V} {i : Int} {d : D} (r : RpL K H ds vs) (e : atI ds i = some d) : ∃ v, atI vs i = some v ∧ Rp K H d v := by
  unfold atI at e ⊢
  rw [← r.length]
  cases q : ixN ds.length i with
  | none => rw [q] at e; cases e
  | some j =>
    rw [q] at e
    exact r.get e
/-- a new list, frozen or not -/
theorem new_lst {p : Addr} {l : List D} {vs : List V} (h : Same Hs H) (n : H p = none) (r : RpL K Hs l vs) : Ext Hs H (upd Hs p (.lst vs)) (upd H p (.lst vs)) ∧ Rp K (upd Hs p (.lst vs)) (.list l) (.ref p) :=
  ⟨.new h n, .lst (.inl (.inl upd_same)) (r.mono (Ext.new h n).grow)⟩
theorem new_own {p : Addr} {l : List D} {vs : List V} (h : Same Hs H) (n : H p = none) (r : RpL K Hs l vs) : Ext Hs H Hs (upd H p (.lst vs)) ∧ Hs p = none ∧ (upd H p (.lst vs)) p = some (.lst vs) ∧ RpL K Hs l vs :=
  ⟨.hid h n, h.free n, upd_same, r⟩
theorem flatV_of {d : D} {v : V} (h : Rp K H d v) (f : flatD d = true) : flatV v = true := by
  cases h <;> first | rfl | cases f
theorem eqV_of {d e : D} {v u : V} (h : Rp K H d v) (h' : Rp K H e u) (f : flatD d = true) (f' : flatD e = true) : eqV v u = PyData.eqv d e := by
  cases h <;> cases h' <;> first | rfl | cases f | cases f' | simp [eqV, PyData.eqv]
theorem inV_of {e : D} {u : V} (h' : Rp K H e u) (f' : flatD e = true) : ∀ {ds : List D} {vs : List V}, RpL K H ds vs → ds.all flatD = true → vs.all flatV = true ∧ inV u vs = ds.any fun z => PyData.eqv z e
  | _, _, .nil, _ => ⟨rfl, rfl⟩
  | d :: ds, v :: vs, .cons h r, f => by
    rw [List.all_cons, Bool.and_eq_true] at f
    obtain ⟨a, b⟩ := inV_of h' f' r f.2
    refine ⟨by rw [List.all_cons, flatV_of h f.1, a]; rfl, ?_⟩
    unfold inV at b ⊢
    rw [List.any_cons, List.any_cons, b, eqV_of h h' f.1 f']
end

section
variable {X : Cx}
/-- ints only -/
theorem dop_int {f : Value → Value → Sem Value} {C : Int → Int → Prop} {g : Int → Int → V} {F : D → D → Option D} (ho : OpR X f (rI C g))
    (hF : ∀ x y d, F x y = some d → ∃ i j, x = .int i ∧ y = .int j ∧ C i j ∧ ∀ K H, Rp K H d (g i j)) : DOp X f F := ⟨_, ho, fun Hs H x y u v Q d hs e hx hy k => by
  obtain ⟨i, j, rfl, rfl, hc, hr⟩ := hF x y d e
  exact ⟨i, j, hx.int, hy.int, hc, k _ _ _ (.refl hs) (hr _ _)⟩⟩
theorem dop_int0 {f : Value → Value → Sem Value} {g : Int → Int → V} {F : D → D → Option D} (ho : OpR X f (rI0 g))
    (hF : ∀ x y d, F x y = some d → ∃ i j, x = .int i ∧ y = .int j ∧ ∀ K H, Rp K H d (g i j)) : DOp X f F := ⟨_, ho, fun Hs H x y u v Q d hs e hx hy k => by
  obtain ⟨i, j, rfl, rfl, hr⟩ := hF x y d e
  exact ⟨i, j, hx.int, hy.int, k _ _ _ (.refl hs) (hr _ _)⟩⟩
theorem d_add : DOp X (binaryOp .Add) addD := ⟨_, op_add.or (op_add_str.or op_catR), fun Hs H x y u v Q d hs e hx hy k => by
  unfold addD at e
  split at e
  · cases e
    exact .inl ⟨_, _, hx.int, hy.int, k _ _ _ (.refl hs) (.int _)⟩
  · split at e
    · rename_i hz
      cases e
      exact .inr (.inl ⟨_, _, hx.str, hy.str, hz, k _ _ _ (.refl hs) (.str _)⟩)
    · cases e
  · unfold catD at e
    split at e
    · rename_i hz
      cases e
      obtain ⟨p, xs, rfl, h1, h2⟩ := hx.list hs
      obtain ⟨p', ys, rfl, h3, h4⟩ := hy.list hs
      refine .inr (.inr ⟨p, p', xs, ys, rfl, rfl, h1, h3, by rw [← h2.length, ← h4.length]; exact hz, fun q hq => ?_⟩)
      obtain ⟨e1, e2⟩ := new_lst hs hq (h2.append h4)
      exact k _ _ _ e1 e2
    · cases e
  · cases e⟩
theorem d_addO : DOpO X (binaryOp .Add) addO := ⟨_, op_catR, fun Hs H x y u v Q d hs e hx hy k => by
  unfold addO at e
  split at e
  · unfold catD at e
    split at e
    · rename_i hz
      cases e
      obtain ⟨p, xs, rfl, h1, h2⟩ := hx.list hs
      obtain ⟨p', ys, rfl, h3, h4⟩ := hy.list hs
      refine ⟨p, p', xs, ys, rfl, rfl, h1, h3, by rw [← h2.length, ← h4.length]; exact hz, fun q hq => ?_⟩
      obtain ⟨e1, e2, e3, e4⟩ := new_own hs hq (h2.append h4)
      exact k _ _ _ _ e1 hq e2 e3 e4
    · cases e
  · cases e⟩
theorem d_sub : DOp X (binaryOp .Sub) subD := dop_int0 op_sub fun x y d e => by
  unfold subD at e
  split at e
  · cases e; exact ⟨_, _, rfl, rfl, fun _ _ => .int _⟩
  · cases e
theorem d_mul : DOp X (binaryOp .Mult) mulD := ⟨_, op_mulX.or op_repR, fun Hs H x y u v Q d hs e hx hy k => by
  unfold mulD at e
  split at e
  · split at e
    · rename_i hz
      cases e
      unfold okMul at hz
      have hz' := of_decide_eq_true hz
      exact .inl ⟨_, _, hx.int, hy.int, hz', k _ _ _ (.refl hs) (.int _)⟩
    · cases e
  · unfold repD at e
    split at e
    · rename_i hz
      cases e
      obtain ⟨p, xs, rfl, h1, h2⟩ := hx.list hs
      refine .inr ⟨p, _, xs, rfl, hy.int, h1, hz.1, hz.2.1, by rw [← h2.length]; exact hz.2.2, fun q hq => ?_⟩
      obtain ⟨e1, e2⟩ := new_lst hs hq (h2.replicate _)
      exact k _ _ _ e1 e2
    · cases e
  · cases e⟩
theorem d_mulO : DOpO X (binaryOp .Mult) mulO := ⟨_, op_repR, fun Hs H x y u v Q d hs e hx hy k => by
  unfold mulO at e
  split at e
  · unfold repD at e
    split at e
    · rename_i hz
      cases e
      obtain ⟨p, xs, rfl, h1, h2⟩ := hx.list hs
      refine ⟨p, _, xs, rfl, hy.int, h1, hz.1, hz.2.1, by rw [← h2.length]; exact hz.2.2, fun q hq => ?_⟩
      obtain ⟨e1, e2, e3, e4⟩ := new_own hs hq (h2.replicate _)
      exact k _ _ _ _ e1 hq e2 e3 e4
    · cases e
  · cases e⟩
def CDivD (i j : Int) : Prop := okDiv i j = true
theorem op_fdivD : OpR X (binaryOp .FloorDiv) (rI CDivD fun i j => .int (i.fdiv j)) := opI fun i j _ _ _ _ _ hc q => by
  unfold CDivD okDiv at hc
  rw [Bool.and_eq_true] at hc
  exact floordiv_int (of_decide_eq_true hc.1) q (.inl (by simpa using hc.2))
theorem d_fdiv : DOp X (binaryOp .FloorDiv) fdivD := dop_int op_fdivD fun x y d e => by
  unfold fdivD at e
  split at e
  · split at e
    · rename_i hz
      cases e; exact ⟨_, _, rfl, rfl, hz, fun _ _ => .int _⟩
    · cases e
  · cases e
theorem d_mod : DOp X (binaryOp .Mod) modD := dop_int op_modN fun x y d e => by
  unfold modD at e
  split at e
  · split at e
    · rename_i hz
      cases e; exact ⟨_, _, rfl, rfl, hz, fun _ _ => .int _⟩
    · cases e
  · cases e
theorem d_pow : DOp X (binaryOp .Pow) powD := dop_int op_pow fun x y d e => by
  unfold powD at e
  split at e
  · split at e
    · rename_i hz
      unfold okPow at hz
      have hz' := of_decide_eq_true hz
      cases e; exact ⟨_, _, rfl, rfl, hz', fun _ _ => .int _⟩
    · cases e
  · cases e
theorem d_lt : DOp X (compareOp .Lt) ltD := dop_int0 op_lt fun x y d e => by
  unfold ltD at e
  split at e
  · cases e; exact ⟨_, _, rfl, rfl, fun _ _ => .bl _⟩
  · cases e
theorem d_le : DOp X (compareOp .LtE) leD := dop_int0 op_le fun x y d e => by
  unfold leD at e
  split at e
  · cases e; exact ⟨_, _, rfl, rfl, fun _ _ => .bl _⟩
  · cases e
theorem d_gt : DOp X (compareOp .Gt) gtD := dop_int0 op_gt fun x y d e => by
  unfold gtD at e
  split at e
  · cases e; exact ⟨_, _, rfl, rfl, fun _ _ => .bl _⟩
  · cases e
theorem d_ge : DOp X (compareOp .GtE) geD := dop_int0 op_ge fun x y d e => by
  unfold geD at e
  split at e
  · cases e; exact ⟨_, _, rfl, rfl, fun _ _ => .bl _⟩
  · cases e
theorem eqS_some {a b : D} {r : Bool} (h : eqS a b = some r) : ∃ x y, a = .str x ∧ b = .str y ∧ r = decide (x = y) := by
  cases a <;> cases b <;> simp [eqS] at h
  exact ⟨_, _, rfl, rfl, h.symm⟩
theorem dec_str (x y : Str) : decide (V.str x = V.str y) = decide (x = y) := by
  by_cases h : x = y
  · subst h; simp
  · rw [decide_eq_false h, decide_eq_false (fun z => h (V.str.inj z))]
theorem d_eq (hu : X.A.units + 64 < cLine) : DOp X (compareOp .Eq) eqD := ⟨_, (op_eqD hu).or op_eq, fun Hs H x y u v Q d hs e hx hy k => by
  unfold eqD at e
  split at e
  · rename_i hz
    cases e
    rw [Bool.and_eq_true] at hz
    exact .inl ⟨x, y, (hx.rp hs).dp, (hy.rp hs).dp, hz.1, hz.2, k _ _ _ (.refl hs) (.bl _)⟩
  · obtain ⟨r, e1, rfl⟩ := Option.map_eq_some_iff.mp e
    obtain ⟨a, b, rfl, rfl, rfl⟩ := eqS_some e1
    right
    rw [hx.str, hy.str]
    exact ⟨rfl, by rw [dec_str]; exact k _ _ _ (.refl hs) (.bl _)⟩⟩
theorem d_ne (hu : X.A.units + 64 < cLine) : DOp X (compareOp .NotEq) neD := ⟨_, (op_neD hu).or op_ne, fun Hs H x y u v Q d hs e hx hy k => by
  unfold neD at e
  split at e
  · rename_i hz
    cases e
    rw [Bool.and_eq_true] at hz
    exact .inl ⟨x, y, (hx.rp hs).dp, (hy.rp hs).dp, hz.1, hz.2, k _ _ _ (.refl hs) (.bl _)⟩
  · obtain ⟨r, e1, rfl⟩ := Option.map_eq_some_iff.mp e
    obtain ⟨a, b, rfl, rfl, rfl⟩ := eqS_some e1
    right
    rw [hx.str, hy.str]
    exact ⟨rfl, by rw [dec_str]; exact k _ _ _ (.refl hs) (.bl _)⟩⟩
theorem is_non {K : Fg} {Hs H : Hp} {x : D} {u : V} (hx : Pk K Hs H x u) : decide (u = .non) = isNonD x := by
  rcases hx with h | ⟨l, a, xs, rfl, rfl, _, _⟩
  · cases h <;> rfl
  · rfl
theorem d_is : DOp X (compareOp .Is) isD := ⟨_, op_isBl.or op_isN, fun Hs H x y u v Q d hs e hx hy k => by
  unfold isD at e
  split at e
  · cases e
    exact .inl ⟨_, _, hx.bl, hy.bl, k _ _ _ (.refl hs) (.bl _)⟩
  · cases e
    refine .inr ⟨hy.non, ?_⟩
    rw [is_non hx]
    exact k _ _ _ (.refl hs) (.bl _)
  · cases e⟩
theorem d_isnot : DOp X (compareOp .IsNot) isnotD := ⟨_, op_notBl.or op_notN, fun Hs H x y u v Q d hs e hx hy k => by
  unfold isnotD at e
  split at e
  · cases e
    exact .inl ⟨_, _, hx.bl, hy.bl, k _ _ _ (.refl hs) (.bl _)⟩
  · cases e
    refine .inr ⟨hy.non, ?_⟩
    rw [is_non hx]
    exact k _ _ _ (.refl hs) (.bl _)
  · cases e⟩
theorem inD_cases {x y : D} {b : Bool} (e : inD x y = some b) :
    (∃ ds, y = .list ds ∧ SeqAt.shaped x = true ∧ SeqAt.shaped (.list ds) = true ∧ b = ds.any fun z => PyData.eqv z x) ∨
    (∃ ds, y = .tuple ds ∧ flatD x = true ∧ ds.all flatD = true ∧ b = ds.any fun z => PyData.eqv z x) ∨ (∃ i j, x = .str i ∧ y = .str j ∧ b = !(Builtin.Str.occurrences j i 0 j.length 1).isEmpty) := by
  unfold inD at e
  split at e
  · split at e
    · rename_i hz
      cases e
      rw [Bool.and_eq_true] at hz
      exact .inl ⟨_, rfl, hz.1, hz.2, rfl⟩
    · cases e
  · split at e
    · rename_i hz
      cases e
      rw [Bool.and_eq_true] at hz
      exact .inr (.inl ⟨_, rfl, hz.1, hz.2, rfl⟩)
    · cases e
  · split at e
    · cases e
      exact .inr (.inr ⟨_, _, rfl, rfl, rfl⟩)
    · cases e
  · cases e
theorem d_in (hu : X.A.units + 65 < cLine) : DOp X (compareOp .In) memD := ⟨_, (op_inD hu).or (op_in_seq.or op_in_str), fun Hs H x y u v Q d hs e hx hy k => by
  obtain ⟨b, e', rfl⟩ := Option.map_eq_some_iff.mp (show (inD x y).map _ = some d from e)
  rcases inD_cases e' with ⟨ds, rfl, h1, h2, rfl⟩ | ⟨ds, rfl, h1, h2, rfl⟩ | ⟨i, j, rfl, rfl, rfl⟩
  · exact .inl ⟨x, ds, (hx.rp hs).dp, (hy.rp hs).dp, h1, h2, k _ _ _ (.refl hs) (.bl _)⟩
  · obtain ⟨a, xs, rfl, h3, h4⟩ := hy.tup hs
    have hx' := hx.rp hs
    obtain ⟨f1, f2⟩ := inV_of hx' h1 (h4.mono hs) h2
    refine .inr (.inl ⟨a, xs, rfl, .inr h3, flatV_of hx' h1, f1, ?_⟩)
    rw [f2]
    exact k _ _ _ (.refl hs) (.bl _)
  · exact .inr (.inr ⟨i, j, hx.str, hy.str, k _ _ _ (.refl hs) (.bl _)⟩)⟩
theorem d_notin (hu : X.A.units + 65 < cLine) : DOp X (compareOp .NotIn) nmemD := ⟨_, (op_notInD hu).or (op_notIn_seq.or op_notIn_str), fun Hs H x y u v Q d hs e hx hy k => by
  obtain ⟨b, e', rfl⟩ := Option.map_eq_some_iff.mp (show (inD x y).map _ = some d from e)
  rcases inD_cases e' with ⟨ds, rfl, h1, h2, rfl⟩ | ⟨ds, rfl, h1, h2, rfl⟩ | ⟨i, j, rfl, rfl, rfl⟩
  · exact .inl ⟨x, ds, (hx.rp hs).dp, (hy.rp hs).dp, h1, h2, k _ _ _ (.refl hs) (.bl _)⟩
  · obtain ⟨a, xs, rfl, h3, h4⟩ := hy.tup hs
    have hx' := hx.rp hs
    obtain ⟨f1, f2⟩ := inV_of hx' h1 (h4.mono hs) h2
    refine .inr (.inl ⟨a, xs, rfl, .inr h3, flatV_of hx' h1, f1, ?_⟩)
    rw [f2]
    exact k _ _ _ (.refl hs) (.bl _)
  · exact .inr (.inr ⟨i, j, hx.str, hy.str, k _ _ _ (.refl hs) (.bl _)⟩)⟩

def DIx (X : Cx) (F : D → D → Option D) : Prop := ∃ r, IxR X r ∧ OpD X.K r F
theorem d_ix : DIx X ixD := ⟨_, ix_seq, fun Hs H x y u v Q d hs e hx hy k => by
  unfold ixD at e
  split at e
  · obtain ⟨a, xs, rfl, h1, h2⟩ := hx.list hs
    obtain ⟨w, e1, e2⟩ := h2.at e
    exact .inl ⟨a, xs, _, w, rfl, hy.int, h1, e1, k _ _ _ (.refl hs) e2⟩
  · obtain ⟨a, xs, rfl, h1, h2⟩ := hx.tup hs
    obtain ⟨w, e1, e2⟩ := h2.at e
    exact .inr (.inl ⟨a, xs, _, w, rfl, hy.int, h1, e1, k _ _ _ (.refl hs) e2⟩)
  · split at e
    · rename_i hz
      obtain ⟨c, e1, rfl⟩ := Option.map_eq_some_iff.mp e
      exact .inr (.inr ⟨_, _, c, hx.str, hy.int, hz, e1, k _ _ _ (.refl hs) (.str _)⟩)
    · cases e
  · cases e⟩
def DUn (X : Cx) (f : Value → Sem Value) (F : D → Option D) : Prop := ∃ r, UnR X f r ∧ UnD X.K r F
theorem d_neg : DUn X (unaryOp .USub) negD := ⟨_, un_neg, fun Hs H x u Q d hs e hx k => by
  unfold negD at e
  split at e
  · cases e
    exact ⟨_, hx.int, k _ _ _ (.refl hs) (.int _)⟩
  · cases e⟩
end

section
variable {X : Cx} {W : WX} {a b c e : Expr} {es : List Expr} {pos : Pos} {f g h : Ev → R D} {F F' : D → D → Option D}
theorem v_op {op : Operator} (ho : DOp X (binaryOp op) F) (ha : VP X W a f) (hb : VP X W b g) : VE X W (.BinOp a op b pos) (e2 F f g) := let ⟨_, h1, h2⟩ := ho; ve_op h1 h2 ha hb
theorem v_opO {op : Operator} {F : D → D → Option (List D)} (ho : DOpO X (binaryOp op) F) (ha : VP X W a f) (hb : VP X W b g) : VO X W (.BinOp a op b pos) (e2 F f g) := let ⟨_, h1, h2⟩ := ho; vo_op h1 h2 ha hb
theorem v_cmp {op : CmpOp} (ho : DOp X (compareOp op) F) (ha : VP X W a f) (hb : VP X W b g) (hm : behindInMarks op b = false := by first | exact nomark _ | rfl) : VE X W (.Compare a [op] [b] pos) (e2 F f g) := let ⟨_, h1, h2⟩ := ho; ve_cmp h1 h2 ha hb hm
theorem t_cmp {op : CmpOp} (ho : DOp X (compareOp op) F) (ha : VP X W a f) (hb : VP X W b g) (hm : behindInMarks op b = false := by first | exact nomark _ | rfl) : VT X W (.Compare a [op] [b] pos) (e1 bOf (e2 F f g)) := let ⟨_, h1, h2⟩ := ho; vt_cmp h1 h2 ha hb hm
theorem v_ix (ho : DIx X F) (ha : VP X W a f) (hb : VP X W b g) (hs : PlainIx b := by exact fun _ _ => rfl) : VE X W (.Subscript a b pos) (e2 F f g) := let ⟨_, h1, h2⟩ := ho; ve_ix h1 h2 ha hb hs
theorem v_un {op : UnaryOp} {F : D → Option D} (ho : DUn X (unaryOp op) F) (ha : VP X W a f) : VE X W (.UnaryOp op a pos) (e1 F f) := let ⟨_, h1, h2⟩ := ho; ve_un h1 h2 ha
theorem t_tru (ha : VP X W a f) (he : ∀ whole, isTrue a X.env whole = (do let v ← whole; standAt a.pos; holding [v] (truthy v)) := by intro _; rfl) : VT X W a (e1 truD f) := vt_tru ha he
end
end VL

set_option Elab.async false
set_option linter.all false
set_option maxRecDepth 100000
set_option autoImplicit false
namespace VL
open PySem PySem.Spec PyProof.Rows L2

/-! ### arguments that are read at once -/
def PkL (K : Fg) (Hs H : Hp) : List D → List V → Prop
  | [], [] => True
  | d :: ds, v :: vs => Pk K Hs H d v ∧ PkL K Hs H ds vs
  | _, _ => False
theorem PkL.one {K : Fg} {Hs H : Hp} {d : D} {vs : List V} (h : PkL K Hs H [d] vs) : ∃ v, vs = [v] ∧ Pk K Hs H d v := by
  cases vs with
  | nil => exact h.elim
  | cons v r =>
    cases r with
    | nil => exact ⟨v, rfl, h.1⟩
    | cons w r => exact h.2.elim
theorem PkL.two {K : Fg} {Hs H : Hp} {d e : D} {vs : List V} (h : PkL K Hs H [d, e] vs) : ∃ v w, vs = [v, w] ∧ Pk K Hs H d v ∧ Pk K Hs H e w := by
  cases vs with
  | nil => exact h.elim
  | cons v r =>
    cases r with
    | nil => exact h.2.elim
    | cons w r =>
      cases r with
      | nil => exact ⟨v, w, rfl, h.1, h.2.1⟩
      | cons _ r => exact h.2.2.elim
theorem Pk.tupRp {K : Fg} {Hs H : Hp} {l : List D} {v : V} (h : Pk K Hs H (.tuple l) v) : Rp K Hs (.tuple l) v := by
  rcases h with h | ⟨l', a, xs, h1, h2, h3, h4⟩
  · exact h
  · cases h1
def tAp (K : Fg) (mg : Str → Option Value) (W : WX) (f : Ev → R (List D)) : TA := fun σ H Q => ∃ S G Hs ρ, RelE K S G Hs H σ ρ ∧ Post K mg W Hs H σ (f ρ) (fun ds Hs' H' => ∀ vs, PkL K Hs' H' ds vs → Q vs H')
def VAp (X : Cx) (W : WX) (es : List Expr) (f : Ev → R (List D)) : Prop := PA X es (tAp X.K X.mg W f)
section
variable {X : Cx} {W : WX} {e a b c : Expr} {es : List Expr} {pos : Pos} {f g : Ev → R D} {fl : Ev → R (List D)}
theorem vap_nil : VAp X W [] (cst []) := PA.imp pa_nil fun σ H Q ⟨S, G, Hs, ρ, r, p⟩ => p.now r.sub [] trivial
theorem vap_cons (ha : VP X W e f) (hr : VAp X W es fl) (hs : starEach (e :: es) X.env = (false, eval e X.env) :: starEach es X.env := by rfl) : VAp X W (e :: es) (eCons f fl) := PA.imp (pa_cons ha hr hs) fun σ H Q ⟨S, G, Hs, ρ, r, p⟩ => by
  refine ⟨S, G, Hs, ρ, r, (Post.bind p).imp fun x Hs1 H1 e q u hu => ?_⟩
  refine ⟨S, G, Hs1, ρ, r.step e, (Post.bind q).imp fun xs Hs2 H2 e' q' us hus => ?_⟩
  exact q'.now e'.sub (u :: us) ⟨hu.up e', hus⟩

/-! ### built-in functions -/
def CalD (X : Cx) (f : Value) (F : List D → Option D) : Prop := ∃ r, CallR X f r ∧ ∀ (Hs H : Hp) (ds : List D) (vs : List V) (Q : VK) (d : D), Same Hs H → F ds = some d → PkL X.K Hs H ds vs →
  (∀ Hs' H' w, Ext Hs H Hs' H' → Rp X.K Hs' d w → Q w H') → r vs H Q
def CalO (X : Cx) (f : Value) (F : List D → Option (List D)) : Prop := ∃ r, CallR X f r ∧ ∀ (Hs H : Hp) (ds : List D) (vs : List V) (Q : VK) (l : List D), Same Hs H → F ds = some l → PkL X.K Hs H ds vs →
  (∀ Hs' H' p vs, Ext Hs H Hs' H' → H p = none → Hs' p = none → H' p = some (.lst vs) → RpL X.K Hs' l vs → Q (.ref p) H') → r vs H Q
theorem sim_cal {K : Fg} {mg : Str → Option Value} {r : List V → Hp → VK → Prop} {F : List D → Option D} (h : ∀ (Hs H : Hp) (ds : List D) (vs : List V) (Q : VK) (d : D), Same Hs H → F ds = some d → PkL K Hs H ds vs →
    (∀ Hs' H' w, Ext Hs H Hs' H' → Rp K Hs' d w → Q w H') → r vs H Q) : ∀ σ H Q, tE K mg W (e1 F fl) σ H Q → tCB r (tAp K mg W fl) σ H Q := fun σ H Q ⟨S, G, Hs, ρ, r, p⟩ => by
  refine ⟨S, G, Hs, ρ, r, (Post.bind p).imp fun ds Hs1 H1 e q vs hv => ?_⟩
  cases z : F ds with
  | none => rw [z] at q; exact q.elim
  | some d =>
    rw [z] at q
    exact h Hs1 H1 ds vs Q d e.sub z hv fun Hs' H' w e'' hw => q Hs' H' e'' w hw
theorem sim_calO {K : Fg} {mg : Str → Option Value} {r : List V → Hp → VK → Prop} {F : List D → Option (List D)} (h : ∀ (Hs H : Hp) (ds : List D) (vs : List V) (Q : VK) (d : List D), Same Hs H → F ds = some d → PkL K Hs H ds vs →
    (∀ Hs' H' p vs, Ext Hs H Hs' H' → H p = none → Hs' p = none → H' p = some (.lst vs) → RpL K Hs' d vs → Q (.ref p) H') → r vs H Q) : ∀ σ H Q, tO K mg W (e1 F fl) σ H Q → tCB r (tAp K mg W fl) σ H Q := fun σ H Q ⟨S, G, Hs, ρ, r, p⟩ => by
  refine ⟨S, G, Hs, ρ, r, (Post.bind p).imp fun ds Hs1 H1 e q vs hv => ?_⟩
  cases z : F ds with
  | none => rw [z] at q; exact q.elim
  | some d =>
    rw [z] at q
    exact h Hs1 H1 ds vs Q d e.sub z hv fun Hs' H' p vs e'' h0 h1 h2 h3 => q Hs' H' e'' p vs (e.same.free h0) h1 h2 h3
variable {x : Str} {p : Pos} {bid T : String} {F : List D → Option D} {G : List D → Option (List D)}
theorem v_blt (hc : CalD X (.builtin bid) F) (hg : Gl X x) (hm : X.mg x = none) (hv : bootBuiltins x = some (.builtin bid)) (ha : VAp X W (e :: es) fl) (hn : x ≠ "__name__" := by decide) (hdb : (x == ("__debug__" : Str)) = false := by decide)
    (he : starEach (e :: es) X.env = (false, eval e X.env) :: starEach es X.env := by rfl) (hpl : (backTo pos (starEach es X.env)).any (·.1) = false := by rfl) : VE X W (.Call (.Name x p) (e :: es) [] pos) (e1 F fl) :=
  let ⟨_, h1, h2⟩ := hc; PE.imp (pe_callB h1 hg hm hv ha hn hdb he hpl) (sim_cal h2)
theorem v_bltO (hc : CalO X (.builtin bid) G) (hg : Gl X x) (hm : X.mg x = none) (hv : bootBuiltins x = some (.builtin bid)) (ha : VAp X W (e :: es) fl) (hn : x ≠ "__name__" := by decide) (hdb : (x == ("__debug__" : Str)) = false := by decide)
    (he : starEach (e :: es) X.env = (false, eval e X.env) :: starEach es X.env := by rfl) (hpl : (backTo pos (starEach es X.env)).any (·.1) = false := by rfl) : VO X W (.Call (.Name x p) (e :: es) [] pos) (e1 G fl) :=
  let ⟨_, h1, h2⟩ := hc; PE.imp (pe_callB h1 hg hm hv ha hn hdb he hpl) (sim_calO h2)
theorem v_typ (hc : CalD X (.type T) F) (hg : Gl X x) (hm : X.mg x = none) (hv : bootBuiltins x = some (.type T)) (ha : VAp X W (e :: es) fl) (hn : x ≠ "__name__" := by decide) (hdb : (x == ("__debug__" : Str)) = false := by decide)
    (he : starEach (e :: es) X.env = (false, eval e X.env) :: starEach es X.env := by rfl) (hpl : (backTo pos (starEach es X.env)).any (·.1) = false := by rfl) : VE X W (.Call (.Name x p) (e :: es) [] pos) (e1 F fl) :=
  let ⟨_, h1, h2⟩ := hc; PE.imp (pe_callTy h1 hg hm hv ha hn hdb he hpl) (sim_cal h2)
theorem v_typO (hc : CalO X (.type T) G) (hg : Gl X x) (hm : X.mg x = none) (hv : bootBuiltins x = some (.type T)) (ha : VAp X W (e :: es) fl) (hn : x ≠ "__name__" := by decide) (hdb : (x == ("__debug__" : Str)) = false := by decide)
    (he : starEach (e :: es) X.env = (false, eval e X.env) :: starEach es X.env := by rfl) (hpl : (backTo pos (starEach es X.env)).any (·.1) = false := by rfl) : VO X W (.Call (.Name x p) (e :: es) [] pos) (e1 G fl) :=
  let ⟨_, h1, h2⟩ := hc; PE.imp (pe_callTy h1 hg hm hv ha hn hdb he hpl) (sim_calO h2)
theorem v_fun (hc : CalD X (.builtin bid) F) (hg : Gl X x) (hm : X.mg x = some (.builtin bid)) (ha : VAp X W (e :: es) fl) (hdb : (x == ("__debug__" : Str)) = false := by decide)
    (he : starEach (e :: es) X.env = (false, eval e X.env) :: starEach es X.env := by rfl) (hpl : (backTo pos (starEach es X.env)).any (·.1) = false := by rfl) : VE X W (.Call (.Name x p) (e :: es) [] pos) (e1 F fl) :=
  let ⟨_, h1, h2⟩ := hc; PE.imp (pe_callBfun h1 hg hm ha hdb he hpl) (sim_cal h2)

def gcdD : List D → Option D
  | [.int a, .int b] => some (.int ((Nat.gcd a.natAbs b.natAbs : Nat) : Int))
  | _ => none
theorem c_gcd : CalD X (.builtin "math.gcd") gcdD := ⟨_, cr_gcd, fun Hs H ds vs Q d hs e hv k => by
  unfold gcdD at e
  split at e
  · cases e
    obtain ⟨v, w, rfl, h1, h2⟩ := hv.two
    exact ⟨_, _, by rw [h1.int, h2.int], k _ _ _ (.refl hs) (.int _)⟩
  · cases e⟩
def lenD : List D → Option D
  | [.list l] => some (.int l.length)
  | [.tuple l] => some (.int l.length)
  | [.str z] => if z.length ≤ sizeLine then some (.int z.length) else none
  | _ => none
theorem c_len : CalD X (.builtin "len") lenD := ⟨_, call_len_seq.or call_len_str, fun Hs H ds vs Q d hs e hv k => by
  unfold lenD at e
  split at e
  · cases e
    obtain ⟨v, rfl, h⟩ := hv.one
    obtain ⟨a, xs, rfl, h1, h2⟩ := h.list hs
    refine .inl ⟨a, xs, rfl, .inl h1, ?_⟩
    rw [← h2.length]
    exact k _ _ _ (.refl hs) (.int _)
  · cases e
    obtain ⟨v, rfl, h⟩ := hv.one
    obtain ⟨a, xs, rfl, h1, h2⟩ := h.tup hs
    refine .inl ⟨a, xs, rfl, .inr h1, ?_⟩
    rw [← h2.length]
    exact k _ _ _ (.refl hs) (.int _)
  · split at e
    · rename_i hz
      cases e
      obtain ⟨v, rfl, h⟩ := hv.one
      exact .inr ⟨_, by rw [h.str], hz, k _ _ _ (.refl hs) (.int _)⟩
    · cases e
  · cases e⟩
def intD : List D → Option D
  | [.int i] => some (.int i)
  | [.bool b] => some (.int (if b then 1 else 0))
  | _ => none
theorem c_int : CalD X (.type "int") intD := ⟨_, call_int1, fun Hs H ds vs Q d hs e hv k => by
  unfold intD at e
  split at e
  · cases e
    obtain ⟨v, rfl, h⟩ := hv.one
    exact .inl ⟨_, by rw [h.int], k _ _ _ (.refl hs) (.int _)⟩
  · cases e
    obtain ⟨v, rfl, h⟩ := hv.one
    exact .inr ⟨_, by rw [h.bl], k _ _ _ (.refl hs) (.int _)⟩
  · cases e⟩
def absD : List D → Option D
  | [.int i] => some (.int (if i < 0 then -i else i))
  | _ => none
theorem c_abs : CalD X (.builtin "abs") absD := ⟨_, call_abs, fun Hs H ds vs Q d hs e hv k => by
  unfold absD at e
  split at e
  · cases e
    obtain ⟨v, rfl, h⟩ := hv.one
    exact ⟨_, by rw [h.int], k _ _ _ (.refl hs) (.int _)⟩
  · cases e⟩
def blsD : List D → Option (List Bool)
  | [] => some []
  | .bool b :: r => (blsD r).map (b :: ·)
  | _ :: _ => none
def intsD : List D → Option (List Int)
  | [] => some []
  | .int b :: r => (intsD r).map (b :: ·)
  | _ :: _ => none
theorem blsD_rp {K : Fg} {H : Hp} : ∀ {l : List D} {bs : List Bool} {vs : List V}, blsD l = some bs → RpL K H l vs → vs = bs.map V.bl
  | [], bs, vs, e, r => by cases e; cases r; rfl
  | .bool b :: l, bs, vs, e, r => by
    obtain ⟨bs', e', rfl⟩ := Option.map_eq_some_iff.mp (show (blsD l).map _ = some bs from e)
    cases r with
    | cons h r => cases h; rw [blsD_rp e' r]; rfl
  | .none :: _, _, _, e, _ => by cases e
  | .int _ :: _, _, _, e, _ => by cases e
  | .str _ :: _, _, _, e, _ => by cases e
  | .list _ :: _, _, _, e, _ => by cases e
  | .tuple _ :: _, _, _, e, _ => by cases e
  | .dict _ :: _, _, _, e, _ => by cases e
theorem intsD_rp {K : Fg} {H : Hp} : ∀ {l : List D} {bs : List Int} {vs : List V}, intsD l = some bs → RpL K H l vs → vs = bs.map V.int
  | [], bs, vs, e, r => by cases e; cases r; rfl
  | .int b :: l, bs, vs, e, r => by
    obtain ⟨bs', e', rfl⟩ := Option.map_eq_some_iff.mp (show (intsD l).map _ = some bs from e)
    cases r with
    | cons h r => cases h; rw [intsD_rp e' r]; rfl
  | .none :: _, _, _, e, _ => by cases e
  | .bool _ :: _, _, _, e, _ => by cases e
  | .str _ :: _, _, _, e, _ => by cases e
  | .list _ :: _, _, _, e, _ => by cases e
  | .tuple _ :: _, _, _, e, _ => by cases e
  | .dict _ :: _, _, _, e, _ => by cases e
theorem blsD_map : ∀ bs : List Bool, blsD (bs.map .bool) = some bs
  | [] => rfl
  | b :: bs => by show (blsD (bs.map .bool)).map _ = _; rw [blsD_map bs]; rfl
theorem intsD_map : ∀ bs : List Int, intsD (bs.map .int) = some bs
  | [] => rfl
  | b :: bs => by show (intsD (bs.map .int)).map _ = _; rw [intsD_map bs]; rfl
def allD : List D → Option D
  | [.list l] => (blsD l).map fun bs => .bool (bs.all id)
  | _ => none
def anyD : List D → Option D
  | [.list l] => (blsD l).map fun bs => .bool (bs.any id)
  | _ => none
def sumD : List D → Option D
  | [.list l] => (intsD l).map fun bs => .int bs.sum
  | _ => none
theorem c_all (hc : X.calm = true) : CalD X (.builtin "all") allD := ⟨_, cr_all hc, fun Hs H ds vs Q d hs e hv k => by
  unfold allD at e
  split at e
  · obtain ⟨bs, e', rfl⟩ := Option.map_eq_some_iff.mp e
    obtain ⟨v, rfl, h⟩ := hv.one
    obtain ⟨a, xs, rfl, h1, h2⟩ := h.list hs
    rw [blsD_rp e' h2] at h1
    exact ⟨a, bs, rfl, h1, k _ _ _ (.refl hs) (.bl _)⟩
  · cases e⟩
theorem c_any (hc : X.calm = true) : CalD X (.builtin "any") anyD := ⟨_, cr_any hc, fun Hs H ds vs Q d hs e hv k => by
  unfold anyD at e
  split at e
  · obtain ⟨bs, e', rfl⟩ := Option.map_eq_some_iff.mp e
    obtain ⟨v, rfl, h⟩ := hv.one
    obtain ⟨a, xs, rfl, h1, h2⟩ := h.list hs
    rw [blsD_rp e' h2] at h1
    exact ⟨a, bs, rfl, h1, k _ _ _ (.refl hs) (.bl _)⟩
  · cases e⟩
theorem c_sum (hc : X.calm = true) : CalD X (.builtin "sum") sumD := ⟨_, cr_sum hc, fun Hs H ds vs Q d hs e hv k => by
  unfold sumD at e
  split at e
  · obtain ⟨bs, e', rfl⟩ := Option.map_eq_some_iff.mp e
    obtain ⟨v, rfl, h⟩ := hv.one
    obtain ⟨a, xs, rfl, h1, h2⟩ := h.list hs
    rw [intsD_rp e' h2] at h1
    exact ⟨a, bs, rfl, h1, k _ _ _ (.refl hs) (.int _)⟩
  · cases e⟩
def maxI : Int → List Int → Int
  | m, [] => m
  | m, x :: r => maxI (if m < x then x else m) r
def minI : Int → List Int → Int
  | m, [] => m
  | m, x :: r => minI (if x < m then x else m) r
theorem maxI_ge : ∀ (l : List Int) (m : Int), m ≤ maxI m l ∧ (∀ x ∈ l, x ≤ maxI m l) ∧ (maxI m l = m ∨ maxI m l ∈ l)
  | [], m => ⟨Int.le_refl _, (fun _ h => by cases h), .inl rfl⟩
  | x :: r, m => by
    obtain ⟨h1, h2, h3⟩ := maxI_ge r (if m < x then x else m)
    have e : maxI m (x :: r) = maxI (if m < x then x else m) r := rfl
    rw [e]
    refine ⟨?_, fun y hy => ?_, ?_⟩
    · split at h1 <;> rename_i z <;> simp only [z, if_true, if_false] <;> omega
    · rcases List.mem_cons.mp hy with rfl | hy
      · split at h1 <;> rename_i z <;> simp only [z, if_true, if_false] <;> omega
      · exact h2 y hy
    · rcases h3 with h3 | h3
      · by_cases z : m < x
        · right; rw [h3, if_pos z]; exact List.mem_cons_self
        · left; rw [h3, if_neg z]
      · right; exact List.mem_cons_of_mem _ h3
theorem minI_le : ∀ (l : List Int) (m : Int), minI m l ≤ m ∧ (∀ x ∈ l, minI m l ≤ x) ∧ (minI m l = m ∨ minI m l ∈ l)
  | [], m => ⟨Int.le_refl _, (fun _ h => by cases h), .inl rfl⟩
  | x :: r, m => by
    obtain ⟨h1, h2, h3⟩ := minI_le r (if x < m then x else m)
    have e : minI m (x :: r) = minI (if x < m then x else m) r := rfl
    rw [e]
    refine ⟨?_, fun y hy => ?_, ?_⟩
    · split at h1 <;> rename_i z <;> simp only [z, if_true, if_false] <;> omega
    · rcases List.mem_cons.mp hy with rfl | hy
      · split at h1 <;> rename_i z <;> simp only [z, if_true, if_false] <;> omega
      · exact h2 y hy
    · rcases h3 with h3 | h3
      · by_cases z : x < m
        · right; rw [h3, if_pos z]; exact List.mem_cons_self
        · left; rw [h3, if_neg z]
      · right; exact List.mem_cons_of_mem _ h3
def maxD : List D → Option D
  | [.list l] => (intsD l).bind fun bs => match bs with
    | [] => none
    | m :: r => some (.int (maxI m r))
  | [.int i, .int j] => some (.int (if j > i then j else i))
  | _ => none
def minD : List D → Option D
  | [.list l] => (intsD l).bind fun bs => match bs with
    | [] => none
    | m :: r => some (.int (minI m r))
  | [.int i, .int j] => some (.int (if j < i then j else i))
  | _ => none
theorem c_max (hc : X.calm = true) : CalD X (.builtin "max") maxD := ⟨_, (cr_max hc).or (call_max2 hc), fun Hs H ds vs Q d hs e hv k => by
  unfold maxD at e
  split at e
  · obtain ⟨bs, e', e⟩ := Option.bind_eq_some_iff.mp e
    obtain ⟨v, rfl, h⟩ := hv.one
    obtain ⟨a, xs, rfl, h1, h2⟩ := h.list hs
    rw [intsD_rp e' h2] at h1
    cases bs with
    | nil => cases e
    | cons m r =>
      cases e
      refine .inl ⟨a, m :: r, rfl, h1, Nat.succ_pos _, fun y hy hge => ?_⟩
      obtain ⟨g1, g2, g3⟩ := maxI_ge r m
      have : y = maxI m r := by
        have a1 := hge m List.mem_cons_self
        have a2 : maxI m r ≤ y := by
          rcases g3 with g | g
          · rw [g]; exact a1
          · exact hge _ (List.mem_cons_of_mem _ g)
        have a3 : y ≤ maxI m r := by
          rcases List.mem_cons.mp hy with rfl | hy
          · exact g1
          · exact g2 y hy
        omega
      rw [this]
      exact k _ _ _ (.refl hs) (.int _)
  · cases e
    obtain ⟨v, w, rfl, h1, h2⟩ := hv.two
    exact .inr ⟨_, _, by rw [h1.int, h2.int], k _ _ _ (.refl hs) (.int _)⟩
  · cases e⟩
theorem c_min (hc : X.calm = true) : CalD X (.builtin "min") minD := ⟨_, (cr_min hc).or (call_min2 hc), fun Hs H ds vs Q d hs e hv k => by
  unfold minD at e
  split at e
  · obtain ⟨bs, e', e⟩ := Option.bind_eq_some_iff.mp e
    obtain ⟨v, rfl, h⟩ := hv.one
    obtain ⟨a, xs, rfl, h1, h2⟩ := h.list hs
    rw [intsD_rp e' h2] at h1
    cases bs with
    | nil => cases e
    | cons m r =>
      cases e
      refine .inl ⟨a, m :: r, rfl, h1, Nat.succ_pos _, fun y hy hge => ?_⟩
      obtain ⟨g1, g2, g3⟩ := minI_le r m
      have : y = minI m r := by
        have a1 := hge m List.mem_cons_self
        have a2 : y ≤ minI m r := by
          rcases g3 with g | g
          · rw [g]; exact a1
          · exact hge _ (List.mem_cons_of_mem _ g)
        have a3 : minI m r ≤ y := by
          rcases List.mem_cons.mp hy with rfl | hy
          · exact g1
          · exact g2 y hy
        omega
      rw [this]
      exact k _ _ _ (.refl hs) (.int _)
  · cases e
    obtain ⟨v, w, rfl, h1, h2⟩ := hv.two
    exact .inr ⟨_, _, by rw [h1.int, h2.int], k _ _ _ (.refl hs) (.int _)⟩
  · cases e⟩
def listO : List D → Option (List D)
  | [.list l] => some l
  | [.tuple l] => some l
  | _ => none
theorem c_listO : CalO X (.type "list") listO := ⟨_, call_list_of, fun Hs H ds vs Q d hs e hv k => by
  unfold listO at e
  split at e
  · cases e
    obtain ⟨v, rfl, h⟩ := hv.one
    obtain ⟨a, xs, rfl, h1, h2⟩ := h.list hs
    refine ⟨a, xs, rfl, .inl h1, fun q hq => ?_⟩
    obtain ⟨e1, e2, e3, e4⟩ := new_own hs hq h2
    exact k _ _ _ _ e1 hq e2 e3 e4
  · cases e
    obtain ⟨v, rfl, h⟩ := hv.one
    obtain ⟨a, xs, rfl, h1, h2⟩ := h.tup hs
    refine ⟨a, xs, rfl, .inr h1, fun q hq => ?_⟩
    obtain ⟨e1, e2, e3, e4⟩ := new_own hs hq h2
    exact k _ _ _ _ e1 hq e2 e3 e4
  · cases e⟩
def tupleD : List D → Option D
  | [.list l] => some (.tuple l)
  | [.tuple l] => some (.tuple l)
  | _ => none
theorem c_tuple : CalD X (.type "tuple") tupleD := ⟨_, call_tuple_of, fun Hs H ds vs Q d hs e hv k => by
  unfold tupleD at e
  split at e
  · cases e
    obtain ⟨v, rfl, h⟩ := hv.one
    obtain ⟨a, xs, rfl, h1, h2⟩ := h.list hs
    refine ⟨a, xs, rfl, .inl ⟨h1, fun q hq => ?_⟩⟩
    have x := Ext.new (o := .tup xs) hs hq
    exact k _ _ _ x (.tup (.inl (.inl upd_same)) (h2.mono x.grow))
  · cases e
    obtain ⟨v, rfl, h⟩ := hv.one
    rcases h with h | ⟨_, _, _, z, _⟩
    · cases h with
      | tup h1 h2 => exact ⟨_, _, rfl, .inr ⟨SqT.mono hs h1, k _ _ _ (.refl hs) (.tup h1 h2)⟩⟩
    · cases z
  · cases e⟩

/-! ### isinstance of a built-in type -/
def tyD : D → String
  | .none => "NoneType"
  | .bool _ => "bool"
  | .int _ => "int"
  | .str _ => "str"
  | .list _ => "list"
  | .tuple _ => "tuple"
  | .dict _ => "dict"
def isiD (n : String) (d : D) : Option D := match d with
  | .dict _ => none
  | d => (kitB (tyD d) n).map .bool
theorem tyX_of {K : Fg} {Hs H : Hp} {d : D} {v : V} (hs : Same Hs H) (h : Pk K Hs H d v) (nd : ∀ l, d ≠ .dict l) : TyX K H v (.type (tyD d)) := by
  cases d with
  | none => cases h.non; exact .base .non
  | bool b => cases h.bl; exact .base (.bl _)
  | int b => cases h.int; exact .base (.int _)
  | str b => cases h.str; exact .base (.str _)
  | list l =>
    obtain ⟨a, xs, rfl, h1, h2⟩ := h.list hs
    rcases h1 with (h1 | ⟨o, h1⟩) | ⟨o, its, n, h1, h2, _⟩
    · exact .base (.lst h1)
    · exact .base (.frz h1)
    · exact .kList h1 h2
  | tuple l =>
    obtain ⟨a, xs, rfl, h1, h2⟩ := h.tup hs
    rcases h1 with (h1 | ⟨o, h1⟩) | ⟨o, its, n, h1, h2, _⟩
    · exact .base (.tup h1)
    · exact .fTuple h1
    · exact .kTuple h1 h2
  | dict l => exact (nd l rfl).elim
theorem v_isi {xi xt : Str} {p1 p2 : Pos} {n : String} (hg : Gl X xi) (hm : X.mg xi = none) (hv : bootBuiltins xi = some (.builtin "isinstance")) (ha : VP X W a f) (ht : PE X (.Name xt p2) (tC (.ty n)))
    (hn : xi ≠ "__name__" := by decide) (hdb : (xi == ("__debug__" : Str)) = false := by decide)
    (he : starEach [a, .Name xt p2] X.env = (false, eval a X.env) :: starEach [.Name xt p2] X.env := by rfl) (hpl : (backTo pos (starEach [.Name xt p2] X.env)).any (·.1) = false := by rfl) (he2 : starEach [.Name xt p2] X.env = (false, eval (.Name xt p2) X.env) :: starEach [] X.env := by rfl) :
    VE X W (.Call (.Name xi p1) [a, .Name xt p2] [] pos) (e1 (isiD n) f) := by
  refine PE.imp (pe_callB call_isi hg hm hv (pa_cons ha (pa_cons ht pa_nil he2) he) hn hdb he hpl) fun σ H Q ⟨S, G, Hs, ρ, r, p⟩ => ?_
  refine ⟨S, G, Hs, ρ, r, (Post.bind p).imp fun d Hs1 H1 e q u hu => ?_⟩
  cases z : isiD n d with
  | none => rw [z] at q; exact q.elim
  | some d' =>
    rw [z] at q
    have nd : ∀ l, d ≠ .dict l := fun l w => by rw [w] at z; cases z
    have z' : (kitB (tyD d) n).map PyData.bool = some d' := by
      cases d with
      | dict l => exact (nd l rfl).elim
      | _ => exact z
    obtain ⟨b, h1, rfl⟩ := Option.map_eq_some_iff.mp z'
    exact ⟨u, .ty n, .type (tyD d), .type n, b, rfl, .ty n, tyX_of e.sub hu nd, kit_ty h1, q.now e.sub _ (.bl _)⟩
end

/-! ### slices -/
def cutL (l : List D) (lo hi : Option Int) : List D := (l.drop (HT.sIx l.length 0 lo)).take (HT.sIx l.length l.length hi - HT.sIx l.length 0 lo)
theorem cut_rp {K : Fg} {H : Hp} {l : List D} {vs : List V} (r : RpL K H l vs) (lo hi : Option Int) : RpL K H (cutL l lo hi) (cutV vs lo hi) := by
  unfold cutL cutV
  rw [r.length]
  exact (r.drop _).take _
def sliceD (x : D) (lo hi : Option Int) : Option D := match x with
  | .list l => some (.list (cutL l lo hi))
  | .tuple l => some (.tuple (cutL l lo hi))
  | .str z => if z.length ≤ sizeLine then some (.str (cutS z lo hi)) else none
  | _ => none
def sliceO (x : D) (lo hi : Option Int) : Option (List D) := match x with
  | .list l => some (cutL l lo hi)
  | _ => none
def pNo : Ev → R (Option Int) := cst none
def intOf : D → Option (Option Int)
  | .int i => some (some i)
  | _ => none
def tPo (K : Fg) (mg : Str → Option Value) (W : WX) (f : Ev → R (Option Int)) : TO := fun σ H Q => ∃ S G Hs ρ, RelE K S G Hs H σ ρ ∧ Post K mg W Hs H σ (f ρ) (fun o Hs' H' => Q o H')
def VPo (X : Cx) (W : WX) (e : Option Expr) (f : Ev → R (Option Int)) : Prop := PO X e (tPo X.K X.mg W f)
theorem PO.imp {X : Cx} {e : Option Expr} {t t' : TO} (h : PO X e t) (i : ∀ σ H Q, t' σ H Q → t σ H Q) : PO X e t' := ⟨fun pins s σ H Q I q => h.run pins s σ H Q I (i σ H Q q)⟩
def e3 {α β γ δ : Type} (F : α → β → γ → Option δ) (f : Ev → R α) (g : Ev → R β) (h : Ev → R γ) : Ev → R δ := fun ρ => (f ρ).bind fun x => (g ρ).bind fun y => (h ρ).bind fun z => ofO (F x y z)
section
variable {X : Cx} {W : WX} {e a b c : Expr} {lo hi : Option Expr} {p2 pos : Pos} {f g : Ev → R D} {gl gh : Ev → R (Option Int)}
theorem vpo_none : VPo X W none pNo := PO.imp po_none fun σ H Q ⟨S, G, Hs, ρ, r, p⟩ => p.now r.sub
theorem vpo_some (h : VE X W e f) : VPo X W (some e) (e1 intOf f) := PO.imp (po_some h) fun σ H Q ⟨S, G, Hs, ρ, r, p⟩ => by
  refine ⟨S, G, Hs, ρ, r, (Post.bind p).imp fun x Hs1 H1 e q u hu => ?_⟩
  cases x with
  | int i => cases hu; exact ⟨i, rfl, q.now e.sub⟩
  | none => exact q.elim
  | bool _ => exact q.elim
  | str _ => exact q.elim
  | list _ => exact q.elim
  | tuple _ => exact q.elim
  | dict _ => exact q.elim
theorem sl_any : SlR X (fun x lo hi H Q => rSlL X.K x lo hi H Q ∨ rSlA X.K x lo hi H Q ∨ rSlS x lo hi H Q) := sl_list.or (sl_tupA.or sl_str)
theorem cutV_whole {xs : List V} {lo hi : Option Int} (h : HT.sIx xs.length 0 lo = 0 ∧ HT.sIx xs.length xs.length hi = xs.length) : cutV xs lo hi = xs := by
  unfold cutV
  rw [h.1, h.2, Nat.sub_zero, List.drop_zero, List.take_length]
theorem v_slice (he : VP X W e f) (hl : VPo X W lo gl) (hu : VPo X W hi gh) : VE X W (.Subscript e (.Slice lo hi none p2) pos) (e3 sliceD f gl gh) := PE.imp (pe_slice sl_any he hl hu) fun σ H Q ⟨S, G, Hs, ρ, r, p⟩ => by
  refine ⟨S, G, Hs, ρ, r, (Post.bind p).imp fun x Hs1 H1 e q u hu => ?_⟩
  refine ⟨S, G, Hs1, ρ, r.step e, (Post.bind q).imp fun l Hs2 H2 e' q' => ?_⟩
  refine ⟨S, G, Hs2, ρ, (r.step e).step e', (Post.bind q').imp fun h Hs3 H3 e'' q'' => ?_⟩
  have hu3 := (hu.up e').up e''
  cases z : sliceD x l h with
  | none => rw [z] at q''; exact q''.elim
  | some d =>
    rw [z] at q''
    unfold sliceD at z
    split at z
    · cases z
      obtain ⟨a, xs, rfl, h1, h2⟩ := hu3.list e''.sub
      refine .inl ⟨a, xs, rfl, h1, fun p hp => ?_⟩
      obtain ⟨x1, x2⟩ := new_lst e''.sub hp (cut_rp h2 l h)
      exact q'' _ _ x1 _ x2
    · cases z
      have w := hu3.tupRp
      cases w with
      | @tup a xs _ h1 h2 =>
        refine .inr (.inl ⟨a, xs, rfl, SqT.mono e''.sub h1, fun hw => ?_, fun _ p hp => ?_⟩)
        · refine q''.now e''.sub _ (.tup h1 ?_)
          have := cut_rp h2 l h
          rw [cutV_whole hw] at this
          exact this
        · have x := Ext.new (o := .tup (cutV xs l h)) e''.sub hp
          exact q'' _ _ x _ (.tup (.inl (.inl upd_same)) ((cut_rp h2 l h).mono x.grow))
    · split at z
      · rename_i hz
        cases z
        exact .inr (.inr ⟨_, hu3.str, hz, q''.now e''.sub _ (.str _)⟩)
      · cases z
    · cases z
end
end VL

set_option Elab.async false
set_option linter.all false
set_option maxRecDepth 100000
set_option autoImplicit false
namespace VL
open PySem PySem.Spec PyProof.Rows L2

section
variable {X : Cx} {W : WX} {e a b c : Expr} {lo hi : Option Expr} {p2 pos : Pos} {f g : Ev → R D} {gl gh : Ev → R (Option Int)}
theorem v_sliceO (he : VP X W e f) (hl : VPo X W lo gl) (hu : VPo X W hi gh) : VO X W (.Subscript e (.Slice lo hi none p2) pos) (e3 sliceO f gl gh) := PE.imp (pe_slice sl_list he hl hu) fun σ H Q ⟨S, G, Hs, ρ, r, p⟩ => by
  refine ⟨S, G, Hs, ρ, r, (Post.bind p).imp fun x Hs1 H1 e q u hu => ?_⟩
  refine ⟨S, G, Hs1, ρ, r.step e, (Post.bind q).imp fun l Hs2 H2 e' q' => ?_⟩
  refine ⟨S, G, Hs2, ρ, (r.step e).step e', (Post.bind q').imp fun h Hs3 H3 e'' q'' => ?_⟩
  have hu3 := (hu.up e').up e''
  cases z : sliceO x l h with
  | none => rw [z] at q''; exact q''.elim
  | some d =>
    rw [z] at q''
    unfold sliceO at z
    split at z
    · cases z
      obtain ⟨a, xs, rfl, h1, h2⟩ := hu3.list e''.sub
      refine ⟨a, xs, rfl, h1, fun p hp => ?_⟩
      obtain ⟨x1, x2, x3, x4⟩ := new_own e''.sub hp (cut_rp h2 l h)
      exact q'' _ _ x1 p _ ((e.trans (e'.trans e'')).same.free hp) x2 x3 x4
    · cases z
/-- xs[::-1] -/
def revO : D → Option (List D)
  | .list l => some l.reverse
  | _ => none
theorem v_revO {k : Nat} {p1 p3 p4 : Pos} (he : VP X W e f) : VO X W (.Subscript e (.Slice none none (some (.UnaryOp .USub (.Constant (.int 1) k p1) p3)) p4) pos) (e1 revO f) := PE.imp (pe_revL he) fun σ H Q ⟨S, G, Hs, ρ, r, p⟩ => by
  refine ⟨S, G, Hs, ρ, r, (Post.bind p).imp fun x Hs1 H1 e q u hu => ?_⟩
  cases z : revO x with
  | none => rw [z] at q; exact q.elim
  | some d =>
    rw [z] at q
    unfold revO at z
    split at z
    · cases z
      obtain ⟨a, xs, rfl, h1, h2⟩ := hu.list e.sub
      refine ⟨a, xs, rfl, h1, fun p hp => ?_⟩
      obtain ⟨x1, x2, x3, x4⟩ := new_own e.sub hp h2.reverse
      exact q _ _ x1 p _ (e.same.free hp) x2 x3 x4
    · cases z
end

/-! ### statements -/
/-- what a def's end hands back -/
def RpO (K : Fg) (G Hs H : Hp) : SD → V → Prop
  | .no, _ => False
  | .bo _, _ => False
  | .sh d, v => Rp K Hs d v
  | .ow l, v => ∃ p vs, v = .ref p ∧ G p = none ∧ Hs p = none ∧ H p = some (.lst vs) ∧ RpL K Hs l vs
def OutOk (K : Fg) (mg : Str → Option Value) (W : WX) (S : Hp) (G : Gx) (Hs : Hp) (D : Ends) : Out → Prop
  | .nx ρ => ∀ Hs' H' σ', Same Hs Hs' → RelE K S G Hs' H' σ' ρ → D.nx σ' H'
  | .bk ρ => ∀ Hs' H' σ', Same Hs Hs' → RelE K S G Hs' H' σ' ρ → D.bk σ' H'
  | .ct ρ => ∀ Hs' H' σ', Same Hs Hs' → RelE K S G Hs' H' σ' ρ → D.ct σ' H'
  | .rt r => ∀ Hs' H' v, Ext S G.h Hs' H' → RpO K G.h Hs' H' r v → D.rt v H'
  | .rtB r ρ => ∀ Hs' H' v σ', Same Hs Hs' → RelE K S G Hs' H' σ' ρ → RpO K G.h Hs' H' r v → (∀ l, r = .ow l → ∀ p, G.b = some p → v ≠ .ref p) → D.rt v H'
  | .ex x ρ => ∀ Hs' H' σ' cls dd, Same Hs Hs' → RelE K S G Hs' H' σ' ρ → XRp K mg H' x cls dd → W cls dd σ' H'
  | .bad => False
def tS (K : Fg) (mg : Str → Option Value) (W : WX) (F : Ev → Out) : TS := fun D σ H => ∃ S G Hs ρ, RelE K S G Hs H σ ρ ∧ OutOk K mg W S G Hs D (F ρ)
def VS (X : Cx) (W : WX) (st : Stmt) (F : Ev → Out) : Prop := PS X st (tS X.K X.mg W F)
def VSs (X : Cx) (W : WX) (st : List Stmt) (F : Ev → Out) : Prop := PSs X st (tS X.K X.mg W F)

theorem OutOk.up {K : Fg} {mg : Str → Option Value} {W : WX} {S Hs Hs1 : Hp} {G : Gx} {D : Ends} {o : Out} (h : OutOk K mg W S G Hs D o) (e : Same Hs Hs1) : OutOk K mg W S G Hs1 D o := by
  cases o with
  | nx ρ => exact fun Hs' H' σ' a => h Hs' H' σ' (e.trans a)
  | bk ρ => exact fun Hs' H' σ' a => h Hs' H' σ' (e.trans a)
  | ct ρ => exact fun Hs' H' σ' a => h Hs' H' σ' (e.trans a)
  | rt r => exact h
  | rtB r ρ => exact fun Hs' H' v σ' a => h Hs' H' v σ' (e.trans a)
  | ex x ρ => exact fun Hs' H' σ' cls dd a => h Hs' H' σ' cls dd (e.trans a)
  | bad => exact h
theorem RelE.ext' {K : Fg} {S Hs H : Hp} {G : Gx} {σ : Sg} {ρ : Ev} (r : RelE K S G Hs H σ ρ) : Ext S G.h Hs H := ⟨r.sub, r.old, r.ext, r.new⟩

/-- an evaluation ahead -/
def liftE {α : Type} (r : R α) (ρ : Ev) (k : α → Out) : Out := match r with
  | .ok a => k a
  | .ex x => .ex x ρ
  | .bad => .bad
theorem lift_post {α : Type} {K : Fg} {mg : Str → Option Value} {W : WX} {S Hs H : Hp} {G : Gx} {σ : Sg} {ρ : Ev} {D : Ends} {r : R α} {k : α → Out} (rl : RelE K S G Hs H σ ρ) (h : OutOk K mg W S G Hs D (liftE r ρ k)) :
    Post K mg W Hs H σ r (fun a Hs' H' => OutOk K mg W S G Hs' D (k a)) := by
  cases r with
  | ok a => exact fun Hs' H' e => OutOk.up h e.grow
  | ex x => exact fun Hs' H' cls dd e hx => h Hs' H' σ cls dd e.grow (rl.step e) hx
  | bad => exact h

def seqO (o : Out) (k : Ev → Out) : Out := match o with
  | .nx ρ => k ρ
  | o => o
def sNil : Ev → Out := .nx
def sSeq (F G : Ev → Out) : Ev → Out := fun ρ => seqO (F ρ) G
section
variable {X : Cx} {W : WX} {e a b c : Expr} {es : List Expr} {pos : Pos} {f g : Ev → R D} {fl : Ev → R (List D)} {fb : Ev → R Bool} {st : Stmt} {rest : List Stmt} {F F' : Ev → Out}
theorem sim_seq {K : Fg} {mg : Str → Option Value} : ∀ D σ H, tS K mg W (sSeq F F') D σ H → tSeq (tS K mg W F) (tS K mg W F') D σ H := fun D σ H ⟨S, G, Hs, ρ, r, h⟩ => by
  refine ⟨S, G, Hs, ρ, r, ?_⟩
  unfold sSeq seqO at h
  cases q : F ρ with
  | nx ρ' =>
    rw [q] at h
    exact fun Hs' H' σ' a r' => ⟨S, G, Hs', ρ', r', h.up a⟩
  | bk ρ' => rw [q] at h; exact h
  | ct ρ' => rw [q] at h; exact h
  | rt r' => rw [q] at h; exact h
  | rtB r' ρ' => rw [q] at h; exact h
  | ex x ρ' => rw [q] at h; exact h
  | bad => rw [q] at h; exact h
theorem vss_nil : VSs X W [] sNil := PSs.imp pss_nil fun D σ H ⟨S, G, Hs, ρ, r, h⟩ => h Hs H σ (.refl _) r
theorem vss_cons (h1 : VS X W st F) (h2 : VSs X W rest F') : VSs X W (st :: rest) (sSeq F F') := PSs.imp (pss_cons h1 h2) sim_seq
theorem vss_one (h1 : VS X W st F) : VSs X W [st] F := pss_one h1
theorem vs_pass : VS X W (.Pass pos) sNil := PS.imp ps_pass fun D σ H ⟨S, G, Hs, ρ, r, h⟩ => h Hs H σ (.refl _) r
theorem vs_doc {x j pos'} : VS X W (.Expr (.Constant (.str x) j pos) pos') sNil := PS.imp ps_doc fun D σ H ⟨S, G, Hs, ρ, r, h⟩ => h Hs H σ (.refl _) r
theorem vs_break : VS X W (.Break pos) .bk := PS.imp ps_break fun D σ H ⟨S, G, Hs, ρ, r, h⟩ => h Hs H σ (.refl _) r
theorem vs_continue : VS X W (.Continue pos) .ct := PS.imp ps_continue fun D σ H ⟨S, G, Hs, ρ, r, h⟩ => h Hs H σ (.refl _) r
def sRet (f : Ev → R D) : Ev → Out := fun ρ => liftE (f ρ) ρ fun d => .rt (.sh d)
def sRetO (f : Ev → R (List D)) : Ev → Out := fun ρ => liftE (f ρ) ρ fun d => .rt (.ow d)
theorem vs_ret (he : VE X W e f) : VS X W (.Return (some e) pos) (sRet f) := PS.imp (ps_ret he) fun D σ H ⟨S, G, Hs, ρ, r, h⟩ =>
  ⟨S, G, Hs, ρ, r, (lift_post r h).imp fun d Hs' H' e q v hv => q Hs' H' v (r.step e).ext' hv⟩
theorem vs_retO (he : VO X W e fl) : VS X W (.Return (some e) pos) (sRetO fl) := PS.imp (ps_ret he) fun D σ H ⟨S, G, Hs, ρ, r, h⟩ =>
  ⟨S, G, Hs, ρ, r, (lift_post r h).imp fun d Hs' H' e q p vs h0 h1 h2 h3 => q Hs' H' _ (r.step e).ext' ⟨p, vs, rfl, r.old.free h0, h1, h2, h3⟩⟩
/-- return x, x a list of one's own -/
def sRetV (i : Nat) : Ev → Out := fun ρ => match ρ[i]? with
  | some (.ow l) => .rt (.ow l)
  | some (.sh d) => .rt (.sh d)
  | _ => .bad
theorem vs_retV (i : Nat) {x : Str} {p : Pos} (h : PE X (.Name x p) (tVar i)) : VS X W (.Return (some (.Name x p)) pos) (sRetV i) := PS.imp (ps_ret h) fun D σ H ⟨S, G, Hs, ρ, r, h⟩ => by
  unfold sRetV at h
  cases q : ρ[i]? with
  | none => rw [q] at h; exact h.elim
  | some s =>
    rw [q] at h
    cases s with
    | no => exact h.elim
    | sh d =>
      obtain ⟨v, e1, e2⟩ := r.get q
      exact ⟨v, e1, h Hs H v r.ext' e2⟩
    | bo l => exact h.elim
    | ow l =>
      obtain ⟨p, vs, e1, e2, e3, e4, e5⟩ := r.own q
      exact ⟨_, e1, h Hs H _ r.ext' ⟨p, vs, rfl, e2, e3, e4, e5⟩⟩
def sRetN : Ev → Out := fun _ => .rt (.sh .none)
theorem vs_retN : VS X W (.Return none pos) sRetN := PS.imp ps_retN fun D σ H ⟨S, G, Hs, ρ, r, h⟩ => h Hs H _ r.ext' .non
def sIf (c : Ev → R Bool) (F F' : Ev → Out) : Ev → Out := fun ρ => liftE (c ρ) ρ fun b => if b then F ρ else F' ρ
theorem vs_if {p q : List Stmt} (hc : VT X W c fb) (ha : VSs X W p F) (hb : VSs X W q F') : VS X W (.If c p q pos) (sIf fb F F') := PS.imp (ps_if hc ha hb) fun D σ H ⟨S, G, Hs, ρ, r, h⟩ => by
  refine ⟨S, G, Hs, ρ, r, (lift_post r h).imp fun k Hs' H' e q => ?_⟩
  cases k with
  | true => exact ⟨S, G, Hs', ρ, r.step e, q⟩
  | false => exact ⟨S, G, Hs', ρ, r.step e, q⟩
def sDrop (f : Ev → R D) : Ev → Out := fun ρ => liftE (f ρ) ρ fun _ => .nx ρ
theorem vs_expr (he : VE X W e f) (hs : swapsWith e none pos.line X.env = pure false := by rfl) : VS X W (.Expr e pos) (sDrop f) := PS.imp (ps_expr he hs) fun D σ H ⟨S, G, Hs, ρ, r, h⟩ =>
  ⟨S, G, Hs, ρ, r, (lift_post r h).imp fun d Hs' H' e q v hv => q Hs' H' σ (.refl _) (r.step e)⟩
/-- a list of one's own is frozen here -/
def sFz (i : Nat) (F : Ev → Out) : Ev → Out := fun ρ => match ρ[i]? with
  | some (.ow l) => F (ρ.set i (.sh (.list l)))
  | _ => F ρ
theorem sim_fz {K : Fg} {mg : Str → Option Value} (i : Nat) : ∀ D σ H, tS K mg W (sFz i F) D σ H → tS K mg W F D σ H := fun D σ H ⟨S, G, Hs, ρ, r, h⟩ => by
  unfold sFz at h
  cases q : ρ[i]? with
  | none => rw [q] at h; exact ⟨S, G, Hs, ρ, r, h⟩
  | some s =>
    rw [q] at h
    cases s with
    | no => exact ⟨S, G, Hs, ρ, r, h⟩
    | bo l => exact ⟨S, G, Hs, ρ, r, h⟩
    | sh d => exact ⟨S, G, Hs, ρ, r, h⟩
    | ow l =>
      obtain ⟨Hs', g, r'⟩ := r.fz q
      exact ⟨S, G, Hs', _, r', OutOk.up h g⟩
theorem vs_fz (i : Nat) (h : VS X W st F) : VS X W st (sFz i F) := PS.imp h (sim_fz i)
theorem vss_fz {sts : List Stmt} (i : Nat) (h : VSs X W sts F) : VSs X W sts (sFz i F) := PSs.imp h (sim_fz i)

/-! ### targets -/
/-- g: what an assigned item makes of the slots; ts: the slots that it may change -/
def tGt (K : Fg) (ts : List Nat) (g : D → Ev → Option Ev) : TG := fun v σ H Q => ∃ S G Hs ρ d ρ', RelE K S G Hs H σ ρ ∧ Rp K Hs d v ∧ g d ρ = some ρ' ∧
  ∀ σ', σ'.length = σ.length → (∀ j, j ∉ ts → σ'[j]? = σ[j]?) → RelE K S G Hs H σ' ρ' → Q σ' H
def VG (X : Cx) (tg : Expr) (ts : List Nat) (g : D → Ev → Option Ev) : Prop := PG X tg (tGt X.K ts g)
def gSet (i : Nat) : D → Ev → Option Ev := fun d ρ => some (ρ.set i (.sh d))
theorem vg_name {i : Nat} {x : Str} (h : PG X (.Name x pos) (gName i)) : VG X (.Name x pos) [i] (gSet i) := PG.imp h fun v σ H Q ⟨S, G, Hs, ρ, d, ρ', r, hd, e, q⟩ => by
  cases e
  refine q _ (by simp) (fun j hj => ?_) (r.set hd)
  rw [List.getElem?_set_ne]
  intro z
  exact hj (by simp [z])
def tGts (K : Fg) (ts : List Nat) (g : List D → Ev → Option Ev) : TGs := fun vs σ H Q => ∃ S G Hs ρ ds ρ', RelE K S G Hs H σ ρ ∧ RpL K Hs ds vs ∧ g ds ρ = some ρ' ∧
  ∀ σ', σ'.length = σ.length → (∀ j, j ∉ ts → σ'[j]? = σ[j]?) → RelE K S G Hs H σ' ρ' → Q σ' H
def VGs (X : Cx) (tg : List Expr) (ts : List Nat) (g : List D → Ev → Option Ev) : Prop := PGs X tg (tGts X.K ts g)
def gsNil : List D → Ev → Option Ev
  | [], ρ => some ρ
  | _ :: _, _ => none
def gsCons (g : D → Ev → Option Ev) (h : List D → Ev → Option Ev) : List D → Ev → Option Ev
  | [], _ => none
  | d :: ds, ρ => (g d ρ).bind (h ds)
theorem PGs.imp {tg : List Expr} {t t' : TGs} (h : PGs X tg t) (i : ∀ v σ H Q, t' v σ H Q → t v σ H Q) : PGs X tg t' := ⟨fun pins s σ H v u Q I r q => h.run pins s σ H v u Q I r (i v σ H Q q)⟩
theorem vgs_nil : VGs X [] [] gsNil := PGs.imp pgs_nil fun v σ H Q ⟨S, G, Hs, ρ, ds, ρ', r, hd, e, q⟩ => by
  cases hd with
  | nil => cases e; exact ⟨rfl, q σ rfl (fun _ _ => rfl) r⟩
  | cons _ _ => cases e
theorem vgs_cons {ts us : List Nat} {g : D → Ev → Option Ev} {k : List D → Ev → Option Ev} (h1 : VG X e ts g) (h2 : VGs X es us k)
    (hs : (assignEach (e :: es) X.env).map (·.2) = assign e X.env :: (assignEach es X.env).map (·.2) := by rfl) : VGs X (e :: es) (ts ++ us) (gsCons g k) := PGs.imp (pgs_cons h1 h2 hs) fun v σ H Q ⟨S, G, Hs, ρ, ds, ρ', r, hd, e, q⟩ => by
  cases hd with
  | nil => cases e
  | cons h r' =>
    obtain ⟨ρ1, e1, e2⟩ := Option.bind_eq_some_iff.mp e
    refine ⟨_, _, rfl, S, G, Hs, ρ, _, ρ1, r, h, e1, fun σ1 l1 f1 r1 => ?_⟩
    refine ⟨S, G, Hs, ρ1, _, ρ', r1, r', e2, fun σ2 l2 f2 r2 => q σ2 (l2.trans l1) (fun j hj => ?_) r2⟩
    rw [List.mem_append, not_or] at hj
    exact (f2 j hj.2).trans (f1 j hj.1)
def gTupD (n : Nat) (k : List D → Ev → Option Ev) : D → Ev → Option Ev := fun d ρ => match d with
  | .tuple l => if l.length = n then k l ρ else none
  | .list l => if l.length = n then k l ρ else none
  | _ => none
theorem PG.or {tg : Expr} {t t' : TG} (h : PG X tg t) (h' : PG X tg t') : PG X tg (fun v σ H Q => t v σ H Q ∨ t' v σ H Q) := ⟨fun pins s σ H v u Q I r q => q.elim (h.run pins s σ H v u Q I r) (h'.run pins s σ H v u Q I r)⟩
theorem vg_tup {k0 n : Nat} {ts : List Nat} {k : List D → Ev → Option Ev} (hc : X.calm = true) (h : VGs X es ts k)
    (hn : (assignEach es X.env).length = n := by rfl) (hst : (assignEach es X.env).findIdx? (·.1) = none := by rfl) : VG X (.Tuple es k0 pos) ts (gTupD n k) := PG.imp (PG.or (pg_tup hc h hn hst) (pg_lst hc h hn hst)) fun v σ H Q ⟨S, G, Hs, ρ, d, ρ', r, hd, e, q⟩ => by
  unfold gTupD at e
  split at e
  · split at e
    · rename_i hz
      cases hd with
      | tup h1 h2 => exact .inl ⟨_, _, rfl, SqT.mono r.sub h1, by rw [← h2.length]; exact hz, S, G, Hs, ρ, _, ρ', r, h2, e, q⟩
    · cases e
  · split at e
    · rename_i hz
      cases hd with
      | lst h1 h2 => exact .inr ⟨_, _, rfl, Same.seq r.sub h1, by rw [← h2.length]; exact hz, S, G, Hs, ρ, _, ρ', r, h2, e, q⟩
    · cases e
  · cases e
/-! ### assignments -/
def sAsg (f : Ev → R D) (g : D → Ev → Option Ev) : Ev → Out := fun ρ => liftE (f ρ) ρ fun d => match g d ρ with
  | some ρ' => .nx ρ'
  | none => .bad
theorem sim_asg {K : Fg} {mg : Str → Option Value} {ts : List Nat} {k : D → Ev → Option Ev} : ∀ D σ H, tS K mg W (sAsg f k) D σ H → tAsg (tE K mg W f) (tGt K ts k) D σ H := fun D σ H ⟨S, G, Hs, ρ, r, h⟩ => by
  refine ⟨S, G, Hs, ρ, r, (lift_post r h).imp fun d Hs' H' e q v hv => ?_⟩
  cases z : k d ρ with
  | none => rw [z] at q; exact q.elim
  | some ρ' =>
    rw [z] at q
    exact ⟨S, G, Hs', ρ, d, ρ', r.step e, hv, z, fun σ' _ _ r' => q Hs' H' σ' (.refl _) r'⟩
theorem vs_asg {tg : Expr} {ts : List Nat} {k : D → Ev → Option Ev} (he : VE X W e f) (hg : VG X tg ts k) (hs : swapsWithSole [tg] e pos.line X.env = pure false := by rfl) (hw : swappedStores [tg] e X.env = pure none := by rfl)
    (h1 : (assignEach [tg] X.env).map (·.2) = [assign tg X.env] := by rfl) : VS X W (.Assign [tg] e pos) (sAsg f k) := PS.imp (ps_asg he hg hs hw h1) sim_asg
def sSet (i : Nat) (f : Ev → R D) : Ev → Out := fun ρ => liftE (f ρ) ρ fun d => .nx (ρ.set i (.sh d))
theorem sim_set {K : Fg} {mg : Str → Option Value} {i : Nat} : ∀ D σ H, tS K mg W (sSet i f) D σ H → tAsg (tE K mg W f) (gName i) D σ H := fun D σ H ⟨S, G, Hs, ρ, r, h⟩ =>
  ⟨S, G, Hs, ρ, r, (lift_post r h).imp fun d Hs' H' e q v hv => q Hs' H' _ (.refl _) ((r.step e).set hv)⟩
def sSetO (i : Nat) (f : Ev → R (List D)) : Ev → Out := fun ρ => liftE (f ρ) ρ fun d => .nx (ρ.set i (.ow d))
theorem sim_setO {K : Fg} {mg : Str → Option Value} {i : Nat} : ∀ D σ H, tS K mg W (sSetO i fl) D σ H → tAsg (tO K mg W fl) (gName i) D σ H := fun D σ H ⟨S, G, Hs, ρ, r, h⟩ =>
  ⟨S, G, Hs, ρ, r, (lift_post r h).imp fun d Hs' H' e q p vs h0 h1 h2 h3 => q Hs' H' _ (.refl _) (r.setOw e h0 h1 h2 h3)⟩
theorem vs_set {i : Nat} {x : Str} {pos' : Pos} (hN : X.N.Nodup) (hi : X.N[i]? = some x) (hx : Loc X.env.scope x) (he : VE X W e f) (hs : swapsWith e (some (.Name x pos')) pos.line X.env = pure false := by rfl) (hf : X.fn x = true ∨ X.env.scope.names.lookup x = some .local := by first | exact .inl rfl | exact .inr rfl | assumption) :
    VS X W (.Assign [.Name x pos'] e pos) (sSet i f) := PS.imp (ps_set hN hi hx he hs hf) sim_set
theorem vs_setO {i : Nat} {x : Str} {pos' : Pos} (hN : X.N.Nodup) (hi : X.N[i]? = some x) (hx : Loc X.env.scope x) (he : VO X W e fl) (hs : swapsWith e (some (.Name x pos')) pos.line X.env = pure false := by rfl) (hf : X.fn x = true ∨ X.env.scope.names.lookup x = some .local := by first | exact .inl rfl | exact .inr rfl | assumption) :
    VS X W (.Assign [.Name x pos'] e pos) (sSetO i fl) := PS.imp (ps_set hN hi hx he hs hf) sim_setO
def sPar (i j : Nat) (fl : Ev → R (List D)) : Ev → Out := fun ρ => liftE (fl ρ) ρ fun ds => match ds with
  | [d, d'] => .nx ((ρ.set i (.sh d)).set j (.sh d'))
  | _ => .bad
theorem vs_par {i j : Nat} {x y : Str} {px py pt : Pos} {kt k2 pt2} (hc : X.calm = true) (hN : X.N.Nodup) (hi : X.N[i]? = some x) (hj : X.N[j]? = some y) (hij : i ≠ j)
    (hx : X.env.scope.names.lookup x = some .local) (hy : X.env.scope.names.lookup y = some .local) (ha : VA X W [a, b] fl)
    (hw : swappedStores [.Tuple [.Name x px, .Name y py] kt pt] (.Tuple [a, b] k2 pt2) X.env = pure (some [x, y]))
    (hs : swapsWithSole [.Tuple [.Name x px, .Name y py] kt pt] (.Tuple [a, b] k2 pt2) pos.line X.env = pure false := by rfl) :
    VS X W (.Assign [.Tuple [.Name x px, .Name y py] kt pt] (.Tuple [a, b] k2 pt2) pos) (sPar i j fl) := PS.imp (ps_par hc hN hi hj hij hx hy ha hw hs) fun D σ H ⟨S, G, Hs, ρ, r, h⟩ => by
  refine ⟨S, G, Hs, ρ, r, (lift_post r h).imp fun ds Hs' H' e q vs hv => ?_⟩
  cases hv with
  | nil => exact q.elim
  | cons h1 hv =>
    cases hv with
    | nil => exact q.elim
    | cons h2 hv =>
      cases hv with
      | cons _ _ => exact q.elim
      | nil => exact ⟨_, _, rfl, q Hs' H' _ (.refl _) (((r.step e).set h1).set h2)⟩
/-- x op= e -/
def sAug (i : Nat) (F : D → D → Option D) (f : Ev → R D) : Ev → Out := fun ρ => liftE ((eVar i ρ).bind fun x => (f ρ).bind fun y => ofO (F x y)) ρ fun d => .nx (ρ.set i (.sh d))
def DIp (X : Cx) (op : Operator) (F : D → D → Option D) : Prop := ∃ r, PIp X op r ∧ OpD X.K r F
def iaddD : D → D → Option D
  | .int i, .int j => some (.int (i + j))
  | _, _ => none
theorem dip_add : DIp X .Add iaddD := ⟨_, ip_add, fun Hs H x y u v Q d hs e hx hy k => by
  unfold iaddD at e
  split at e
  · cases e
    exact ⟨_, _, hx.int, hy.int, k _ _ _ (.refl hs) (.int _)⟩
  · cases e⟩
theorem dip_sub : DIp X .Sub subD := ⟨_, ip_sub, fun Hs H x y u v Q d hs e hx hy k => by
  unfold subD at e
  split at e
  · cases e
    exact ⟨_, _, hx.int, hy.int, k _ _ _ (.refl hs) (.int _)⟩
  · cases e⟩
theorem ip_mul : PIp X .Mult (rI CMulX fun i j => .int (i * j)) := by
  intro pins s σ H x y v u Q I r1 r2 h
  obtain ⟨i, j, e1, e2, hc, q⟩ := h
  subst e1; subst e2
  obtain ⟨t, rfl⟩ := r1
  obtain ⟨t', rfl⟩ := r2
  exact imul_int ⟨.int _, H, I.tok _, ⟨_, rfl⟩, q⟩ (CMulX.ok hc)
def imulD : D → D → Option D
  | .int i, .int j => if okMul i j then some (.int (i * j)) else none
  | _, _ => none
theorem dip_mul : DIp X .Mult imulD := ⟨_, ip_mul, fun Hs H x y u v Q d hs e hx hy k => by
  unfold imulD at e
  split at e
  · split at e
    · rename_i hz
      cases e
      unfold okMul at hz
      have hz' := of_decide_eq_true hz
      exact ⟨_, _, hx.int, hy.int, hz', k _ _ _ (.refl hs) (.int _)⟩
    · cases e
  · cases e⟩
theorem vs_aug {i : Nat} {x : Str} {op : Operator} {F : D → D → Option D} {pos' : Pos} (hN : X.N.Nodup) (hi : X.N[i]? = some x) (hx : Loc X.env.scope x) (he : VP X W e f) (ho : DIp X op F) (hf : X.fn x = true ∨ X.env.scope.names.lookup x = some .local := by first | exact .inl rfl | exact .inr rfl | assumption) :
    VS X W (.AugAssign (.Name x pos') op e pos) (sAug i F f) := by
  obtain ⟨ti, h1, h2⟩ := ho
  refine PS.imp (ps_aug hN hi hx he h1 hf) fun D σ H ⟨S, G, Hs, ρ, r, h⟩ => ?_
  have p := lift_post r h
  unfold eVar at p
  cases q : ρ[i]? with
  | none => rw [q] at p; exact p.elim
  | some s =>
    rw [q] at p
    cases s with
    | no => exact p.elim
    | ow l => exact p.elim
    | bo l => exact p.elim
    | sh d =>
      obtain ⟨v, e1, e2⟩ := r.get q
      refine ⟨v, e1, S, G, Hs, ρ, r, (Post.bind (show Post X.K X.mg W Hs H σ ((f ρ).bind fun y => ofO (F d y)) _ from p)).imp fun y Hs1 H1 e q w hw => ?_⟩
      cases z : F d y with
      | none => rw [z] at q; exact q.elim
      | some d' =>
        rw [z] at q
        refine h2 Hs1 H1 d y v w _ d' e.sub z (.inl (e2.mono e.grow)) hw fun Hs' H' z e' hz => ?_
        exact q Hs' H' e' Hs' H' _ (.refl _) (((r.step e).step e').set hz)
/-- x.append(e), x a list of one's own -/
def onOw (i : Nat) (ρ : Ev) (k : List D → Out) : Out := match ρ[i]? with
  | some (.ow l) => k l
  | _ => .bad
theorem on_own {K : Fg} {mg : Str → Option Value} {S Hs : Hp} {G : Gx} {En : Ends} {i : Nat} {ρ : Ev} {k : List D → Out} (h : OutOk K mg W S G Hs En (onOw i ρ k)) : ∃ l, ρ[i]? = some (.ow l) ∧ OutOk K mg W S G Hs En (k l) := by
  unfold onOw at h
  split at h
  · exact ⟨_, by assumption, h⟩
  · exact h.elim
def sApp (i : Nat) (f : Ev → R D) : Ev → Out := fun ρ => onOw i ρ fun l => liftE (f ρ) ρ fun d => if l.length < sizeLine then .nx (ρ.set i (.ow (l ++ [d]))) else .bad
theorem vs_app (i : Nat) {x : Str} {p apos cpos : Pos} (ho : PE X (.Name x p) (tVar i)) (he : VE X W e f)
    (hbase : attributeBase (.Name x p) "append" X.env (eval (.Name x p) X.env) = eval (.Name x p) X.env := by rfl)
    (hfew : ((backTo cpos (starEach [e] X.env)).all (fun x => !x.1) && (backToKw cpos (keywordEach [] X.env)).all (fun x => x.1.isSome)
      && decide ([e].length + ([] : List Keyword).length + (if ([] : List Keyword).isEmpty then 0 else 1) < 30)) = true := by rfl)
    (hline : (apos.endLine == cpos.line) = true := by rfl) (hs : starEach [e] X.env = (false, eval e X.env) :: starEach [] X.env := by rfl) (hplain : (backTo cpos (starEach [] X.env)).any (·.1) = false := by rfl)
    (hsw : swapsWith (.Call (.Attribute (.Name x p) "append" apos) [e] [] cpos) none pos.line X.env = pure false := by rfl) :
    VS X W (.Expr (.Call (.Attribute (.Name x p) "append" apos) [e] [] cpos) pos) (sApp i f) := by
  refine PS.imp (ps_expr (pe_bm PySem.F.plainAttrs_list PySem.F.slot_list_append PySem.F.type_list_append mt_append ho (pa_cons he pa_nil hs) hbase hfew hline hs hplain) hsw) fun D σ H ⟨S, G, Hs, ρ, r, h⟩ => ?_
  obtain ⟨l, hl, h⟩ := on_own h
  obtain ⟨a, vs, o1, o2, o3, o4, o5⟩ := r.own hl
  refine ⟨_, o1, .inl ⟨rfl, vs, .inl (.inl o4)⟩, S, G, Hs, ρ, r, (lift_post r h).imp fun d Hs' H' e q v hv => ?_⟩
  split at q
  · rename_i hz
    have r' := r.step e
    refine ⟨a, vs, v, rfl, rfl, e.same _ _ o4, by rw [← o5.length]; exact hz, ?_⟩
    exact q Hs' _ σ (.refl _) (r'.wr hl o1 ((o5.mono e.grow).append (.cons hv .nil)))
  · exact q.elim
/-- x.extend(e) -/
theorem list_extendW (l : Addr) (items : Array Value) (n : Nat) (b : Addr) (items2 : Array Value) (n2 : Nat) (sl2 : Array (Option Value)) (hc0 : ¬(!items.isEmpty && Builtin.List.listTooLong (items.size + items2.size)) = true) (hc1 : items.size ≤ sizeLine) (hs2 : items.size + items2.size ≤ sizeLine + 1) :
    Meets (Builtin.«list.extend» ⟨[.ref l, .ref b], []⟩) (fun _ R s => s.heap.get? l = some { cls := .type "list", dict := none, data := .seq items n, slots := #[] } ∧ s.heap.get? b = some { cls := .type "list", dict := none, data := .seq items2 n2, slots := sl2 } ∧ R (.ok (.ret Value.none)) { s with heap := s.heap.update l (Obj.mapSeq fun x => x ++ items2), toks := s.toks }) :=
  .of_wp fun prog w A R s h => by
    obtain ⟨hp, g, d, tk, os⟩ := s; obtain ⟨hl, hb, h⟩ := h; have f1 := AutoSeq1.idx_int; have f2 := AutoSeq1.sub_tuple_tuple; have f3 := AutoSeq1.sub_list_list; have f4 := AutoSeq1.sub_tuple_list; have f5 := AutoSeq1.sub_list_tuple;
    have hz' : (items ++ items2).size ≤ sizeLine + 1 := by rw [Array.size_append]; exact hs2
    wp_walk using (wpAny_updateSeq hl rfl (hz := hc1) (_hz' := hz')), AutoSeq1.wpAny_loadPart' hl, AutoSeq1.wpAny_loadPart' hb; exact ⟨_, rfl, h⟩
def rExtendR (K : Fg) : V → List V → Hp → VK → Prop := fun x vs H Q => ∃ l b xs zs, x = .ref l ∧ vs = [.ref b] ∧ H l = some (.lst xs) ∧ SqL K H b zs ∧ xs.length + zs.length ≤ sizeLine ∧ Q .non (upd H l (.lst (xs ++ zs)))
theorem mt_extendR : MtR X "list.extend" (rExtendR X.K) := by
  intro pins s σ H x vs v us Q I rx rv h
  obtain ⟨l, b, xs, zs, rfl, rfl, hH, hB, hz, q⟩ := h
  cases rx
  obtain ⟨u, rfl, ru⟩ := rv.one
  cases ru
  obtain ⟨z, its, n, r, hl, e⟩ := I.lstM hH
  obtain ⟨z2, its2, n2, sl2, r2, hl2, e2⟩ := rd_obj I hB
  have hsz : its.toArray.size + its2.toArray.size ≤ sizeLine := by rw [List.size_toArray, List.size_toArray]; omega
  have hlong : ¬ (!its.toArray.isEmpty && Builtin.List.listTooLong (its.toArray.size + its2.toArray.size)) = true := by
    rw [notLongL hsz, Bool.and_false]
    exact Bool.false_ne_true
  refine call_meets F.slot_list_extend ⟨_, e, rfl⟩ F.entry_list_extend (F.args_list_extend_2 _ _)
    (list_extendW l its.toArray n b its2.toArray n2 sl2 hlong (by rw [List.size_toArray]; omega) (by omega)) ⟨e, e2, ?_⟩
  refine ⟨.non, _, I.lset (its' := its ++ its2) hH e (by simp) (r.append r2) ?_, rfl, q⟩
  rw [List.length_append]
  omega
def sExt (i : Nat) (f : Ev → R D) : Ev → Out := fun ρ => onOw i ρ fun l => liftE (f ρ) ρ fun d => match d with
  | .list l' => if l.length + l'.length ≤ sizeLine then .nx (ρ.set i (.ow (l ++ l'))) else .bad
  | _ => .bad
theorem vs_ext (i : Nat) {x : Str} {p apos cpos : Pos} (ho : PE X (.Name x p) (tVar i)) (he : VP X W e f)
    (hbase : attributeBase (.Name x p) "extend" X.env (eval (.Name x p) X.env) = eval (.Name x p) X.env := by rfl)
    (hfew : ((backTo cpos (starEach [e] X.env)).all (fun x => !x.1) && (backToKw cpos (keywordEach [] X.env)).all (fun x => x.1.isSome)
      && decide ([e].length + ([] : List Keyword).length + (if ([] : List Keyword).isEmpty then 0 else 1) < 30)) = true := by rfl)
    (hline : (apos.endLine == cpos.line) = true := by rfl) (hs : starEach [e] X.env = (false, eval e X.env) :: starEach [] X.env := by rfl) (hplain : (backTo cpos (starEach [] X.env)).any (·.1) = false := by rfl)
    (hsw : swapsWith (.Call (.Attribute (.Name x p) "extend" apos) [e] [] cpos) none pos.line X.env = pure false := by rfl) :
    VS X W (.Expr (.Call (.Attribute (.Name x p) "extend" apos) [e] [] cpos) pos) (sExt i f) := by
  refine PS.imp (ps_expr (pe_bm PySem.F.plainAttrs_list PySem.F.slot_list_extend PySem.F.type_list_extend mt_extendR ho (pa_cons he pa_nil hs) hbase hfew hline hs hplain) hsw) fun D σ H ⟨S, G, Hs, ρ, r, h⟩ => ?_
  obtain ⟨l, hl, h⟩ := on_own h
  obtain ⟨a, vs, o1, o2, o3, o4, o5⟩ := r.own hl
  refine ⟨_, o1, .inl ⟨rfl, vs, .inl (.inl o4)⟩, S, G, Hs, ρ, r, (lift_post r h).imp fun d Hs' H' e q v hv => ?_⟩
  split at q
  · split at q
    · rename_i hz
      have r' := r.step e
      obtain ⟨b, xs, rfl, h1, h2⟩ := hv.list e.sub
      refine ⟨a, b, vs, xs, rfl, rfl, e.same _ _ o4, h1, by rw [← o5.length, ← h2.length]; exact hz, ?_⟩
      exact q Hs' _ σ (.refl _) (r'.wr hl o1 ((o5.mono e.grow).append h2))
    · exact q.elim
  · exact q.elim
/-- x[e] = v -/
def sStore (i : Nat) (fi fv : Ev → R D) : Ev → Out := fun ρ => onOw i ρ fun l => liftE ((fv ρ).bind fun d => (fi ρ).bind fun k => .ok (d, k)) ρ fun (d, k) => match k with
  | .int z => match ixN l.length z with
    | some j => .nx (ρ.set i (.ow (l.set j d)))
    | none => .bad
  | _ => .bad
theorem vs_store (i : Nat) {x : Str} {p spos : Pos} (ho : PE X (.Name x p) (tVar i)) (hi : VE X W a g) (he : VE X W e f)
    (hs : swapsWithSole [.Subscript (.Name x p) a spos] e pos.line X.env = pure false := by rfl) (hw : swappedStores [.Subscript (.Name x p) a spos] e X.env = pure none := by rfl)
    (h1 : (assignEach [.Subscript (.Name x p) a spos] X.env).map (·.2) = [assign (.Subscript (.Name x p) a spos) X.env] := by rfl)
    (ha : ∀ v, assign (.Subscript (.Name x p) a spos) X.env v = (do
      let ov ← holding [v] (eval (.Name x p) X.env)
      let iv ← holding [v, ov] (eval a X.env)
      standAt spos
      holding [v, ov, iv] (setItem ov iv v)
      release [v, ov, iv] []) := by intro _; rfl) : VS X W (.Assign [.Subscript (.Name x p) a spos] e pos) (sStore i g f) := by
  refine PS.imp (ps_asg he (pg_sub ho hi set_list ha) hs hw h1) fun D σ H ⟨S, G, Hs, ρ, r, h⟩ => ?_
  obtain ⟨l, hl, h⟩ := on_own h
  obtain ⟨b, vs, o1, o2, o3, o4, o5⟩ := r.own hl
  refine ⟨S, G, Hs, ρ, r, (Post.bind (lift_post r h)).imp fun d Hs' H' e q v hv => ?_⟩
  refine ⟨_, o1, S, G, Hs', ρ, r.step e, (Post.bind q).imp fun k Hs2 H2 e2 q2 w hw => ?_⟩
  have q3 := q2.now e2.sub
  cases k with
  | int z =>
    cases hw
    cases y : ixN l.length z with
    | none => simp only [y] at q3; exact q3.elim
    | some j =>
      simp only [y] at q3
      refine ⟨b, vs, z, j, rfl, rfl, e2.same _ _ (e.same _ _ o4), by rw [← o5.length]; exact y, ?_⟩
      exact q3 Hs2 _ σ (.refl _) (((r.step e).step e2).wr hl o1 (((o5.mono e.grow).mono e2.grow).set (hv.mono e2.grow) j))
  | none => exact q3.elim
  | bool _ => exact q3.elim
  | str _ => exact q3.elim
  | list _ => exact q3.elim
  | tuple _ => exact q3.elim
  | dict _ => exact q3.elim
/-- x[e] += v -/
def rGetL : V → V → Hp → VK → Prop := fun o i H Q => ∃ p xs k v, o = .ref p ∧ i = .int k ∧ H p = some (.lst xs) ∧ 0 ≤ k ∧ k < 2 ^ 63 ∧ xs[k.toNat]? = some v ∧ Q v H
theorem get_list : PGet X rGetL := by
  intro pins s σ H o i ov iv Q I ro ri h
  obtain ⟨p, xs, k, v, rfl, rfl, hp, h0, h1, h2, q⟩ := h
  cases ro
  obtain ⟨t, rfl⟩ := ri
  obtain ⟨its, r, pl, hz⟩ := I.list (.inl (.inl hp))
  obtain ⟨u, e1, e2⟩ := r.get h2
  exact wpAny_getItem_list pl.isList h0 h1 (by simpa using e1) ⟨v, H, I, e2, q⟩
def placeD (l : List D) : D → Option (Nat × D)
  | .int z => if 0 ≤ z ∧ z < 2 ^ 63 then (l[z.toNat]?).map fun y => (z.toNat, y) else none
  | _ => none
def sAugIx (i : Nat) (F : D → D → Option D) (fi fv : Ev → R D) : Ev → Out := fun ρ => onOw i ρ fun l => liftE ((fi ρ).bind fun k => ofO (placeD l k)) ρ fun jy => liftE ((fv ρ).bind fun d => ofO (F jy.2 d)) ρ fun d => .nx (ρ.set i (.ow (l.set jy.1 d)))
theorem vs_augIx (i : Nat) {x : Str} {op : Operator} {F : D → D → Option D} {p spos : Pos} (ho : PE X (.Name x p) (tVar i)) (hi : VE X W a g) (he : VE X W e f) (hop : DIp X op F)
    (ha : ∀ ov iv new, augStore a ov iv new = (do holding [new, ov, iv] (setItem ov iv new); release [new, ov, iv] []; pure .next) := by intros; rfl) : VS X W (.AugAssign (.Subscript (.Name x p) a spos) op e pos) (sAugIx i F g f) := by
  obtain ⟨ti, i1, i2⟩ := hop
  refine PS.imp (ps_augS ho hi get_list he i1 set_list ha) fun D σ H ⟨S, G, Hs, ρ, r, h⟩ => ?_
  obtain ⟨l, hl, h⟩ := on_own h
  obtain ⟨b, vs, o1, o2, o3, o4, o5⟩ := r.own hl
  refine ⟨_, o1, S, G, Hs, ρ, r, (Post.bind (lift_post r h)).imp fun k Hs1 H1 e1 q w hw => ?_⟩
  cases z : placeD l k with
  | none => rw [z] at q; exact q.elim
  | some jy =>
    rw [z] at q
    have q1 := q.now e1.sub
    unfold placeD at z
    split at z
    · rename_i z0
      split at z
      · rename_i hz
        obtain ⟨y, y1, rfl⟩ := Option.map_eq_some_iff.mp z
        cases hw
        obtain ⟨v, v1, v2⟩ := o5.get y1
        refine ⟨b, vs, _, v, rfl, rfl, e1.same _ _ o4, hz.1, hz.2, v1, ?_⟩
        refine ⟨S, G, Hs1, ρ, r.step e1, (Post.bind (lift_post (r.step e1) q1)).imp fun d Hs2 H2 e2 q2 u hu => ?_⟩
        cases z2 : F y d with
        | none => simp only [z2] at q2; exact q2.elim
        | some d' =>
          simp only [z2] at q2
          refine i2 Hs2 H2 y d v u _ d' e2.sub z2 (.inl ((v2.mono e1.grow).mono e2.grow)) (.inl hu) fun Hs3 H3 w3 e3 hw3 => ?_
          have q3 := q2 Hs3 H3 e3
          have r3 := ((r.step e1).step e2).step e3
          have lt : z0.toNat < l.length := (List.getElem?_eq_some_iff.mp y1).1
          refine ⟨b, vs, z0, z0.toNat, rfl, rfl, e3.same _ _ (e2.same _ _ (e1.same _ _ o4)), ?_, ?_⟩
          · unfold ixN
            rw [if_pos hz.1, if_pos]
            have := o5.length
            omega
          · exact q3 Hs3 _ σ (.refl _) (r3.wr hl o1 ((((o5.mono e1.grow).mono e2.grow).mono e3.grow).set hw3 _))
      · cases z
    · cases z
/-- x = y.pop() -/
def sPop (i j : Nat) : Ev → Out := fun ρ => onOw j ρ fun l => match l.getLast? with
  | some d => .nx ((ρ.set j (.ow l.dropLast)).set i (.sh d))
  | none => .bad
def sAsgPop (j : Nat) (g : D → Ev → Option Ev) : Ev → Out := fun ρ => onOw j ρ fun l => match l.getLast? with
  | some d => match g d (ρ.set j (.ow l.dropLast)) with
    | some ρ' => .nx ρ'
    | none => .bad
  | none => .bad
theorem pop_at {K : Fg} {H : Hp} {l : List VL.D} {vs : List V} {d : VL.D} (r : RpL K H l vs) (e : l.getLast? = some d) : ∃ v, vs[vs.length - 1]? = some v ∧ Rp K H d v := by
  rw [List.getLast?_eq_getElem?] at e
  rw [← r.length]
  exact r.get e
theorem vs_asgPop (j : Nat) {tg : Expr} {x : Str} {p apos cpos : Pos} {ts : List Nat} {k : VL.D → Ev → Option Ev} (ho : PE X (.Name x p) (tVar j)) (hg : VG X tg ts k)
    (hbase : attributeBase (.Name x p) "pop" X.env (eval (.Name x p) X.env) = eval (.Name x p) X.env := by rfl) (hline : (apos.endLine == cpos.line) = true := by rfl)
    (hs : swapsWithSole [tg] (.Call (.Attribute (.Name x p) "pop" apos) [] [] cpos) pos.line X.env = pure false := by rfl) (hw : swappedStores [tg] (.Call (.Attribute (.Name x p) "pop" apos) [] [] cpos) X.env = pure none := by rfl)
    (h1 : (assignEach [tg] X.env).map (·.2) = [assign tg X.env] := by rfl) : VS X W (.Assign [tg] (.Call (.Attribute (.Name x p) "pop" apos) [] [] cpos) pos) (sAsgPop j k) := by
  refine PS.imp (ps_asg (pe_bm0 PySem.F.plainAttrs_list PySem.F.slot_list_pop PySem.F.type_list_pop mt_pop ho hbase hline) hg hs hw h1) fun D σ H ⟨S, G, Hs, ρ, r, h⟩ => ?_
  obtain ⟨l, hl, h⟩ := on_own h
  obtain ⟨b, vs, o1, o2, o3, o4, o5⟩ := r.own hl
  cases z : l.getLast? with
  | none => rw [z] at h; exact h.elim
  | some d =>
    rw [z] at h
    obtain ⟨v, v1, v2⟩ := pop_at o5 z
    refine ⟨_, o1, .inl ⟨rfl, vs, .inl (.inl o4)⟩, b, vs, v, rfl, rfl, o4, v1, ?_⟩
    cases z2 : k d (ρ.set j (.ow l.dropLast)) with
    | none => simp only [z2] at h; exact h.elim
    | some ρ' =>
      simp only [z2] at h
      exact ⟨S, G, Hs, _, d, ρ', r.wr hl o1 o5.dropLast, v2, z2, fun σ' _ _ r' => h Hs _ σ' (.refl _) r'⟩
theorem vs_setPop (i j : Nat) {y x : Str} {p py apos cpos : Pos} (hN : X.N.Nodup) (hi : X.N[i]? = some y) (hx : Loc X.env.scope y) (ho : PE X (.Name x p) (tVar j))
    (hbase : attributeBase (.Name x p) "pop" X.env (eval (.Name x p) X.env) = eval (.Name x p) X.env := by rfl) (hline : (apos.endLine == cpos.line) = true := by rfl)
    (hs : swapsWith (.Call (.Attribute (.Name x p) "pop" apos) [] [] cpos) (some (.Name y py)) pos.line X.env = pure false := by rfl) (hf : X.fn y = true ∨ X.env.scope.names.lookup y = some .local := by first | exact .inl rfl | exact .inr rfl | assumption) :
    VS X W (.Assign [.Name y py] (.Call (.Attribute (.Name x p) "pop" apos) [] [] cpos) pos) (sPop i j) := by
  refine PS.imp (ps_set hN hi hx (pe_bm0 PySem.F.plainAttrs_list PySem.F.slot_list_pop PySem.F.type_list_pop mt_pop ho hbase hline) hs hf) fun D σ H ⟨S, G, Hs, ρ, r, h⟩ => ?_
  obtain ⟨l, hl, h⟩ := on_own h
  obtain ⟨b, vs, o1, o2, o3, o4, o5⟩ := r.own hl
  cases z : l.getLast? with
  | none => rw [z] at h; exact h.elim
  | some d =>
    rw [z] at h
    obtain ⟨v, v1, v2⟩ := pop_at o5 z
    exact ⟨_, o1, .inl ⟨rfl, vs, .inl (.inl o4)⟩, b, vs, v, rfl, rfl, o4, v1, h Hs _ _ (.refl _) ((r.wr hl o1 o5.dropLast).set v2)⟩
end
end VL

set_option Elab.async false
set_option linter.all false
set_option maxRecDepth 100000
set_option autoImplicit false
namespace VL
open PySem PySem.Spec PyProof.Rows L2

/-! ### what is walked -/
def ItD (K : Fg) (J : It) (Hs : Hp) (l : List D) : Prop := ∀ (i : Nat) (Hs' H' : Hp), Same Hs Hs' → Same Hs' H' →
  (∀ d, l[i]? = some d → J.go i H' ∧ ∀ x H'', J.yld i H' x H'' → ∃ Hs'', Ext Hs' H' Hs'' H'' ∧ Rp K Hs'' d x) ∧ (l.length ≤ i → J.stop i H')
def tIt (K : Fg) (mg : Str → Option Value) (W : WX) (f : Ev → R (List D)) : TI := fun σ H Rr => ∃ S G Hs ρ, RelE K S G Hs H σ ρ ∧ Post K mg W Hs H σ (f ρ) (fun l Hs' H' => ∀ J, ItD K J Hs' l → Rr J H')
def VI (X : Cx) (W : WX) (tg iter : Expr) (f : Ev → R (List D)) : Prop := PI X tg iter (tIt X.K X.mg W f)
def seqD : D → Option (List D)
  | .list l => some l
  | .tuple l => some l
  | .str z => some (z.cps.toList.map fun c => .str ⟨#[c]⟩)
  | _ => none
theorem it_list {K : Fg} {Hs : Hp} {a : Addr} {xs : List V} {l : List D} (h : SqL K Hs a xs) (r : RpL K Hs l xs) : ItD K (Itl K a) Hs l := fun i Hs' H' g s => by
  have h' : SqL K H' a xs := Same.seq s (Same.seq g h)
  refine ⟨fun d e => ?_, fun hl => ⟨xs, h', by rw [← r.length]; exact hl⟩⟩
  obtain ⟨v, v1, v2⟩ := r.get e
  refine ⟨⟨xs, v, h', v1⟩, fun x H'' y => ?_⟩
  obtain ⟨rfl, y⟩ := y
  have := y xs h'
  rw [v1] at this
  cases this
  exact ⟨Hs', .refl s, v2.mono g⟩
section
variable {X : Cx} {W : WX} {tg e : Expr} {pos : Pos}
/-- a list, a tuple or a text, walked -/
def iSeq (K : Fg) (tl : TE) : TI := fun σ H Rr => tl σ H fun x H1 => (∃ a, x = .ref a ∧ (∃ xs, SqL K H1 a xs) ∧ Rr (Itl K a) H1) ∨ (∃ a, x = .ref a ∧ (∃ xs, SqT K H1 a xs) ∧ Rr (Itt K a) H1) ∨ (∃ z, x = .str z ∧ Rr (Its z) H1)
theorem pi_seq {tl : TE} (hl : PE X e tl) : PI X tg e (iSeq X.K tl) := by
  refine ⟨fun pins s σ H R I h => ?_⟩
  -- the three rules, by the value that comes
  have k1 : ∀ (a : Addr) (s1 : Shared) (H1 : Hp), Inv X pins σ H1 s1 → (∃ xs, SqL X.K H1 a xs) → R (Itl X.K a) H1 → wpAny (model X.prog X.w) X.A (pyIter (.ref a)) (PIE X pins σ tg R) X.xe s1 := fun a s1 H1 I1 ⟨xs, hq⟩ q => by
    obtain ⟨its, rv, p, hz⟩ := I1.list hq
    refine wpAny_pyIter_list p.isList ?_
    refine ⟨s1.heap.objs.size, [s1.heap.objs.size], _, _, H1, rfl, I1.kept (t' := s1.toks) fun b o e => Heap.get?_push_of_some _ e, turn_list a _, ⟨_, Heap.get?_push_size _ rfl, rfl, rfl⟩, fun b hb => ?_, q⟩
    have e : b = s1.heap.objs.size := by simpa using hb
    subst e
    exact I1.fpOk (Nat.le_refl _) (I1.hok.fresh (Nat.le_refl _))
  have k2 : ∀ (a : Addr) (s1 : Shared) (H1 : Hp), Inv X pins σ H1 s1 → (∃ xs, SqT X.K H1 a xs) → R (Itt X.K a) H1 → wpAny (model X.prog X.w) X.A (pyIter (.ref a)) (PIE X pins σ tg R) X.xe s1 := fun a s1 H1 I1 ⟨xs, hq⟩ q => by
    obtain ⟨its, rv, p, hz⟩ := I1.tuple hq
    refine wpAny_pyIter_tuple (show s1.heap.IsTuple a its.toArray from p) ?_
    refine ⟨s1.heap.objs.size, [s1.heap.objs.size], _, _, H1, rfl, I1.kept (t' := s1.toks) fun b o e => Heap.get?_push_of_some _ e, turn_tuple a _, ⟨_, Heap.get?_push_size _ rfl, rfl, rfl⟩, fun b hb => ?_, q⟩
    have e : b = s1.heap.objs.size := by simpa using hb
    subst e
    exact I1.fpOk (Nat.le_refl _) (I1.hok.fresh (Nat.le_refl _))
  refine thn (hl.run pins s σ H _ I h) fun v s1 ⟨x, H1, I1, r1, q1⟩ => ?_
  rcases q1 with ⟨a, ex, hx, q⟩ | ⟨a, ex, hx, q⟩ | ⟨z, ex, q⟩
  · subst ex; cases r1; exact k1 a s1 H1 I1 hx q
  · subst ex; cases r1; exact k2 a s1 H1 I1 hx q
  · subst ex
    obtain ⟨t, rfl⟩ := r1
    cases ha : z.cps.all (· < 128)
    · exact wpAny_pyIter_wide ha (pi_one (tk := s1.toks) I1 _ (turn_str _ z t "str_iterator" (.inr rfl)) ⟨_, Heap.get?_push_size _ rfl, rfl, rfl⟩ q)
    · exact wpAny_pyIter_ascii ha (pi_one (tk := s1.toks) I1 _ (turn_str _ z t "str_ascii_iterator" (.inl rfl)) ⟨_, Heap.get?_push_size _ rfl, rfl, rfl⟩ q)
end
theorem it_tup {K : Fg} {Hs : Hp} {a : Addr} {xs : List V} {l : List D} (h : SqT K Hs a xs) (r : RpL K Hs l xs) : ItD K (Itt K a) Hs l := fun i Hs' H' g s => by
  have h' : SqT K H' a xs := SqT.mono s (SqT.mono g h)
  refine ⟨fun d e => ?_, fun hl => ⟨xs, h', by rw [← r.length]; exact hl⟩⟩
  obtain ⟨v, v1, v2⟩ := r.get e
  refine ⟨⟨xs, v, h', v1⟩, fun x H'' y => ?_⟩
  obtain ⟨rfl, y⟩ := y
  have := y xs h'
  rw [v1] at this
  cases this
  exact ⟨Hs', .refl s, v2.mono g⟩
theorem it_str {K : Fg} {Hs : Hp} (z : Str) : ItD K (Its z) Hs (z.cps.toList.map fun c => .str ⟨#[c]⟩) := fun i Hs' H' g s => by
  refine ⟨fun d e => ?_, fun hl => by rw [List.length_map, Array.length_toList] at hl; exact hl⟩
  rw [List.getElem?_map] at e
  obtain ⟨c, e1, rfl⟩ := Option.map_eq_some_iff.mp e
  have e2 : z.cps[i]? = some c := by rw [← Array.getElem?_toList]; exact e1
  refine ⟨(Array.getElem?_eq_some_iff.mp e2).1, fun x H'' y => ?_⟩
  obtain ⟨rfl, c', e3, rfl⟩ := y
  rw [e2] at e3
  cases e3
  exact ⟨Hs', .refl s, .str _⟩
/-- lo, lo + c, .. (n of them) -/
def rngL (lo c : Int) (n : Nat) : List D := (List.range n).map fun i => .int (lo + (i : Nat) * c)
theorem rngL_length (lo c : Int) (n : Nat) : (rngL lo c n).length = n := by simp [rngL]
theorem rngL_get {lo c : Int} {n i : Nat} {d : D} (h : (rngL lo c n)[i]? = some d) : i < n ∧ d = .int (lo + (i : Nat) * c) := by
  unfold rngL at h
  rw [List.getElem?_map] at h
  obtain ⟨j, e1, rfl⟩ := Option.map_eq_some_iff.mp h
  obtain ⟨h1, h2⟩ := List.getElem?_eq_some_iff.mp e1
  rw [List.getElem_range] at h2
  subst h2
  exact ⟨by simpa using h1, rfl⟩
theorem it_rng {K : Fg} {Hs : Hp} {lo : Int} {n : Nat} : ItD K (Itr lo n) Hs (rngL lo 1 n) := fun i Hs' H' g s => by
  refine ⟨fun d e => ?_, fun hl => by rw [rngL_length] at hl; exact hl⟩
  obtain ⟨h1, rfl⟩ := rngL_get e
  refine ⟨h1, fun x H'' y => ?_⟩
  obtain ⟨rfl, rfl⟩ := y
  rw [Int.mul_one]
  exact ⟨Hs', .refl s, .int _⟩
theorem it_rngC {K : Fg} {Hs : Hp} {lo c : Int} {n : Nat} : ItD K (Itc lo c n) Hs (rngL lo c n) := fun i Hs' H' g s => by
  refine ⟨fun d e => ?_, fun hl => by rw [rngL_length] at hl; exact hl⟩
  obtain ⟨h1, rfl⟩ := rngL_get e
  refine ⟨h1, fun x H'' y => ?_⟩
  obtain ⟨rfl, rfl⟩ := y
  exact ⟨Hs', .refl s, .int _⟩
def in62 (i : Int) : Bool := decide (-(2 ^ 62) ≤ i ∧ i < 2 ^ 62)
def range1D : List D → Option (List D)
  | [.int j] => if in62 j then some (rngL 0 1 j.toNat) else none
  | _ => none
def range2D : List D → Option (List D)
  | [.int i, .int j] => if in62 i && in62 j then some (rngL i 1 (j - i).toNat) else none
  | _ => none
def range3D : List D → Option (List D)
  | [.int i, .int j, .int c] => if decide (c ≠ 0) && decide (c.natAbs < 1073741824) && Builtin.Range.small i j c && decide (Builtin.Range.rangeSize i j c = ((Builtin.Range.rangeSize i j c).toNat : Int)) then some (rngL i c (Builtin.Range.rangeSize i j c).toNat) else none
  | _ => none
theorem PkL.three {K : Fg} {Hs H : Hp} {d e f : D} {vs : List V} (h : PkL K Hs H [d, e, f] vs) : ∃ v w u, vs = [v, w, u] ∧ Pk K Hs H d v ∧ Pk K Hs H e w ∧ Pk K Hs H f u := by
  cases vs with
  | nil => exact h.elim
  | cons v r =>
    cases r with
    | nil => exact h.2.elim
    | cons w r =>
      cases r with
      | nil => exact h.2.2.elim
      | cons u r =>
        cases r with
        | nil => exact ⟨v, w, u, rfl, h.1, h.2.1, h.2.2.1⟩
        | cons _ r => exact h.2.2.2.elim
section
variable {X : Cx} {W : WX} {tg e a b c : Expr} {pos p : Pos} {f : Ev → R D} {fl : Ev → R (List D)}
theorem vi_seq (h : VE X W e f) : VI X W tg e (e1 seqD f) := PI.imp (pi_seq h) fun σ H Rr ⟨S, G, Hs, ρ, r, p⟩ => by
  refine ⟨S, G, Hs, ρ, r, (Post.bind p).imp fun d Hs1 H1 e q v hv => ?_⟩
  cases z : seqD d with
  | none => rw [z] at q; exact q.elim
  | some l =>
    rw [z] at q
    have q' := q.now e.sub
    unfold seqD at z
    split at z
    · cases z
      cases hv with
      | lst h1 h2 => exact .inl ⟨_, rfl, ⟨_, Same.seq e.sub h1⟩, q' _ (it_list h1 h2)⟩
    · cases z
      cases hv with
      | tup h1 h2 => exact .inr (.inl ⟨_, rfl, ⟨_, SqT.mono e.sub h1⟩, q' _ (it_tup h1 h2)⟩)
    · cases z
      cases hv
      exact .inr (.inr ⟨_, rfl, q' _ (it_str _)⟩)
    · cases z
theorem vi_range1 (hg : Gl X "range") (hm : X.mg "range" = none) (ha : VAp X W [a] fl) (hs : starEach [a] X.env = [(false, eval a X.env)] := by rfl) : VI X W tg (.Call (.Name "range" p) [a] [] pos) (e1 range1D fl) := PI.imp (pi_range1 hg hm ha hs) fun σ H Rr ⟨S, G, Hs, ρ, r, p⟩ => by
  refine ⟨S, G, Hs, ρ, r, (Post.bind p).imp fun ds Hs1 H1 e q vs hv => ?_⟩
  cases z : range1D ds with
  | none => rw [z] at q; exact q.elim
  | some l =>
    rw [z] at q
    have q' := q.now e.sub
    unfold range1D at z
    split at z
    · split at z
      · rename_i hz
        cases z
        unfold in62 at hz
        have hz' := of_decide_eq_true hz
        obtain ⟨v, rfl, h⟩ := hv.one
        exact ⟨_, by rw [h.int], hz'.1, hz'.2, q' _ it_rng⟩
      · cases z
    · cases z
theorem vi_range2 (hg : Gl X "range") (hm : X.mg "range" = none) (ha : VAp X W [a, b] fl) (hs : starEach [a, b] X.env = [(false, eval a X.env), (false, eval b X.env)] := by rfl) (hs2 : starEach [b] X.env = [(false, eval b X.env)] := by rfl) : VI X W tg (.Call (.Name "range" p) [a, b] [] pos) (e1 range2D fl) := PI.imp (pi_range2 hg hm ha hs hs2) fun σ H Rr ⟨S, G, Hs, ρ, r, p⟩ => by
  refine ⟨S, G, Hs, ρ, r, (Post.bind p).imp fun ds Hs1 H1 e q vs hv => ?_⟩
  cases z : range2D ds with
  | none => rw [z] at q; exact q.elim
  | some l =>
    rw [z] at q
    have q' := q.now e.sub
    unfold range2D at z
    split at z
    · split at z
      · rename_i hz
        cases z
        unfold in62 at hz
        rw [Bool.and_eq_true] at hz
        have hz1 := of_decide_eq_true hz.1
        have hz2 := of_decide_eq_true hz.2
        obtain ⟨v, w, rfl, h, h'⟩ := hv.two
        exact ⟨_, _, by rw [h.int, h'.int], ⟨hz1.1, hz1.2, hz2.1, hz2.2⟩, q' _ it_rng⟩
      · cases z
    · cases z
theorem vi_range3 (hg : Gl X "range") (hm : X.mg "range" = none) (ha : VAp X W [a, b, c] fl)
    (h1 : starEach [a, b, c] X.env = (false, eval a X.env) :: starEach [b, c] X.env := by rfl) (h2 : (backTo pos (starEach [b, c] X.env)).any (·.1) = false := by rfl) : VI X W tg (.Call (.Name "range" p) [a, b, c] [] pos) (e1 range3D fl) := PI.imp (pi_range3 hg hm ha h1 h2) fun σ H Rr ⟨S, G, Hs, ρ, r, p⟩ => by
  refine ⟨S, G, Hs, ρ, r, (Post.bind p).imp fun ds Hs1 H1 e q vs hv => ?_⟩
  cases z : range3D ds with
  | none => rw [z] at q; exact q.elim
  | some l =>
    rw [z] at q
    have q' := q.now e.sub
    unfold range3D at z
    split at z
    · split at z
      · rename_i hz
        cases z
        rw [Bool.and_eq_true, Bool.and_eq_true, Bool.and_eq_true] at hz
        have hz1 := of_decide_eq_true hz.1.1.1
        have hz2 := of_decide_eq_true hz.1.1.2
        have hz3 := of_decide_eq_true hz.2
        obtain ⟨v, w, u, rfl, h, h', h''⟩ := hv.three
        exact ⟨_, _, _, _, by rw [h.int, h'.int, h''.int], ⟨hz1, hz2, hz.1.2, hz3⟩, q' _ it_rngC⟩
      · cases z
    · cases z
/-- enumerate, zip of lists -/
def enuL (l : List D) : List D := (List.range l.length).zipWith (fun i d => .tuple [.int (i : Nat), d]) l
def zipL (l m : List D) : List D := l.zipWith (fun d e => .tuple [d, e]) m
def enuD : List D → Option (List D)
  | [.list l] => some (enuL l)
  | _ => none
def zipD : List D → Option (List D)
  | [.list l, .list m] => some (zipL l m)
  | _ => none
theorem it_enu {K : Fg} {Hs : Hp} {a : Addr} {xs : List V} {l : List D} (h : SqL K Hs a xs) (r : RpL K Hs l xs) : ItD K (Ite K a) Hs (enuL l) := fun i Hs' H' g s => by
  have h' : SqL K H' a xs := Same.seq s (Same.seq g h)
  refine ⟨fun d e => ?_, fun hl => ⟨xs, h', by rw [← r.length]; simpa [enuL] using hl⟩⟩
  unfold enuL at e
  rw [List.getElem?_zipWith] at e
  cases e1 : (List.range l.length)[i]? with
  | none => rw [e1] at e; cases e
  | some j =>
    cases e2 : l[i]? with
    | none => rw [e1, e2] at e; cases e
    | some d' =>
      rw [e1, e2] at e
      cases e
      have hj : j = i := by
        obtain ⟨h1, h2⟩ := List.getElem?_eq_some_iff.mp e1
        rw [List.getElem_range] at h2
        exact h2.symm
      subst hj
      obtain ⟨v, v1, v2⟩ := r.get e2
      refine ⟨⟨xs, v, h', v1⟩, fun x H'' y => ?_⟩
      obtain ⟨T, x', rfl, hT, rfl, y⟩ := y
      have := y xs h'
      rw [v1] at this
      cases this
      have x := Ext.new (o := .tup [.int (j : Nat), v]) s hT
      exact ⟨_, x, .tup (.inl (.inl upd_same)) (.cons (.int _) (.cons ((v2.mono g).mono x.grow) .nil))⟩
theorem it_zip {K : Fg} {Hs : Hp} {a b : Addr} {xs ys : List V} {l m : List D} (h : SqL K Hs a xs) (r : RpL K Hs l xs) (h2 : SqL K Hs b ys) (r2 : RpL K Hs m ys) : ItD K (Itz K a b) Hs (zipL l m) := fun i Hs' H' g s => by
  have h' : SqL K H' a xs := Same.seq s (Same.seq g h)
  have h2' : SqL K H' b ys := Same.seq s (Same.seq g h2)
  refine ⟨fun d e => ?_, fun hl => ⟨xs, ys, h', h2', by rw [← r.length, ← r2.length]; simp [zipL] at hl; omega⟩⟩
  unfold zipL at e
  rw [List.getElem?_zipWith] at e
  cases e1 : l[i]? with
  | none => rw [e1] at e; cases e
  | some d1 =>
    cases e2 : m[i]? with
    | none => rw [e1, e2] at e; cases e
    | some d2 =>
      rw [e1, e2] at e
      cases e
      obtain ⟨v, v1, v2⟩ := r.get e1
      obtain ⟨u, u1, u2⟩ := r2.get e2
      refine ⟨⟨xs, ys, v, u, h', h2', v1, u1⟩, fun x H'' y => ?_⟩
      obtain ⟨T, x', y', rfl, hT, rfl, y1, y2⟩ := y
      have := y1 xs h'
      rw [v1] at this
      cases this
      have := y2 ys h2'
      rw [u1] at this
      cases this
      have x := Ext.new (o := .tup [v, u]) s hT
      exact ⟨_, x, .tup (.inl (.inl upd_same)) (.cons ((v2.mono g).mono x.grow) (.cons ((u2.mono g).mono x.grow) .nil))⟩
theorem va_one {f : Ev → R D} {e : Expr} (ha : VE X W e f) (hs : starEach (e :: []) X.env = (false, eval e X.env) :: starEach [] X.env := by rfl) : VA X W [e] (eCons f (cst [])) := va_cons ha va_nil hs
theorem RpL.one {K : Fg} {H : Hp} {d : D} {vs : List V} (h : RpL K H [d] vs) : ∃ v, vs = [v] ∧ Rp K H d v := by
  cases h with
  | cons h r => cases r; exact ⟨_, rfl, h⟩
theorem RpL.two {K : Fg} {H : Hp} {d e : D} {vs : List V} (h : RpL K H [d, e] vs) : ∃ v w, vs = [v, w] ∧ Rp K H d v ∧ Rp K H e w := by
  cases h with
  | cons h r => cases r with
    | cons h' r => cases r; exact ⟨_, _, rfl, h, h'⟩
theorem vi_enum {tpos : Pos} {elts : List Expr} {kk : Nat} (hg : Gl X "enumerate") (hm : X.mg "enumerate" = none) (ha : VA X W [e] fl) (hs : starEach [e] X.env = [(false, eval e X.env)] := by rfl) :
    VI X W (.Tuple elts kk tpos) (.Call (.Name "enumerate" p) [e] [] pos) (e1 enuD fl) := PI.imp (pi_enum hg hm ha hs) fun σ H Rr ⟨S, G, Hs, ρ, r, p⟩ => by
  refine ⟨S, G, Hs, ρ, r, (Post.bind p).imp fun ds Hs1 H1 e q vs hv => ?_⟩
  cases z : enuD ds with
  | none => rw [z] at q; exact q.elim
  | some l =>
    rw [z] at q
    have q' := q.now e.sub
    unfold enuD at z
    split at z
    · cases z
      obtain ⟨v, rfl, h⟩ := hv.one
      cases h with
      | lst h1 h2 => exact ⟨_, _, rfl, Same.seq e.sub h1, q' _ (it_enu h1 h2)⟩
    · cases z
theorem vi_zip {e2 : Expr} {tpos : Pos} {elts : List Expr} {kk : Nat} (hg : Gl X "zip") (hm : X.mg "zip" = none) (ha : VA X W [e, e2] fl) (hs : starEach [e, e2] X.env = (false, eval e X.env) :: starEach [e2] X.env := by rfl) (hpl : (backTo pos (starEach [e2] X.env)).any (·.1) = false := by rfl) :
    VI X W (.Tuple elts kk tpos) (.Call (.Name "zip" p) [e, e2] [] pos) (e1 zipD fl) := PI.imp (pi_zip hg hm ha hs hpl) fun σ H Rr ⟨S, G, Hs, ρ, r, p⟩ => by
  refine ⟨S, G, Hs, ρ, r, (Post.bind p).imp fun ds Hs1 H1 e q vs hv => ?_⟩
  cases z : zipD ds with
  | none => rw [z] at q; exact q.elim
  | some l =>
    rw [z] at q
    have q' := q.now e.sub
    unfold zipD at z
    split at z
    · cases z
      obtain ⟨v, w, rfl, h, h'⟩ := hv.two
      cases h with
      | lst h1 h2 =>
        cases h' with
        | lst h3 h4 => exact ⟨_, _, _, _, rfl, Same.seq e.sub h1, Same.seq e.sub h3, q' _ (it_zip h1 h2 h3 h4)⟩
    · cases z
end

/-! ### for, while -/
def forO (body : D → Ev → Out) : List D → Ev → Out
  | [], ρ => .nx ρ
  | d :: ds, ρ => match body d ρ with
    | .nx ρ' => forO body ds ρ'
    | .ct ρ' => forO body ds ρ'
    | .bk ρ' => .nx ρ'
    | .rt r => .rt r
    | .rtB r ρ' => .rtB r ρ'
    | .ex x ρ' => .ex x ρ'
    | .bad => .bad
def gTo (g : D → Ev → Option Ev) (F : Ev → Out) : D → Ev → Out := fun d ρ => match g d ρ with
  | some ρ' => F ρ'
  | none => .bad
def sFor (fi : Ev → R (List D)) (g : D → Ev → Option Ev) (F : Ev → Out) : Ev → Out := fun ρ => liftE (fi ρ) ρ fun l => forO (gTo g F) l ρ
def whileO (c : Ev → R Bool) (F : Ev → Out) : Nat → Ev → Out
  | 0, _ => .bad
  | n + 1, ρ => liftE (c ρ) ρ fun b => if b then (match F ρ with
    | .nx ρ' => whileO c F n ρ'
    | .ct ρ' => whileO c F n ρ'
    | .bk ρ' => .nx ρ'
    | .rt r => .rt r
    | .rtB r ρ' => .rtB r ρ'
    | .ex x ρ' => .ex x ρ'
    | .bad => .bad) else .nx ρ
open Classical in
noncomputable def sWhile (c : Ev → R Bool) (F : Ev → Out) : Ev → Out := fun ρ => if h : ∃ n, whileO c F n ρ ≠ .bad then whileO c F (Classical.choose h) ρ else .bad
theorem whileO_mono {c : Ev → R Bool} {F : Ev → Out} : ∀ (n m : Nat) (ρ : Ev), n ≤ m → whileO c F n ρ ≠ .bad → whileO c F m ρ = whileO c F n ρ
  | 0, _, _, _, h => (h rfl).elim
  | n + 1, 0, _, h, _ => by omega
  | n + 1, m + 1, ρ, h, hb => by
    show liftE (c ρ) ρ _ = liftE (c ρ) ρ _
    have hb' : liftE (c ρ) ρ (fun b => if b then (match F ρ with
      | .nx ρ' => whileO c F n ρ'
      | .ct ρ' => whileO c F n ρ'
      | .bk ρ' => .nx ρ'
      | .rt r => .rt r
      | .rtB r ρ' => .rtB r ρ'
      | .ex x ρ' => .ex x ρ'
      | .bad => .bad) else .nx ρ) ≠ .bad := hb
    cases e : c ρ with
    | ex x => rfl
    | bad => rfl
    | ok b =>
      rw [e] at hb'
      cases b with
      | false => rfl
      | true =>
        show (match F ρ with
          | .nx ρ' => whileO c F m ρ'
          | .ct ρ' => whileO c F m ρ'
          | .bk ρ' => .nx ρ'
          | .rt r => .rt r
          | .rtB r ρ' => .rtB r ρ'
          | .ex x ρ' => .ex x ρ'
          | .bad => .bad) = (match F ρ with
          | .nx ρ' => whileO c F n ρ'
          | .ct ρ' => whileO c F n ρ'
          | .bk ρ' => .nx ρ'
          | .rt r => .rt r
          | .rtB r ρ' => .rtB r ρ'
          | .ex x ρ' => .ex x ρ'
          | .bad => .bad)
        have hb2 : (match F ρ with
          | .nx ρ' => whileO c F n ρ'
          | .ct ρ' => whileO c F n ρ'
          | .bk ρ' => .nx ρ'
          | .rt r => .rt r
          | .rtB r ρ' => .rtB r ρ'
          | .ex x ρ' => .ex x ρ'
          | .bad => .bad) ≠ .bad := hb'
        cases e2 : F ρ with
        | nx ρ' => rw [e2] at hb2; exact whileO_mono n m ρ' (by omega) hb2
        | ct ρ' => rw [e2] at hb2; exact whileO_mono n m ρ' (by omega) hb2
        | bk ρ' => rfl
        | rt r => rfl
        | rtB r ρ' => rfl
        | ex x ρ' => rfl
        | bad => rfl
theorem sWhile_eq {c : Ev → R Bool} {F : Ev → Out} {n : Nat} {ρ : Ev} {o : Out} (h : whileO c F n ρ = o) (ho : o ≠ .bad) : sWhile c F ρ = o := by
  have hex : ∃ n, whileO c F n ρ ≠ .bad := ⟨n, by rw [h]; exact ho⟩
  have e1 : sWhile c F ρ = whileO c F (Classical.choose hex) ρ := by unfold sWhile; rw [dif_pos hex]
  have e2 := Classical.choose_spec hex
  rw [e1]
  rcases Nat.le_total n (Classical.choose hex) with l | l
  · rw [whileO_mono _ _ _ l (by rw [h]; exact ho), h]
  · rw [← whileO_mono _ _ _ l e2, h]
theorem sWhile_ok {K : Fg} {mg : Str → Option Value} {W : WX} {S Hs : Hp} {G : Gx} {En : Ends} {c : Ev → R Bool} {F : Ev → Out} {ρ : Ev} (h : OutOk K mg W S G Hs En (sWhile c F ρ)) : ∃ n, OutOk K mg W S G Hs En (whileO c F n ρ) := by
  unfold sWhile at h
  split at h
  · exact ⟨_, h⟩
  · exact h.elim
section
variable {X : Cx} {W : WX} {tg iter c : Expr} {body : List Stmt} {pos : Pos} {fi : Ev → R (List D)} {ts : List Nat} {g : D → Ev → Option Ev} {F : Ev → Out} {fb : Ev → R Bool}
theorem vs_for (hp : PassesOwn (model X.prog X.w) X.A X.env X.xe) (hc : X.calm = true) (hi : VI X W tg iter fi) (hg : VG X tg ts g) (hb : VSs X W body F)
    (hs : ∀ x, foldedSetIterable iter X.env x = pure x := by intro _; rfl) : VS X W (.For tg iter body [] pos) (sFor fi g F) := by
  refine PS.imp (ps_for hp hc hi hg hb hs) fun En σ H ⟨S, G, Hs, ρ, r, h⟩ => ?_
  refine ⟨S, G, Hs, ρ, r, (lift_post r h).imp fun l Hs1 H1 e q J hJ => ?_⟩
  refine ⟨fun i m σ' H' => m = l.length - i ∧ i ≤ l.length ∧ ∃ Hs2 ρ2, Same Hs1 Hs2 ∧ RelE X.K S G Hs2 H' σ' ρ2 ∧ OutOk X.K X.mg W S G Hs2 En (forO (gTo g F) (l.drop i) ρ2),
    ⟨l.length, by simp, Nat.zero_le _, Hs1, ρ, .refl _, r.step e, q⟩, ?_⟩
  rintro i m σ' H' ⟨rfl, hi, Hs2, ρ2, g2, r2, q2⟩
  obtain ⟨j1, j2⟩ := hJ i Hs2 H' g2 r2.sub
  by_cases hl : i < l.length
  · obtain ⟨j1, j3⟩ := j1 l[i] (List.getElem?_eq_getElem hl)
    rw [List.drop_eq_getElem_cons hl] at q2
    refine .inr ⟨j1, fun σ3 H3 => ∃ Hs3 ρ3, Same Hs1 Hs3 ∧ RelE X.K S G Hs3 H3 σ3 ρ3 ∧ OutOk X.K X.mg W S G Hs3 En (forO (gTo g F) (l.drop (i + 1)) ρ3), fun σ3 H3 ⟨Hs3, ρ3, a1, a2, a3⟩ => ⟨_, (by omega : l.length - (i + 1) < l.length - i), rfl, hl, Hs3, ρ3, a1, a2, a3⟩, fun x H3 y => ?_⟩
    obtain ⟨Hs3, e3, d3⟩ := j3 x H3 y
    unfold forO gTo at q2
    cases z : g l[i] ρ2 with
    | none => rw [z] at q2; exact q2.elim
    | some ρ3 =>
      rw [z] at q2
      refine ⟨S, G, Hs3, ρ2, l[i], ρ3, r2.step e3, d3, z, fun σ4 _ _ r4 => ⟨S, G, Hs3, ρ3, r4, ?_⟩⟩
      have g3 := g2.trans e3.grow
      cases z2 : F ρ3 with
      | nx ρ' => simp only [z2] at q2; exact fun Hs' H' σ' a b => ⟨Hs', ρ', g3.trans a, b, q2.up (e3.grow.trans a)⟩
      | ct ρ' => simp only [z2] at q2; exact fun Hs' H' σ' a b => ⟨Hs', ρ', g3.trans a, b, q2.up (e3.grow.trans a)⟩
      | bk ρ' => simp only [z2] at q2; exact fun Hs' H' σ' a b => q2 Hs' H' σ' (e3.grow.trans a) b
      | rt r => simp only [z2] at q2; exact q2
      | rtB r ρ' => simp only [z2] at q2; exact OutOk.up (o := .rtB r ρ') q2 e3.grow
      | ex x ρ' => simp only [z2] at q2; exact fun Hs' H' σ' cls dd a => q2 Hs' H' σ' cls dd (e3.grow.trans a)
      | bad => simp only [z2] at q2; exact q2.elim
  · have e0 : i = l.length := by omega
    subst e0
    rw [List.drop_length] at q2
    exact .inl ⟨j2 (Nat.le_refl _), q2 Hs2 H' σ' (.refl _) r2⟩
theorem vs_while (hp : PassesOwn (model X.prog X.w) X.A X.env X.xe) (hc : VT X W c fb) (hb : VSs X W body F) : VS X W (.While c body [] pos) (sWhile fb F) := by
  refine PS.imp (ps_while hp hc hb) fun En σ H ⟨S, G, Hs, ρ, r, h⟩ => ?_
  obtain ⟨n, h⟩ := sWhile_ok h
  refine ⟨fun m σ' H' => ∃ Hs2 ρ2, RelE X.K S G Hs2 H' σ' ρ2 ∧ OutOk X.K X.mg W S G Hs2 En (whileO fb F m ρ2), ⟨n, Hs, ρ, r, h⟩, ?_⟩
  rintro m σ' H' ⟨Hs2, ρ2, r2, q2⟩
  cases m with
  | zero => exact q2.elim
  | succ m =>
    refine ⟨S, G, Hs2, ρ2, r2, (lift_post r2 q2).imp fun b Hs3 H3 e q => ?_⟩
    cases b with
    | false => exact q Hs3 H3 σ' (.refl _) (r2.step e)
    | true =>
      simp only [if_true] at q ⊢
      refine ⟨fun σ4 H4 => ∃ Hs4 ρ4, RelE X.K S G Hs4 H4 σ4 ρ4 ∧ OutOk X.K X.mg W S G Hs4 En (whileO fb F m ρ4), fun σ4 H4 a => ⟨m, Nat.lt_succ_self m, a⟩, S, G, Hs3, ρ2, r2.step e, ?_⟩
      cases z2 : F ρ2 with
      | nx ρ' => simp only [z2] at q; exact fun Hs' H' σ' a b => ⟨Hs', ρ', b, q.up a⟩
      | ct ρ' => simp only [z2] at q; exact fun Hs' H' σ' a b => ⟨Hs', ρ', b, q.up a⟩
      | bk ρ' => simp only [z2] at q; exact q
      | rt r => simp only [z2] at q; exact q
      | rtB r ρ' => simp only [z2] at q; exact q
      | ex x ρ' => simp only [z2] at q; exact q
      | bad => simp only [z2] at q; exact q.elim
end
end VL

set_option Elab.async false
set_option linter.all false
set_option maxRecDepth 100000
set_option autoImplicit false
namespace VL
open PySem PySem.Spec PyProof.Rows L2

/-! ### list comprehensions -/
abbrev WF : WX := fun _ _ _ _ => False
def wipeE (ρ : Ev) : List Nat → Ev
  | [] => ρ
  | v :: vs => (wipeE ρ vs).set v .no
theorem RelE.wipe {K : Fg} {S Hs H : Hp} {G : Gx} {σ : Sg} {ρ : Ev} (r : RelE K S G Hs H σ ρ) : ∀ vs : List Nat, RelE K S G Hs H (wipe σ vs) (wipeE ρ vs)
  | [] => r
  | v :: vs => (RelE.wipe r vs).setNo
theorem wipe_get {σ : Sg} {j : Nat} : ∀ {vs : List Nat}, j < σ.length → (wipe σ vs)[j]? = if j ∈ vs then some none else σ[j]?
  | [], h => by simp [L2.wipe]
  | v :: vs, h => by
    unfold L2.wipe
    by_cases e : v = j
    · subst e
      rw [List.getElem?_set_self (by rw [wipe_length]; exact h), if_pos List.mem_cons_self]
    · rw [List.getElem?_set_ne e, wipe_get h]
      by_cases m : j ∈ vs
      · rw [if_pos m, if_pos (List.mem_cons_of_mem _ m)]
      · rw [if_neg m, if_neg (by simp only [List.mem_cons, not_or]; exact ⟨fun z => e z.symm, m⟩)]
theorem wipe_same {σ σ' : Sg} {vs ts : List Nat} (hl : σ'.length = (wipe σ vs).length) (hj : ∀ j, j ∉ ts → σ'[j]? = (wipe σ vs)[j]?) (ht : ∀ t ∈ ts, t ∈ vs) : wipe σ' vs = wipe σ vs := by
  rw [wipe_length] at hl
  apply List.ext_getElem?
  intro j
  by_cases h : j < σ.length
  · rw [wipe_get h, wipe_get (by omega)]
    by_cases m : j ∈ vs
    · rw [if_pos m, if_pos m]
    · rw [if_neg m, if_neg m, hj j (fun z => m (ht j z)), wipe_get h, if_neg m]
  · rw [List.getElem?_eq_none (by rw [wipe_length]; omega), List.getElem?_eq_none (by rw [wipe_length]; omega)]

theorem Ext.updNew {Hs H Hs' H' : Hp} {p : Addr} {o : HO} (e : Ext Hs H Hs' H') (h0 : H p = none) (h1 : Hs' p = none) : Ext Hs H Hs' (upd H' p o) where
  sub := fun b u q => by rw [upd_ne (ne_of_none q h1)]; exact e.sub b u q
  same := fun b u q => by rw [upd_ne (ne_of_none q h0)]; exact e.same b u q
  grow := e.grow
  fresh := e.fresh
theorem Ext.hidden {Hs H Hs' H' : Hp} {p : Addr} {o : HO} (e : Ext Hs H Hs' H') (h0 : Hs p = none) (h1 : H p = some o) : Hs' p = none := by
  cases q : Hs' p with
  | none => rfl
  | some u =>
    have := e.fresh p u q h0
    rw [h1] at this; cases this

def compR (step : D → R (Option D)) : List D → R (List D)
  | [] => .ok []
  | d :: ds => (step d).bind fun o => (compR step ds).bind fun r => .ok (match o with | some y => y :: r | none => r)
def compS (vs : List Nat) (g : D → Ev → Option Ev) (ft : Ev → R Bool) (fe : Ev → R D) (ρ : Ev) : D → R (Option D) := fun d => match g d (wipeE ρ vs) with
  | some ρ' => (noex (ft ρ')).bind fun b => if b then (noex (fe ρ')).bind fun y => .ok (some y) else .ok none
  | none => .bad
def eComp (vs : List Nat) (fi : Ev → R (List D)) (g : D → Ev → Option Ev) (ft : Ev → R Bool) (fe : Ev → R D) : Ev → R (List D) := fun ρ => (fi ρ).bind fun l => if l.length ≤ sizeLine then compR (compS vs g ft fe ρ) l else .bad
def VTs (X : Cx) (W : WX) (ifs : List Expr) (f : Ev → R Bool) : Prop := PTs X ifs (tT X.K X.mg W f)
theorem PTs.imp {X : Cx} {ifs : List Expr} {t t' : TT} (h : PTs X ifs t) (i : ∀ σ H Q, t' σ H Q → t σ H Q) : PTs X ifs t' := ⟨fun pins s σ H Q I q => h.run pins s σ H Q I (i σ H Q q)⟩
section
variable {X : Cx} {W : WX} {c : Expr} {fb : Ev → R Bool}
theorem vts_nil : VTs X W [] (cst true) := PTs.imp pts_nil fun σ H Q ⟨S, G, Hs, ρ, r, p⟩ => p.now r.sub
theorem vts_one (h : VT X W c fb) : VTs X W [c] fb := pts_one h
end
theorem noex_ok {α : Type} (a : α) : noex (.ok a : R α) = .ok a := rfl
theorem noex_cases {α β : Type} {r : R α} {k : α → R β} {K : Fg} {mg : Str → Option Value} {W : WX} {Hs H : Hp} {σ : Sg} {P : β → Hp → Hp → Prop} (h : Post K mg W Hs H σ ((noex r).bind k) P) : ∃ a, r = .ok a := by
  cases r with
  | ok a => exact ⟨a, rfl⟩
  | ex x => exact h.elim
  | bad => exact h.elim
theorem bind_assoc {α β γ : Type} (r : R α) (f : α → R β) (g : β → R γ) : (r.bind f).bind g = r.bind fun a => (f a).bind g := by cases r <;> rfl

theorem sim_comp {K : Fg} {mg : Str → Option Value} {W : WX} {vs ts : List Nat} {fi : Ev → R (List D)} {g : D → Ev → Option Ev} {ft : Ev → R Bool} {fe : Ev → R D} (ht : ∀ t ∈ ts, t ∈ vs) :
    ∀ σ H Q, tO K mg W (eComp vs fi g ft fe) σ H Q → tLc (tIt K mg W fi) (tGt K ts g) (tT K mg WF ft) (tE K mg WF fe) vs σ H Q := fun σ H Q ⟨S, G, Hs, ρ, r, p⟩ => by
  refine ⟨S, G, Hs, ρ, r, (Post.bind p).imp fun l Hs1 H1 e1 q J hJ Dd hD => ?_⟩
  by_cases hz : l.length ≤ sizeLine
  case neg => rw [if_neg hz] at q; exact q.elim
  rw [if_pos hz] at q
  refine ⟨fun i m H' => m = l.length - i ∧ i ≤ l.length ∧ ∃ Hs2 acc ws, Ext Hs1 H1 Hs2 H' ∧ Hs2 Dd = none ∧ H' Dd = some (.lst ws) ∧ RpL K Hs2 acc ws ∧ acc.length ≤ i ∧
      Post K mg W Hs1 H1 σ ((compR (compS vs g ft fe ρ) (l.drop i)).bind fun r => .ok (acc ++ r)) (fun l Hs' H' => ∀ p vs, H p = none → Hs' p = none → H' p = some (.lst vs) → RpL K Hs' l vs → Q (.ref p) H'),
    ⟨l.length, by simp, Nat.zero_le _, Hs1, [], [], Ext.hid e1.sub hD, e1.sub.free hD, upd_same, .nil, Nat.le_refl _, ?_⟩, ?_⟩
  · rw [List.drop_zero]
    cases z : compR (compS vs g ft fe ρ) l with
    | ok a => rw [z] at q; exact q
    | ex x => rw [z] at q; exact q
    | bad => rw [z] at q; exact q
  · rintro i m H' ⟨rfl, hi, Hs2, acc, ws, e2, d1, d2, d3, d4, q2⟩
    obtain ⟨j1, j2⟩ := hJ i Hs2 H' e2.grow e2.sub
    by_cases hl : i < l.length
    · obtain ⟨j1, j3⟩ := j1 l[i] (List.getElem?_eq_getElem hl)
      rw [List.drop_eq_getElem_cons hl] at q2
      refine .inr ⟨j1, fun H3 => ∃ Hs2 acc ws, Ext Hs1 H1 Hs2 H3 ∧ Hs2 Dd = none ∧ H3 Dd = some (.lst ws) ∧ RpL K Hs2 acc ws ∧ acc.length ≤ i + 1 ∧
        Post K mg W Hs1 H1 σ ((compR (compS vs g ft fe ρ) (l.drop (i + 1))).bind fun r => .ok (acc ++ r)) (fun l Hs' H' => ∀ p vs, H p = none → Hs' p = none → H' p = some (.lst vs) → RpL K Hs' l vs → Q (.ref p) H'),
        fun H3 ⟨Hs3, acc', ws', a⟩ => ⟨_, (by omega : l.length - (i + 1) < l.length - i), rfl, hl, Hs3, acc', ws', a⟩, fun x H3 y => ?_⟩
      obtain ⟨Hs3, e3, h3⟩ := j3 x H3 y
      unfold compR at q2
      rw [bind_assoc] at q2
      unfold compS at q2
      cases z : g l[i] (wipeE ρ vs) with
      | none => simp only [z] at q2; exact q2.elim
      | some ρ' =>
        simp only [z] at q2
        rw [bind_assoc] at q2
        have r3 : RelE K S G Hs3 H3 (wipe σ vs) (wipeE ρ vs) := (((r.step e1).step e2).step e3).wipe vs
        refine ⟨S, G, Hs3, wipeE ρ vs, l[i], ρ', r3, h3, z, fun σ' s1 s2 r4 => ⟨wipe_same s1 s2 ht, S, G, Hs3, ρ', r4, ?_⟩⟩
        obtain ⟨b, z1⟩ := noex_cases q2
        rw [z1] at q2 ⊢
        intro Hs5 H5 e5
        cases b with
        | false =>
          simp only [Bool.false_eq_true, if_false]
          have e6 := (e2.trans e3).trans e5
          have k1 := (e3.trans e5).hidden d1 d2
          refine ⟨Hs5, acc, ws, e6, k1, e5.same _ _ (e3.same _ _ d2), (d3.mono e3.grow).mono e5.grow, by omega, ?_⟩
          simp only [noex, bind_ok, Bool.false_eq_true, if_false, bind_assoc] at q2
          exact q2
        | true =>
          simp only [if_true]
          have q3 := q2
          simp only [noex_ok, bind_ok, if_true, bind_assoc] at q3
          obtain ⟨y, z2⟩ := noex_cases q3
          refine ⟨S, G, Hs5, ρ', r4.step e5, ?_⟩
          rw [z2] at q3 ⊢
          intro Hs6 H6 e6 v hv
          have e7 := (e3.trans e5).trans e6
          have k1 := e7.hidden d1 d2
          have k2 := e7.same _ _ d2
          have k3 := d3.mono e7.grow
          refine ⟨ws, k2, by rw [← d3.length]; omega, Hs6, acc ++ [y], ws ++ [v], (e2.trans e7).updNew hD k1, k1, upd_same, k3.append (.cons hv .nil), by rw [List.length_append, List.length_singleton]; omega, ?_⟩
          simp only [noex_ok, bind_ok] at q3
          simp only [List.append_assoc, List.singleton_append]
          exact q3
    · have e0 : i = l.length := by omega
      subst e0
      rw [List.drop_length] at q2
      unfold compR at q2
      simp only [bind_ok, List.append_nil] at q2
      exact .inl ⟨j2 (Nat.le_refl _), q2 Hs2 H' e2 Dd ws (e1.same.free hD) d1 d2 d3⟩

section
variable {X : Cx} {W : WX} {elt tg iter : Expr} {ifs : List Expr} {scope : Scope} {own : List (Str × Nat)} {pos : Pos} {ts : List Nat} {fi : Ev → R (List D)} {g : D → Ev → Option Ev} {ft : Ev → R Bool} {fe : Ev → R D}
theorem vo_comp (hc : X.calm = true) (hN : X.N.Nodup) (hi : VI X W tg iter fi) (ok : BlkOk X.N X.env.scope scope own)
    (hg : ∀ (s : Shared) (H : Hp) (C : Addr) (cl : List (Str × Addr)) (fp : List Addr), VG (X.blk s H scope (compEnvC scope cl C X.env) fp) tg ts g)
    (ht : ∀ (s : Shared) (H : Hp) (C : Addr) (cl : List (Str × Addr)) (fp : List Addr), VTs (X.blk s H scope (compEnvC scope cl C X.env) fp) WF ifs ft)
    (he : ∀ (s : Shared) (H : Hp) (C : Addr) (cl : List (Str × Addr)) (fp : List Addr), VE (X.blk s H scope (compEnvC scope cl C X.env) fp) WF elt fe)
    (hts : ∀ t ∈ ts, t ∈ own.map (·.2) := by decide) (hs : ∀ x, foldedSetIterable iter X.env x = pure x := by intro _; rfl) :
    VO X W (.ListComp elt [⟨tg, iter, ifs, 0⟩] scope pos) (eComp (own.map (·.2)) fi g ft fe) := PE.imp (pe_lc (g := tGt X.K ts g) (tt := tT X.K X.mg WF ft) (te := tE X.K X.mg WF fe) hc hN hi ok hg ht he hs) (sim_comp hts)
theorem sim_asgO {f : Ev → R (List D)} {K : Fg} {mg : Str → Option Value} {i : Nat} {t : TE} (h : ∀ σ H Q, tO K mg W f σ H Q → t σ H Q) : ∀ En σ H, tS K mg W (sSetO i f) En σ H → tAsg t (gName i) En σ H := fun En σ H q => h σ H _ (sim_setO En σ H q)
theorem vs_compO {i : Nat} {y : Str} {py spos : Pos} (hc : X.calm = true) (hN : X.N.Nodup) (hy : X.N[i]? = some y) (hyl : X.env.scope.names.lookup y = some .local)
    (hsw : swapsWith (.ListComp elt [⟨tg, iter, ifs, 0⟩] scope pos) (some (.Name y py)) spos.line X.env = pure true) (hi : VI X W tg iter fi) (ok : BlkOk X.N X.env.scope scope own)
    (hg : ∀ (s : Shared) (H : Hp) (C : Addr) (cl : List (Str × Addr)) (fp : List Addr), VG (X.blk s H scope (compEnvC scope cl C X.env) fp) tg ts g)
    (ht : ∀ (s : Shared) (H : Hp) (C : Addr) (cl : List (Str × Addr)) (fp : List Addr), VTs (X.blk s H scope (compEnvC scope cl C X.env) fp) WF ifs ft)
    (he : ∀ (s : Shared) (H : Hp) (C : Addr) (cl : List (Str × Addr)) (fp : List Addr), VE (X.blk s H scope (compEnvC scope cl C X.env) fp) WF elt fe)
    (hts : ∀ t ∈ ts, t ∈ own.map (·.2) := by decide) (hs : ∀ x, foldedSetIterable iter X.env x = pure x := by intro _; rfl) :
    VS X W (.Assign [.Name y py] (.ListComp elt [⟨tg, iter, ifs, 0⟩] scope pos) spos) (sSetO i (eComp (own.map (·.2)) fi g ft fe)) := PS.imp (ps_setLc (g := tGt X.K ts g) (tt := tT X.K X.mg WF ft) (te := tE X.K X.mg WF fe) hc hN hy hyl hsw hi ok hg ht he hs) (sim_asgO (sim_comp hts))
end

/-! ### defs, calls -/
/-- the promise of a def that computes f -/
def spD (K : Fg) (mg : Str → Option Value) (n : Nat) (f : List D → R SD) : Sp := fun vs H Q E => vs.length = n ∧ ∃ Hs ds, Same Hs H ∧ RpL K Hs ds vs ∧ (match f ds with
  | .ok r => ∀ Hs' H' v, Ext Hs H Hs' H' → RpO K H Hs' H' r v → Q v H'
  | .ex x => ∀ Hs' H' cls dd, Ext Hs H Hs' H' → XRp K mg H' x cls dd → E cls dd H'
  | .bad => False)
def startE (n : Nat) (ds : List D) : Ev := ds.map .sh ++ List.replicate (n - ds.length) .no
def runD (np n : Nat) (F : Ev → Out) : List D → R SD := fun ds => if ds.length = np then match F (startE n ds) with
  | .nx _ => .ok (.sh .none)
  | .rt r => .ok r
  | .ex x _ => .ex x
  | _ => .bad
  else .bad
theorem startE_rel {K : Fg} {N : List Str} {Hs H : Hp} {ds : List D} {vs : List V} (hl : vs.length ≤ N.length) (hs : Same Hs H) (r : RpL K Hs ds vs) : RelE K Hs ⟨H, none⟩ Hs H (L2.start N vs) (startE N.length ds) where
  sub := hs
  old := .refl _
  ext := .refl _
  new := fun p o a b => by rw [a] at b; cases b
  len := by
    have := r.length
    simp [L2.start, startE, this]
  slot := fun i s hi => by
    unfold startE at hi
    have hl2 := r.length
    by_cases h : i < ds.length
    · rw [List.getElem?_append_left (by simpa using h), List.getElem?_map] at hi
      obtain ⟨d, e1, rfl⟩ := Option.map_eq_some_iff.mp hi
      obtain ⟨v, e2, e3⟩ := r.get e1
      refine ⟨v, ?_, e3⟩
      unfold L2.start
      rw [List.getElem?_append_left (by simp; omega), List.getElem?_map, e2]
      rfl
    · rw [List.getElem?_append_right (by simpa using h), List.getElem?_replicate] at hi
      split at hi
      · cases hi; trivial
      · cases hi
  dis := fun i j l m p a b _ _ => by
    exfalso
    unfold startE at a
    by_cases h : i < ds.length
    · rw [List.getElem?_append_left (by simpa using h), List.getElem?_map] at a
      obtain ⟨d, e1, e2⟩ := Option.map_eq_some_iff.mp a
      cases e2
    · rw [List.getElem?_append_right (by simpa using h), List.getElem?_replicate] at a
      split at a <;> cases a
  bor := fun p hp => by cases hp
  one := fun i j l m a b => by
    exfalso
    unfold startE at a
    by_cases h : i < ds.length
    · rw [List.getElem?_append_left (by simpa using h), List.getElem?_map] at a
      obtain ⟨d, e1, e2⟩ := Option.map_eq_some_iff.mp a
      cases e2
    · rw [List.getElem?_append_right (by simpa using h), List.getElem?_replicate] at a
      split at a <;> cases a
section
variable {P : Program} {w : World} {K : Fg} {mg : Str → Option Value} {base : Heap}
theorem FnScope.le {N ps : List Str} {sc : Scope} (S : FnScope N ps sc) : ps.length ≤ N.length := by
  have h := congrArg List.length S.pre
  rw [List.length_take] at h
  omega
/-- a promise kept where no guard stands around -/
structure FnG (P : Program) (w : World) (K : Fg) (mg : Str → Option Value) (base : Heap) (k : Nat) (f : Addr) (fd : FuncData) (ps : List Str) (sp : Sp) : Prop where
  len : ∀ vs H Q E, sp vs H Q E → vs.length = ps.length
  run : ∀ (A : Around) (outer : List Env) (s : Shared) (H : Hp) (args : Args) (us : List Value) (vs : List V) (Q : VK) (E : XK), Room k A → A.guards = some [] → Env0 P w K mg base A outer s H → BindsTo s fd args (ps.zip us) → Vals vs us → sp vs H Q E →
    codeAny (model P w) A (.call (.ref f) args) (CR (L2.CX P w) outer P w H s Q E) s
theorem fn_ofG {k : Nat} {f : Addr} {name qual : Str} {params : Arguments} {body : List Stmt} {scope : Scope} {dV kV doc pm cdv ct oc : Value} {an od : Option Addr}
    {osl : Array (Option Value)} {N ps : List Str} {sp : Sp} (lk : K.lookup f = some ⟨oc, od, .func (PySem.W.fnOf name qual params body scope dV kV doc pm an cdv ct), osl⟩) (hcd : PySem.W.codeIn K cdv qual = true) (S : FnScope N ps scope)
    (len : ∀ vs H Q E, sp vs H Q E → vs.length = ps.length)
    (hbody : ∀ (A : Around) (outer : List Env) (s : Shared) (H : Hp) (vs : List V) (Q : VK) (E : XK), Room k (A.deeper (envOfC qual scope s.heap.objs.size f cdv)) → A.guards = some [] → sp vs H Q E →
      ∃ t, PSs (cxOf (L2.CX P w) P w K mg base N qual scope f cdv A outer s H E) body t ∧ t { nx := fun _ H' => Q .non H', rt := Q } (L2.start N vs) H) :
    FnG P w K mg base (k + 1) f (PySem.W.fnOf name qual params body scope dV kV doc pm an cdv ct) ps sp := by
  refine ⟨len, fun A outer s H args us vs Q E hr hgd e0 hb r hsp => ?_⟩
  have hl := len _ _ _ _ hsp
  have KX : K.In s.heap := e0.mod.kin.keeps fun b o e => (e0.bs b o e).1
  have lim : s.heap.NoLimit := e0.mod.nolimit.keeps fun b o e => (e0.bs b o e).1
  have hkind : ∀ y ∈ ps.zip us, scope.names.lookup y.1 = some .local ∨ (scope.names.lookup y.1 = some .cell ∧ ((cellsFrom (s.heap.objs.size + 1) scope.names []).lookup y.1).isSome = true) := fun ⟨n, v⟩ hy => by
    rcases S.par n (List.of_mem_zip hy).1 with q | q
    · exact .inl q
    · exact .inr ⟨q, PySem.W.cellsFrom_some _ _ _ (.inl q)⟩
  refine codeAny_call_function hr.depth (KX _ _ lk) rfl S.co S.gen rfl (PySem.W.codeRec_of KX hcd) (hb _ _ _ _ ?_)
  refine wpAny_newFunctionEnv_cells S.kind hkind fun env he s1 x => ?_
  subst he
  refine ⟨lim.keeps x.toInCall.keep, codeAny_func ?_⟩
  obtain ⟨t, ht, hq⟩ := hbody A outer s H vs Q E (hr.deeper _) hgd hsp
  have I : Inv (cxOf (L2.CX P w) P w K mg base N qual scope f cdv A outer s H E) [] (L2.start N vs) H s1 := inv_start S hr.hd e0 hl r x
  refine wpAny_mono (ht.run [] s1 (L2.start N vs) H _ I hq) (fun fl s' hs => ?_) fun e s' hs => hs
  have fin : ∀ {σ' : Sg} {H' : Hp} {v : V} {u : Value}, Inv (cxOf (L2.CX P w) P w K mg base N qual scope f cdv A outer s H E) [] σ' H' s' → RelV v u → Q v H' → CE outer P w H s Q u s' :=
    fun {σ' H' v u} J rv q => ⟨v, H', J.os, J.bare, J.base, J.hok, rv, q⟩
  cases fl with
  | ret u =>
    obtain ⟨v, σ', H', J, rv, q⟩ := hs
    exact fin J rv q
  | next =>
    obtain ⟨σ', H', J, q⟩ := hs
    exact fin (v := V.non) (u := Value.none) J rfl q
  | brk =>
    obtain ⟨_, _, _, q⟩ := hs
    exact False.elim q
  | cont =>
    obtain ⟨_, _, _, q⟩ := hs
    exact False.elim q
theorem FnG.imp {k : Nat} {f : Addr} {fd : FuncData} {ps : List Str} {sp sp' : Sp} (F : FnG P w K mg base k f fd ps sp) (h : ∀ vs H Q E, sp' vs H Q E → sp vs H Q E) : FnG P w K mg base k f fd ps sp' :=
  ⟨fun vs H Q E q => F.len vs H Q E (h _ _ _ _ q), fun A outer s H args us vs Q E hr hg he hb hv hs => F.run A outer s H args us vs Q E hr hg he hb hv (h _ _ _ _ hs)⟩
theorem FnG.mono {j k : Nat} {f : Addr} {fd : FuncData} {ps : List Str} {sp : Sp} (F : FnG P w K mg base j f fd ps sp) (h : j ≤ k) : FnG P w K mg base k f fd ps sp :=
  ⟨F.len, fun A outer s H args us vs Q E hr => F.run A outer s H args us vs Q E (hr.mono h)⟩
/-- a def that computes m on data -/
structure DOk (P : Program) (w : World) (K : Fg) (mg : Str → Option Value) (base : Heap) (k : Nat) (f : Addr) (fd : FuncData) (ps : List Str) (m : List D → R SD) : Prop where
  fn : FnG P w K mg base k f fd ps (spD K mg ps.length m)
  ar : ∀ ds, m ds ≠ .bad → ds.length = ps.length
/-- the room, the guards, what takes an exception, what passes -/
structure Inn (X : Cx) (W : WX) (k : Nat) : Prop where
  hr : Room k X.A
  gd : X.A.guards = some []
  tk : Takes X W
  hp : PassesOwn (model X.prog X.w) X.A X.env X.xe
/-- THE RULE for a def -/
theorem def_ok {x qual : Str} {st : Stmt} {f : Addr} {fd : FuncData} {N ps : List Str} {k : Nat} {F : Ev → Out} (Fn : Fun K x qual st f fd) (S : FnScope N ps (defScope st))
    (body : ∀ (cdv : Value) (A : Around) (outer : List Env) (s : Shared) (H : Hp) (E : XK), Inn (cxOf (L2.CX P w) P w K mg base N qual (defScope st) f cdv A outer s H E) (fun cls d _ H => E cls d H) k →
      VSs (cxOf (L2.CX P w) P w K mg base N qual (defScope st) f cdv A outer s H E) (fun cls d _ H => E cls d H) (defBody st) F) :
    DOk P w K mg base (k + 1) f fd ps (runD ps.length N.length F) := by
  refine ⟨?_, fun ds h => ?_⟩
  · obtain ⟨oc, od, kV, doc, pm, an, cdv, ct, osl, rfl, lk, hcd⟩ := Fn.ex
    refine fn_ofG lk hcd S (fun vs H Q E h => h.1) fun A outer s H vs Q E hr hgd h => ⟨_, body cdv A outer s H E ⟨hr, hgd, takes_of rfl rfl rfl rfl, passes_of rfl⟩, ?_⟩
    obtain ⟨hl, Hs, ds, hs, hds, h⟩ := h
    refine ⟨Hs, ⟨H, none⟩, Hs, _, startE_rel (by rw [hl]; exact VL.FnScope.le S) hs hds, ?_⟩
    unfold runD at h
    rw [if_pos (hds.length.trans hl)] at h
    show OutOk K mg (fun cls d _ H => E cls d H) Hs ⟨H, none⟩ Hs _ (F (startE N.length ds))
    cases z : F (startE N.length ds) with
    | nx ρ =>
      rw [z] at h
      exact fun Hs' H' σ' g r => h Hs' H' .non r.ext' .non
    | rt r =>
      rw [z] at h
      exact fun Hs' H' v e hv => h Hs' H' v e hv
    | ex x ρ =>
      rw [z] at h
      exact fun Hs' H' σ' cls dd g r hx => h Hs' H' cls dd r.ext' hx
    | rtB r ρ => rw [z] at h; exact h.elim
    | bk ρ => rw [z] at h; exact h.elim
    | ct ρ => rw [z] at h; exact h.elim
    | bad => rw [z] at h; exact h.elim
  · unfold runD at h
    split at h
    · assumption
    · exact (h rfl).elim
/-- a promise by another name of the function -/
theorem DOk.by' {k : Nat} {f : Addr} {fd : FuncData} {ps : List Str} {m m' : List D → R SD} (F : DOk P w K mg base k f fd ps m) (e : ∀ ds, m' ds ≠ .bad → m ds = m' ds) : DOk P w K mg base k f fd ps m' :=
  ⟨F.fn.imp fun vs H Q E ⟨hl, Hs, ds, hs, hds, h⟩ => ⟨hl, Hs, ds, hs, hds, by
    have nb : m' ds ≠ .bad := fun z => by rw [z] at h; exact h
    rw [e ds nb]
    exact h⟩, fun ds h => F.ar ds (by rw [e ds h]; exact h)⟩
theorem DOk.mono {j k : Nat} {f : Addr} {fd : FuncData} {ps : List Str} {m : List D → R SD} (F : DOk P w K mg base j f fd ps m) (h : j ≤ k) : DOk P w K mg base k f fd ps m := ⟨F.fn.mono h, F.ar⟩
end
section
variable {X : Cx} {k : Nat} {f : Addr} {fd : FuncData} {ps : List Str} {sp : Sp} {E : Sg → XK} {x : Str} {p pos : Pos} {e : Expr} {es : List Expr} {t : TA}
theorem run_fnG {pins : List (Addr × Obj)} {σ : Sg} {H : Hp} {s : Shared} {Q : VK} {us : List Value} {vs : List V} (F : FnG X.prog X.w X.K X.mg X.base k f fd ps sp) (hr : Room k X.A) (hgd : X.A.guards = some []) (hb : Binds X.K fd ps []) (hx : PassesAt (L2.CX X.prog X.w) X σ (E σ))
    (I : Inv X pins σ H s) (r : Vals vs us) (h : sp vs H Q (E σ)) : wpAny (model X.prog X.w) X.A (call (.ref f) us) (EP X pins σ Q) X.xe s := by
  have hl : us.length = ps.length := by rw [← r.length]; exact F.len _ _ _ _ h
  have b := hb s us I.kIn (by rw [List.append_nil]; exact hl)
  rw [List.append_nil] at b
  refine wpAny_call (codeAny_mono (F.run X.A X.stack s H ⟨us, []⟩ us vs Q (E σ) hr hgd I.env0 b r h) fun r s' hq => ?_)
  cases r with
  | error e => exact hx pins H s e s' I hq
  | ok fl =>
    cases fl with
    | ret u => exact I.after hq
    | next => exact False.elim hq
    | brk => exact False.elim hq
    | cont => exact False.elim hq
theorem pe_callG (F : FnG X.prog X.w X.K X.mg X.base k f fd ps sp) (hr : Room k X.A) (hgd : X.A.guards = some []) (hg : Gl X x) (hm : X.mg x = some (.ref f)) (hk : PySem.W.keepIn X.K (.ref f) = true) (hb : Binds X.K fd ps []) (hx : ∀ σ, PassesAt (L2.CX X.prog X.w) X σ (E σ))
    (ha : PA X (e :: es) t) (hdb : (x == ("__debug__" : Str)) = false := by decide) (he : starEach (e :: es) X.env = (false, eval e X.env) :: starEach es X.env := by rfl) (hpl : (backTo pos (starEach es X.env)).any (·.1) = false := by rfl) :
    PE X (.Call (.Name x p) (e :: es) [] pos) (tCallS sp E t) := by
  refine ⟨fun pins s σ H Q I h => ?_⟩
  refine wpAny_Call_Name_kw (ld_glob I hg hm ?_ hdb)
  refine PySem.W.callWith_K (h₀ := X.base) I.ok.mod.kin hk (thn (ha.run pos pins s σ H _ I h) fun us s1 ⟨vs, H1, I1, r, q⟩ => ⟨I1.kIn, ?_⟩) he hpl
  exact run_fnG F hr hgd hb (hx σ) I1 r q
end
/-- what a call gives: shared data -/
def toD : SD → Option D
  | .sh d => some d
  | .ow l => some (.list l)
  | _ => none
def toL : SD → Option (List D)
  | .ow l => some l
  | _ => none
def eCall (m : List D → R SD) (fl : Ev → R (List D)) : Ev → R D := fun ρ => (fl ρ).bind fun ds => (m ds).bind fun s => ofO (toD s)
def eCallO (m : List D → R SD) (fl : Ev → R (List D)) : Ev → R (List D) := fun ρ => (fl ρ).bind fun ds => (m ds).bind fun s => ofO (toL s)
section
variable {X : Cx} {W : WX} {e : Expr} {es : List Expr} {pos p : Pos} {x : Str} {fl : Ev → R (List D)} {k n : Nat} {f : Addr} {fd : FuncData} {ps : List Str} {m : List D → R SD}
theorem sim_call {K : Fg} {mg : Str → Option Value} {n : Nat} (vn : ∀ (ds : List D), m ds ≠ .bad → ds.length = n) : ∀ σ H Q, tE K mg W (eCall m fl) σ H Q → tCallS (spD K mg n m) (WE W) (tA K mg W fl) σ H Q := fun σ H Q ⟨S, G, Hs, ρ, r, p⟩ => by
  refine ⟨S, G, Hs, ρ, r, (Post.bind p).imp fun ds Hs1 H1 e q vs hv => ?_⟩
  have nb : m ds ≠ .bad := fun z => by rw [z] at q; exact q
  refine ⟨by rw [← hv.length]; exact vn ds nb, Hs1, ds, e.sub, hv, ?_⟩
  cases z : m ds with
  | bad => exact nb z
  | ex x => rw [z] at q; exact q
  | ok s =>
    rw [z] at q
    intro Hs' H' v e' hr
    cases s with
    | no => exact q.elim
    | bo l => exact q.elim
    | sh d => exact q Hs' H' e' v hr
    | ow l =>
      obtain ⟨p, us, rfl, h0, h1, h2, h3⟩ := hr
      have g : Same Hs' (upd Hs' p (.lst us)) := fun b u z => by rw [upd_ne (ne_of_none z h1)]; exact z
      exact q _ _ (e'.frz h0 h2 h1) _ (.lst (.inl (.inl upd_same)) (h3.mono g))
theorem sim_callO {K : Fg} {mg : Str → Option Value} {n : Nat} (vn : ∀ (ds : List D), m ds ≠ .bad → ds.length = n) : ∀ σ H Q, tO K mg W (eCallO m fl) σ H Q → tCallS (spD K mg n m) (WE W) (tA K mg W fl) σ H Q := fun σ H Q ⟨S, G, Hs, ρ, r, p⟩ => by
  refine ⟨S, G, Hs, ρ, r, (Post.bind p).imp fun ds Hs1 H1 e q vs hv => ?_⟩
  have nb : m ds ≠ .bad := fun z => by rw [z] at q; exact q
  refine ⟨by rw [← hv.length]; exact vn ds nb, Hs1, ds, e.sub, hv, ?_⟩
  cases z : m ds with
  | bad => exact nb z
  | ex x => rw [z] at q; exact q
  | ok s =>
    rw [z] at q
    intro Hs' H' v e' hr
    cases s with
    | no => exact q.elim
    | bo l => exact q.elim
    | sh d => exact q.elim
    | ow l =>
      obtain ⟨p, us, rfl, h0, h1, h2, h3⟩ := hr
      exact q _ _ e' p us (e.same.free h0) h1 h2 h3
theorem v_call (F : DOk X.prog X.w X.K X.mg X.base k f fd ps m) (hr : Room k X.A) (hgd : X.A.guards = some []) (hg : Gl X x) (hm : X.mg x = some (.ref f)) (hk : PySem.W.keepIn X.K (.ref f) = true) (hb : Binds X.K fd ps []) (tk : Takes X W)
    (ha : VA X W (e :: es) fl) (hdb : (x == ("__debug__" : Str)) = false := by decide) (he : starEach (e :: es) X.env = (false, eval e X.env) :: starEach es X.env := by rfl) (hpl : (backTo pos (starEach es X.env)).any (·.1) = false := by rfl) :
    VE X W (.Call (.Name x p) (e :: es) [] pos) (eCall m fl) := PE.imp (pe_callG F.fn hr hgd hg hm hk hb (passAt tk) ha hdb he hpl) (sim_call F.ar)
theorem v_callO (F : DOk X.prog X.w X.K X.mg X.base k f fd ps m) (hr : Room k X.A) (hgd : X.A.guards = some []) (hg : Gl X x) (hm : X.mg x = some (.ref f)) (hk : PySem.W.keepIn X.K (.ref f) = true) (hb : Binds X.K fd ps []) (tk : Takes X W)
    (ha : VA X W (e :: es) fl) (hdb : (x == ("__debug__" : Str)) = false := by decide) (he : starEach (e :: es) X.env = (false, eval e X.env) :: starEach es X.env := by rfl) (hpl : (backTo pos (starEach es X.env)).any (·.1) = false := by rfl) :
    VO X W (.Call (.Name x p) (e :: es) [] pos) (eCallO m fl) := PE.imp (pe_callG F.fn hr hgd hg hm hk hb (passAt tk) ha hdb he hpl) (sim_callO F.ar)
/-- a constant of the module's top -/
theorem v_glob {u : Value} {d : D} (hg : Gl X x) (hm : X.mg x = some u) (v : V) (r : RelV v u) (hd : ∀ H, Rp X.K H d v) (hdb : (x == ("__debug__" : Str)) = false := by decide) : VE X W (.Name x pos) (cst d) :=
  PE.imp (pe_glob hg hm r hdb) fun σ H Q ⟨S, G, Hs, ρ, r, p⟩ => p.now r.sub v (hd _)
end
end VL

set_option Elab.async false
set_option linter.all false
set_option maxRecDepth 100000
set_option autoImplicit false
namespace VL
open PySem PySem.Spec PyProof.Rows L2

/-! ### and, or, not as values; chains -/
def eAndV (f g : Ev → R D) : Ev → R D := fun ρ => (f ρ).bind fun x => (ofO (truD x)).bind fun k => if k then g ρ else .ok x
def eOrV (f g : Ev → R D) : Ev → R D := fun ρ => (f ρ).bind fun x => (ofO (truD x)).bind fun k => if k then .ok x else g ρ
def notD (x : D) : Option D := (truD x).map fun k => .bool (!k)
def eChain (F F' : D → D → Option D) (f g h : Ev → R D) : Ev → R D := fun ρ => (f ρ).bind fun x => (g ρ).bind fun y => (ofO (F x y)).bind fun r => (ofO (bOf r)).bind fun b => if b then (h ρ).bind fun z => ofO (F' y z) else .ok (.bool false)
section
variable {X : Cx} {W : WX} {a b c e : Expr} {rest : List Expr} {pos : Pos} {f g h : Ev → R D} {F F' : D → D → Option D}
theorem v_and1 (ha : VE X W a f) : VE X W (.BoolOp .And [a] pos) f := pe_one ha
theorem v_or1 (ha : VE X W a f) : VE X W (.BoolOp .Or [a] pos) f := pe_one ha
theorem v_and (ha : VE X W a f) (hb : VE X W (.BoolOp .And (b :: rest) pos) g) : VE X W (.BoolOp .And (a :: b :: rest) pos) (eAndV f g) := PE.imp (pe_andT ha hb) fun σ H Q ⟨S, G, Hs, ρ, r, p⟩ => by
  refine ⟨S, G, Hs, ρ, r, (Post.bind p).imp fun x Hs1 H1 e q v hv => ?_⟩
  cases z : truD x with
  | none => rw [z] at q; exact q.elim
  | some k =>
    rw [z] at q
    refine ⟨k, truV_of e.sub (.inl hv) z, ?_⟩
    cases k with
    | true => exact ⟨S, G, Hs1, ρ, r.step e, q⟩
    | false => exact q.now e.sub v hv
theorem v_or (ha : VE X W a f) (hb : VE X W (.BoolOp .Or (b :: rest) pos) g) : VE X W (.BoolOp .Or (a :: b :: rest) pos) (eOrV f g) := PE.imp (pe_orT ha hb) fun σ H Q ⟨S, G, Hs, ρ, r, p⟩ => by
  refine ⟨S, G, Hs, ρ, r, (Post.bind p).imp fun x Hs1 H1 e q v hv => ?_⟩
  cases z : truD x with
  | none => rw [z] at q; exact q.elim
  | some k =>
    rw [z] at q
    refine ⟨k, truV_of e.sub (.inl hv) z, ?_⟩
    cases k with
    | false => exact ⟨S, G, Hs1, ρ, r.step e, q⟩
    | true => exact q.now e.sub v hv
theorem v_not (ha : VP X W a f) : VE X W (.UnaryOp .Not a pos) (e1 notD f) := PE.imp (pe_notT ha) fun σ H Q ⟨S, G, Hs, ρ, r, p⟩ => by
  refine ⟨S, G, Hs, ρ, r, (Post.bind p).imp fun x Hs1 H1 e q v hv => ?_⟩
  unfold notD at q
  cases z : truD x with
  | none => rw [z] at q; exact q.elim
  | some k =>
    rw [z] at q
    exact ⟨k, truV_of e.sub hv z, q.now e.sub _ (.bl _)⟩
theorem sim_chain {K : Fg} {mg : Str → Option Value} {r r' : R2} (hd : OpD K r F) (hd' : OpD K r' F') : ∀ σ H Q, tE K mg W (eChain F F' f g h) σ H Q → tChain r r' (tPk K mg W f) (tPk K mg W g) (tPk K mg W h) σ H Q := fun σ H Q ⟨S, G, Hs, ρ, r, p⟩ => by
  refine ⟨S, G, Hs, ρ, r, (Post.bind p).imp fun x Hs1 H1 e q u hu => ?_⟩
  refine ⟨S, G, Hs1, ρ, r.step e, (Post.bind q).imp fun y Hs2 H2 e' q' v hv => ?_⟩
  cases z : F x y with
  | none => rw [z] at q'; exact q'.elim
  | some d =>
    rw [z] at q'
    cases d with
    | bool k =>
      refine hd Hs2 H2 x y u v _ _ e'.sub z (hu.up e') hv fun Hs3 H3 w e3 hw => ?_
      cases hw
      refine ⟨k, rfl, ?_⟩
      have r3 := ((r.step e).step e').step e3
      have q3 := Post.up e3 q'
      cases k with
      | false => exact q3.now e3.sub _ (.bl _)
      | true =>
        have q5 : Post K mg W Hs3 H3 σ ((h ρ).bind fun z => ofO (F' y z)) (fun d Hs' H' => ∀ v, Rp K Hs' d v → Q v H') := q3
        refine ⟨S, G, Hs3, ρ, r3, (Post.bind q5).imp fun t Hs4 H4 e4 q4 w hw => ?_⟩
        cases z2 : F' y t with
        | none => rw [z2] at q4; exact q4.elim
        | some d =>
          rw [z2] at q4
          exact hd' Hs4 H4 y t v w Q d e4.sub z2 ((hv.up e3).up e4) hw fun Hs' H' w e'' hw => q4 Hs' H' e'' w hw
    | none => exact q'.elim
    | int _ => exact q'.elim
    | str _ => exact q'.elim
    | list _ => exact q'.elim
    | tuple _ => exact q'.elim
    | dict _ => exact q'.elim
theorem v_chain {op op' : CmpOp} (ho : DOp X (compareOp op) F) (ho' : DOp X (compareOp op') F') (ha : VP X W a f) (hb : VP X W b g) (hc : VP X W c h) (hm : lastMarks [op, op'] [b, c] = false := by with_unfolding_all rfl) :
    VE X W (.Compare a [op, op'] [b, c] pos) (eChain F F' f g h) := by
  obtain ⟨_, h1, h2⟩ := ho
  obtain ⟨_, h3, h4⟩ := ho'
  exact PE.imp (pe_chain h1 h3 ha hb hc hm) (sim_chain h2 h4)
theorem t_chain {op op' : CmpOp} (ho : DOp X (compareOp op) F) (ho' : DOp X (compareOp op') F') (ha : VP X W a f) (hb : VP X W b g) (hc : VP X W c h) (hm : lastMarks [op, op'] [b, c] = false := by with_unfolding_all rfl) :
    VT X W (.Compare a [op, op'] [b, c] pos) (e1 bOf (eChain F F' f g h)) := by
  obtain ⟨_, h1, h2⟩ := ho
  obtain ⟨_, h3, h4⟩ := ho'
  refine PT.imp (pt_chain h1 h3 ha hb hc hm) fun σ H Q ⟨S, G, Hs, ρ, r, p⟩ => ?_
  refine sim_chain h2 h4 σ H _ ⟨S, G, Hs, ρ, r, (Post.bind p).imp fun x Hs1 H1 e q v hv => ?_⟩
  cases x with
  | bool k => cases hv; exact ⟨k, rfl, q.now e.sub⟩
  | none => exact q.elim
  | int _ => exact q.elim
  | str _ => exact q.elim
  | list _ => exact q.elim
  | tuple _ => exact q.elim
  | dict _ => exact q.elim
end

/-! ### a def of the text, as a callee sees it -/
structure Cl (P : Program) (w : World) (K : Fg) (mg : Str → Option Value) (base : Heap) (k : Nat) (x : Str) (ps : List Str) (m : List D → R SD) : Prop where
  ex : ∃ f fd, DOk P w K mg base k f fd ps m ∧ mg x = some (.ref f) ∧ PySem.W.keepIn K (.ref f) = true ∧ Binds K fd ps []
/-- where it stands -/
structure Df (K : Fg) (mg : Str → Option Value) (x : Str) (st : Stmt) (ps : List Str) : Prop where
  ex : ∃ f fd, Fun K x x st f fd ∧ mg x = some (.ref f) ∧ Binds K fd ps []
section
variable {P : Program} {w : World} {K : Fg} {mg : Str → Option Value} {base : Heap}
theorem Cl.by' {k : Nat} {x : Str} {ps : List Str} {m m' : List D → R SD} (F : Cl P w K mg base k x ps m) (e : ∀ ds, m' ds ≠ .bad → m ds = m' ds) : Cl P w K mg base k x ps m' :=
  let ⟨f, fd, h, r⟩ := F.ex; ⟨f, fd, h.by' e, r⟩
theorem Cl.mono {j k : Nat} {x : Str} {ps : List Str} {m : List D → R SD} (F : Cl P w K mg base j x ps m) (h : j ≤ k) : Cl P w K mg base k x ps m :=
  let ⟨f, fd, d, r⟩ := F.ex; ⟨f, fd, d.mono h, r⟩
theorem cl_ok {x : Str} {st : Stmt} {N ps : List Str} {k : Nat} {F : Ev → Out} (Fn : Df K mg x st ps) (S : FnScope N ps (defScope st))
    (body : ∀ (f : Addr) (cdv : Value) (A : Around) (outer : List Env) (s : Shared) (H : Hp) (E : XK), Inn (cxOf (L2.CX P w) P w K mg base N x (defScope st) f cdv A outer s H E) (fun cls d _ H => E cls d H) k →
      VSs (cxOf (L2.CX P w) P w K mg base N x (defScope st) f cdv A outer s H E) (fun cls d _ H => E cls d H) (defBody st) F) :
    Cl P w K mg base (k + 1) x ps (runD ps.length N.length F) := by
  obtain ⟨f, fd, h1, h2, h3⟩ := Fn.ex
  exact ⟨f, fd, def_ok h1 S fun cdv A outer s H E I => body f cdv A outer s H E I, h2, h1.kp, h3⟩
end
section
variable {X : Cx} {W : WX} {e : Expr} {es : List Expr} {pos p : Pos} {x : Str} {fl : Ev → R (List D)} {k j : Nat} {ps : List Str} {m : List D → R SD}
theorem v_calC (C : Cl X.prog X.w X.K X.mg X.base k x ps m) (hr : Room j X.A) (hgd : X.A.guards = some []) (tk : Takes X W) (ha : VA X W (e :: es) fl) (hg : Gl X x := by rfl) (hj : k ≤ j := by decide)
    (hdb : (x == ("__debug__" : Str)) = false := by decide) (he : starEach (e :: es) X.env = (false, eval e X.env) :: starEach es X.env := by rfl) (hpl : (backTo pos (starEach es X.env)).any (·.1) = false := by rfl) :
    VE X W (.Call (.Name x p) (e :: es) [] pos) (eCall m fl) := by
  obtain ⟨f, fd, h1, h2, h3, h4⟩ := C.ex
  exact v_call h1 (hr.mono hj) hgd hg h2 h3 h4 tk ha hdb he hpl
theorem v_calCO (C : Cl X.prog X.w X.K X.mg X.base k x ps m) (hr : Room j X.A) (hgd : X.A.guards = some []) (tk : Takes X W) (ha : VA X W (e :: es) fl) (hg : Gl X x := by rfl) (hj : k ≤ j := by decide)
    (hdb : (x == ("__debug__" : Str)) = false := by decide) (he : starEach (e :: es) X.env = (false, eval e X.env) :: starEach es X.env := by rfl) (hpl : (backTo pos (starEach es X.env)).any (·.1) = false := by rfl) :
    VO X W (.Call (.Name x p) (e :: es) [] pos) (eCallO m fl) := by
  obtain ⟨f, fd, h1, h2, h3, h4⟩ := C.ex
  exact v_callO h1 (hr.mono hj) hgd hg h2 h3 h4 tk ha hdb he hpl
end
end VL

set_option Elab.async false
set_option linter.all false
set_option maxRecDepth 100000
set_option autoImplicit false
namespace VL
open PySem PySem.Spec PyProof.Rows L2

theorem b_len : bootBuiltins "len" = some (.builtin "len") := by decide +kernel
theorem b_abs : bootBuiltins "abs" = some (.builtin "abs") := by decide +kernel
theorem b_max : bootBuiltins "max" = some (.builtin "max") := by decide +kernel
theorem b_min : bootBuiltins "min" = some (.builtin "min") := by decide +kernel
theorem b_sum : bootBuiltins "sum" = some (.builtin "sum") := by decide +kernel
theorem b_all : bootBuiltins "all" = some (.builtin "all") := by decide +kernel
theorem b_any : bootBuiltins "any" = some (.builtin "any") := by decide +kernel
theorem b_repr : bootBuiltins "repr" = some (.builtin "repr") := by decide +kernel
theorem b_sorted : bootBuiltins "sorted" = some (.builtin "sorted") := by decide +kernel
theorem b_isinstance : bootBuiltins "isinstance" = some (.builtin "isinstance") := by decide +kernel
theorem b_int : bootBuiltins "int" = some (.type "int") := by decide +kernel
theorem b_bool : bootBuiltins "bool" = some (.type "bool") := by decide +kernel
theorem b_str : bootBuiltins "str" = some (.type "str") := by decide +kernel
theorem b_list : bootBuiltins "list" = some (.type "list") := by decide +kernel
theorem b_tuple : bootBuiltins "tuple" = some (.type "tuple") := by decide +kernel
theorem b_set : bootBuiltins "set" = some (.type "set") := by decide +kernel

theorem u65 {k : Nat} {A : Around} (r : Room k A) : A.units + 65 < cLine := by have := r.un; omega
theorem blkOk_rfl {N : List Str} {sc scope : Scope} {own : List (Str × Nat)} (h : blkC N sc scope own = true) : BlkOk N sc scope own := blkOk_by h

/-! ### constants of the top -/
structure Gc (K : Fg) (mg : Str → Option Value) (x : Str) (d : D) : Prop where
  ex : ∃ u v, mg x = some u ∧ RelV v u ∧ ∀ H, Rp K H d v
section
variable {X : Cx} {W : WX} {x : Str} {d : D} {pos : Pos}
theorem v_gl (G : Gc X.K X.mg x d) (hg : Gl X x := by rfl) (hdb : (x == ("__debug__" : Str)) = false := by decide) : VE X W (.Name x pos) (cst d) := by
  obtain ⟨u, v, h1, h2, h3⟩ := G.ex
  exact v_glob hg h1 v h2 h3 hdb
end
section
variable {K : Fg} {mg : Str → Option Value} {x : Str}
theorem gc_int {i : Int} {t : Tok} (h : mg x = some (.int i t)) : Gc K mg x (.int i) := ⟨_, .int i, h, ⟨_, rfl⟩, fun _ => .int i⟩
theorem gc_str {i : Str} {t : Tok} (h : mg x = some (.str i t)) : Gc K mg x (.str i) := ⟨_, .str i, h, ⟨_, rfl⟩, fun _ => .str i⟩
/-- flat data of a written value -/
def absD' : Value → Option (D × V)
  | .none => some (.none, .non)
  | .bool b => some (.bool b, .bl b)
  | .int i _ => some (.int i, .int i)
  | .str s _ => some (.str s, .str s)
  | _ => none
theorem absD'_ok {u : Value} {d : D} {v : V} (h : absD' u = some (d, v)) : RelV v u ∧ ∀ H, Rp K H d v := by
  cases u <;> simp only [absD', Option.some.injEq, Prod.mk.injEq, reduceCtorEq] at h
  · obtain ⟨rfl, rfl⟩ := h; exact ⟨rfl, fun _ => .non⟩
  · obtain ⟨rfl, rfl⟩ := h; exact ⟨rfl, fun _ => .bl _⟩
  · obtain ⟨rfl, rfl⟩ := h; exact ⟨⟨_, rfl⟩, fun _ => .int _⟩
  · obtain ⟨rfl, rfl⟩ := h; exact ⟨⟨_, rfl⟩, fun _ => .str _⟩
def absL : List Value → Option (List (D × V))
  | [] => some []
  | u :: us => (absD' u).bind fun d => (absL us).map (d :: ·)
theorem absL_ok : ∀ {us : List Value} {ds : List (D × V)}, absL us = some ds → Vals (ds.map (·.2)) us ∧ ∀ H, RpL K H (ds.map (·.1)) (ds.map (·.2))
  | [], ds, h => by cases h; exact ⟨.nil, fun _ => .nil⟩
  | u :: us, ds, h => by
    obtain ⟨⟨d, v⟩, h1, h2⟩ := Option.bind_eq_some_iff.mp h
    obtain ⟨ds', h3, rfl⟩ := Option.map_eq_some_iff.mp h2
    obtain ⟨a1, a2⟩ := absD'_ok (K := K) h1
    obtain ⟨b1, b2⟩ := absL_ok h3
    exact ⟨.cons a1 b1, fun H => .cons (a2 H) (b2 H)⟩
/-- a written tuple of flat things -/
structure TupO (o : Obj) (d : D) : Prop where
  cls : o.cls = .type "tuple"
  dat : ∃ ds its n ps, d = .tuple ds ∧ o.data = .seq its n ∧ its.size ≤ sizeLine ∧ absL its.toList = some ps ∧ ps.map (·.1) = ds
theorem tupO_mk {d : D} {cl : Value} {od : Option Addr} {its : Array Value} {n : Nat} {sl : Array (Option Value)} {ps : List (D × V)} (h1 : cl = .type "tuple") (h3 : absL its.toList = some ps) (h4 : d = .tuple (ps.map (·.1))) (h5 : its.size ≤ sizeLine) : TupO ⟨cl, od, .seq its n, sl⟩ d := ⟨h1, _, its, n, ps, h4, rfl, h5, h3, rfl⟩
theorem gc_tup {a : Addr} {o : Obj} {d : D} (h : mg x = some (.ref a)) (hk : K.lookup a = some o) (t : TupO o d) : Gc K mg x d := by
  obtain ⟨h1, ds, its, n, ps, rfl, h2, h3, h4, rfl⟩ := t
  obtain ⟨v, r⟩ := absL_ok (K := K) h4
  exact ⟨_, .ref a, h, rfl, fun H => .tup (.inr ⟨o, its, n, hk, h1, h2, h3, v⟩) (r H)⟩
end

/-! ### repr -/
def reprD : List D → Option D
  | [d] => if SeqAt.shaped d && d.showable && decide (d.shown.length ≤ sizeLine) then some (.str d.shown) else none
  | _ => none
section
variable {X : Cx}
theorem nodict_of {d : D} (h : SeqAt.shaped d = true) : d.hasDict = false := PyData.hasDict_of_canLay d (SeqAt.canLay_of_shaped h)
theorem call_repr (hgd : X.A.guards = some []) (hu : X.A.units + 65 < cLine) : CallR X (.builtin "repr") (fun xs H Q => ∃ v d, xs = [v] ∧ Dp X.K H v d ∧ (∃ a, v = .ref a) ∧ SeqAt.shaped d = true ∧ d.showable = true ∧ d.shown.length ≤ sizeLine ∧ Q (.str d.shown) H) := by
  intro pins s σ H xs us Q I r h
  obtain ⟨v, d, rfl, hd, ⟨a, rfl⟩, h1, h2, h3, q⟩ := h
  obtain ⟨u, rfl, ru⟩ := vals1 r
  cases ru
  obtain ⟨as, rd⟩ := Dp.reads I d _ _ hd rfl
  refine repr_of_reads' rd h2 (PyData.noDict_hsm (nodict_of h1)) hgd ?_ (fun _ _ e => e) (fun h' u tk hk => ?_) h3
  · have := SeqAt.depth_of_shaped h1
    omega
  · exact ⟨.str d.shown, H, I.kept (t' := tk) hk, ⟨u, rfl⟩, q⟩
/-- lists and tuples (and ints) -/
def reprL : List D → Option D
  | [.list l] => reprD [.list l]
  | [.tuple l] => reprD [.tuple l]
  | _ => none
theorem c_repr (hgd : X.A.guards = some []) (hu : X.A.units + 65 < cLine) : CalD X (.builtin "repr") reprL := ⟨_, call_repr hgd hu, fun Hs H ds vs Q d hs e hv k => by
  unfold reprL at e
  split at e
  · obtain ⟨v, rfl, h⟩ := hv.one
    obtain ⟨a, xs, rfl, h1, h2⟩ := h.list hs
    unfold reprD at e
    simp only at e
    split at e
    · rename_i hz
      cases e
      rw [Bool.and_eq_true, Bool.and_eq_true] at hz
      exact ⟨_, _, rfl, (h.rp hs).dp, ⟨a, rfl⟩, hz.1.1, hz.1.2, of_decide_eq_true hz.2, k _ _ _ (.refl hs) (.str _)⟩
    · cases e
  · obtain ⟨v, rfl, h⟩ := hv.one
    obtain ⟨a, xs, rfl, h1, h2⟩ := h.tup hs
    unfold reprD at e
    simp only at e
    split at e
    · rename_i hz
      cases e
      rw [Bool.and_eq_true, Bool.and_eq_true] at hz
      exact ⟨_, _, rfl, (h.rp hs).dp, ⟨a, rfl⟩, hz.1.1, hz.1.2, of_decide_eq_true hz.2, k _ _ _ (.refl hs) (.str _)⟩
    · cases e
  · cases e⟩
end

/-! ### the end -/
theorem law_callG {P : Program} {w : World} {K : Fg} {mg mb : Str → Option Value} {k : Nat} {fa a : Addr} {fd : FuncData} {x : Str} {sp : Sp} {s₁ : Shared} {vs : List Value} {ns : List Int}
    (KX : K.In s₁.heap) (hns : s₁.heap.Ns mainGlobals mg) (hb : s₁.heap.Ns builtinsNs mb) (hbb : ∀ x : Str, x ≠ "__name__" → mb x = bootBuiltins x) (hlim : s₁.heap.NoLimit) (hg : s₁.gens = #[])
    (ha : s₁.heap.get? a = some { cls := .type "list", data := .seq vs.toArray }) (hi : IntsAre vs ns) (hl : ns.length ≤ sizeLine) (hr : Room k callerA)
    (F : ∀ base : Heap, FnG P w K mg base k fa fd [x] sp) (hbind : ∀ (s : Shared) (u : Value), BindsTo s fd ⟨[u], []⟩ [(x, u)])
    (hsp : ∀ H : Hp, Only H → SqL K H a (ns.map V.int) → sp [.ref a] H (fun v _ => v = .bl true) fun _ _ _ => False) :
    codeAny (model P w) callerA (.call (.ref fa) ⟨[.ref a], []⟩) (fun r s' => r = .ok (.ret (.bool true)) ∧ OldK s₁.heap s'.heap ∧ s'.os = s₁.os ∧ AllBare s'.gens) s₁ := by
  -- the promise where guards are not asked: at the caller's own place alone
  let sp' : Sp := fun vs H Q E => sp vs H Q E
  have rv := L2.vals_ints hi
  have lenV := hi.length
  have core : ∀ H : Hp, Only H → SqL K H a (ns.map V.int) → HOk P w H s₁.heap → (∀ b, H b ≠ none → b = a) → (H a ≠ none → K.lookup a = none) →
      codeAny (model P w) callerA (.call (.ref fa) ⟨[.ref a], []⟩) (fun r s' => r = .ok (.ret (.bool true)) ∧ OldK s₁.heap s'.heap ∧ s'.os = s₁.os ∧ AllBare s'.gens) s₁ := by
    intro H hO hS hok hA hK
    have base_of : ∀ {b : Addr} {o : Obj}, s₁.heap.get? b = some o → H b = none → (hidT s₁.heap H).get? b = some o := fun e n => hidT_get e n
    have noA : ∀ {b : Addr} {o : Obj} {es : Array DictEntry} {ep : Nat}, s₁.heap.get? b = some o → o.data = .dict es ep → H b = none := fun {b o es ep} e d => by
      cases q : H b with
      | none => rfl
      | some u =>
        have e' : b = a := hA b (by rw [q]; simp)
        subst e'
        rw [ha] at e; cases e
        have d' : Data.seq vs.toArray _ = Data.dict es ep := d
        cases d'
    have nsK : ∀ {b : Addr} {m : Str → Option Value}, s₁.heap.Ns b m → (hidT s₁.heap H).Ns b m := fun {b m} ⟨o, es, ep, e, d, r⟩ => ⟨o, es, ep, base_of e (noA e d), d, r⟩
    have hKb : K.In (hidT s₁.heap H) := fun b o e => base_of (KX b o e) (by
      cases q : H b with
      | none => rfl
      | some u =>
        have e' : b = a := hA b (by rw [q]; simp)
        subst e'
        rw [hK (by rw [q]; simp)] at e; cases e)
    have hM : Mod K mg (hidT s₁.heap H) := ⟨hKb, nsK hns, ⟨mb, nsK hb, hbb⟩, let ⟨mc, h1, h2⟩ := hlim; ⟨mc, nsK h1, h2⟩⟩
    have e0 : Env0 P w K mg (hidT s₁.heap H) callerA [] s₁ H := ⟨rfl, hM, fun b o e => of_hidT e, Nat.le_of_eq (hidT_size _ _), trivial, fun b hb => absurd (show b ∈ ([] : List Addr) from hb) (by simp), hok, .of_eq hg⟩
    refine codeAny_mono ((F _).run callerA [] s₁ H ⟨[.ref a], []⟩ [.ref a] [.ref a] _ _ hr rfl e0 (hbind s₁ (.ref a)) (.cons rfl .nil) (hsp H hO hS)) fun r s' h => ?_
    cases r with
    | error e =>
      obtain ⟨_, _, _, _, _, _, _, _, _, _, _, _, z⟩ := h
      exact z.elim
    | ok fl =>
      cases fl with
      | next => exact False.elim h
      | brk => exact False.elim h
      | cont => exact False.elim h
      | ret u =>
        obtain ⟨v, H', os, bare, un, hok', r', q⟩ := h
        have q' : v = .bl true := q
        subst q'
        obtain rfl : u = Value.bool true := r'
        refine ⟨rfl, OldK.of_keep fun b o e => ?_, os, bare⟩
        cases q : H b with
        | none => exact un.keep b o e q (by intro z; exact absurd (show b ∈ ([] : List Addr) from z) (by simp)) (by simp)
        | some u =>
          rcases hO b with z | ⟨ob, xs, z⟩
          · rw [q] at z; cases z
          · have z2 := un.frzs b ob _ z
            obtain ⟨e1, _⟩ := hok b _ z
            obtain ⟨e2, _⟩ := hok' b _ z2
            rw [e] at e1; cases e1
            exact e2
  cases hk : K.lookup a with
  | some o =>
    have e := KX a o hk
    rw [ha] at e
    cases e
    refine core (fun _ => none) (fun _ => .inl rfl) (.inr ⟨_, vs.toArray, _, hk, rfl, rfl, rfl, by rw [List.size_toArray, lenV]; exact hl, by simpa using rv⟩) (fun b u z => by have z' : (none : Option HO) = some u := z; cases z') (fun b z => absurd rfl z) fun z => absurd rfl z
  | none =>
    refine core (fun b => if b = a then some (.frz { cls := .type "list", data := .seq vs.toArray } (.lst (ns.map V.int))) else none) (fun b => ?_) (.inl (.inr ⟨{ cls := .type "list", data := .seq vs.toArray }, if_pos rfl⟩)) (fun b u z => ?_) (fun b z => ?_) fun _ => hk
    · by_cases hb : b = a
      · exact .inr ⟨_, _, if_pos hb⟩
      · exact .inl (if_neg hb)
    · by_cases hb : b = a
      · have z' := (if_pos hb).symm.trans z
        cases z'
        subst hb
        exact ⟨ha, by rw [List.length_map]; exact hl, vs, _, rv, ha⟩
      · have z' := (if_neg hb).symm.trans z
        cases z'
    · by_cases hb : b = a
      · exact hb
      · exact absurd (if_neg hb) z
/-- the goal that k_head leaves -/
theorem law_end {l : PySem.W.OpenLaw} {k : Nat} {q : Program} {loose : List Str} {XP : (Str → Option Value) → Heap → Prop} {YP : World → Heap → Prop} {d : DefRec} {K : Params → Fg} {x : Str} {m : List D → R SD}
    (hn : l.most = some 63) (hdf : d.params.defaults = []) (hr : Room k callerA)
    (hY : ∀ (w : World) (h : Heap), YP w h → (K w.params).In h)
    (true_ : ∀ ns : List Int, ns.length ≤ 63 → (∀ z ∈ ns, Builtin.Int.intBits z ≤ 1048576) → m [.list (ns.map .int)] = .ok (.sh (.bool true)))
    (F : ∀ (w : World) (mg : Str → Option Value) (fa : Addr) (h : Heap), (K w.params).In h → h.Ns mainGlobals mg → mg d.name = some (.ref fa) →
      ∃ fd : FuncData, (∀ (s : Shared) (u : Value), BindsTo s fd ⟨[u], []⟩ [(x, u)]) ∧ ∀ base : Heap, DOk l.prog w (K w.params) mg base k fa fd [x] m) :
    PySem.W.WalkO q loose XP YP l.row.toRowW d [] (fun f vs => PySem.call f vs) := by
  refine Att.attach_callB hn hdf fun w s₀ s₁ mg mb fa o pm cd doc a vs ns G Y ho hd hcd hmg hobj hints hlen hbits hg => ?_
  have KX := hY w _ Y
  obtain ⟨fd, hb, hF⟩ := F w mg fa _ KX G.T.g hmg
  refine law_callG KX G.T.g G.T.b G.T.builtins G.T.nolimit hg hobj hints (Nat.le_trans hlen (by decide)) hr (fun base => (hF base).fn) hb fun H hO hS => ?_
  refine ⟨rfl, H, [.list (ns.map .int)], .refl _, .cons (.lst hS (RpL.of_ints ns)) .nil, ?_⟩
  rw [true_ ns hlen hbits]
  intro Hs' H' v e hv
  have hv' : Rp (K w.params) Hs' (.bool true) v := hv
  cases hv'
  rfl
end VL

set_option Elab.async false
set_option linter.all false
set_option maxRecDepth 100000
set_option autoImplicit false
namespace VL
open PySem PySem.Spec PyProof.Rows L2

section
variable {X : Cx} {W : WX} {e o : Expr} {pos : Pos} {f g : Ev → R D}
/-! ### str(int), str(str) -/
def strD : List D → Option D
  | [.int i] => if i.natAbs.log2 < 1920 then some (.str (toString i)) else none
  | [.str x] => some (.str x)
  | _ => none
theorem c_str : CalD X (.type "str") strD := ⟨_, call_str_int.or SkE.call_str_str, fun Hs H ds vs Q d hs e hv k => by
  unfold strD at e
  split at e
  · split at e
    · rename_i hz
      cases e
      obtain ⟨v, rfl, h⟩ := hv.one
      exact .inl ⟨_, by rw [h.int], hz, k _ _ _ (.refl hs) (.str _)⟩
    · cases e
  · cases e
    obtain ⟨v, rfl, h⟩ := hv.one
    exact .inr ⟨_, by rw [h.str], k _ _ _ (.refl hs) (.str _)⟩
  · cases e⟩
/-! ### x.pop() as a statement -/
def sPopX (j : Nat) : Ev → Out := fun ρ => onOw j ρ fun l => match l.getLast? with
  | some _ => .nx (ρ.set j (.ow l.dropLast))
  | none => .bad
theorem vs_popX (j : Nat) {x : Str} {p apos cpos : Pos} (ho : PE X (.Name x p) (tVar j))
    (hbase : attributeBase (.Name x p) "pop" X.env (eval (.Name x p) X.env) = eval (.Name x p) X.env := by rfl) (hline : (apos.endLine == cpos.line) = true := by rfl)
    (hs : swapsWith (.Call (.Attribute (.Name x p) "pop" apos) [] [] cpos) none pos.line X.env = pure false := by rfl) : VS X W (.Expr (.Call (.Attribute (.Name x p) "pop" apos) [] [] cpos) pos) (sPopX j) := by
  refine PS.imp (ps_expr (pe_bm0 PySem.F.plainAttrs_list PySem.F.slot_list_pop PySem.F.type_list_pop mt_pop ho hbase hline) hs) fun D σ H ⟨S, G, Hs, ρ, r, h⟩ => ?_
  obtain ⟨l, hl, h⟩ := on_own h
  obtain ⟨b, vs, o1, o2, o3, o4, o5⟩ := r.own hl
  cases z : l.getLast? with
  | none => rw [z] at h; exact h.elim
  | some d =>
    rw [z] at h
    obtain ⟨v, v1, v2⟩ := pop_at o5 z
    exact ⟨_, o1, .inl ⟨rfl, vs, .inl (.inl o4)⟩, b, vs, v, rfl, rfl, o4, v1, h Hs _ _ (.refl _) (r.wr hl o1 o5.dropLast)⟩
/-! ### {"k": e, ..}[e] -/
def selD (ks : List Str) (ds : List D) (k : D) : Option D := match k with
  | .str x => (ks.zip ds).foldl (fun acc p => if x = p.1 then some p.2 else acc) none
  | _ => none
def eDSel (ks : List Str) (fs : Ev → R (List D)) (fk : Ev → R D) : Ev → R D := fun ρ => (fs ρ).bind fun ds => (fk ρ).bind fun k => ofO (selD ks ds k)
/-- the values of a display -/
structure VPs (X : Cx) (W : WX) (dpos : Pos) (ks : List Str) (keys : List (Option Expr)) (vals : List Expr) (fs : Ev → R (List D)) : Prop where
  ex : ∃ trs, PPs X dpos keys vals trs ∧ ∀ σ H (Q : List (V × V) → Hp → Prop), tA X.K X.mg W fs σ H (fun vs H' => vs.length = ks.length → Q ((ks.map V.str).zip vs) H') → tPairs trs σ H Q
  n1 : keys.length = ks.length
  n2 : vals.length = ks.length
  n3 : keys.all (·.isSome) = true
theorem vps_nil {dpos : Pos} : VPs X W dpos [] [] [] (cst []) := ⟨⟨[], pps_nil, fun σ H Q ⟨S, G, Hs, ρ, r, p⟩ => by
  exact (p.now r.sub) [] .nil rfl⟩, rfl, rfl, rfl⟩
theorem vps_cons {dpos kp : Pos} {x : Str} {ks : List Str} {keys : List (Option Expr)} {vals : List Expr} {jj} {v : Expr} {fv : Ev → R D} {fs : Ev → R (List D)} (hv : VE X W v fv) (h : VPs X W dpos ks keys vals fs) :
    VPs X W dpos (x :: ks) (some (.Constant (.str x) jj kp) :: keys) (v :: vals) (eCons fv fs) := by
  obtain ⟨⟨trs, h1, h2⟩, n1, n2, n3⟩ := h
  refine ⟨⟨_, pps_cons pe_str hv h1, fun σ H Q ⟨S, G, Hs, ρ, r, p⟩ => ?_⟩, by simp [n1], by simp [n2], by simp [n3]⟩
  refine ⟨S, G, Hs, ρ, r, (Post.bind p).imp fun d Hs1 H1 e1 q w hw => ?_⟩
  refine h2 σ H1 _ ⟨S, G, Hs1, ρ, r.step e1, (Post.bind q).imp fun ds Hs2 H2 e2 q2 ws hws hl => ?_⟩
  exact q2.now e2.sub (w :: ws) (.cons (hw.mono e2.grow) hws) (by simp [hl])
theorem valV_merge (k : Key) : ∀ (more kvs : List (Key × V)), valV (mergeK kvs more) k = more.foldl (fun acc p => if k = p.1 then some p.2 else acc) (valV kvs k)
  | [], kvs => rfl
  | p :: r, kvs => by
    have := valV_merge k r (putK kvs p.1 p.2)
    rw [valV_put] at this
    exact this
theorem sel_rp {K : Fg} {H : Hp} {x : Str} : ∀ {ks : List Str} {ds : List VL.D} {vs : List V} {acc : Option VL.D} {av : Option V} {d : VL.D}, RpL K H ds vs → vs.length = ks.length → (∀ d, acc = some d → ∃ v, av = some v ∧ Rp K H d v) →
    (ks.zip ds).foldl (fun acc p => if x = p.1 then some p.2 else acc) acc = some d →
    ∃ v, ((ks.zip vs).map fun p => ((Sum.inr p.1 : Key), p.2)).foldl (fun acc p => if (Sum.inr x : Key) = p.1 then some p.2 else acc) av = some v ∧ Rp K H d v
  | [], _, _, acc, av, d, r, hl, ha, e => by
    cases r with
    | nil => exact ha d e
    | cons _ _ => simp at hl
  | k :: ks, _, _, acc, av, d, r, hl, ha, e => by
    cases r with
    | nil => simp at hl
    | cons h r =>
      refine sel_rp (ks := ks) (x := x) r (by simpa using hl) (fun d' e' => ?_) e
      by_cases hx : x = k
      · subst hx
        simp at e' ⊢
        subst e'
        exact h
      · have hx' : ¬ ((Sum.inr x : Key) = Sum.inr k) := fun z => hx (Sum.inr.inj z)
        simp only [if_neg hx, if_neg hx'] at e' ⊢
        exact ha d' e'
theorem v_dsel {dpos : Pos} {ks : List Str} {keys : List (Option Expr)} {vals : List Expr} {i : Expr} {fs : Ev → R (List D)} (hu : X.A.units + 1 < cLine) (h : VPs X W dpos ks keys vals fs) (hi : VE X W i g) (hs : NoSl i) (h0 : keys ≠ [])
    (h15 : ks.length ≤ 15) : VE X W (.Subscript (.Dict keys vals dpos) i pos) (eDSel ks fs g) := by
  obtain ⟨⟨trs, h1, h2⟩, n1, n2, n3⟩ := h
  refine PE.imp (pe_dget hu (pe_disp h1 n3 (n1.trans n2.symm) h0 (by omega)) hi hs) fun σ H Q ⟨S, G, Hs, ρ, r, p⟩ => ?_
  intro a ha
  have x0 := Ext.hid (o := .dK []) r.sub ha
  refine h2 σ _ _ ⟨S, G, Hs, ρ, r.step x0, ?_⟩
  unfold eDSel at p
  cases hf : fs ρ with
  | bad => rw [hf] at p; exact p
  | ex x => rw [hf] at p; exact fun Hs' H' cls dd e' hx => p Hs' H' cls dd (((Ext.hid (o := .dK []) r.sub ha)).trans e') hx
  | ok ds =>
    rw [hf] at p
    have p : Post X.K X.mg W Hs H σ ((g ρ).bind fun k => ofO (selD ks ds k)) _ := p
    intro Hs1 H1 e1 vs hvs hl
    have e0 : H1 a = some (.dK []) := e1.same _ _ upd_same
    have nH : Hs1 a = none := by
      cases z : Hs1 a with
      | none => rfl
      | some o =>
        have := e1.fresh a o z (r.sub.free ha)
        rw [upd_same] at this; cases this
    have x1 : Ext Hs H Hs1 (upd H1 a (.dK (mergeK [] ((ks.zip vs).map fun p => ((Sum.inr p.1 : Key), p.2))))) := by
      refine ⟨fun b u z => ?_, fun b u z => ?_, e1.grow, fun b o h3 h4 => ?_⟩
      · rw [upd_ne (ne_of_none z nH)]; exact e1.sub b u z
      · rw [upd_ne (ne_of_none z ha)]; exact e1.same b u (by rw [upd_ne (ne_of_none z ha)]; exact z)
      · have := e1.fresh b o h3 h4
        by_cases hb : b = a
        · subst hb; exact ha
        · rw [upd_ne hb] at this; exact this
    refine ⟨e0, (ks.zip vs).map fun p => ((Sum.inr p.1 : Key), p.2), ?_, ?_, ?_⟩
    · rw [List.map_map]
      have : ∀ (ks : List Str) (vs : List V), (ks.map V.str).zip vs = (ks.zip vs).map ((fun kv : Key × V => (kV kv.1, kv.2)) ∘ fun p => ((Sum.inr p.1 : Key), p.2)) := fun ks => by
        induction ks with
        | nil => intro vs; rfl
        | cons k ks ih =>
          intro vs
          cases vs with
          | nil => rfl
          | cons v vs => simp only [List.map_cons, List.zip_cons_cons, ih]; rfl
      exact this ks vs
    · rw [List.length_map, List.length_zip]; omega
    · refine ⟨S, G, Hs1, ρ, r.step x1, (Post.bind (p.up x1)).imp fun k Hs2 H2 e2 q w hw => ?_⟩
      cases z : selD ks ds k with
      | none => rw [z] at q; exact q.elim
      | some d =>
        rw [z] at q
        cases k with
        | str x =>
          cases hw
          obtain ⟨v, v1, v2⟩ := sel_rp (x := x) (acc := none) (av := none) hvs hl (fun d e => by cases e) z
          refine ⟨a, v, rfl, .inl ⟨_, Sum.inr x, .inl (e2.same _ _ upd_same), rfl, ?_⟩, q.now e2.sub v (v2.mono e2.grow)⟩
          rw [valV_merge]
          exact v1.symm
        | none => cases z
        | bool _ => cases z
        | int _ => cases z
        | list _ => cases z
        | tuple _ => cases z
        | dict _ => cases z
end
end VL

set_option Elab.async false
set_option linter.all false
set_option maxRecDepth 100000
set_option autoImplicit false
namespace VL
open PySem PySem.Spec PyProof.Rows L2

/-! ### evaluations that change a list of one's own, or the lent one -/
inductive RX (α : Type) where
  | ok (a : α) (ρ : Ev)
  | bad
def RX.bind {α β : Type} (r : RX α) (f : α → Ev → RX β) : RX β := match r with
  | .ok a ρ => f a ρ
  | .bad => .bad
def PostX {α : Type} (K : Fg) (S : Hp) (G : Gx) (σ : Sg) (Hs : Hp) : RX α → (α → Ev → Hp → Hp → Prop) → Prop
  | .ok a ρ, P => ∀ Hs' H', Same Hs Hs' → RelE K S G Hs' H' σ ρ → P a ρ Hs' H'
  | .bad, _ => False
section
variable {α β : Type} {K : Fg} {S Hs H Hs1 : Hp} {G : Gx} {σ : Sg}
theorem PostX.up {r : RX α} {P : α → Ev → Hp → Hp → Prop} (h : PostX K S G σ Hs r P) (g : Same Hs Hs1) : PostX K S G σ Hs1 r P := by
  cases r with
  | ok a ρ => exact fun Hs' H' e => h Hs' H' (g.trans e)
  | bad => exact h
theorem PostX.imp {r : RX α} {P P' : α → Ev → Hp → Hp → Prop} (h : PostX K S G σ Hs r P) (hp : ∀ a ρ Hs' H', Same Hs Hs' → RelE K S G Hs' H' σ ρ → P a ρ Hs' H' → P' a ρ Hs' H') : PostX K S G σ Hs r P' := by
  cases r with
  | ok a ρ => exact fun Hs' H' g r' => hp _ _ _ _ g r' (h Hs' H' g r')
  | bad => exact h
theorem PostX.bind {r : RX α} {f : α → Ev → RX β} {P : β → Ev → Hp → Hp → Prop} (h : PostX K S G σ Hs (r.bind f) P) : PostX K S G σ Hs r (fun a ρ Hs' H' => PostX K S G σ Hs' (f a ρ) P) := by
  cases r with
  | ok a ρ => exact fun Hs' H' g r' => PostX.up h g
  | bad => exact h
theorem PostX.now {a : α} {ρ : Ev} {P : α → Ev → Hp → Hp → Prop} (h : PostX K S G σ Hs (.ok a ρ) P) (r : RelE K S G Hs H σ ρ) : P a ρ Hs H := h Hs H (.refl _) r
end
def tX (K : Fg) (f : Ev → RX D) : TE := fun σ H Q => ∃ S G Hs ρ, RelE K S G Hs H σ ρ ∧ PostX K S G σ Hs (f ρ) (fun d _ Hs' H' => ∀ v, Rp K Hs' d v → Q v H')
def tXO (K : Fg) (f : Ev → RX (List D)) : TE := fun σ H Q => ∃ S G Hs ρ, RelE K S G Hs H σ ρ ∧
  PostX K S G σ Hs (f ρ) (fun l _ Hs' H' => ∀ Hs2 H2 p vs, Ext Hs' H' Hs2 H2 → H' p = none → Hs2 p = none → H2 p = some (.lst vs) → RpL K Hs2 l vs → Q (.ref p) H2)
def tXT (K : Fg) (f : Ev → RX Bool) : TT := fun σ H Q => ∃ S G Hs ρ, RelE K S G Hs H σ ρ ∧ PostX K S G σ Hs (f ρ) (fun b _ _ H' => Q b H')
def tXA (K : Fg) (f : Ev → RX (List D)) : TA := fun σ H Q => ∃ S G Hs ρ, RelE K S G Hs H σ ρ ∧ PostX K S G σ Hs (f ρ) (fun ds _ Hs' H' => ∀ vs, RpL K Hs' ds vs → Q vs H')
def tXI (K : Fg) (f : Ev → RX (List D)) : TI := fun σ H Rr => ∃ S G Hs ρ, RelE K S G Hs H σ ρ ∧ PostX K S G σ Hs (f ρ) (fun l _ Hs' H' => ∀ J, ItD K J Hs' l → Rr J H')
def XE (X : Cx) (e : Expr) (f : Ev → RX D) : Prop := PE X e (tX X.K f)
def XO (X : Cx) (e : Expr) (f : Ev → RX (List D)) : Prop := PE X e (tXO X.K f)
def XT (X : Cx) (e : Expr) (f : Ev → RX Bool) : Prop := PT X e (tXT X.K f)
def XW (X : Cx) (e : Expr) (f : Ev → RX Bool) : Prop := PW X e (tXT X.K f)
def XA (X : Cx) (es : List Expr) (f : Ev → RX (List D)) : Prop := PA X es (tXA X.K f)
def XI (X : Cx) (tg iter : Expr) (f : Ev → RX (List D)) : Prop := PI X tg iter (tXI X.K f)
/-- without a change -/
def xl {α : Type} (f : Ev → R α) : Ev → RX α := fun ρ => match f ρ with
  | .ok a => .ok a ρ
  | _ => .bad
def ofX {α : Type} (o : Option α) (ρ : Ev) : RX α := match o with
  | some a => .ok a ρ
  | none => .bad
def x1 {α β : Type} (F : α → Option β) (f : Ev → RX α) : Ev → RX β := fun ρ => (f ρ).bind fun x ρ => ofX (F x) ρ
def x2 {α β γ : Type} (F : α → β → Option γ) (f : Ev → RX α) (g : Ev → RX β) : Ev → RX γ := fun ρ => (f ρ).bind fun x ρ => (g ρ).bind fun y ρ => ofX (F x y) ρ
def xCons (f : Ev → RX D) (g : Ev → RX (List D)) : Ev → RX (List D) := fun ρ => (f ρ).bind fun x ρ => (g ρ).bind fun xs ρ => .ok (x :: xs) ρ
def xLst (f : Ev → RX (List D)) : Ev → RX D := fun ρ => (f ρ).bind fun l ρ => .ok (.list l) ρ
def xIf {α : Type} (c : Ev → RX Bool) (f g : Ev → RX α) : Ev → RX α := fun ρ => (c ρ).bind fun b ρ => if b then f ρ else g ρ
def xAnd (f g : Ev → RX Bool) : Ev → RX Bool := fun ρ => (f ρ).bind fun b ρ => if b then g ρ else .ok false ρ
def xOr (f g : Ev → RX Bool) : Ev → RX Bool := fun ρ => (f ρ).bind fun b ρ => if b then .ok true ρ else g ρ
def xNot (f : Ev → RX Bool) : Ev → RX Bool := fun ρ => (f ρ).bind fun b ρ => .ok (!b) ρ
def xCall (m : List D → R SD) (fl : Ev → RX (List D)) : Ev → RX D := fun ρ => (fl ρ).bind fun ds ρ => match m ds with
  | .ok s => ofX (toD s) ρ
  | _ => .bad
def xCallO (m : List D → R SD) (fl : Ev → RX (List D)) : Ev → RX (List D) := fun ρ => (fl ρ).bind fun ds ρ => match m ds with
  | .ok s => ofX (toL s) ρ
  | _ => .bad

section
variable {X : Cx} {W : WX} {e a b c : Expr} {es : List Expr} {pos p : Pos} {f g : Ev → RX D} {fl : Ev → RX (List D)} {fb gb : Ev → RX Bool}
theorem xl_post {α : Type} {K : Fg} {mg : Str → Option Value} {W : WX} {S G Hs H σ} {f : Ev → R α} {ρ : Ev} {P : α → Ev → Hp → Hp → Prop} (r : RelE K S G Hs H σ ρ) (h : PostX K S G σ Hs (xl f ρ) P) : Post K mg W Hs H σ (f ρ) (fun a Hs' H' => P a ρ Hs' H') := by
  unfold xl at h
  cases z : f ρ with
  | ok a => rw [z] at h; exact fun Hs' H' e => h Hs' H' e.grow (r.step e)
  | ex x => rw [z] at h; exact h.elim
  | bad => rw [z] at h; exact h.elim
theorem x_e {f : Ev → R D} (h : VE X W e f) : XE X e (xl f) := PE.imp h fun σ H Q ⟨S, G, Hs, ρ, r, p⟩ => ⟨S, G, Hs, ρ, r, xl_post r p⟩
theorem x_o {f : Ev → R (List D)} (h : VO X W e f) : XO X e (xl f) := PE.imp h fun σ H Q ⟨S, G, Hs, ρ, r, p⟩ => by
  refine ⟨S, G, Hs, ρ, r, ?_⟩
  unfold xl at p
  cases z : f ρ with
  | ok l =>
    rw [z] at p
    exact fun Hs' H' e p' vs h0 h1 h2 h3 => p Hs H (.refl _) r Hs' H' p' vs e h0 h1 h2 h3
  | ex x => rw [z] at p; exact p.elim
  | bad => rw [z] at p; exact p.elim
theorem x_t {f : Ev → R Bool} (h : VT X W e f) : XT X e (xl f) := PT.imp h fun σ H Q ⟨S, G, Hs, ρ, r, p⟩ => ⟨S, G, Hs, ρ, r, xl_post r p⟩
theorem x_i {tg : Expr} {f : Ev → R (List D)} (h : VI X W tg e f) : XI X tg e (xl f) := PI.imp h fun σ H Q ⟨S, G, Hs, ρ, r, p⟩ => ⟨S, G, Hs, ρ, r, xl_post r p⟩
theorem XO.xe (h : XO X e fl) : XE X e (xLst fl) := PE.imp h fun σ H Q ⟨S, G, Hs, ρ, r, p⟩ => by
  refine ⟨S, G, Hs, ρ, r, (PostX.bind p).imp fun l ρ1 Hs1 H1 g1 r1 q Hs2 H2 p' vs e h0 h1 h2 h3 => ?_⟩
  exact q _ _ ((e.frz h0 h2 h1).grow) (r1.step (e.frz h0 h2 h1)) _ (.lst (.inl (.inl upd_same)) (h3.mono fun b u z => by rw [upd_ne (ne_of_none z h1)]; exact z))
theorem ofX_post {α : Type} {K : Fg} {S G σ Hs} {o : Option α} {ρ : Ev} {P : α → Ev → Hp → Hp → Prop} (h : PostX K S G σ Hs (ofX o ρ) P) : ∃ d, o = some d ∧ PostX K S G σ Hs (.ok d ρ) P := by
  cases o with
  | none => exact h.elim
  | some d => exact ⟨d, rfl, h⟩
theorem simX_op {K : Fg} {r : R2} {F : D → D → Option D} (hd : OpD K r F) : ∀ σ H Q, tX K (x2 F f g) σ H Q → tOp r (tX K f) (tX K g) σ H Q := fun σ H Q ⟨S, G, Hs, ρ, rl, p⟩ => by
  refine ⟨S, G, Hs, ρ, rl, (PostX.bind p).imp fun x ρ1 Hs1 H1 g1 r1 q u hu => ?_⟩
  refine ⟨S, G, Hs1, ρ1, r1, (PostX.bind q).imp fun y ρ2 Hs2 H2 g2 r2 q2 v hv => ?_⟩
  obtain ⟨d, z, q3⟩ := ofX_post q2
  exact hd Hs2 H2 x y u v Q d r2.sub z (.inl (hu.mono g2)) (.inl hv) fun Hs' H' w e hw => q3 Hs' H' e.grow (r2.step e) w hw
theorem simX_opO {K : Fg} {r : R2} {F : D → D → Option (List D)} (hd : OpO K r F) : ∀ σ H Q, tXO K (x2 F f g) σ H Q → tOp r (tX K f) (tX K g) σ H Q := fun σ H Q ⟨S, G, Hs, ρ, rl, p⟩ => by
  refine ⟨S, G, Hs, ρ, rl, (PostX.bind p).imp fun x ρ1 Hs1 H1 g1 r1 q u hu => ?_⟩
  refine ⟨S, G, Hs1, ρ1, r1, (PostX.bind q).imp fun y ρ2 Hs2 H2 g2 r2 q2 v hv => ?_⟩
  obtain ⟨d, z, q3⟩ := ofX_post q2
  exact hd Hs2 H2 x y u v Q d r2.sub z (.inl (hu.mono g2)) (.inl hv) fun Hs' H' p vs e h0 h1 h2 h3 => q3 Hs2 H2 (.refl _) r2 Hs' H' p vs e h0 h1 h2 h3
theorem x_op {op : Operator} {F : D → D → Option D} (ho : DOp X (binaryOp op) F) (ha : XE X a f) (hb : XE X b g) : XE X (.BinOp a op b pos) (x2 F f g) := let ⟨_, h1, h2⟩ := ho; PE.imp (pe_op h1 ha hb) (simX_op h2)
theorem x_opO {op : Operator} {F : D → D → Option (List D)} (ho : DOpO X (binaryOp op) F) (ha : XE X a f) (hb : XE X b g) : XO X (.BinOp a op b pos) (x2 F f g) := let ⟨_, h1, h2⟩ := ho; PE.imp (pe_op h1 ha hb) (simX_opO h2)
theorem x_cmp {op : CmpOp} {F : D → D → Option D} (ho : DOp X (compareOp op) F) (ha : XE X a f) (hb : XE X b g) (hm : behindInMarks op b = false := by first | exact nomark _ | rfl) : XE X (.Compare a [op] [b] pos) (x2 F f g) := let ⟨_, h1, h2⟩ := ho; PE.imp (pe_cmpR h1 ha hb hm) (simX_op h2)
theorem x_ix {F : D → D → Option D} (ho : DIx X F) (ha : XE X a f) (hb : XE X b g) (hs : PlainIx b := by exact fun _ _ => rfl) : XE X (.Subscript a b pos) (x2 F f g) := let ⟨_, h1, h2⟩ := ho; PE.imp (pe_ix h1 ha hb hs) (simX_op h2)
theorem x_un {op : UnaryOp} {F : D → Option D} (ho : DUn X (unaryOp op) F) (ha : XE X a f) : XE X (.UnaryOp op a pos) (x1 F f) := let ⟨_, h1, h2⟩ := ho; PE.imp (pe_un h1 ha) fun σ H Q ⟨S, G, Hs, ρ, rl, p⟩ => by
  refine ⟨S, G, Hs, ρ, rl, (PostX.bind p).imp fun x ρ1 Hs1 H1 g1 r1 q u hu => ?_⟩
  obtain ⟨d, z, q3⟩ := ofX_post q
  exact h2 Hs1 H1 x u Q d r1.sub z (.inl hu) fun Hs' H' w e hw => q3 Hs' H' e.grow (r1.step e) w hw
theorem xt_cmp {op : CmpOp} {F : D → D → Option D} (ho : DOp X (compareOp op) F) (ha : XE X a f) (hb : XE X b g) (hm : behindInMarks op b = false := by first | exact nomark _ | rfl) : XT X (.Compare a [op] [b] pos) (x1 bOf (x2 F f g)) := by
  obtain ⟨_, h1, h2⟩ := ho
  refine PT.imp (pt_cmpR h1 ha hb hm) fun σ H Q ⟨S, G, Hs, ρ, r, p⟩ => ?_
  refine simX_op h2 σ H _ ⟨S, G, Hs, ρ, r, (PostX.bind p).imp fun x ρ1 Hs1 H1 g1 r1 q v hv => ?_⟩
  obtain ⟨k, z, q3⟩ := ofX_post q
  cases x with
  | bool k' => cases z; cases hv; exact ⟨k, rfl, q3.now r1⟩
  | none => cases z
  | int _ => cases z
  | str _ => cases z
  | list _ => cases z
  | tuple _ => cases z
  | dict _ => cases z
theorem xt_tru (ha : XE X a f) (he : ∀ whole, isTrue a X.env whole = (do let v ← whole; standAt a.pos; holding [v] (truthy v)) := by intro _; rfl) : XT X a (x1 truD f) := PT.imp (pt_truth ha he) fun σ H Q ⟨S, G, Hs, ρ, r, p⟩ => by
  refine ⟨S, G, Hs, ρ, r, (PostX.bind p).imp fun x ρ1 Hs1 H1 g1 r1 q u hu => ?_⟩
  obtain ⟨k, z, q3⟩ := ofX_post q
  exact ⟨k, truV_of r1.sub (.inl hu) z, q3.now r1⟩
theorem simX_and {K : Fg} : ∀ σ H Q, tXT K (xAnd fb gb) σ H Q → tAnd (tXT K fb) (tXT K gb) σ H Q := fun σ H Q ⟨S, G, Hs, ρ, r, p⟩ => by
  refine ⟨S, G, Hs, ρ, r, (PostX.bind p).imp fun k ρ1 Hs1 H1 g1 r1 q => ?_⟩
  cases k with
  | true => exact ⟨S, G, Hs1, ρ1, r1, q⟩
  | false => exact q.now r1
theorem simX_or {K : Fg} : ∀ σ H Q, tXT K (xOr fb gb) σ H Q → tOr (tXT K fb) (tXT K gb) σ H Q := fun σ H Q ⟨S, G, Hs, ρ, r, p⟩ => by
  refine ⟨S, G, Hs, ρ, r, (PostX.bind p).imp fun k ρ1 Hs1 H1 g1 r1 q => ?_⟩
  cases k with
  | false => exact ⟨S, G, Hs1, ρ1, r1, q⟩
  | true => exact q.now r1
theorem XW.xt (h : XW X e fb) : XT X e fb := PW.pt h
theorem xw_and1 (ha : XT X a fb) : XW X (.BoolOp .And [a] pos) fb := pw_and1 ha
theorem xw_or1 (ha : XT X a fb) : XW X (.BoolOp .Or [a] pos) fb := pw_or1 ha
theorem xw_and {rest : List Expr} (ha : XT X a fb) (hb : XW X (.BoolOp .And (b :: rest) pos) gb) : XW X (.BoolOp .And (a :: b :: rest) pos) (xAnd fb gb) := PW.imp (pw_and ha hb) simX_and
theorem xw_or {rest : List Expr} (ha : XT X a fb) (hb : XW X (.BoolOp .Or (b :: rest) pos) gb) : XW X (.BoolOp .Or (a :: b :: rest) pos) (xOr fb gb) := PW.imp (pw_or ha hb) simX_or
theorem xt_not (ha : XT X a fb) : XT X (.UnaryOp .Not a pos) (xNot fb) := PT.imp (pt_not ha) fun σ H Q ⟨S, G, Hs, ρ, r, p⟩ =>
  ⟨S, G, Hs, ρ, r, (PostX.bind p).imp fun k ρ1 Hs1 H1 g1 r1 q => q.now r1⟩
theorem x_ifExp (hc : XT X c fb) (ha : XE X a f) (hb : XE X b g) : XE X (.IfExp c a b pos) (xIf fb f g) := PE.imp (pe_ifExp hc ha hb) fun σ H Q ⟨S, G, Hs, ρ, r, p⟩ => by
  refine ⟨S, G, Hs, ρ, r, (PostX.bind p).imp fun k ρ1 Hs1 H1 g1 r1 q => ?_⟩
  cases k with
  | true => exact ⟨S, G, Hs1, ρ1, r1, q⟩
  | false => exact ⟨S, G, Hs1, ρ1, r1, q⟩
theorem xa_nil : XA X [] (xl (cst [])) := PA.imp pa_nil fun σ H Q ⟨S, G, Hs, ρ, r, p⟩ => p.now r [] .nil
theorem xa_cons (ha : XE X e f) (hr : XA X es fl) (hs : starEach (e :: es) X.env = (false, eval e X.env) :: starEach es X.env := by rfl) : XA X (e :: es) (xCons f fl) := PA.imp (pa_cons ha hr hs) fun σ H Q ⟨S, G, Hs, ρ, r, p⟩ => by
  refine ⟨S, G, Hs, ρ, r, (PostX.bind p).imp fun x ρ1 Hs1 H1 g1 r1 q u hu => ?_⟩
  refine ⟨S, G, Hs1, ρ1, r1, (PostX.bind q).imp fun xs ρ2 Hs2 H2 g2 r2 q2 us hus => ?_⟩
  exact q2.now r2 (u :: us) (.cons (hu.mono g2) hus)
theorem x_tup {x1' : Nat} (h : XA X es fl) : XE X (.Tuple es x1' pos) (x1 tupD fl) := PE.imp (pe_tup h) fun σ H Q ⟨S, G, Hs, ρ, r, p⟩ => by
  refine ⟨S, G, Hs, ρ, r, (PostX.bind p).imp fun l ρ1 Hs1 H1 g1 r1 q us hus => ?_⟩
  obtain ⟨d, z, q3⟩ := ofX_post q
  unfold tupD at z
  obtain ⟨l', z1, rfl⟩ := Option.map_eq_some_iff.mp z
  obtain ⟨rfl, hz⟩ := lim_some z1
  refine ⟨by rw [← hus.length]; exact hz, fun p hp => ?_⟩
  have x := Ext.new (o := .tup us) r1.sub hp
  exact q3 _ _ x.grow (r1.step x) _ (.tup (.inl (.inl upd_same)) (hus.mono x.grow))
theorem x_lst (h : XA X es fl) : XO X (.List es pos) (x1 lim fl) := PE.imp (pe_lst h) fun σ H Q ⟨S, G, Hs, ρ, r, p⟩ => by
  refine ⟨S, G, Hs, ρ, r, (PostX.bind p).imp fun l ρ1 Hs1 H1 g1 r1 q us hus => ?_⟩
  obtain ⟨l', z, q3⟩ := ofX_post q
  obtain ⟨rfl, hz⟩ := lim_some z
  refine ⟨by rw [← hus.length]; exact hz, fun p hp => ?_⟩
  refine q3 Hs1 H1 (.refl _) r1 _ _ p us (Ext.hid (o := .lst us) r1.sub hp) hp ?_ upd_same hus
  cases y : Hs1 p with
  | none => rfl
  | some o => rw [r1.sub _ _ y] at hp; cases hp
theorem PkL.of_rp {K : Fg} {Hs H : Hp} : ∀ {ds : List D} {vs : List V}, RpL K Hs ds vs → PkL K Hs H ds vs
  | _, _, .nil => trivial
  | _, _, .cons h r => ⟨.inl h, PkL.of_rp r⟩
theorem simX_cal {K : Fg} {r : List V → Hp → VK → Prop} {F : List D → Option D} (h : ∀ (Hs H : Hp) (ds : List D) (vs : List V) (Q : VK) (d : D), Same Hs H → F ds = some d → PkL K Hs H ds vs →
    (∀ Hs' H' w, Ext Hs H Hs' H' → Rp K Hs' d w → Q w H') → r vs H Q) : ∀ σ H Q, tX K (x1 F fl) σ H Q → tCB r (tXA K fl) σ H Q := fun σ H Q ⟨S, G, Hs, ρ, rl, p⟩ => by
  refine ⟨S, G, Hs, ρ, rl, (PostX.bind p).imp fun ds ρ1 Hs1 H1 g1 r1 q vs hv => ?_⟩
  obtain ⟨d, z, q3⟩ := ofX_post q
  exact h Hs1 H1 ds vs Q d r1.sub z (PkL.of_rp hv) fun Hs' H' w e hw => q3 Hs' H' e.grow (r1.step e) w hw
theorem simX_calO {K : Fg} {r : List V → Hp → VK → Prop} {F : List D → Option (List D)} (h : ∀ (Hs H : Hp) (ds : List D) (vs : List V) (Q : VK) (d : List D), Same Hs H → F ds = some d → PkL K Hs H ds vs →
    (∀ Hs' H' p vs, Ext Hs H Hs' H' → H p = none → Hs' p = none → H' p = some (.lst vs) → RpL K Hs' d vs → Q (.ref p) H') → r vs H Q) : ∀ σ H Q, tXO K (x1 F fl) σ H Q → tCB r (tXA K fl) σ H Q := fun σ H Q ⟨S, G, Hs, ρ, rl, p⟩ => by
  refine ⟨S, G, Hs, ρ, rl, (PostX.bind p).imp fun ds ρ1 Hs1 H1 g1 r1 q vs hv => ?_⟩
  obtain ⟨d, z, q3⟩ := ofX_post q
  exact h Hs1 H1 ds vs Q d r1.sub z (PkL.of_rp hv) fun Hs' H' p vs e h0 h1 h2 h3 => q3 Hs1 H1 (.refl _) r1 Hs' H' p vs e h0 h1 h2 h3
variable {x : Str} {bid T : String} {F : List D → Option D} {FO : List D → Option (List D)}
theorem x_blt (hc : CalD X (.builtin bid) F) (hg : Gl X x) (hm : X.mg x = none) (hv : bootBuiltins x = some (.builtin bid)) (ha : XA X (e :: es) fl) (hn : x ≠ "__name__" := by decide) (hdb : (x == ("__debug__" : Str)) = false := by decide)
    (he : starEach (e :: es) X.env = (false, eval e X.env) :: starEach es X.env := by rfl) (hpl : (backTo pos (starEach es X.env)).any (·.1) = false := by rfl) : XE X (.Call (.Name x p) (e :: es) [] pos) (x1 F fl) :=
  let ⟨_, h1, h2⟩ := hc; PE.imp (pe_callB h1 hg hm hv ha hn hdb he hpl) (simX_cal h2)
theorem x_typ (hc : CalD X (.type T) F) (hg : Gl X x) (hm : X.mg x = none) (hv : bootBuiltins x = some (.type T)) (ha : XA X (e :: es) fl) (hn : x ≠ "__name__" := by decide) (hdb : (x == ("__debug__" : Str)) = false := by decide)
    (he : starEach (e :: es) X.env = (false, eval e X.env) :: starEach es X.env := by rfl) (hpl : (backTo pos (starEach es X.env)).any (·.1) = false := by rfl) : XE X (.Call (.Name x p) (e :: es) [] pos) (x1 F fl) :=
  let ⟨_, h1, h2⟩ := hc; PE.imp (pe_callTy h1 hg hm hv ha hn hdb he hpl) (simX_cal h2)
theorem x_typO (hc : CalO X (.type T) FO) (hg : Gl X x) (hm : X.mg x = none) (hv : bootBuiltins x = some (.type T)) (ha : XA X (e :: es) fl) (hn : x ≠ "__name__" := by decide) (hdb : (x == ("__debug__" : Str)) = false := by decide)
    (he : starEach (e :: es) X.env = (false, eval e X.env) :: starEach es X.env := by rfl) (hpl : (backTo pos (starEach es X.env)).any (·.1) = false := by rfl) : XO X (.Call (.Name x p) (e :: es) [] pos) (x1 FO fl) :=
  let ⟨_, h1, h2⟩ := hc; PE.imp (pe_callTy h1 hg hm hv ha hn hdb he hpl) (simX_calO h2)
/-! sources of loops -/
theorem xi_seq {tg : Expr} (h : XE X e f) : XI X tg e (x1 seqD f) := PI.imp (pi_seq h) fun σ H Rr ⟨S, G, Hs, ρ, r, p⟩ => by
  refine ⟨S, G, Hs, ρ, r, (PostX.bind p).imp fun d ρ1 Hs1 H1 g1 r1 q v hv => ?_⟩
  obtain ⟨l, z, q3⟩ := ofX_post q
  have q' := q3.now r1
  unfold seqD at z
  split at z
  · cases z
    cases hv with
    | lst h1 h2 => exact .inl ⟨_, rfl, ⟨_, Same.seq r1.sub h1⟩, q' _ (it_list h1 h2)⟩
  · cases z
    cases hv with
    | tup h1 h2 => exact .inr (.inl ⟨_, rfl, ⟨_, SqT.mono r1.sub h1⟩, q' _ (it_tup h1 h2)⟩)
  · cases z
    cases hv
    exact .inr (.inr ⟨_, rfl, q' _ (it_str _)⟩)
  · cases z
theorem xi_range1 {tg : Expr} (hg : Gl X "range") (hm : X.mg "range" = none) (ha : XA X [a] fl) (hs : starEach [a] X.env = [(false, eval a X.env)] := by rfl) : XI X tg (.Call (.Name "range" p) [a] [] pos) (x1 range1D fl) := PI.imp (pi_range1 hg hm ha hs) fun σ H Rr ⟨S, G, Hs, ρ, r, p⟩ => by
  refine ⟨S, G, Hs, ρ, r, (PostX.bind p).imp fun ds ρ1 Hs1 H1 g1 r1 q vs hv => ?_⟩
  obtain ⟨l, z, q3⟩ := ofX_post q
  have q' := q3.now r1
  unfold range1D at z
  split at z
  · split at z
    · rename_i hz
      cases z
      unfold in62 at hz
      have hz' := of_decide_eq_true hz
      obtain ⟨v, rfl, h⟩ := (PkL.of_rp (H := H1) hv).one
      exact ⟨_, by rw [h.int], hz'.1, hz'.2, q' _ it_rng⟩
    · cases z
  · cases z
theorem xi_range2 {tg : Expr} (hg : Gl X "range") (hm : X.mg "range" = none) (ha : XA X [a, b] fl) (hs : starEach [a, b] X.env = [(false, eval a X.env), (false, eval b X.env)] := by rfl) (hs2 : starEach [b] X.env = [(false, eval b X.env)] := by rfl) : XI X tg (.Call (.Name "range" p) [a, b] [] pos) (x1 range2D fl) := PI.imp (pi_range2 hg hm ha hs hs2) fun σ H Rr ⟨S, G, Hs, ρ, r, p⟩ => by
  refine ⟨S, G, Hs, ρ, r, (PostX.bind p).imp fun ds ρ1 Hs1 H1 g1 r1 q vs hv => ?_⟩
  obtain ⟨l, z, q3⟩ := ofX_post q
  have q' := q3.now r1
  unfold range2D at z
  split at z
  · split at z
    · rename_i hz
      cases z
      unfold in62 at hz
      rw [Bool.and_eq_true] at hz
      have hz1 := of_decide_eq_true hz.1
      have hz2 := of_decide_eq_true hz.2
      obtain ⟨v, w, rfl, h, h'⟩ := (PkL.of_rp (H := H1) hv).two
      exact ⟨_, _, by rw [h.int, h'.int], ⟨hz1.1, hz1.2, hz2.1, hz2.2⟩, q' _ it_rng⟩
    · cases z
  · cases z
end
end VL

set_option Elab.async false
set_option linter.all false
set_option maxRecDepth 100000
set_option autoImplicit false
namespace VL
open PySem PySem.Spec PyProof.Rows L2

/-! ### a list of one's own or the lent one -/
def lstAt (ρ : Ev) (i : Nat) : Option (List D × Bool) := match ρ[i]? with
  | some (.ow l) => some (l, false)
  | some (.bo l) => some (l, true)
  | _ => none
def mkL (b : Bool) (l : List D) : SD := if b then .bo l else .ow l
section
variable {K : Fg} {S Hs H : Hp} {G : Gx} {σ : Sg} {ρ : Ev}
theorem lstAt_cases {i : Nat} {l : List D} {b : Bool} (h : lstAt ρ i = some (l, b)) : (b = false ∧ ρ[i]? = some (.ow l)) ∨ (b = true ∧ ρ[i]? = some (.bo l)) := by
  unfold lstAt at h
  split at h
  · cases h; exact .inl ⟨rfl, by assumption⟩
  · cases h; exact .inr ⟨rfl, by assumption⟩
  · cases h
theorem RelE.lst {i : Nat} {l : List D} {b : Bool} (r : RelE K S G Hs H σ ρ) (h : lstAt ρ i = some (l, b)) : ∃ p vs, σ[i]? = some (some (.ref p)) ∧ Hs p = none ∧ H p = some (.lst vs) ∧ RpL K Hs l vs := by
  rcases lstAt_cases h with ⟨_, h⟩ | ⟨_, h⟩
  · obtain ⟨p, vs, e1, e2, e3, e4, e5⟩ := r.own h
    exact ⟨p, vs, e1, e3, e4, e5⟩
  · obtain ⟨p, vs, e1, e2, e3, e4⟩ := r.lent h
    exact ⟨p, vs, e1, (r.bor p e2).2.1, e3, e4⟩
theorem RelE.wrL {i : Nat} {l l' : List D} {b : Bool} {p : Addr} {ws : List V} (r : RelE K S G Hs H σ ρ) (h : lstAt ρ i = some (l, b)) (hs : σ[i]? = some (some (.ref p))) (hl : RpL K Hs l' ws) :
    RelE K S G Hs (upd H p (.lst ws)) σ (ρ.set i (mkL b l')) := by
  rcases lstAt_cases h with ⟨rfl, h'⟩ | ⟨rfl, h'⟩
  · exact r.wr h' hs hl
  · exact r.wrB h' hs hl
end
/-! ### statements over them -/
def liftX {α : Type} (r : RX α) (k : α → Ev → Out) : Out := match r with
  | .ok a ρ => k a ρ
  | .bad => .bad
theorem liftX_post {α : Type} {K : Fg} {mg : Str → Option Value} {W : WX} {S Hs : Hp} {G : Gx} {σ : Sg} {D : Ends} {r : RX α} {k : α → Ev → Out} (h : OutOk K mg W S G Hs D (liftX r k)) :
    PostX K S G σ Hs r (fun a ρ Hs' H' => OutOk K mg W S G Hs' D (k a ρ)) := by
  cases r with
  | ok a ρ => exact fun Hs' H' g _ => OutOk.up h g
  | bad => exact h
def ySet (i : Nat) (f : Ev → RX D) : Ev → Out := fun ρ => liftX (f ρ) fun d ρ => .nx (ρ.set i (.sh d))
def ySetO (i : Nat) (f : Ev → RX (List D)) : Ev → Out := fun ρ => liftX (f ρ) fun d ρ => .nx (ρ.set i (.ow d))
def yAsg (f : Ev → RX D) (g : D → Ev → Option Ev) : Ev → Out := fun ρ => liftX (f ρ) fun d ρ => match g d ρ with
  | some ρ' => .nx ρ'
  | none => .bad
def yIf (c : Ev → RX Bool) (F F' : Ev → Out) : Ev → Out := fun ρ => liftX (c ρ) fun b ρ => if b then F ρ else F' ρ
def yDrop (f : Ev → RX D) : Ev → Out := fun ρ => liftX (f ρ) fun _ ρ => .nx ρ
def yRet (f : Ev → RX D) : Ev → Out := fun ρ => liftX (f ρ) fun d ρ => .rt (.sh d)
def yRetO (f : Ev → RX (List D)) : Ev → Out := fun ρ => liftX (f ρ) fun d ρ => .rt (.ow d)
def yRetB (f : Ev → RX D) : Ev → Out := fun ρ => liftX (f ρ) fun d ρ => .rtB (.sh d) ρ
def yRetOB (f : Ev → RX (List D)) : Ev → Out := fun ρ => liftX (f ρ) fun d ρ => .rtB (.ow d) ρ
/-- return x, x a list of one's own, in a def with a lent list -/
def yRetVB (i : Nat) : Ev → Out := fun ρ => match ρ[i]? with
  | some (.ow l) => .rtB (.ow l) ρ
  | some (.sh d) => .rtB (.sh d) ρ
  | _ => .bad
def yRetNB : Ev → Out := fun ρ => .rtB (.sh .none) ρ
def yFor (fi : Ev → RX (List D)) (g : D → Ev → Option Ev) (F : Ev → Out) : Ev → Out := fun ρ => liftX (fi ρ) fun l ρ => forO (gTo g F) l ρ
def yApp (i : Nat) (f : Ev → RX D) : Ev → Out := fun ρ => match lstAt ρ i with
  | none => .bad
  | some _ => liftX (f ρ) fun d ρ => match lstAt ρ i with
    | some (l, b) => if l.length < sizeLine then .nx (ρ.set i (mkL b (l ++ [d]))) else .bad
    | none => .bad
def yStore (i : Nat) (fi fv : Ev → RX D) : Ev → Out := fun ρ => liftX (fv ρ) fun d ρ => match lstAt ρ i with
  | none => .bad
  | some _ => liftX (fi ρ) fun k ρ => match lstAt ρ i with
    | some (l, b) => match k with
      | .int z => match ixN l.length z with
        | some j => .nx (ρ.set i (mkL b (l.set j d)))
        | none => .bad
      | _ => .bad
    | none => .bad
def xPop (i : Nat) : Ev → RX D := fun ρ => match lstAt ρ i with
  | some (l, b) => match l.getLast? with
    | some d => .ok d (ρ.set i (mkL b l.dropLast))
    | none => .bad
  | none => .bad
section
variable {X : Cx} {W : WX} {e a b c : Expr} {es : List Expr} {pos : Pos} {f g : Ev → RX D} {fl : Ev → RX (List D)} {fb : Ev → RX Bool} {F F' : Ev → Out}
theorem y_set {i : Nat} {x : Str} {pos' : Pos} (hN : X.N.Nodup) (hi : X.N[i]? = some x) (hx : Loc X.env.scope x) (he : XE X e f) (hs : swapsWith e (some (.Name x pos')) pos.line X.env = pure false := by rfl) (hf : X.fn x = true ∨ X.env.scope.names.lookup x = some .local := by first | exact .inl rfl | exact .inr rfl | assumption) :
    VS X W (.Assign [.Name x pos'] e pos) (ySet i f) := PS.imp (ps_set hN hi hx he hs hf) fun D σ H ⟨S, G, Hs, ρ, r, h⟩ =>
  ⟨S, G, Hs, ρ, r, (liftX_post h).imp fun d ρ1 Hs1 H1 g1 r1 q v hv => q Hs1 H1 _ (.refl _) (r1.set hv)⟩
theorem y_setO {i : Nat} {x : Str} {pos' : Pos} (hN : X.N.Nodup) (hi : X.N[i]? = some x) (hx : Loc X.env.scope x) (he : XO X e fl) (hs : swapsWith e (some (.Name x pos')) pos.line X.env = pure false := by rfl) (hf : X.fn x = true ∨ X.env.scope.names.lookup x = some .local := by first | exact .inl rfl | exact .inr rfl | assumption) :
    VS X W (.Assign [.Name x pos'] e pos) (ySetO i fl) := PS.imp (ps_set hN hi hx he hs hf) fun D σ H ⟨S, G, Hs, ρ, r, h⟩ =>
  ⟨S, G, Hs, ρ, r, (liftX_post h).imp fun d ρ1 Hs1 H1 g1 r1 q Hs2 H2 p vs e h0 h1 h2 h3 => q Hs2 H2 _ e.grow (r1.setOw e h0 h1 h2 h3)⟩
theorem y_asg {tg : Expr} {ts : List Nat} {k : D → Ev → Option Ev} (he : XE X e f) (hg : VG X tg ts k) (hs : swapsWithSole [tg] e pos.line X.env = pure false := by rfl) (hw : swappedStores [tg] e X.env = pure none := by rfl)
    (h1 : (assignEach [tg] X.env).map (·.2) = [assign tg X.env] := by rfl) : VS X W (.Assign [tg] e pos) (yAsg f k) := PS.imp (ps_asg he hg hs hw h1) fun D σ H ⟨S, G, Hs, ρ, r, h⟩ => by
  refine ⟨S, G, Hs, ρ, r, (liftX_post h).imp fun d ρ1 Hs1 H1 g1 r1 q v hv => ?_⟩
  cases z : k d ρ1 with
  | none => simp only [z] at q; exact q.elim
  | some ρ' =>
    simp only [z] at q
    exact ⟨S, G, Hs1, ρ1, d, ρ', r1, hv, z, fun σ' _ _ r' => q Hs1 H1 σ' (.refl _) r'⟩
theorem y_if {p q : List Stmt} (hc : XT X c fb) (ha : VSs X W p F) (hb : VSs X W q F') : VS X W (.If c p q pos) (yIf fb F F') := PS.imp (ps_if hc ha hb) fun D σ H ⟨S, G, Hs, ρ, r, h⟩ => by
  refine ⟨S, G, Hs, ρ, r, (liftX_post h).imp fun k ρ1 Hs1 H1 g1 r1 q => ?_⟩
  cases k with
  | true => exact ⟨S, G, Hs1, ρ1, r1, q⟩
  | false => exact ⟨S, G, Hs1, ρ1, r1, q⟩
theorem y_expr (he : XE X e f) (hs : swapsWith e none pos.line X.env = pure false := by rfl) : VS X W (.Expr e pos) (yDrop f) := PS.imp (ps_expr he hs) fun D σ H ⟨S, G, Hs, ρ, r, h⟩ =>
  ⟨S, G, Hs, ρ, r, (liftX_post h).imp fun d ρ1 Hs1 H1 g1 r1 q v hv => q Hs1 H1 σ (.refl _) r1⟩
theorem y_ret (he : XE X e f) : VS X W (.Return (some e) pos) (yRet f) := PS.imp (ps_ret he) fun D σ H ⟨S, G, Hs, ρ, r, h⟩ =>
  ⟨S, G, Hs, ρ, r, (liftX_post h).imp fun d ρ1 Hs1 H1 g1 r1 q v hv => q Hs1 H1 v r1.ext' hv⟩
theorem y_retO (he : XO X e fl) : VS X W (.Return (some e) pos) (yRetO fl) := PS.imp (ps_ret he) fun D σ H ⟨S, G, Hs, ρ, r, h⟩ =>
  ⟨S, G, Hs, ρ, r, (liftX_post h).imp fun d ρ1 Hs1 H1 g1 r1 q Hs2 H2 p vs e h0 h1 h2 h3 => q Hs2 H2 _ (r1.step e).ext' ⟨p, vs, rfl, r1.old.free h0, h1, h2, h3⟩⟩
theorem y_retB (he : XE X e f) : VS X W (.Return (some e) pos) (yRetB f) := PS.imp (ps_ret he) fun D σ H ⟨S, G, Hs, ρ, r, h⟩ =>
  ⟨S, G, Hs, ρ, r, (liftX_post h).imp fun d ρ1 Hs1 H1 g1 r1 q v hv => q Hs1 H1 v σ (.refl _) r1 hv fun l z => by cases z⟩
theorem y_retOB (he : XO X e fl) : VS X W (.Return (some e) pos) (yRetOB fl) := PS.imp (ps_ret he) fun D σ H ⟨S, G, Hs, ρ, r, h⟩ =>
  ⟨S, G, Hs, ρ, r, (liftX_post h).imp fun d ρ1 Hs1 H1 g1 r1 q Hs2 H2 p vs e h0 h1 h2 h3 => q Hs2 H2 _ σ e.grow (r1.step e) ⟨p, vs, rfl, r1.old.free h0, h1, h2, h3⟩ fun l _ p' hp' z => by
    cases z
    exact (r1.bor p hp').2.2 h0⟩
theorem y_retVB (i : Nat) {x : Str} {p : Pos} (h : PE X (.Name x p) (tVar i)) : VS X W (.Return (some (.Name x p)) pos) (yRetVB i) := PS.imp (ps_ret h) fun D σ H ⟨S, G, Hs, ρ, r, h⟩ => by
  unfold yRetVB at h
  cases q : ρ[i]? with
  | none => rw [q] at h; exact h.elim
  | some s =>
    rw [q] at h
    cases s with
    | no => exact h.elim
    | bo l => exact h.elim
    | sh d =>
      obtain ⟨v, e1, e2⟩ := r.get q
      exact ⟨v, e1, h Hs H v σ (.refl _) r e2 fun l z => by cases z⟩
    | ow l =>
      obtain ⟨p, vs, e1, e2, e3, e4, e5, e6⟩ := r.own' q
      exact ⟨_, e1, h Hs H _ σ (.refl _) r ⟨p, vs, rfl, e2, e3, e4, e5⟩ fun l _ p' hp' z => by
        cases z
        exact e6 hp'⟩
theorem y_retNB : VS X W (.Return none pos) yRetNB := PS.imp ps_retN fun D σ H ⟨S, G, Hs, ρ, r, h⟩ => h Hs H _ σ (.refl _) r .non fun l z => by cases z
theorem y_for {tg iter : Expr} {body : List Stmt} {ts : List Nat} {fi : Ev → RX (List D)} {k : D → Ev → Option Ev} (hp : PassesOwn (model X.prog X.w) X.A X.env X.xe) (hc : X.calm = true) (hi : XI X tg iter fi) (hg : VG X tg ts k) (hb : VSs X W body F)
    (hs : ∀ x, foldedSetIterable iter X.env x = pure x := by intro _; rfl) : VS X W (.For tg iter body [] pos) (yFor fi k F) := by
  refine PS.imp (ps_for hp hc hi hg hb hs) fun En σ H ⟨S, G, Hs, ρ, r, h⟩ => ?_
  refine ⟨S, G, Hs, ρ, r, (liftX_post h).imp fun l ρ1 Hs1 H1 g1 r1 q J hJ => ?_⟩
  refine ⟨fun i m σ' H' => m = l.length - i ∧ i ≤ l.length ∧ ∃ Hs2 ρ2, Same Hs1 Hs2 ∧ RelE X.K S G Hs2 H' σ' ρ2 ∧ OutOk X.K X.mg W S G Hs2 En (forO (gTo k F) (l.drop i) ρ2),
    ⟨l.length, by simp, Nat.zero_le _, Hs1, ρ1, .refl _, r1, q⟩, ?_⟩
  rintro i m σ' H' ⟨rfl, hi, Hs2, ρ2, g2, r2, q2⟩
  obtain ⟨j1, j2⟩ := hJ i Hs2 H' g2 r2.sub
  by_cases hl : i < l.length
  · obtain ⟨j1, j3⟩ := j1 l[i] (List.getElem?_eq_getElem hl)
    rw [List.drop_eq_getElem_cons hl] at q2
    refine .inr ⟨j1, fun σ3 H3 => ∃ Hs3 ρ3, Same Hs1 Hs3 ∧ RelE X.K S G Hs3 H3 σ3 ρ3 ∧ OutOk X.K X.mg W S G Hs3 En (forO (gTo k F) (l.drop (i + 1)) ρ3), fun σ3 H3 ⟨Hs3, ρ3, a1, a2, a3⟩ => ⟨_, (by omega : l.length - (i + 1) < l.length - i), rfl, hl, Hs3, ρ3, a1, a2, a3⟩, fun x H3 y => ?_⟩
    obtain ⟨Hs3, e3, d3⟩ := j3 x H3 y
    unfold forO gTo at q2
    cases z : k l[i] ρ2 with
    | none => rw [z] at q2; exact q2.elim
    | some ρ3 =>
      rw [z] at q2
      refine ⟨S, G, Hs3, ρ2, l[i], ρ3, r2.step e3, d3, z, fun σ4 _ _ r4 => ⟨S, G, Hs3, ρ3, r4, ?_⟩⟩
      have g3 := g2.trans e3.grow
      cases z2 : F ρ3 with
      | nx ρ' => simp only [z2] at q2; exact fun Hs' H' σ' a b => ⟨Hs', ρ', g3.trans a, b, q2.up (e3.grow.trans a)⟩
      | ct ρ' => simp only [z2] at q2; exact fun Hs' H' σ' a b => ⟨Hs', ρ', g3.trans a, b, q2.up (e3.grow.trans a)⟩
      | bk ρ' => simp only [z2] at q2; exact fun Hs' H' σ' a b => q2 Hs' H' σ' (e3.grow.trans a) b
      | rt r => simp only [z2] at q2; exact q2
      | rtB r ρ' => simp only [z2] at q2; exact OutOk.up (o := .rtB r ρ') q2 e3.grow
      | ex x ρ' => simp only [z2] at q2; exact fun Hs' H' σ' cls dd a => q2 Hs' H' σ' cls dd (e3.grow.trans a)
      | bad => simp only [z2] at q2; exact q2.elim
  · have e0 : i = l.length := by omega
    subst e0
    rw [List.drop_length] at q2
    exact .inl ⟨j2 (Nat.le_refl _), q2 Hs2 H' σ' (.refl _) r2⟩

theorem y_app (i : Nat) {x : Str} {p apos cpos : Pos} (ho : PE X (.Name x p) (tVar i)) (he : XE X e f)
    (hbase : attributeBase (.Name x p) "append" X.env (eval (.Name x p) X.env) = eval (.Name x p) X.env := by rfl)
    (hfew : ((backTo cpos (starEach [e] X.env)).all (fun x => !x.1) && (backToKw cpos (keywordEach [] X.env)).all (fun x => x.1.isSome)
      && decide ([e].length + ([] : List Keyword).length + (if ([] : List Keyword).isEmpty then 0 else 1) < 30)) = true := by rfl)
    (hline : (apos.endLine == cpos.line) = true := by rfl) (hs : starEach [e] X.env = (false, eval e X.env) :: starEach [] X.env := by rfl) (hplain : (backTo cpos (starEach [] X.env)).any (·.1) = false := by rfl)
    (hsw : swapsWith (.Call (.Attribute (.Name x p) "append" apos) [e] [] cpos) none pos.line X.env = pure false := by rfl) :
    VS X W (.Expr (.Call (.Attribute (.Name x p) "append" apos) [e] [] cpos) pos) (yApp i f) := by
  refine PS.imp (ps_expr (pe_bm PySem.F.plainAttrs_list PySem.F.slot_list_append PySem.F.type_list_append mt_append ho (pa_cons he pa_nil hs) hbase hfew hline hs hplain) hsw) fun D σ H ⟨S, G, Hs, ρ, r, h⟩ => ?_
  unfold yApp at h
  cases z0 : lstAt ρ i with
  | none => simp only [z0] at h; exact h.elim
  | some lb =>
    simp only [z0] at h
    obtain ⟨l0, b0⟩ := lb
    obtain ⟨a, vs0, o1, _, o4, _⟩ := r.lst z0
    refine ⟨_, o1, .inl ⟨rfl, vs0, .inl (.inl o4)⟩, S, G, Hs, ρ, r, (liftX_post h).imp fun d ρ1 Hs1 H1 g1 r1 q v hv => ?_⟩
    cases z : lstAt ρ1 i with
    | none => simp only [z] at q; exact q.elim
    | some lb =>
      obtain ⟨l, b⟩ := lb
      simp only [z] at q
      obtain ⟨a', vs, p1, _, p4, p5⟩ := r1.lst z
      rw [o1] at p1; cases p1
      split at q
      · rename_i hz
        refine ⟨a, vs, v, rfl, rfl, p4, by rw [← p5.length]; exact hz, ?_⟩
        exact q Hs1 _ σ (.refl _) (r1.wrL z o1 (p5.append (.cons hv .nil)))
      · exact q.elim
theorem y_store (i : Nat) {x : Str} {p spos : Pos} (ho : PE X (.Name x p) (tVar i)) (hi : XE X a g) (he : XE X e f)
    (hs : swapsWithSole [.Subscript (.Name x p) a spos] e pos.line X.env = pure false := by rfl) (hw : swappedStores [.Subscript (.Name x p) a spos] e X.env = pure none := by rfl)
    (h1 : (assignEach [.Subscript (.Name x p) a spos] X.env).map (·.2) = [assign (.Subscript (.Name x p) a spos) X.env] := by rfl)
    (ha : ∀ v, assign (.Subscript (.Name x p) a spos) X.env v = (do
      let ov ← holding [v] (eval (.Name x p) X.env)
      let iv ← holding [v, ov] (eval a X.env)
      standAt spos
      holding [v, ov, iv] (setItem ov iv v)
      release [v, ov, iv] []) := by intro _; rfl) : VS X W (.Assign [.Subscript (.Name x p) a spos] e pos) (yStore i g f) := by
  refine PS.imp (ps_asg he (pg_sub ho hi set_list ha) hs hw h1) fun D σ H ⟨S, G, Hs, ρ, r, h⟩ => ?_
  refine ⟨S, G, Hs, ρ, r, (liftX_post h).imp fun d ρ1 Hs1 H1 g1 r1 q v hv => ?_⟩
  cases z0 : lstAt ρ1 i with
  | none => simp only [z0] at q; exact q.elim
  | some lb =>
    simp only [z0] at q
    obtain ⟨l0, b0⟩ := lb
    obtain ⟨a0, vs0, o1, _, _, _⟩ := r1.lst z0
    refine ⟨_, o1, S, G, Hs1, ρ1, r1, (liftX_post q).imp fun k ρ2 Hs2 H2 g2 r2 q2 w hw => ?_⟩
    cases z : lstAt ρ2 i with
    | none => simp only [z] at q2; exact q2.elim
    | some lb =>
      obtain ⟨l, b⟩ := lb
      simp only [z] at q2
      obtain ⟨a', vs, p1, _, p4, p5⟩ := r2.lst z
      rw [o1] at p1; cases p1
      cases k with
      | int zz =>
        cases hw
        cases y : ixN l.length zz with
        | none => simp only [y] at q2; exact q2.elim
        | some j =>
          simp only [y] at q2
          refine ⟨a0, vs, zz, j, rfl, rfl, p4, by rw [← p5.length]; exact y, ?_⟩
          exact q2 Hs2 _ σ (.refl _) (r2.wrL z o1 (p5.set (hv.mono g2) j))
      | none => exact q2.elim
      | bool _ => exact q2.elim
      | str _ => exact q2.elim
      | list _ => exact q2.elim
      | tuple _ => exact q2.elim
      | dict _ => exact q2.elim
theorem x_pop (j : Nat) {x : Str} {p apos cpos : Pos} (ho : PE X (.Name x p) (tVar j))
    (hbase : attributeBase (.Name x p) "pop" X.env (eval (.Name x p) X.env) = eval (.Name x p) X.env := by rfl) (hline : (apos.endLine == cpos.line) = true := by rfl) :
    XE X (.Call (.Attribute (.Name x p) "pop" apos) [] [] cpos) (xPop j) := by
  refine PE.imp (pe_bm0 PySem.F.plainAttrs_list PySem.F.slot_list_pop PySem.F.type_list_pop mt_pop ho hbase hline) fun σ H Q ⟨S, G, Hs, ρ, r, h⟩ => ?_
  unfold xPop at h
  cases z0 : lstAt ρ j with
  | none => simp only [z0] at h; exact h.elim
  | some lb =>
    simp only [z0] at h
    obtain ⟨l, b⟩ := lb
    obtain ⟨a, vs, o1, _, o4, o5⟩ := r.lst z0
    cases z : l.getLast? with
    | none => simp only [z] at h; exact h.elim
    | some d =>
      simp only [z] at h
      obtain ⟨v, v1, v2⟩ := pop_at o5 z
      exact ⟨_, o1, .inl ⟨rfl, vs, .inl (.inl o4)⟩, a, vs, v, rfl, rfl, o4, v1, h.now (r.wrL z0 o1 o5.dropLast) v v2⟩
end

/-! ### defs with a list that is lent -/
inductive RB where
  | ok (r : SD) (l : List D)
  | bad
/-- arguments, the lent list at place b -/
inductive RpB (K : Fg) (H : Hp) (p : Addr) : Nat → List D → List V → Prop
  | here {ds : List D} {vs : List V} : RpL K H ds vs → RpB K H p 0 (.none :: ds) (.ref p :: vs)
  | there {b : Nat} {d : D} {v : V} {ds : List D} {vs : List V} : Rp K H d v → RpB K H p b ds vs → RpB K H p (b + 1) (d :: ds) (v :: vs)
theorem RpB.mono {K : Fg} {H H' : Hp} {p : Addr} (e : Same H H') : ∀ {b : Nat} {ds : List D} {vs : List V}, RpB K H p b ds vs → RpB K H' p b ds vs
  | _, _, _, .here r => .here (r.mono e)
  | _, _, _, .there h r => .there (h.mono e) (RpB.mono e r)
theorem RpB.length {K : Fg} {H : Hp} {p : Addr} : ∀ {b : Nat} {ds : List D} {vs : List V}, RpB K H p b ds vs → ds.length = vs.length
  | _, _, _, .here r => congrArg (· + 1) r.length
  | _, _, _, .there _ r => congrArg (· + 1) (RpB.length r)
theorem RpB.lt {K : Fg} {H : Hp} {p : Addr} : ∀ {b : Nat} {ds : List D} {vs : List V}, RpB K H p b ds vs → b < ds.length
  | _, _, _, .here r => Nat.succ_pos _
  | _, _, _, .there _ r => Nat.succ_lt_succ (RpB.lt r)
theorem RpB.get {K : Fg} {H : Hp} {p : Addr} : ∀ {b : Nat} {ds : List D} {vs : List V} {i : Nat} {d : D}, RpB K H p b ds vs → ds[i]? = some d → (i = b ∧ vs[i]? = some (.ref p)) ∨ (i ≠ b ∧ ∃ v, vs[i]? = some v ∧ Rp K H d v)
  | _, _, _, 0, d, .here r, e => .inl ⟨rfl, rfl⟩
  | _, _, _, i + 1, d, .here r, e => .inr ⟨by omega, by
    obtain ⟨v, h1, h2⟩ := r.get (i := i) (by simpa using e)
    exact ⟨v, by simpa using h1, h2⟩⟩
  | _, _, _, 0, d, .there h r, e => by
    simp at e; subst e
    exact .inr ⟨by omega, _, rfl, h⟩
  | _, _, _, i + 1, d, .there h r, e => by
    rcases RpB.get r (i := i) (by simpa using e) with ⟨rfl, h1⟩ | ⟨h0, v, h1, h2⟩
    · exact .inl ⟨rfl, by simpa using h1⟩
    · exact .inr ⟨by omega, v, by simpa using h1, h2⟩
theorem RpB.at_ {K : Fg} {H : Hp} {p : Addr} : ∀ {b : Nat} {ds : List D} {vs : List V}, RpB K H p b ds vs → vs[b]? = some (.ref p)
  | _, _, _, .here r => rfl
  | _, _, _, .there h r => by simpa using RpB.at_ r
def startB (n b : Nat) (l : List D) (ds : List D) : Ev := (startE n ds).set b (.bo l)
def finB (b : Nat) : Out → RB
  | .rtB r ρ => match ρ[b]? with
    | some (.bo l) => .ok r l
    | _ => .bad
  | .nx ρ => match ρ[b]? with
    | some (.bo l) => .ok (.sh .none) l
    | _ => .bad
  | _ => .bad
def runB (np n b : Nat) (F : Ev → Out) : List D → List D → RB := fun l ds => if ds.length = np ∧ b < np then finB b (F (startB n b l ds)) else .bad
def spB (K : Fg) (n b : Nat) (m : List D → List D → RB) : Sp := fun vs H Q _ => vs.length = n ∧ ∃ Hs l us p ds, Same Hs H ∧ Hs p = none ∧ H p = some (.lst us) ∧ RpL K Hs l us ∧ RpB K Hs p b ds vs ∧ (match m l ds with
  | .ok r l' => ∀ Hs' H' v us', Same Hs Hs' → Same Hs' H' → (∀ a o, a ≠ p → H a = some o → H' a = some o) → (∀ a o, Hs' a = some o → Hs a = none → H a = none) → Hs' p = none → H' p = some (.lst us') → RpL K Hs' l' us' → RpO K H Hs' H' r v → Q v H'
  | .bad => False)
theorem startB_rel {K : Fg} {N : List Str} {Hs H : Hp} {l : List D} {us : List V} {p : Addr} {b : Nat} {ds : List D} {vs : List V} (hl : vs.length ≤ N.length) (hs : Same Hs H) (h0 : Hs p = none) (h1 : H p = some (.lst us)) (hl2 : RpL K Hs l us) (r : RpB K Hs p b ds vs) :
    RelE K Hs ⟨fun a => if a = p then none else H a, some p⟩ Hs H (L2.start N vs) (startB N.length b l ds) := by
  have hlen := r.length
  have hb := r.lt
  have sl : ∀ (i : Nat) (s : SD), (startB N.length b l ds)[i]? = some s → (i = b ∧ s = .bo l) ∨ (i ≠ b ∧ i < ds.length ∧ ∃ d, s = .sh d ∧ ds[i]? = some d) ∨ (i ≠ b ∧ s = .no) := fun i s hi => by
    unfold startB at hi
    rcases set_get hi with ⟨rfl, _, rfl⟩ | ⟨hne, hi⟩
    · exact .inl ⟨rfl, rfl⟩
    · right
      unfold startE at hi
      by_cases h : i < ds.length
      · rw [List.getElem?_append_left (by simpa using h), List.getElem?_map] at hi
        obtain ⟨d, e1, rfl⟩ := Option.map_eq_some_iff.mp hi
        exact .inl ⟨hne, h, d, rfl, e1⟩
      · rw [List.getElem?_append_right (by simpa using h), List.getElem?_replicate] at hi
        split at hi
        · cases hi; exact .inr ⟨hne, rfl⟩
        · cases hi
  have vsat : ∀ i v, vs[i]? = some v → (L2.start N vs)[i]? = some (some v) := fun i v h => by
    unfold L2.start
    have : i < vs.length := (List.getElem?_eq_some_iff.mp h).1
    rw [List.getElem?_append_left (by simpa using this), List.getElem?_map, h]; rfl
  refine ⟨hs, fun a u e => ?_, .refl _, fun a o e n => (by rw [e] at n; cases n), ?_, fun i s hi => ?_, fun a ha => ?_, fun i j l m a b' => ?_, fun i j l m q a _ _ _ => ?_⟩
  · by_cases h : a = p
    · have e' : (if a = p then none else H a) = some u := e
      rw [if_pos h] at e'; cases e'
    · have e' : (if a = p then none else H a) = some u := e
      rw [if_neg h] at e'; exact e'
  · unfold startB
    simp [L2.start, startE, hlen]
  · rcases sl i s hi with ⟨rfl, rfl⟩ | ⟨hne, hlt, d, rfl, hd⟩ | ⟨_, rfl⟩
    · exact ⟨p, us, vsat _ _ r.at_, rfl, h1, hl2⟩
    · rcases r.get hd with ⟨e, _⟩ | ⟨_, v, h2, h3⟩
      · exact (hne e).elim
      · exact ⟨v, vsat _ _ h2, h3⟩
    · trivial
  · cases ha
    exact ⟨if_pos rfl, h0, by rw [h1]; simp⟩
  · rcases sl i _ a with ⟨rfl, _⟩ | ⟨_, _, d, e, _⟩ | ⟨_, e⟩
    · rcases sl j _ b' with ⟨rfl, _⟩ | ⟨_, _, d, e, _⟩ | ⟨_, e⟩
      · rfl
      · cases e
      · cases e
    · cases e
    · cases e
  · rcases sl i _ a with ⟨_, e⟩ | ⟨_, _, d, e, _⟩ | ⟨_, e⟩ <;> cases e
section
variable {P : Program} {w : World} {K : Fg} {mg : Str → Option Value} {base : Heap}
structure BOk (P : Program) (w : World) (K : Fg) (mg : Str → Option Value) (base : Heap) (k : Nat) (f : Addr) (fd : FuncData) (ps : List Str) (b : Nat) (m : List D → List D → RB) : Prop where
  fn : FnG P w K mg base k f fd ps (spB K ps.length b m)
  ar : ∀ l ds, m l ds ≠ .bad → ds.length = ps.length ∧ b < ps.length
theorem RelE.endB {S Hs' H' : Hp} {G : Gx} {σ : Sg} {ρ : Ev} {b : Nat} {l : List D} (r : RelE K S G Hs' H' σ ρ) (h : ρ[b]? = some (.bo l)) : ∃ p us, G.b = some p ∧ Hs' p = none ∧ H' p = some (.lst us) ∧ RpL K Hs' l us := by
  obtain ⟨p, us, e1, e2, e3, e4⟩ := r.lent h
  exact ⟨p, us, e2, (r.bor p e2).2.1, e3, e4⟩
theorem defB_ok {x qual : Str} {st : Stmt} {f : Addr} {fd : FuncData} {N ps : List Str} {k b : Nat} {F : Ev → Out} (Fn : Fun K x qual st f fd) (S : FnScope N ps (defScope st))
    (body : ∀ (cdv : Value) (A : Around) (outer : List Env) (s : Shared) (H : Hp) (E : XK), Inn (cxOf (L2.CX P w) P w K mg base N qual (defScope st) f cdv A outer s H E) (fun cls d _ H => E cls d H) k →
      VSs (cxOf (L2.CX P w) P w K mg base N qual (defScope st) f cdv A outer s H E) (fun cls d _ H => E cls d H) (defBody st) F) :
    BOk P w K mg base (k + 1) f fd ps b (runB ps.length N.length b F) := by
  refine ⟨?_, fun l ds h => ?_⟩
  · obtain ⟨oc, od, kV, doc, pm, an, cdv, ct, osl, rfl, lk, hcd⟩ := Fn.ex
    refine fn_ofG lk hcd S (fun vs H Q E h => h.1) fun A outer s H vs Q E hr hgd h => ⟨_, body cdv A outer s H E ⟨hr, hgd, takes_of rfl rfl rfl rfl, passes_of rfl⟩, ?_⟩
    obtain ⟨hl, Hs, l, us, p, ds, hs, h0, h1, h2, hds, h⟩ := h
    have rel := startB_rel (N := N) (by rw [hl]; exact VL.FnScope.le S) hs h0 h1 h2 hds
    refine ⟨Hs, ⟨fun a => if a = p then none else H a, some p⟩, Hs, _, rel, ?_⟩
    unfold runB at h
    rw [if_pos ⟨hds.length.trans hl, by rw [← hl, ← hds.length]; exact hds.lt⟩] at h
    have fin : ∀ (r : SD) (ρ : Ev) (l' : List D) Hs' H' σ' v, ρ[b]? = some (.bo l') → Same Hs Hs' → RelE K Hs ⟨fun a => if a = p then none else H a, some p⟩ Hs' H' σ' ρ → RpO K (fun a => if a = p then none else H a) Hs' H' r v → (∀ l, r = .ow l → v ≠ .ref p) →
        (∀ Hs' H' v us', Same Hs Hs' → Same Hs' H' → (∀ a o, a ≠ p → H a = some o → H' a = some o) → (∀ a o, Hs' a = some o → Hs a = none → H a = none) → Hs' p = none → H' p = some (.lst us') → RpL K Hs' l' us' → RpO K H Hs' H' r v → Q v H') → Q v H' := by
      intro r ρ l' Hs' H' σ' v hb g rl hv hne q
      obtain ⟨p', us', e1, e2, e3, e4⟩ := rl.endB hb
      cases e1
      refine q Hs' H' v us' g rl.sub (fun a o hn e => rl.old a o ((if_neg hn).trans e)) (fun a o e n => ?_) e2 e3 e4 ?_
      · have := rl.new a o e n
        by_cases z : a = p
        · subst z; rw [e2] at e; cases e
        · exact (if_neg z).symm.trans this
      · cases r with
        | no => exact hv
        | sh d => exact hv
        | bo l => exact hv
        | ow l =>
          obtain ⟨q', ws, rfl, f1, f2, f3, f4⟩ := hv
          refine ⟨q', ws, rfl, ?_, f2, f3, f4⟩
          have hn : q' ≠ p := fun z => hne l rfl (by rw [z])
          exact (if_neg hn).symm.trans f1
    show OutOk K mg (fun cls d _ H => E cls d H) Hs _ Hs _ (F (startB N.length b l ds))
    cases z : F (startB N.length b l ds) with
    | nx ρ =>
      rw [z] at h
      unfold finB at h
      simp only at h
      cases y : ρ[b]? with
      | none => rw [y] at h; exact h.elim
      | some s =>
        rw [y] at h
        cases s with
        | bo l' => exact fun Hs' H' σ' g r => fin (.sh .none) ρ l' Hs' H' σ' .non y g r .non (fun l z => by cases z) h
        | no => exact h.elim
        | sh _ => exact h.elim
        | ow _ => exact h.elim
    | rtB r0 ρ =>
      rw [z] at h
      unfold finB at h
      simp only at h
      cases y : ρ[b]? with
      | none => rw [y] at h; exact h.elim
      | some s =>
        rw [y] at h
        cases s with
        | bo l' => exact fun Hs' H' v σ' g r hv hne => fin r0 ρ l' Hs' H' σ' v y g r hv (fun l z => hne l z p rfl) h
        | no => exact h.elim
        | sh _ => exact h.elim
        | ow _ => exact h.elim
    | rt r => rw [z] at h; exact h.elim
    | ex x ρ => rw [z] at h; exact h.elim
    | bk ρ => rw [z] at h; exact h.elim
    | ct ρ => rw [z] at h; exact h.elim
    | bad => rw [z] at h; exact h.elim
  · unfold runB at h
    split at h
    · assumption
    · exact (h rfl).elim
structure ClB (P : Program) (w : World) (K : Fg) (mg : Str → Option Value) (base : Heap) (k : Nat) (x : Str) (ps : List Str) (b : Nat) (m : List D → List D → RB) : Prop where
  ex : ∃ f fd, BOk P w K mg base k f fd ps b m ∧ mg x = some (.ref f) ∧ PySem.W.keepIn K (.ref f) = true ∧ Binds K fd ps []
theorem clB_ok {x : Str} {st : Stmt} {N ps : List Str} {k b : Nat} {F : Ev → Out} (Fn : Df K mg x st ps) (S : FnScope N ps (defScope st))
    (body : ∀ (f : Addr) (cdv : Value) (A : Around) (outer : List Env) (s : Shared) (H : Hp) (E : XK), Inn (cxOf (L2.CX P w) P w K mg base N x (defScope st) f cdv A outer s H E) (fun cls d _ H => E cls d H) k →
      VSs (cxOf (L2.CX P w) P w K mg base N x (defScope st) f cdv A outer s H E) (fun cls d _ H => E cls d H) (defBody st) F) :
    ClB P w K mg base (k + 1) x ps b (runB ps.length N.length b F) := by
  obtain ⟨f, fd, h1, h2, h3⟩ := Fn.ex
  exact ⟨f, fd, defB_ok h1 S fun cdv A outer s H E I => body f cdv A outer s H E I, h2, h1.kp, h3⟩
end
/-! ### calls that lend a list -/
def tXB (K : Fg) (b i : Nat) (f : Ev → RX (List D)) : TA := fun σ H Q => ∃ S G Hs ρ, RelE K S G Hs H σ ρ ∧ PostX K S G σ Hs (f ρ) (fun ds _ Hs' H' => ∀ vs p, σ[i]? = some (some (.ref p)) → RpB K Hs' p b ds vs → Q vs H')
def XB (X : Cx) (b i : Nat) (es : List Expr) (f : Ev → RX (List D)) : Prop := PA X es (tXB X.K b i f)
def xHere (i : Nat) (f : Ev → RX (List D)) : Ev → RX (List D) := fun ρ => match lstAt ρ i with
  | some _ => (f ρ).bind fun ds ρ => .ok (.none :: ds) ρ
  | none => .bad
def xCallB (m : List D → List D → RB) (i : Nat) (f : Ev → RX (List D)) : Ev → RX D := fun ρ => (f ρ).bind fun ds ρ => match lstAt ρ i with
  | some (l, k) => match m l ds with
    | .ok r l' => ofX (toD r) (ρ.set i (mkL k l'))
    | .bad => .bad
  | none => .bad
def xCallBO (m : List D → List D → RB) (i : Nat) (f : Ev → RX (List D)) : Ev → RX (List D) := fun ρ => (f ρ).bind fun ds ρ => match lstAt ρ i with
  | some (l, k) => match m l ds with
    | .ok r l' => ofX (toL r) (ρ.set i (mkL k l'))
    | .bad => .bad
  | none => .bad
section
variable {X : Cx} {W : WX} {e a b c : Expr} {es : List Expr} {pos p : Pos} {f g : Ev → RX D} {fl : Ev → RX (List D)} {x : Str}
theorem xb_here {i : Nat} {y : Str} {py : Pos} (h : PE X (.Name y py) (tVar i)) (hr : XA X es fl) (hs : starEach (.Name y py :: es) X.env = (false, eval (.Name y py) X.env) :: starEach es X.env := by rfl) : XB X 0 i (.Name y py :: es) (xHere i fl) := PA.imp (pa_cons h hr hs) fun σ H Q ⟨S, G, Hs, ρ, r, p⟩ => by
  unfold xHere at p
  cases z : lstAt ρ i with
  | none => rw [z] at p; exact p.elim
  | some lb =>
    rw [z] at p
    obtain ⟨l, k⟩ := lb
    obtain ⟨q, vs, o1, _, _, _⟩ := r.lst z
    refine ⟨_, o1, S, G, Hs, ρ, r, (PostX.bind (show PostX X.K S G σ Hs ((fl ρ).bind _) _ from p)).imp fun ds ρ1 Hs1 H1 g1 r1 q1 vs hv => ?_⟩
    exact q1.now r1 _ q o1 (.here hv)
theorem xb_there {n i : Nat} (ha : XE X e f) (hr : XB X n i es fl) (hs : starEach (e :: es) X.env = (false, eval e X.env) :: starEach es X.env := by rfl) : XB X (n + 1) i (e :: es) (xCons f fl) := PA.imp (pa_cons ha hr hs) fun σ H Q ⟨S, G, Hs, ρ, r, p⟩ => by
  refine ⟨S, G, Hs, ρ, r, (PostX.bind p).imp fun x ρ1 Hs1 H1 g1 r1 q u hu => ?_⟩
  refine ⟨S, G, Hs1, ρ1, r1, (PostX.bind q).imp fun xs ρ2 Hs2 H2 g2 r2 q2 us p hp hus => ?_⟩
  exact q2.now r2 (u :: us) p hp (.there (hu.mono g2) hus)
theorem RelE.called {K : Fg} {S Hs H Hs' H' : Hp} {G : Gx} {σ : Sg} {ρ : Ev} {i : Nat} {l l' : List D} {k : Bool} {a : Addr} {us' : List V} (r : RelE K S G Hs H σ ρ) (z : lstAt ρ i = some (l, k)) (ha : σ[i]? = some (some (.ref a)))
    (c1 : Same Hs Hs') (c2 : Same Hs' H') (c3 : ∀ b o, b ≠ a → H b = some o → H' b = some o) (c4 : ∀ b o, Hs' b = some o → Hs b = none → H b = none) (c5 : Hs' a = none) (c6 : H' a = some (.lst us')) (c7 : RpL K Hs' l' us') :
    RelE K S G Hs' H' σ (ρ.set i (mkL k l')) := by
  have r1 := r.wrL z ha (l' := []) (ws := []) .nil
  have e : Ext Hs (upd H a (.lst [])) Hs' (upd H' a (.lst [])) := by
    refine ⟨fun b u q => ?_, fun b u q => ?_, c1, fun b o q n => ?_⟩
    · rw [upd_ne (ne_of_none q c5)]; exact c2 b u q
    · by_cases hb : b = a
      · subst hb; rw [upd_same] at q ⊢; exact q
      · rw [upd_ne hb] at q ⊢; exact c3 b u hb q
    · rw [upd_ne (ne_of_none q c5)]; exact c4 b o q n
  have r2 := r1.step e
  have hi : i < ρ.length := by
    rcases lstAt_cases z with ⟨_, h⟩ | ⟨_, h⟩ <;> exact (List.getElem?_eq_some_iff.mp h).1
  have z2 : lstAt (ρ.set i (mkL k [])) i = some ([], k) := by
    unfold lstAt
    rw [List.getElem?_set_self hi]
    cases k <;> rfl
  have r3 := r2.wrL z2 ha c7
  rw [List.set_set] at r3
  have : upd (upd H' a (.lst [])) a (.lst us') = H' := by
    funext b
    by_cases hb : b = a
    · subst hb; rw [upd_same, c6]
    · rw [upd_ne hb, upd_ne hb]
  rwa [this] at r3
theorem simX_callB {K : Fg} {m : List D → List D → RB} {n bb i : Nat} {E : Sg → XK} (vn : ∀ l ds, m l ds ≠ .bad → ds.length = n ∧ bb < n) : ∀ σ H Q, tX K (xCallB m i fl) σ H Q → tCallS (spB K n bb m) E (tXB K bb i fl) σ H Q := fun σ H Q ⟨S, G, Hs, ρ, r, p⟩ => by
  refine ⟨S, G, Hs, ρ, r, (PostX.bind p).imp fun ds ρ1 Hs1 H1 g1 r1 q vs a ha hv => ?_⟩
  cases z : lstAt ρ1 i with
  | none => simp only [z] at q; exact q.elim
  | some lb =>
    obtain ⟨l, k⟩ := lb
    simp only [z] at q
    obtain ⟨a', us, o1, o2, o3, o4⟩ := r1.lst z
    rw [ha] at o1; cases o1
    have nb : m l ds ≠ .bad := fun y => by simp only [y] at q; exact q
    refine ⟨by rw [← hv.length]; exact (vn l ds nb).1, Hs1, l, us, a, ds, r1.sub, o2, o3, o4, hv, ?_⟩
    cases y : m l ds with
    | bad => exact nb y
    | ok s l' =>
      simp only [y] at q ⊢
      intro Hs' H' v us' c1 c2 c3 c4 c5 c6 c7 c8
      obtain ⟨d, w, q3⟩ := ofX_post q
      cases s with
      | no => cases w
      | bo _ => cases w
      | sh d' =>
        cases w
        exact q3 Hs' H' c1 (r1.called z ha c1 c2 c3 c4 c5 c6 c7) v c8
      | ow l2 =>
        cases w
        obtain ⟨q0, ws, rfl, f1, f2, f3, f4⟩ := c8
        have hn : a ≠ q0 := fun z => by subst z; rw [o3] at f1; cases f1
        have g : Same Hs' (upd Hs' q0 (.lst ws)) := fun b u e => by rw [upd_ne (ne_of_none e f2)]; exact e
        refine q3 (upd Hs' q0 (.lst ws)) H' (c1.trans g) (r1.called z ha (c1.trans g) (fun b u e => ?_) c3 (fun b o e nn => ?_) ?_ c6 (c7.mono g)) _ (.lst (.inl (.inl upd_same)) (f4.mono g))
        · by_cases hb : b = q0
          · subst hb; rw [upd_same] at e; cases e; exact f3
          · rw [upd_ne hb] at e; exact c2 b u e
        · by_cases hb : b = q0
          · subst hb; exact f1
          · rw [upd_ne hb] at e; exact c4 b o e nn
        · rw [upd_ne hn]; exact c5
theorem simX_callBO {K : Fg} {m : List D → List D → RB} {n bb i : Nat} {E : Sg → XK} (vn : ∀ l ds, m l ds ≠ .bad → ds.length = n ∧ bb < n) : ∀ σ H Q, tXO K (xCallBO m i fl) σ H Q → tCallS (spB K n bb m) E (tXB K bb i fl) σ H Q := fun σ H Q ⟨S, G, Hs, ρ, r, p⟩ => by
  refine ⟨S, G, Hs, ρ, r, (PostX.bind p).imp fun ds ρ1 Hs1 H1 g1 r1 q vs a ha hv => ?_⟩
  cases z : lstAt ρ1 i with
  | none => simp only [z] at q; exact q.elim
  | some lb =>
    obtain ⟨l, k⟩ := lb
    simp only [z] at q
    obtain ⟨a', us, o1, o2, o3, o4⟩ := r1.lst z
    rw [ha] at o1; cases o1
    have nb : m l ds ≠ .bad := fun y => by simp only [y] at q; exact q
    refine ⟨by rw [← hv.length]; exact (vn l ds nb).1, Hs1, l, us, a, ds, r1.sub, o2, o3, o4, hv, ?_⟩
    cases y : m l ds with
    | bad => exact nb y
    | ok s l' =>
      simp only [y] at q ⊢
      intro Hs' H' v us' c1 c2 c3 c4 c5 c6 c7 c8
      obtain ⟨d, w, q3⟩ := ofX_post q
      cases s with
      | no => cases w
      | bo _ => cases w
      | sh d' => cases w
      | ow l2 =>
        cases w
        obtain ⟨q0, ws, rfl, f1, f2, f3, f4⟩ := c8
        have hn : a ≠ q0 := fun z => by subst z; rw [o3] at f1; cases f1
        refine q3 Hs' (fun b => if b = q0 then none else H' b) c1 (r1.called z ha c1 (fun b u e => ?_) (fun b o hb e => ?_) c4 c5 ((if_neg hn).trans c6) c7) Hs' H' q0 ws ⟨c2, fun b u e => ?_, .refl _, fun b o e nn => by rw [e] at nn; cases nn⟩ (if_pos rfl) f2 f3 f4
        · exact (if_neg (ne_of_none e f2)).trans (c2 b u e)
        · exact (if_neg (ne_of_none e f1)).trans (c3 b o hb e)
        · by_cases hb : b = q0
          · have e' : (if b = q0 then none else H' b) = some u := e
            rw [if_pos hb] at e'; cases e'
          · have e' : (if b = q0 then none else H' b) = some u := e
            rw [if_neg hb] at e'; exact e'
theorem x_callB {k j n i : Nat} {ps : List Str} {m : List D → List D → RB} (C : ClB X.prog X.w X.K X.mg X.base k x ps n m) (hr : Room j X.A) (hgd : X.A.guards = some []) (tk : Takes X W) (ha : XB X n i (e :: es) fl) (hg : Gl X x := by rfl) (hj : k ≤ j := by decide)
    (hdb : (x == ("__debug__" : Str)) = false := by decide) (he : starEach (e :: es) X.env = (false, eval e X.env) :: starEach es X.env := by rfl) (hpl : (backTo pos (starEach es X.env)).any (·.1) = false := by rfl) :
    XE X (.Call (.Name x p) (e :: es) [] pos) (xCallB m i fl) := by
  obtain ⟨f, fd, h1, h2, h3, h4⟩ := C.ex
  exact PE.imp (pe_callG h1.fn (hr.mono hj) hgd hg h2 h3 h4 (passAt tk) ha hdb he hpl) (simX_callB h1.ar)
theorem x_callBO {k j n i : Nat} {ps : List Str} {m : List D → List D → RB} (C : ClB X.prog X.w X.K X.mg X.base k x ps n m) (hr : Room j X.A) (hgd : X.A.guards = some []) (tk : Takes X W) (ha : XB X n i (e :: es) fl) (hg : Gl X x := by rfl) (hj : k ≤ j := by decide)
    (hdb : (x == ("__debug__" : Str)) = false := by decide) (he : starEach (e :: es) X.env = (false, eval e X.env) :: starEach es X.env := by rfl) (hpl : (backTo pos (starEach es X.env)).any (·.1) = false := by rfl) :
    XO X (.Call (.Name x p) (e :: es) [] pos) (xCallBO m i fl) := by
  obtain ⟨f, fd, h1, h2, h3, h4⟩ := C.ex
  exact PE.imp (pe_callG h1.fn (hr.mono hj) hgd hg h2 h3 h4 (passAt tk) ha hdb he hpl) (simX_callBO h1.ar)
/-! calls of other defs -/
theorem simX_call {K : Fg} {mg : Str → Option Value} {m : List D → R SD} {n : Nat} {E : Sg → XK} (vn : ∀ (ds : List D), m ds ≠ .bad → ds.length = n) : ∀ σ H Q, tX K (xCall m fl) σ H Q → tCallS (spD K mg n m) E (tXA K fl) σ H Q := fun σ H Q ⟨S, G, Hs, ρ, r, p⟩ => by
  refine ⟨S, G, Hs, ρ, r, (PostX.bind p).imp fun ds ρ1 Hs1 H1 g1 r1 q vs hv => ?_⟩
  have nb : m ds ≠ .bad := fun y => by simp only [y] at q; exact q
  refine ⟨by rw [← hv.length]; exact vn ds nb, Hs1, ds, r1.sub, hv, ?_⟩
  cases y : m ds with
  | bad => exact nb y
  | ex x => simp only [y] at q; exact q.elim
  | ok s =>
    simp only [y] at q ⊢
    intro Hs' H' v e' hr
    obtain ⟨d, w, q3⟩ := ofX_post q
    cases s with
    | no => cases w
    | bo l => cases w
    | sh d => cases w; exact q3 Hs' H' e'.grow (r1.step e') v hr
    | ow l =>
      cases w
      obtain ⟨p, us, rfl, h0, h1, h2, h3⟩ := hr
      have g : Same Hs' (upd Hs' p (.lst us)) := fun b u z => by rw [upd_ne (ne_of_none z h1)]; exact z
      have e2 := e'.frz h0 h2 h1
      exact q3 _ _ e2.grow (r1.step e2) _ (.lst (.inl (.inl upd_same)) (h3.mono g))
theorem simX_callO {K : Fg} {mg : Str → Option Value} {m : List D → R SD} {n : Nat} {E : Sg → XK} (vn : ∀ (ds : List D), m ds ≠ .bad → ds.length = n) : ∀ σ H Q, tXO K (xCallO m fl) σ H Q → tCallS (spD K mg n m) E (tXA K fl) σ H Q := fun σ H Q ⟨S, G, Hs, ρ, r, p⟩ => by
  refine ⟨S, G, Hs, ρ, r, (PostX.bind p).imp fun ds ρ1 Hs1 H1 g1 r1 q vs hv => ?_⟩
  have nb : m ds ≠ .bad := fun y => by simp only [y] at q; exact q
  refine ⟨by rw [← hv.length]; exact vn ds nb, Hs1, ds, r1.sub, hv, ?_⟩
  cases y : m ds with
  | bad => exact nb y
  | ex x => simp only [y] at q; exact q.elim
  | ok s =>
    simp only [y] at q ⊢
    intro Hs' H' v e' hr
    obtain ⟨d, w, q3⟩ := ofX_post q
    cases s with
    | no => cases w
    | bo l => cases w
    | sh d => cases w
    | ow l =>
      cases w
      obtain ⟨p, us, rfl, h0, h1, h2, h3⟩ := hr
      exact q3 Hs1 H1 (.refl _) r1 Hs' H' p us e' h0 h1 h2 h3
theorem x_calC {k j : Nat} {ps : List Str} {m : List D → R SD} (C : Cl X.prog X.w X.K X.mg X.base k x ps m) (hr : Room j X.A) (hgd : X.A.guards = some []) (tk : Takes X W) (ha : XA X (e :: es) fl) (hg : Gl X x := by rfl) (hj : k ≤ j := by decide)
    (hdb : (x == ("__debug__" : Str)) = false := by decide) (he : starEach (e :: es) X.env = (false, eval e X.env) :: starEach es X.env := by rfl) (hpl : (backTo pos (starEach es X.env)).any (·.1) = false := by rfl) :
    XE X (.Call (.Name x p) (e :: es) [] pos) (xCall m fl) := by
  obtain ⟨f, fd, h1, h2, h3, h4⟩ := C.ex
  exact PE.imp (pe_callG h1.fn (hr.mono hj) hgd hg h2 h3 h4 (passAt tk) ha hdb he hpl) (simX_call h1.ar)
theorem x_calCO {k j : Nat} {ps : List Str} {m : List D → R SD} (C : Cl X.prog X.w X.K X.mg X.base k x ps m) (hr : Room j X.A) (hgd : X.A.guards = some []) (tk : Takes X W) (ha : XA X (e :: es) fl) (hg : Gl X x := by rfl) (hj : k ≤ j := by decide)
    (hdb : (x == ("__debug__" : Str)) = false := by decide) (he : starEach (e :: es) X.env = (false, eval e X.env) :: starEach es X.env := by rfl) (hpl : (backTo pos (starEach es X.env)).any (·.1) = false := by rfl) :
    XO X (.Call (.Name x p) (e :: es) [] pos) (xCallO m fl) := by
  obtain ⟨f, fd, h1, h2, h3, h4⟩ := C.ex
  exact PE.imp (pe_callG h1.fn (hr.mono hj) hgd hg h2 h3 h4 (passAt tk) ha hdb he hpl) (simX_callO h1.ar)
end
end VL

set_option Elab.async false
set_option linter.all false
set_option maxRecDepth 100000
set_option autoImplicit false
namespace VL
open PySem PySem.Spec PyProof.Rows L2

/-! ### comprehensions whose items change a list -/
def Gx.plus (G : Gx) (D : Addr) (o : HO) : Gx := ⟨upd G.h D o, G.b⟩
section
variable {K : Fg} {S Hs H : Hp} {G : Gx} {σ : Sg} {ρ : Ev} {D : Addr} {o : HO}
theorem RelE.plus (r : RelE K S G Hs H σ ρ) (h : H D = none) (o : HO) : RelE K S (G.plus D o) Hs (upd H D o) σ ρ := by
  have hs : Hs D = none := r.sub.free h
  refine ⟨fun b u e => ?_, fun b u e => ?_, r.ext, fun p u e n => ?_, r.len, fun i s hi => ?_, fun p hp => ?_, r.one, r.dis⟩
  · rw [upd_ne (ne_of_none e hs)]; exact r.sub b u e
  · have e' : upd G.h D o b = some u := e
    by_cases hb : b = D
    · subst hb; rw [upd_same] at e' ⊢; exact e'
    · rw [upd_ne hb] at e' ⊢; exact r.old b u e'
  · show upd G.h D o p = none
    rw [upd_ne (ne_of_none e hs)]; exact r.new p u e n
  · have q := r.slot i s hi
    cases s with
    | no => trivial
    | sh d => exact q
    | ow l =>
      obtain ⟨p, vs, e1, e2, e3, e4, e5, e6⟩ := q
      have hn : p ≠ D := fun z => by subst z; rw [h] at e4; cases e4
      exact ⟨p, vs, e1, by show upd G.h D o p = none; rw [upd_ne hn]; exact e2, e3, by rw [upd_ne hn]; exact e4, e5, e6⟩
    | bo l =>
      obtain ⟨p, vs, e1, e2, e3, e4⟩ := q
      have hn : p ≠ D := fun z => by subst z; rw [h] at e3; cases e3
      exact ⟨p, vs, e1, e2, by rw [upd_ne hn]; exact e3, e4⟩
  · obtain ⟨h1, h2, h3⟩ := r.bor p hp
    have hn : p ≠ D := fun z => by subst z; exact h3 h
    exact ⟨by show upd G.h D o p = none; rw [upd_ne hn]; exact h1, h2, by rw [upd_ne hn]; exact h3⟩
theorem RelE.replus (r : RelE K S (G.plus D o) Hs H σ ρ) (hs : Hs D = none) (o' : HO) : RelE K S (G.plus D o') Hs (upd H D o') σ ρ := by
  have hG : ∀ {p : Addr}, (G.plus D o).h p = none → p ≠ D ∧ (G.plus D o').h p = none := fun {p} e => by
    have e' : upd G.h D o p = none := e
    by_cases hp : p = D
    · subst hp; rw [upd_same] at e'; cases e'
    · rw [upd_ne hp] at e'
      exact ⟨hp, by show upd G.h D o' p = none; rw [upd_ne hp]; exact e'⟩
  refine ⟨fun b u e => ?_, fun b u e => ?_, r.ext, fun p u e n => (hG (r.new p u e n)).2, r.len, fun i s hi => ?_, fun p hp => ?_, r.one, r.dis⟩
  · rw [upd_ne (ne_of_none e hs)]; exact r.sub b u e
  · have e' : upd G.h D o' b = some u := e
    by_cases hb : b = D
    · subst hb; rw [upd_same] at e' ⊢; exact e'
    · rw [upd_ne hb] at e' ⊢
      exact r.old b u (by show upd G.h D o b = some u; rw [upd_ne hb]; exact e')
  · have q := r.slot i s hi
    cases s with
    | no => trivial
    | sh d => exact q
    | ow l =>
      obtain ⟨p, vs, e1, e2, e3, e4, e5, e6⟩ := q
      obtain ⟨hn, h2⟩ := hG e2
      exact ⟨p, vs, e1, h2, e3, by rw [upd_ne hn]; exact e4, e5, e6⟩
    | bo l =>
      obtain ⟨p, vs, e1, e2, e3, e4⟩ := q
      obtain ⟨hn, _⟩ := hG (r.bor p e2).1
      exact ⟨p, vs, e1, e2, by rw [upd_ne hn]; exact e3, e4⟩
  · obtain ⟨h1, h2, h3⟩ := r.bor p hp
    obtain ⟨hn, h4⟩ := hG h1
    exact ⟨h4, h2, by rw [upd_ne hn]; exact h3⟩
theorem RelE.minus (r : RelE K S (G.plus D o) Hs H σ ρ) (hg : G.h D = none) (hs : Hs D = none) : RelE K S G Hs (fun b => if b = D then none else H b) σ ρ := by
  have hG : ∀ {p : Addr}, (G.plus D o).h p = none → p ≠ D ∧ G.h p = none := fun {p} e => by
    have e' : upd G.h D o p = none := e
    by_cases hp : p = D
    · subst hp; rw [upd_same] at e'; cases e'
    · rw [upd_ne hp] at e'
      exact ⟨hp, e'⟩
  refine ⟨fun b u e => ?_, fun b u e => ?_, r.ext, fun p u e n => (hG (r.new p u e n)).2, r.len, fun i s hi => ?_, fun p hp => ?_, r.one, r.dis⟩
  · exact (if_neg (ne_of_none e hs)).trans (r.sub b u e)
  · have hb := ne_of_none e hg
    exact (if_neg hb).trans (r.old b u (by show upd G.h D o b = some u; rw [upd_ne hb]; exact e))
  · have q := r.slot i s hi
    cases s with
    | no => trivial
    | sh d => exact q
    | ow l =>
      obtain ⟨p, vs, e1, e2, e3, e4, e5, e6⟩ := q
      obtain ⟨hn, h2⟩ := hG e2
      exact ⟨p, vs, e1, h2, e3, (if_neg hn).trans e4, e5, e6⟩
    | bo l =>
      obtain ⟨p, vs, e1, e2, e3, e4⟩ := q
      obtain ⟨hn, _⟩ := hG (r.bor p e2).1
      exact ⟨p, vs, e1, e2, (if_neg hn).trans e3, e4⟩
  · obtain ⟨h1, h2, h3⟩ := r.bor p hp
    obtain ⟨hn, h4⟩ := hG h1
    exact ⟨h4, h2, fun z => h3 ((if_neg hn).symm.trans z)⟩
theorem wipeE_get {j : Nat} {r : SD} : ∀ {vs : List Nat}, (wipeE ρ vs)[j]? = some r → r = .no ∨ (j ∉ vs ∧ ρ[j]? = some r)
  | [], h => .inr ⟨by simp, h⟩
  | v :: vs, h => by
    unfold wipeE at h
    rcases set_get h with ⟨rfl, _, rfl⟩ | ⟨hj, h⟩
    · exact .inl rfl
    · rcases wipeE_get h with h | ⟨h1, h2⟩
      · exact .inl h
      · exact .inr ⟨by simp [hj, h1], h2⟩
theorem wipeE_length : ∀ {vs : List Nat}, (wipeE ρ vs).length = ρ.length
  | [] => rfl
  | v :: vs => by unfold wipeE; rw [List.length_set]; exact wipeE_length
theorem RelE.unwipe {vs : List Nat} (r : RelE K S G Hs H (L2.wipe σ vs) (wipeE ρ vs)) : RelE K S G Hs H σ (wipeE ρ vs) := by
  have hlen : ρ.length = σ.length := by
    have := r.len
    rwa [wipeE_length, wipe_length] at this
  have key : ∀ i s, (wipeE ρ vs)[i]? = some s → s = SD.no ∨ (L2.wipe σ vs)[i]? = σ[i]? := fun i s h => by
    rcases wipeE_get h with h1 | ⟨h1, h2⟩
    · exact .inl h1
    · right
      rw [wipe_get (by rw [← hlen]; exact (List.getElem?_eq_some_iff.mp h2).1), if_neg h1]
  refine ⟨r.sub, r.old, r.ext, r.new, by rw [wipeE_length, hlen], fun i s hi => ?_, r.bor, r.one, fun i j l m p a b c d => ?_⟩
  · have q := r.slot i s hi
    rcases key i s hi with rfl | e
    · trivial
    · rwa [e] at q
  · rcases key i _ a with e | e
    · cases e
    · rcases key j _ b with e' | e'
      · cases e'
      · exact r.dis i j l m p a b (e ▸ c) (e' ▸ d)
end
def compX (step : D → Ev → RX (Option D)) : List D → Ev → RX (List D)
  | [], ρ => .ok [] ρ
  | d :: ds, ρ => (step d ρ).bind fun o ρ1 => (compX step ds ρ1).bind fun r ρ2 => .ok (match o with | some y => y :: r | none => r) ρ2
def compXS (vs : List Nat) (g : D → Ev → Option Ev) (ft : Ev → RX Bool) (fe : Ev → RX D) : D → Ev → RX (Option D) := fun d ρ => match g d (wipeE ρ vs) with
  | some ρ' => (ft ρ').bind fun b ρ2 => if b then (fe ρ2).bind fun y ρ3 => .ok (some y) (wipeE ρ3 vs) else .ok none (wipeE ρ2 vs)
  | none => .bad
def xComp (vs : List Nat) (fi : Ev → RX (List D)) (g : D → Ev → Option Ev) (ft : Ev → RX Bool) (fe : Ev → RX D) : Ev → RX (List D) := fun ρ => (fi ρ).bind fun l ρ1 => if l.length ≤ sizeLine then compX (compXS vs g ft fe) l (wipeE ρ1 vs) else .bad
theorem RX.bind_assoc {α β γ : Type} (r : RX α) (f : α → Ev → RX β) (g : β → Ev → RX γ) : (r.bind f).bind g = r.bind fun a ρ => (f a ρ).bind g := by cases r <;> rfl
theorem wipeE_idem {ρ : Ev} {vs : List Nat} : ∃ ρ', wipeE ρ vs = wipeE ρ' vs := ⟨ρ, rfl⟩
theorem simX_comp {K : Fg} {vs ts : List Nat} {fi : Ev → RX (List D)} {g : D → Ev → Option Ev} {ft : Ev → RX Bool} {fe : Ev → RX D} (ht : ∀ t ∈ ts, t ∈ vs) :
    ∀ σ H Q, tXO K (xComp vs fi g ft fe) σ H Q → tLc (tXI K fi) (tGt K ts g) (tXT K ft) (tX K fe) vs σ H Q := fun σ H Q ⟨S, G, Hs, ρ, r, p⟩ => by
  refine ⟨S, G, Hs, ρ, r, (PostX.bind p).imp fun l ρ1 Hs1 H1 g1 r1 q J hJ Dd hD => ?_⟩
  by_cases hz : l.length ≤ sizeLine
  case neg => rw [if_neg hz] at q; exact q.elim
  rw [if_pos hz] at q
  have hS : S Dd = none := r1.ext.free (r1.sub.free hD)
  have hG : G.h Dd = none := r1.old.free hD
  have hsD : ∀ {Hs2 H2 : Hp} {ρ2 : Ev} {σ2 : Sg} {o : HO}, RelE K S (G.plus Dd o) Hs2 H2 σ2 ρ2 → Hs2 Dd = none := fun {Hs2 H2 ρ2 σ2 o} r => by
    cases e : Hs2 Dd with
    | none => rfl
    | some u =>
      have := r.new Dd u e hS
      have z : upd G.h Dd o Dd = none := this
      rw [upd_same] at z; cases z
  have hat : ∀ {Hs2 H2 : Hp} {ρ2 : Ev} {σ2 : Sg} {o : HO}, RelE K S (G.plus Dd o) Hs2 H2 σ2 ρ2 → H2 Dd = some o := fun {Hs2 H2 ρ2 σ2 o} r => r.old Dd o (by show upd G.h Dd o Dd = some o; rw [upd_same])
  let P : List D → Ev → Hp → Hp → Prop := fun l _ Hs' H' => ∀ Hs2 H2 p vs, Ext Hs' H' Hs2 H2 → H' p = none → Hs2 p = none → H2 p = some (.lst vs) → RpL K Hs2 l vs → Q (.ref p) H2
  refine ⟨fun i m H' => m = l.length - i ∧ i ≤ l.length ∧ ∃ Hs2 ρ2 acc ws, Same Hs1 Hs2 ∧ RelE K S (G.plus Dd (.lst ws)) Hs2 H' (wipe σ vs) (wipeE ρ2 vs) ∧ RpL K Hs2 acc ws ∧ acc.length ≤ i ∧
      PostX K S G σ Hs2 ((compX (compXS vs g ft fe) (l.drop i) (wipeE ρ2 vs)).bind fun r ρ => .ok (acc ++ r) ρ) P,
    ⟨l.length, by simp, Nat.zero_le _, Hs1, ρ1, [], [], .refl _, (r1.plus hD _).wipe vs, .nil, Nat.le_refl _, ?_⟩, ?_⟩
  · rw [List.drop_zero]
    cases z : compX (compXS vs g ft fe) l (wipeE ρ1 vs) with
    | ok a ρ' => rw [z] at q; exact q
    | bad => rw [z] at q; exact q
  · rintro i m H' ⟨rfl, hi, Hs2, ρ2, acc, ws, g2, r2, d3, d4, q2⟩
    obtain ⟨j1, j2⟩ := hJ i Hs2 H' g2 r2.sub
    by_cases hl : i < l.length
    · obtain ⟨j1, j3⟩ := j1 l[i] (List.getElem?_eq_getElem hl)
      rw [List.drop_eq_getElem_cons hl] at q2
      refine .inr ⟨j1, fun H3 => ∃ Hs2 ρ2 acc ws, Same Hs1 Hs2 ∧ RelE K S (G.plus Dd (.lst ws)) Hs2 H3 (wipe σ vs) (wipeE ρ2 vs) ∧ RpL K Hs2 acc ws ∧ acc.length ≤ i + 1 ∧
        PostX K S G σ Hs2 ((compX (compXS vs g ft fe) (l.drop (i + 1)) (wipeE ρ2 vs)).bind fun r ρ => .ok (acc ++ r) ρ) P,
        fun H3 ⟨Hs3, ρ3, acc', ws', a⟩ => ⟨_, (by omega : l.length - (i + 1) < l.length - i), rfl, hl, Hs3, ρ3, acc', ws', a⟩, fun x H3 y => ?_⟩
      obtain ⟨Hs3, e3, h3⟩ := j3 x H3 y
      unfold compX at q2
      rw [RX.bind_assoc] at q2
      unfold compXS at q2
      have ww : wipeE (wipeE ρ2 vs) vs = wipeE ρ2 vs := by
        apply List.ext_getElem?
        intro j
        cases z : (wipeE (wipeE ρ2 vs) vs)[j]? with
        | none =>
          have := List.getElem?_eq_none_iff.mp z
          rw [wipeE_length] at this
          exact (List.getElem?_eq_none this).symm
        | some s =>
          rcases wipeE_get z with rfl | ⟨h1, h2⟩
          · by_cases m : j ∈ vs
            · have hj : j < (wipeE ρ2 vs).length := by
                have := (List.getElem?_eq_some_iff.mp z).1
                rwa [wipeE_length] at this
              have : ∀ (us : List Nat), j ∈ us → (wipeE ρ2 us)[j]? = some .no := fun us => by
                induction us with
                | nil => intro h; cases h
                | cons u us ih =>
                  intro h
                  unfold wipeE
                  by_cases e : u = j
                  · subst e; rw [List.getElem?_set_self (by rw [wipeE_length]; rwa [wipeE_length] at hj)]
                  · rw [List.getElem?_set_ne e]
                    rcases List.mem_cons.mp h with h | h
                    · exact (e h.symm).elim
                    · exact ih h
              exact (this vs m).symm
            · have : ∀ (ρ0 : Ev) (us : List Nat), j ∉ us → (wipeE ρ0 us)[j]? = ρ0[j]? := fun ρ0 us => by
                induction us with
                | nil => intro _; rfl
                | cons u us ih =>
                  intro h
                  rw [List.mem_cons, not_or] at h
                  unfold wipeE
                  rw [List.getElem?_set_ne (Ne.symm h.1), ih h.2]
              rw [← z, this _ vs m]
          · exact h2.symm
      rw [ww] at q2
      cases z : g l[i] (wipeE ρ2 vs) with
      | none => simp only [z] at q2; exact q2.elim
      | some ρ' =>
        simp only [z] at q2
        rw [RX.bind_assoc] at q2
        refine ⟨S, G.plus Dd (.lst ws), Hs3, wipeE ρ2 vs, l[i], ρ', r2.step e3, h3, z, fun σ' s1 s2 r4 => ?_⟩
        have hw := wipe_same s1 s2 ht
        refine ⟨hw, S, G.plus Dd (.lst ws), Hs3, ρ', r4, ?_⟩
        cases zt : ft ρ' with
        | bad => rw [zt] at q2; exact q2
        | ok b ρ5 =>
          rw [zt] at q2
          intro Hs5 H5 e5 r5
          cases b with
          | false =>
            simp only [Bool.false_eq_true, if_false]
            refine ⟨Hs5, ρ5, acc, ws, (g2.trans e3.grow).trans e5, ?_, (d3.mono e3.grow).mono e5, by omega, ?_⟩
            · have := r5.wipe vs
              rwa [hw] at this
            · have q3 : PostX K S G σ Hs2 _ P := q2
              simp only [RX.bind, Bool.false_eq_true, if_false] at q3
              have q4 := PostX.up q3 (e3.grow.trans e5)
              cases zc : compX (compXS vs g ft fe) (l.drop (i + 1)) (wipeE ρ5 vs) with
              | bad => unfold compXS at zc; simp only [RX.bind] at zc; rw [zc] at q4; exact q4
              | ok rr ρ7 => unfold compXS at zc; simp only [RX.bind] at zc; rw [zc] at q4; exact q4
          | true =>
            simp only [if_true]
            have q3 : PostX K S G σ Hs2 _ P := q2
            simp only [RX.bind, if_true] at q3
            refine ⟨S, G.plus Dd (.lst ws), Hs5, ρ5, r5, ?_⟩
            cases ze : fe ρ5 with
            | bad => simp only [ze] at q3; exact q3
            | ok y ρ6 =>
              simp only [ze] at q3
              intro Hs6 H6 e6 r6 v hv
              have k2 := hat r6
              have gg := (e3.grow.trans e5).trans e6
              have k3 := d3.mono gg
              refine ⟨ws, k2, by rw [← d3.length]; omega, Hs6, ρ6, acc ++ [y], ws ++ [v], g2.trans gg, ?_, k3.append (.cons hv .nil), by rw [List.length_append, List.length_singleton]; omega, ?_⟩
              · have := (r6.replus (hsD r6) (.lst (ws ++ [v]))).wipe vs
                rwa [hw] at this
              · have q4 := PostX.up q3 gg
                simp only [List.append_assoc, List.singleton_append]
                cases zc : compX (compXS vs g ft fe) (l.drop (i + 1)) (wipeE ρ6 vs) with
                | bad => unfold compXS at zc; simp only [RX.bind] at zc; rw [zc] at q4; exact q4
                | ok rr ρ7 => unfold compXS at zc; simp only [RX.bind] at zc; rw [zc] at q4; exact q4
    · have e0 : i = l.length := by omega
      subst e0
      rw [List.drop_length] at q2
      unfold compX at q2
      have q3 : PostX K S G σ Hs2 (.ok (acc ++ []) (wipeE ρ2 vs)) P := q2
      rw [List.append_nil] at q3
      have hs2 := hsD r2
      have rm := (r2.minus hG hs2).unwipe
      refine .inl ⟨j2 (Nat.le_refl _), q3 Hs2 _ (.refl _) rm Hs2 H' Dd ws ⟨r2.sub, fun b u e => ?_, .refl _, fun b o e nn => by rw [e] at nn; cases nn⟩ (if_pos rfl) hs2 (hat r2) d3⟩
      by_cases hb : b = Dd
      · have e' : (if b = Dd then none else H' b) = some u := e
        rw [if_pos hb] at e'; cases e'
      · have e' : (if b = Dd then none else H' b) = some u := e
        rw [if_neg hb] at e'; exact e'
def XTs (X : Cx) (ifs : List Expr) (f : Ev → RX Bool) : Prop := PTs X ifs (tXT X.K f)
section
variable {X : Cx} {W : WX} {elt tg iter c : Expr} {ifs : List Expr} {scope : Scope} {own : List (Str × Nat)} {pos : Pos} {ts : List Nat} {fi : Ev → RX (List D)} {g : D → Ev → Option Ev} {ft : Ev → RX Bool} {fe : Ev → RX D}
theorem xts_nil : XTs X [] (xl (cst true)) := PTs.imp pts_nil fun σ H Q ⟨S, G, Hs, ρ, r, p⟩ => p.now r
theorem xts_one (h : XT X c ft) : XTs X [c] ft := pts_one h
theorem x_comp (hc : X.calm = true) (hN : X.N.Nodup) (hi : XI X tg iter fi) (ok : BlkOk X.N X.env.scope scope own)
    (hg : ∀ (s : Shared) (H : Hp) (C : Addr) (cl : List (Str × Addr)) (fp : List Addr), VG (X.blk s H scope (compEnvC scope cl C X.env) fp) tg ts g)
    (ht : ∀ (s : Shared) (H : Hp) (C : Addr) (cl : List (Str × Addr)) (fp : List Addr), XTs (X.blk s H scope (compEnvC scope cl C X.env) fp) ifs ft)
    (he : ∀ (s : Shared) (H : Hp) (C : Addr) (cl : List (Str × Addr)) (fp : List Addr), XE (X.blk s H scope (compEnvC scope cl C X.env) fp) elt fe)
    (hts : ∀ t ∈ ts, t ∈ own.map (·.2) := by decide) (hs : ∀ x, foldedSetIterable iter X.env x = pure x := by intro _; rfl) :
    XO X (.ListComp elt [⟨tg, iter, ifs, 0⟩] scope pos) (xComp (own.map (·.2)) fi g ft fe) := PE.imp (pe_lc (g := tGt X.K ts g) (tt := tXT X.K ft) (te := tX X.K fe) hc hN hi ok hg ht he hs) (simX_comp hts)
theorem y_compO {i : Nat} {y : Str} {py spos : Pos} (hc : X.calm = true) (hN : X.N.Nodup) (hy : X.N[i]? = some y) (hyl : X.env.scope.names.lookup y = some .local)
    (hsw : swapsWith (.ListComp elt [⟨tg, iter, ifs, 0⟩] scope pos) (some (.Name y py)) spos.line X.env = pure true) (hi : XI X tg iter fi) (ok : BlkOk X.N X.env.scope scope own)
    (hg : ∀ (s : Shared) (H : Hp) (C : Addr) (cl : List (Str × Addr)) (fp : List Addr), VG (X.blk s H scope (compEnvC scope cl C X.env) fp) tg ts g)
    (ht : ∀ (s : Shared) (H : Hp) (C : Addr) (cl : List (Str × Addr)) (fp : List Addr), XTs (X.blk s H scope (compEnvC scope cl C X.env) fp) ifs ft)
    (he : ∀ (s : Shared) (H : Hp) (C : Addr) (cl : List (Str × Addr)) (fp : List Addr), XE (X.blk s H scope (compEnvC scope cl C X.env) fp) elt fe)
    (hts : ∀ t ∈ ts, t ∈ own.map (·.2) := by decide) (hs : ∀ x, foldedSetIterable iter X.env x = pure x := by intro _; rfl) :
    VS X W (.Assign [.Name y py] (.ListComp elt [⟨tg, iter, ifs, 0⟩] scope pos) spos) (ySetO i (xComp (own.map (·.2)) fi g ft fe)) := PS.imp (ps_setLc (g := tGt X.K ts g) (tt := tXT X.K ft) (te := tX X.K fe) hc hN hy hyl hsw hi ok hg ht he hs) fun D σ H ⟨S, G, Hs, ρ, r, h⟩ =>
  simX_comp hts σ H _ ⟨S, G, Hs, ρ, r, (liftX_post h).imp fun d ρ1 Hs1 H1 g1 r1 q Hs2 H2 p vs e h0 h1 h2 h3 => q Hs2 H2 _ e.grow (r1.setOw e h0 h1 h2 h3)⟩
end
end VL

set_option Elab.async false
set_option linter.all false
set_option maxRecDepth 100000
set_option autoImplicit false
namespace VL
open PySem PySem.Spec PyProof.Rows L2
/-! ### calls without arguments -/
section
variable {X : Cx} {W : WX} {k : Nat} {f : Addr} {fd : FuncData} {ps : List Str} {sp : Sp} {E : Sg → XK} {x : Str} {p pos : Pos}
theorem pe_callG0 (F : FnG X.prog X.w X.K X.mg X.base k f fd ps sp) (hr : Room k X.A) (hgd : X.A.guards = some []) (hg : Gl X x) (hm : X.mg x = some (.ref f)) (hk : PySem.W.keepIn X.K (.ref f) = true) (hb : Binds X.K fd ps []) (hx : ∀ σ, PassesAt (L2.CX X.prog X.w) X σ (E σ))
    (hdb : (x == ("__debug__" : Str)) = false := by decide) :
    PE X (.Call (.Name x p) [] [] pos) (tCallS sp E tNil) := by
  refine ⟨fun pins s σ H Q I h => ?_⟩
  refine wpAny_Call_Name_kw (ld_glob I hg hm ?_ hdb)
  exact PySem.W.callWith_K0 I.kIn hk (run_fnG (us := []) (vs := []) F hr hgd hb (hx σ) I .nil h)
theorem v_calC0 {j : Nat} {m : List D → R SD} (C : Cl X.prog X.w X.K X.mg X.base k x ps m) (hr : Room j X.A) (hgd : X.A.guards = some []) (tk : Takes X W) (hg : Gl X x := by rfl) (hj : k ≤ j := by decide)
    (hdb : (x == ("__debug__" : Str)) = false := by decide) : VE X W (.Call (.Name x p) [] [] pos) (eCall m (cst [])) := by
  obtain ⟨f, fd, h1, h2, h3, h4⟩ := C.ex
  refine PE.imp (pe_callG0 h1.fn (hr.mono hj) hgd hg h2 h3 h4 (passAt tk) hdb) fun σ H Q ⟨S, G, Hs, ρ, r, p⟩ => ?_
  have q : Post X.K X.mg W Hs H σ ((m []).bind fun s => ofO (toD s)) _ := p
  have nb : m [] ≠ .bad := fun z => by rw [z] at q; exact q
  refine ⟨h1.ar [] nb, Hs, [], r.sub, .nil, ?_⟩
  cases z : m [] with
  | bad => exact nb z
  | ex x => rw [z] at q; exact q
  | ok s =>
    rw [z] at q
    intro Hs' H' v e' hr
    cases s with
    | no => exact q.elim
    | bo l => exact q.elim
    | sh d => exact q Hs' H' e' v hr
    | ow l =>
      obtain ⟨p, us, rfl, h0, h1, h2, h3⟩ := hr
      have g : Same Hs' (upd Hs' p (.lst us)) := fun b u z => by rw [upd_ne (ne_of_none z h1)]; exact z
      exact q _ _ (e'.frz h0 h2 h1) _ (.lst (.inl (.inl upd_same)) (h3.mono g))
theorem v_calCO0 {j : Nat} {m : List D → R SD} (C : Cl X.prog X.w X.K X.mg X.base k x ps m) (hr : Room j X.A) (hgd : X.A.guards = some []) (tk : Takes X W) (hg : Gl X x := by rfl) (hj : k ≤ j := by decide)
    (hdb : (x == ("__debug__" : Str)) = false := by decide) : VO X W (.Call (.Name x p) [] [] pos) (eCallO m (cst [])) := by
  obtain ⟨f, fd, h1, h2, h3, h4⟩ := C.ex
  refine PE.imp (pe_callG0 h1.fn (hr.mono hj) hgd hg h2 h3 h4 (passAt tk) hdb) fun σ H Q ⟨S, G, Hs, ρ, r, p⟩ => ?_
  have q : Post X.K X.mg W Hs H σ ((m []).bind fun s => ofO (toL s)) _ := p
  have nb : m [] ≠ .bad := fun z => by rw [z] at q; exact q
  refine ⟨h1.ar [] nb, Hs, [], r.sub, .nil, ?_⟩
  cases z : m [] with
  | bad => exact nb z
  | ex x => rw [z] at q; exact q
  | ok s =>
    rw [z] at q
    intro Hs' H' v e' hr
    cases s with
    | no => exact q.elim
    | bo l => exact q.elim
    | sh d => exact q.elim
    | ow l =>
      obtain ⟨p, us, rfl, h0, h1, h2, h3⟩ := hr
      exact q _ _ e' p us h0 h1 h2 h3
end
end VL

set_option Elab.async false
set_option linter.all false
set_option maxRecDepth 100000
set_option maxHeartbeats 4000000
namespace VL
open PySem PySem.Spec PyProof.Rows L2

/-- how a call with n values and the keywords ks binds -/
structure KB (K : Fg) (fd : FuncData) (ps ks : List Str) (n : Nat) : Prop where
  to : ∀ (s : Shared) (us ws : List Value), K.In s.heap → us.length = n → ws.length = ks.length → BindsTo s fd ⟨us, ks.zip ws⟩ (ps.zip (us ++ ws))
section
variable {X : Cx} {n k : Nat} {f : Addr} {fd : FuncData} {ps ks : List Str} {sp : Sp} {E : Sg → XK} {x : Str} {p pos : Pos} {e : Expr} {es : List Expr} {kws : List Keyword} {t tk : TA}
theorem run_fnkG {pins : List (Addr × Obj)} {σ : Sg} {H : Hp} {s : Shared} {Q : VK} {us ws : List Value} {vs zs : List V} (F : FnG X.prog X.w X.K X.mg X.base k f fd ps sp) (hr : Room k X.A) (hgd : X.A.guards = some []) (hb : KB X.K fd ps ks n) (hx : PassesAt (L2.CX X.prog X.w) X σ (E σ))
    (I : Inv X pins σ H s) (r : Vals vs us) (rz : Vals zs ws) (l1 : vs.length = n) (l2 : zs.length = ks.length) (h : sp (vs ++ zs) H Q (E σ)) : wpAny (model X.prog X.w) X.A (call (.ref f) us (ks.zip ws)) (EP X pins σ Q) X.xe s := by
  have r2 : Vals (vs ++ zs) (us ++ ws) := r.append rz
  refine wpAny_call (codeAny_mono (F.run X.A X.stack s H ⟨us, ks.zip ws⟩ (us ++ ws) (vs ++ zs) Q (E σ) hr hgd I.env0 (hb.to s us ws I.kIn (r.length.symm.trans l1) (rz.length.symm.trans l2)) r2 h) fun r s' hq => ?_)
  cases r with
  | error e => exact hx pins H s e s' I hq
  | ok fl =>
    cases fl with
    | ret u => exact I.after hq
    | next => exact False.elim hq
    | brk => exact False.elim hq
    | cont => exact False.elim hq
def tCallKS (n : Nat) (ks : List Str) (sp : Sp) (E : Sg → XK) (t tk : TA) : TE := fun σ H Q => t σ H fun vs H1 => tk σ H1 fun zs H2 => vs.length = n ∧ zs.length = ks.length ∧ sp (vs ++ zs) H2 Q (E σ)
theorem pe_callKG (F : FnG X.prog X.w X.K X.mg X.base k f fd ps sp) (hr : Room k X.A) (hgd : X.A.guards = some []) (hg : Gl X x) (hm : X.mg x = some (.ref f)) (hk : PySem.W.keepIn X.K (.ref f) = true) (hb : KB X.K fd ps ks n) (hx : ∀ σ, PassesAt (L2.CX X.prog X.w) X σ (E σ))
    (ha : PA X (e :: es) t) (hkw : PK X kws tk) (hall : (backToKw pos (keywordEach kws X.env)).all (·.1.isSome) = true := by rfl) (hks : (backToKw pos (keywordEach kws X.env)).filterMap (·.1) = ks := by rfl)
    (hdb : (x == ("__debug__" : Str)) = false := by decide) (he : starEach (e :: es) X.env = (false, eval e X.env) :: starEach es X.env := by rfl)
    (hpl : ((backTo pos (starEach (e :: es) X.env)).any (·.1) || (backToKw pos (keywordEach kws X.env)).any (·.1.isNone)) = false := by rfl) :
    PE X (.Call (.Name x p) (e :: es) kws pos) (tCallKS n ks sp E t tk) := by
  refine ⟨fun pins s σ H Q I h => ?_⟩
  refine wpAny_Call_Name_kw (ld_glob I hg hm ?_ hdb)
  refine PySem.W.callWith_KW (h₀ := X.base) I.ok.mod.kin hk hall (thn (ha.run pos pins s σ H _ I h) fun us s1 ⟨vs, H1, I1, r, q⟩ => ?_) hpl he
  refine thn (hkw.run pos pins s1 σ H1 _ I1 q) fun ws s2 ⟨zs, H2, I2, rz, q2⟩ => ⟨I2.kIn, ?_⟩
  rw [hks]
  exact run_fnkG F hr hgd hb (hx σ) I2 r rz q2.1 q2.2.1 q2.2.2
end
/-- the keywords' values -/
def VKw (X : Cx) (W : WX) (kws : List Keyword) (f : Ev → R (List D)) : Prop := PK X kws (tA X.K X.mg W f)
def eApp (n k : Nat) (f g : Ev → R (List D)) : Ev → R (List D) := fun ρ => (f ρ).bind fun a => (g ρ).bind fun b => if a.length = n ∧ b.length = k then .ok (a ++ b) else .bad
section
variable {X : Cx} {W : WX} {e : Expr} {es : List Expr} {kws : List Keyword} {nm : Option Str} {f : Ev → R D} {fl fk : Ev → R (List D)} {kpos : Pos}
theorem PK.imp {t t' : TA} (h : PK X kws t) (g : ∀ σ H Q, t' σ H Q → t σ H Q) : PK X kws t' := ⟨fun pos pins s σ H Q I q => h.run pos pins s σ H Q I (g σ H Q q)⟩
theorem vk_nil : VKw X W [] (cst []) := PK.imp pk_nil fun σ H Q ⟨S, G, Hs, ρ, r, p⟩ => p.now r.sub [] .nil
theorem vk_cons (ha : VE X W e f) (hr : VKw X W kws fl) : VKw X W (⟨nm, e, kpos⟩ :: kws) (eCons f fl) := PK.imp (pk_cons ha hr) fun σ H Q ⟨S, G, Hs, ρ, r, p⟩ => by
  refine ⟨S, G, Hs, ρ, r, (Post.bind p).imp fun x Hs1 H1 e q u hu => ?_⟩
  refine ⟨S, G, Hs1, ρ, r.step e, (Post.bind q).imp fun xs Hs2 H2 e' q' us hus => ?_⟩
  exact q'.now e'.sub (u :: us) (.cons (hu.mono e'.grow) hus)
end
section
variable {X : Cx} {W : WX} {e : Expr} {es : List Expr} {pos p : Pos} {x : Str} {fl fk : Ev → R (List D)} {k j n : Nat} {f : Addr} {fd : FuncData} {ps ks : List Str} {m : List D → R SD} {kws : List Keyword}
/-- as VL's rule of a call, with the keywords' values behind -/
theorem sim_appK {K : Fg} {mg : Str → Option Value} {sp : Sp} {E : Sg → XK} : ∀ σ H Q, tCallS sp E (tA K mg W (eApp n ks.length fl fk)) σ H Q → tCallKS n ks sp E (tA K mg W fl) (tA K mg W fk) σ H Q := fun σ H Q ⟨S, G, Hs, ρ, r, p⟩ => by
  refine ⟨S, G, Hs, ρ, r, (Post.bind p).imp fun xs Hs1 H1 e q us hus => ?_⟩
  refine ⟨S, G, Hs1, ρ, r.step e, (Post.bind q).imp fun ys Hs2 H2 e' q' vs hvs => ?_⟩
  by_cases z : xs.length = n ∧ ys.length = ks.length
  · rw [if_pos z] at q'
    exact ⟨hus.length.symm.trans z.1, hvs.length.symm.trans z.2, q'.now e'.sub (us ++ vs) ((hus.mono e'.grow).append hvs)⟩
  · rw [if_neg z] at q'
    exact q'.elim
end
structure ClK (P : Program) (w : World) (K : Fg) (mg : Str → Option Value) (base : Heap) (k : Nat) (x : Str) (ps ks : List Str) (n : Nat) (m : List D → R SD) : Prop where
  ex : ∃ f fd, DOk P w K mg base k f fd ps m ∧ mg x = some (.ref f) ∧ PySem.W.keepIn K (.ref f) = true ∧ KB K fd ps ks n
structure DfK (K : Fg) (mg : Str → Option Value) (x : Str) (st : Stmt) (ps ks : List Str) (n : Nat) : Prop where
  ex : ∃ f fd, Fun K x x st f fd ∧ mg x = some (.ref f) ∧ KB K fd ps ks n
theorem clK_ok {P : Program} {w : World} {K : Fg} {mg : Str → Option Value} {base : Heap} {x : Str} {st : Stmt} {N ps ks : List Str} {n k : Nat} {F : Ev → Out} (Fn : DfK K mg x st ps ks n) (S : FnScope N ps (defScope st))
    (body : ∀ (f : Addr) (cdv : Value) (A : Around) (outer : List Env) (s : Shared) (H : Hp) (E : XK), Inn (cxOf (L2.CX P w) P w K mg base N x (defScope st) f cdv A outer s H E) (fun cls d _ H => E cls d H) k →
      VSs (cxOf (L2.CX P w) P w K mg base N x (defScope st) f cdv A outer s H E) (fun cls d _ H => E cls d H) (defBody st) F) :
    ClK P w K mg base (k + 1) x ps ks n (runD ps.length N.length F) := by
  obtain ⟨f, fd, h1, h2, h3⟩ := Fn.ex
  exact ⟨f, fd, def_ok h1 S fun cdv A outer s H E I => body f cdv A outer s H E I, h2, h1.kp, h3⟩
section
variable {X : Cx} {W : WX} {e : Expr} {es : List Expr} {pos p : Pos} {x : Str} {fl fk : Ev → R (List D)} {k j n : Nat} {ps ks : List Str} {m : List D → R SD} {kws : List Keyword}
theorem v_calK (C : ClK X.prog X.w X.K X.mg X.base k x ps ks n m) (hr : Room j X.A) (hgd : X.A.guards = some []) (tk : Takes X W) (ha : VA X W (e :: es) fl) (hkw : VKw X W kws fk) (hg : Gl X x := by rfl) (hj : k ≤ j := by decide)
    (hall : (backToKw pos (keywordEach kws X.env)).all (·.1.isSome) = true := by rfl) (hks : (backToKw pos (keywordEach kws X.env)).filterMap (·.1) = ks := by rfl)
    (hdb : (x == ("__debug__" : Str)) = false := by decide) (he : starEach (e :: es) X.env = (false, eval e X.env) :: starEach es X.env := by rfl)
    (hpl : ((backTo pos (starEach (e :: es) X.env)).any (·.1) || (backToKw pos (keywordEach kws X.env)).any (·.1.isNone)) = false := by rfl) :
    VE X W (.Call (.Name x p) (e :: es) kws pos) (eCall m (eApp n ks.length fl fk)) := by
  obtain ⟨f, fd, h1, h2, h3, h4⟩ := C.ex
  exact PE.imp (pe_callKG h1.fn (hr.mono hj) hgd hg h2 h3 h4 (passAt tk) ha hkw hall hks hdb he hpl) fun σ H Q q => sim_appK σ H Q (sim_call h1.ar σ H Q q)
theorem v_calKO (C : ClK X.prog X.w X.K X.mg X.base k x ps ks n m) (hr : Room j X.A) (hgd : X.A.guards = some []) (tk : Takes X W) (ha : VA X W (e :: es) fl) (hkw : VKw X W kws fk) (hg : Gl X x := by rfl) (hj : k ≤ j := by decide)
    (hall : (backToKw pos (keywordEach kws X.env)).all (·.1.isSome) = true := by rfl) (hks : (backToKw pos (keywordEach kws X.env)).filterMap (·.1) = ks := by rfl)
    (hdb : (x == ("__debug__" : Str)) = false := by decide) (he : starEach (e :: es) X.env = (false, eval e X.env) :: starEach es X.env := by rfl)
    (hpl : ((backTo pos (starEach (e :: es) X.env)).any (·.1) || (backToKw pos (keywordEach kws X.env)).any (·.1.isNone)) = false := by rfl) :
    VO X W (.Call (.Name x p) (e :: es) kws pos) (eCallO m (eApp n ks.length fl fk)) := by
  obtain ⟨f, fd, h1, h2, h3, h4⟩ := C.ex
  exact PE.imp (pe_callKG h1.fn (hr.mono hj) hgd hg h2 h3 h4 (passAt tk) ha hkw hall hks hdb he hpl) fun σ H Q q => sim_appK σ H Q (sim_callO h1.ar σ H Q q)
end
theorem kb_of {K : Fg} {x qual : Str} {st : Stmt} {f : Addr} {fd : FuncData} {ps ks : List Str} {n : Nat} (F : Fun K x qual st f fd)
    (h : ∀ (kV doc pm : Value) (an : Option Addr) (cdv ct : Value) (us ws : List Value), us.length = n → ws.length = ks.length → bindArgs (PySem.W.fnOf x qual (defArgs st) (defBody st) (defScope st) .none kV doc pm an cdv ct) ⟨us, ks.zip ws⟩ = pure (ps.zip (us ++ ws))) : KB K fd ps ks n := by
  obtain ⟨oc, od, kV, doc, pm, an, cdv, ct, osl, rfl, lk, hcd⟩ := F.ex
  exact ⟨fun s us ws _ l1 l2 => BindsTo.of_eq (h kV doc pm an cdv ct us ws l1 l2)⟩
/-! ### a list of one's own that is only read while an expression is evaluated -/
mutual
def noLst : D → Bool
  | .list _ => false
  | .tuple l => noLsts l
  | .dict _ => false
  | _ => true
def noLsts : List D → Bool
  | [] => true
  | d :: l => noLst d && noLsts l
end
def cutH (H : Hp) (p : Addr) : Hp := fun a => if a = p then none else H a
theorem sqT_cut {K : Fg} {H : Hp} {p a : Addr} {us xs : List V} (hp : H p = some (.lst us)) (h : SqT K H a xs) : SqT K (cutH H p) a xs := by
  rcases h with h | h
  · left
    have hne : a ≠ p := by
      rintro rfl
      rcases h with h | ⟨o, h⟩
      · rw [hp] at h; cases h
      · rw [hp] at h; cases h
    rcases h with h | ⟨o, h⟩
    · exact .inl (by unfold cutH; rw [if_neg hne]; exact h)
    · exact .inr ⟨o, by unfold cutH; rw [if_neg hne]; exact h⟩
  · exact .inr h
mutual
theorem Rp.cut {K : Fg} {H : Hp} {p : Addr} {us : List V} (hp : H p = some (.lst us)) : ∀ {d : D} {v : V}, Rp K H d v → noLst d = true → Rp K (cutH H p) d v
  | _, _, .non, _ => .non
  | _, _, .bl b, _ => .bl b
  | _, _, .int i, _ => .int i
  | _, _, .str x, _ => .str x
  | _, _, .lst _ _, h => by simp [noLst] at h
  | _, _, .tup h r, hd => .tup (sqT_cut hp h) (RpL.cut hp r (by simpa [noLst] using hd))
theorem RpL.cut {K : Fg} {H : Hp} {p : Addr} {us : List V} (hp : H p = some (.lst us)) : ∀ {d : List D} {v : List V}, RpL K H d v → noLsts d = true → RpL K (cutH H p) d v
  | _, _, .nil, _ => .nil
  | _, _, .cons h r, hd => by
    simp only [noLsts, Bool.and_eq_true] at hd
    exact .cons (Rp.cut hp h hd.1) (RpL.cut hp r hd.2)
end
def thawR : R D → R D
  | .ok d => if noLst d then .ok d else .bad
  | _ => .bad
def eThaw (i : Nat) (f : Ev → R D) : Ev → R D := fun ρ => match ρ[i]? with
  | some (.ow l) => thawR (f (ρ.set i (.sh (.list l))))
  | _ => f ρ
theorem RelE.fzAt {K : Fg} {S Hs H : Hp} {G : Gx} {σ : Sg} {ρ : Ev} {i : Nat} {l : List D} (r : RelE K S G Hs H σ ρ) (hi : ρ[i]? = some (.ow l)) : ∃ p vs, Hs p = none ∧ H p = some (.lst vs) ∧ RelE K S G (upd Hs p (.lst vs)) H σ (ρ.set i (.sh (.list l))) := by
  obtain ⟨p, vs, e1, e2, e3, e4, e5, e6⟩ := r.own' hi
  have g : Same Hs (upd Hs p (.lst vs)) := fun b u q => by rw [upd_ne (ne_of_none q e3)]; exact q
  refine ⟨p, vs, e3, e4, ?_⟩
  refine ⟨fun b u q => ?_, r.old, r.ext.trans g, fun b u q n => ?_, by simpa using r.len, fun j s hj => ?_, fun a ha => ?_, fun j k l m a b => ?_, fun j k m n q a b c d' => ?_⟩
  · by_cases hb : b = p
    · subst hb; rw [upd_same] at q; cases q; exact e4
    · rw [upd_ne hb] at q; exact r.sub b u q
  · by_cases hb : b = p
    · subst hb; exact e2
    · rw [upd_ne hb] at q; exact r.new b u q n
  · rcases set_get hj with ⟨rfl, hl, rfl⟩ | ⟨hj', hj⟩
    · exact ⟨_, e1, .lst (.inl (.inl upd_same)) (e5.mono g)⟩
    · have q := r.slot j s hj
      cases s with
      | no => trivial
      | sh d =>
        obtain ⟨v, q1, q2⟩ := q
        exact ⟨v, q1, q2.mono g⟩
      | ow m =>
        obtain ⟨q, xs, f1, f2, f3, f4, f5, f6⟩ := q
        refine ⟨q, xs, f1, f2, ?_, f4, f5.mono g, f6⟩
        rw [upd_ne]
        · exact f3
        · rintro rfl
          exact hj' (r.dis j i m l q hj hi f1 e1)
      | bo m =>
        obtain ⟨q, xs, f1, f2, f3, f4⟩ := q
        exact ⟨q, xs, f1, f2, f3, f4.mono g⟩
  · obtain ⟨h1, h2, h3⟩ := r.bor a ha
    refine ⟨h1, ?_, h3⟩
    rw [upd_ne]
    · exact h2
    · rintro rfl
      exact e6 ha
  · rcases set_get a with ⟨_, _, e⟩ | ⟨_, a⟩
    · cases e
    · rcases set_get b with ⟨_, _, e⟩ | ⟨_, b⟩
      · cases e
      · exact r.one j k l m a b
  · rcases set_get a with ⟨_, _, e⟩ | ⟨hj, a⟩
    · cases e
    · rcases set_get b with ⟨_, _, e⟩ | ⟨hk, b⟩
      · cases e
      · exact r.dis j k m n q a b c d'
theorem v_thaw {X : Cx} {W : WX} {e : Expr} {f : Ev → R D} (i : Nat) (h : VE X W e f) : VE X W e (eThaw i f) := PE.imp h fun σ H Q ⟨S, G, Hs, ρ, r, p⟩ => by
  unfold eThaw at p
  cases q : ρ[i]? with
  | none => rw [q] at p; exact ⟨S, G, Hs, ρ, r, p⟩
  | some s =>
    rw [q] at p
    cases s with
    | no => exact ⟨S, G, Hs, ρ, r, p⟩
    | bo l => exact ⟨S, G, Hs, ρ, r, p⟩
    | sh d => exact ⟨S, G, Hs, ρ, r, p⟩
    | ow l =>
      obtain ⟨a, vs, h1, h2, r'⟩ := r.fzAt q
      refine ⟨S, G, upd Hs a (.lst vs), _, r', ?_⟩
      simp only at p
      cases z : f (ρ.set i (.sh (.list l))) with
      | ex x => rw [z] at p; exact p.elim
      | bad => rw [z] at p; exact p.elim
      | ok d =>
        rw [z] at p
        simp only [thawR] at p
        split at p
        · rename_i nl
          intro Hs1 H1 ex v hv
          have ha : Hs1 a = some (.lst vs) := ex.grow _ _ upd_same
          refine p (cutH Hs1 a) H1 ⟨fun b u g => ?_, ex.same, fun b u g => ?_, fun b u g n => ?_⟩ v (Rp.cut ha hv nl)
          · unfold cutH at g
            split at g
            · cases g
            · exact ex.sub _ _ g
          · have hb : b ≠ a := ne_of_none g h1
            unfold cutH
            rw [if_neg hb]
            exact ex.grow _ _ (by rw [upd_ne hb]; exact g)
          · unfold cutH at g
            split at g
            · cases g
            · rename_i hb
              exact ex.fresh b u g (by rw [upd_ne hb]; exact n)
        · exact p.elim
end VL

set_option Elab.async false
set_option linter.all false
set_option maxRecDepth 100000
set_option autoImplicit false
namespace VL
open PySem PySem.Spec PyProof.Rows L2

/-! ### evaluation: rows for simp -/
def fin : Out → R SD
  | .nx _ => .ok (.sh .none)
  | .rt r => .ok r
  | .ex x _ => .ex x
  | _ => .bad
section
variable {α β γ δ : Type} {ρ : Ev} {f : Ev → R α} {g : Ev → R β} {h : Ev → R γ} {a : α} {d e : D} {l m : List D} {i j k : Nat} {s t : SD} {b : Bool} {x y z : Int}
@[simp] theorem r_get0 (u : α) (us : List α) : (u :: us)[0]? = some u := id rfl
@[simp] theorem r_getS (u : α) (us : List α) (n : Nat) : (u :: us)[n + 1]? = us[n]? := id rfl
@[simp] theorem r_bind_ok (F : α → R β) : (R.ok a).bind F = F a := id rfl
@[simp] theorem r_bind_ex (u : Xn) (F : α → R β) : (R.ex u : R α).bind F = .ex u := id rfl
@[simp] theorem r_bind_bad (F : α → R β) : (R.bad : R α).bind F = .bad := id rfl
@[simp] theorem r_ofO_some : ofO (some a) = .ok a := id rfl
@[simp] theorem r_ofO_none : ofO (none : Option α) = .bad := id rfl
@[simp] theorem r_noex_ok : noex (.ok a) = .ok a := id rfl
@[simp] theorem r_cst : cst a ρ = .ok a := id rfl
@[simp] theorem r_eVar : eVar i ρ = (match ρ[i]? with | some (.sh d) => .ok d | _ => .bad) := id rfl
@[simp] theorem r_eOwn : eOwn i ρ = (match ρ[i]? with | some (.sh d) => .ok d | some (.ow l) => .ok (.list l) | some (.bo l) => .ok (.list l) | _ => .bad) := id rfl
@[simp] theorem r_e1 (F : α → Option β) : e1 F f ρ = (f ρ).bind fun x => ofO (F x) := id rfl
@[simp] theorem r_e2 (F : α → β → Option γ) : e2 F f g ρ = (f ρ).bind fun x => (g ρ).bind fun y => ofO (F x y) := id rfl
@[simp] theorem r_e3 (F : α → β → γ → Option δ) : e3 F f g h ρ = (f ρ).bind fun x => (g ρ).bind fun y => (h ρ).bind fun z => ofO (F x y z) := id rfl
@[simp] theorem r_eCons (f : Ev → R D) (g : Ev → R (List D)) : eCons f g ρ = (f ρ).bind fun x => (g ρ).bind fun xs => .ok (x :: xs) := id rfl
@[simp] theorem r_eLst (f : Ev → R (List D)) : eLst f ρ = (f ρ).bind fun l => .ok (.list l) := id rfl
@[simp] theorem r_eIf (c : Ev → R Bool) (f g : Ev → R α) : eIf c f g ρ = (c ρ).bind fun b => if b then f ρ else g ρ := id rfl
@[simp] theorem r_eAnd (f g : Ev → R Bool) : eAnd f g ρ = (f ρ).bind fun b => if b then g ρ else .ok false := id rfl
@[simp] theorem r_eOr (f g : Ev → R Bool) : eOr f g ρ = (f ρ).bind fun b => if b then .ok true else g ρ := id rfl
@[simp] theorem r_eNot (f : Ev → R Bool) : eNot f ρ = (f ρ).bind fun b => .ok (!b) := id rfl
@[simp] theorem r_eAndV (f g : Ev → R D) : eAndV f g ρ = (f ρ).bind fun x => (ofO (truD x)).bind fun k => if k then g ρ else .ok x := id rfl
@[simp] theorem r_eOrV (f g : Ev → R D) : eOrV f g ρ = (f ρ).bind fun x => (ofO (truD x)).bind fun k => if k then .ok x else g ρ := id rfl
@[simp] theorem r_eChain (F F' : D → D → Option D) (f g h : Ev → R D) : eChain F F' f g h ρ = (f ρ).bind fun x => (g ρ).bind fun y => (ofO (F x y)).bind fun r => (ofO (bOf r)).bind fun b => if b then (h ρ).bind fun z => ofO (F' y z) else .ok (.bool false) := id rfl
@[simp] theorem r_eCall (m : List D → R SD) (fl : Ev → R (List D)) : eCall m fl ρ = (fl ρ).bind fun ds => (m ds).bind fun s => ofO (toD s) := id rfl
@[simp] theorem r_eCallO (m : List D → R SD) (fl : Ev → R (List D)) : eCallO m fl ρ = (fl ρ).bind fun ds => (m ds).bind fun s => ofO (toL s) := id rfl
@[simp] theorem r_pNo : pNo ρ = .ok none := id rfl
@[simp] theorem r_toD_sh : toD (.sh d) = some d := id rfl
@[simp] theorem r_toD_ow : toD (.ow l) = some (.list l) := id rfl
@[simp] theorem r_toL_ow : toL (.ow l) = some l := id rfl
/-! statements -/
@[simp] theorem r_liftE_ok (k : α → Out) : liftE (.ok a) ρ k = k a := id rfl
@[simp] theorem r_liftE_ex (u : Xn) (k : α → Out) : liftE (.ex u) ρ k = .ex u ρ := id rfl
@[simp] theorem r_liftE_bad (k : α → Out) : liftE .bad ρ k = .bad := id rfl
@[simp] theorem r_seqO_nx (k : Ev → Out) : seqO (.nx ρ) k = k ρ := id rfl
@[simp] theorem r_seqO_rt (k : Ev → Out) : seqO (.rt s) k = .rt s := id rfl
@[simp] theorem r_seqO_rtB (k : Ev → Out) : seqO (.rtB s ρ) k = .rtB s ρ := id rfl
@[simp] theorem r_seqO_bk (k : Ev → Out) : seqO (.bk ρ) k = .bk ρ := id rfl
@[simp] theorem r_seqO_ct (k : Ev → Out) : seqO (.ct ρ) k = .ct ρ := id rfl
@[simp] theorem r_seqO_ex (u : Xn) (k : Ev → Out) : seqO (.ex u ρ) k = .ex u ρ := id rfl
@[simp] theorem r_seqO_bad (k : Ev → Out) : seqO .bad k = .bad := id rfl
@[simp] theorem r_sNil : sNil ρ = .nx ρ := id rfl
@[simp] theorem r_sSeq (F G : Ev → Out) : sSeq F G ρ = seqO (F ρ) G := id rfl
@[simp] theorem r_sSet (f : Ev → R D) : sSet i f ρ = liftE (f ρ) ρ fun d => .nx (ρ.set i (.sh d)) := id rfl
@[simp] theorem r_sSetO (f : Ev → R (List D)) : sSetO i f ρ = liftE (f ρ) ρ fun d => .nx (ρ.set i (.ow d)) := id rfl
@[simp] theorem r_sAsg (f : Ev → R D) (g : D → Ev → Option Ev) : sAsg f g ρ = liftE (f ρ) ρ fun d => match g d ρ with | some ρ' => .nx ρ' | none => .bad := id rfl
@[simp] theorem r_sPar (f : Ev → R (List D)) : sPar i j f ρ = liftE (f ρ) ρ fun ds => match ds with | [d, d'] => .nx ((ρ.set i (.sh d)).set j (.sh d')) | _ => .bad := id rfl
@[simp] theorem r_sAug (F : D → D → Option D) (f : Ev → R D) : sAug i F f ρ = liftE ((eVar i ρ).bind fun x => (f ρ).bind fun y => ofO (F x y)) ρ fun d => .nx (ρ.set i (.sh d)) := id rfl
@[simp] theorem r_sRet (f : Ev → R D) : sRet f ρ = liftE (f ρ) ρ fun d => .rt (.sh d) := id rfl
@[simp] theorem r_sRetO (f : Ev → R (List D)) : sRetO f ρ = liftE (f ρ) ρ fun d => .rt (.ow d) := id rfl
@[simp] theorem r_sRetV : sRetV i ρ = (match ρ[i]? with | some (.ow l) => .rt (.ow l) | some (.sh d) => .rt (.sh d) | _ => .bad) := id rfl
@[simp] theorem r_sRetN : sRetN ρ = .rt (.sh .none) := id rfl
@[simp] theorem r_sIf (c : Ev → R Bool) (F F' : Ev → Out) : sIf c F F' ρ = liftE (c ρ) ρ fun b => if b then F ρ else F' ρ := id rfl
@[simp] theorem r_sDrop (f : Ev → R D) : sDrop f ρ = liftE (f ρ) ρ fun _ => .nx ρ := id rfl
@[simp] theorem r_sFz (F : Ev → Out) : sFz i F ρ = (match ρ[i]? with | some (.ow l) => F (ρ.set i (.sh (.list l))) | _ => F ρ) := id rfl
@[simp] theorem r_onOw (k : List D → Out) : onOw i ρ k = (match ρ[i]? with | some (.ow l) => k l | _ => .bad) := id rfl
@[simp] theorem r_sApp (f : Ev → R D) : sApp i f ρ = onOw i ρ fun l => liftE (f ρ) ρ fun d => if l.length < sizeLine then .nx (ρ.set i (.ow (l ++ [d]))) else .bad := id rfl
@[simp] theorem r_sExt (f : Ev → R D) : sExt i f ρ = onOw i ρ fun l => liftE (f ρ) ρ fun d => match d with
  | .list l' => if l.length + l'.length ≤ sizeLine then .nx (ρ.set i (.ow (l ++ l'))) else .bad
  | _ => .bad := id rfl
@[simp] theorem r_sStore (fi fv : Ev → R D) : sStore i fi fv ρ = onOw i ρ fun l => liftE ((fv ρ).bind fun d => (fi ρ).bind fun k => .ok (d, k)) ρ fun (d, k) => match k with
  | .int z => match ixN l.length z with
    | some j => .nx (ρ.set i (.ow (l.set j d)))
    | none => .bad
  | _ => .bad := id rfl
@[simp] theorem r_placeD : placeD l (.int z) = if 0 ≤ z ∧ z < 2 ^ 63 then (l[z.toNat]?).map fun y => (z.toNat, y) else none := id rfl
@[simp] theorem r_sAugIx (F : D → D → Option D) (fi fv : Ev → R D) : sAugIx i F fi fv ρ = onOw i ρ fun l => liftE ((fi ρ).bind fun k => ofO (placeD l k)) ρ fun jy => liftE ((fv ρ).bind fun d => ofO (F jy.2 d)) ρ fun d => .nx (ρ.set i (.ow (l.set jy.1 d))) := id rfl
@[simp] theorem r_sPop : sPop i j ρ = onOw j ρ fun l => match l.getLast? with
  | some d => .nx ((ρ.set j (.ow l.dropLast)).set i (.sh d))
  | none => .bad := id rfl
@[simp] theorem r_sFor (fi : Ev → R (List D)) (g : D → Ev → Option Ev) (F : Ev → Out) : sFor fi g F ρ = liftE (fi ρ) ρ fun l => forO (gTo g F) l ρ := id rfl
@[simp] theorem r_gTo (g : D → Ev → Option Ev) (F : Ev → Out) : gTo g F d ρ = match g d ρ with | some ρ' => F ρ' | none => .bad := id rfl
@[simp] theorem r_gSet : gSet i d ρ = some (ρ.set i (.sh d)) := id rfl
@[simp] theorem r_gTupD_t (n : Nat) (k : List D → Ev → Option Ev) : gTupD n k (.tuple l) ρ = (if l.length = n then k l ρ else none) := id rfl
@[simp] theorem r_gTupD_l (n : Nat) (k : List D → Ev → Option Ev) : gTupD n k (.list l) ρ = (if l.length = n then k l ρ else none) := id rfl
@[simp] theorem r_gsNil : gsNil [] ρ = some ρ := id rfl
@[simp] theorem r_gsCons (g : D → Ev → Option Ev) (k : List D → Ev → Option Ev) : gsCons g k (d :: l) ρ = (g d ρ).bind (k l) := id rfl
@[simp] theorem r_wipe_nil : wipeE ρ [] = ρ := id rfl
@[simp] theorem r_wipe_cons (vs : List Nat) : wipeE ρ (i :: vs) = (wipeE ρ vs).set i .no := id rfl
@[simp] theorem r_forO_nil (F : D → Ev → Out) : forO F [] ρ = .nx ρ := id rfl
@[simp] theorem r_eComp (vs : List Nat) (fi : Ev → R (List D)) (g : D → Ev → Option Ev) (ft : Ev → R Bool) (fe : Ev → R D) : eComp vs fi g ft fe ρ = (fi ρ).bind fun l => if l.length ≤ sizeLine then compR (compS vs g ft fe ρ) l else .bad := id rfl
@[simp] theorem r_compR_nil (st : D → R (Option D)) : compR st [] = .ok [] := id rfl
/-! evaluations that change lists -/
@[simp] theorem rx_bind_ok (F : α → Ev → RX β) : (RX.ok a ρ).bind F = F a ρ := id rfl
@[simp] theorem rx_bind_bad (F : α → Ev → RX β) : (RX.bad : RX α).bind F = .bad := id rfl
@[simp] theorem rx_xl (f : Ev → R α) : xl f ρ = (match f ρ with | .ok a => .ok a ρ | _ => .bad) := id rfl
@[simp] theorem rx_of_some : ofX (some a) ρ = .ok a ρ := id rfl
@[simp] theorem rx_of_none : ofX (none : Option α) ρ = .bad := id rfl
@[simp] theorem rx_x1 (F : α → Option β) (f : Ev → RX α) : x1 F f ρ = (f ρ).bind fun x ρ => ofX (F x) ρ := id rfl
@[simp] theorem rx_x2 (F : α → β → Option γ) (f : Ev → RX α) (g : Ev → RX β) : x2 F f g ρ = (f ρ).bind fun x ρ => (g ρ).bind fun y ρ => ofX (F x y) ρ := id rfl
@[simp] theorem rx_xCons (f : Ev → RX D) (g : Ev → RX (List D)) : xCons f g ρ = (f ρ).bind fun x ρ => (g ρ).bind fun xs ρ => .ok (x :: xs) ρ := id rfl
@[simp] theorem rx_xLst (f : Ev → RX (List D)) : xLst f ρ = (f ρ).bind fun l ρ => .ok (.list l) ρ := id rfl
@[simp] theorem rx_xIf (c : Ev → RX Bool) (f g : Ev → RX α) : xIf c f g ρ = (c ρ).bind fun b ρ => if b then f ρ else g ρ := id rfl
@[simp] theorem rx_xAnd (f g : Ev → RX Bool) : xAnd f g ρ = (f ρ).bind fun b ρ => if b then g ρ else .ok false ρ := id rfl
@[simp] theorem rx_xOr (f g : Ev → RX Bool) : xOr f g ρ = (f ρ).bind fun b ρ => if b then .ok true ρ else g ρ := id rfl
@[simp] theorem rx_xNot (f : Ev → RX Bool) : xNot f ρ = (f ρ).bind fun b ρ => .ok (!b) ρ := id rfl
@[simp] theorem rx_xCall (m : List D → R SD) (fl : Ev → RX (List D)) : xCall m fl ρ = (fl ρ).bind fun ds ρ => match m ds with | .ok s => ofX (toD s) ρ | _ => .bad := id rfl
@[simp] theorem rx_xCallO (m : List D → R SD) (fl : Ev → RX (List D)) : xCallO m fl ρ = (fl ρ).bind fun ds ρ => match m ds with | .ok s => ofX (toL s) ρ | _ => .bad := id rfl
@[simp] theorem rx_lstAt : lstAt ρ i = (match ρ[i]? with | some (.ow l) => some (l, false) | some (.bo l) => some (l, true) | _ => none) := id rfl
@[simp] theorem rx_mkT : mkL true l = .bo l := id rfl
@[simp] theorem rx_mkF : mkL false l = .ow l := id rfl
@[simp] theorem rx_xPop : xPop i ρ = (match lstAt ρ i with | some (l, b) => (match l.getLast? with | some d => .ok d (ρ.set i (mkL b l.dropLast)) | none => .bad) | none => .bad) := id rfl
@[simp] theorem rx_xHere (f : Ev → RX (List D)) : xHere i f ρ = (match lstAt ρ i with | some _ => (f ρ).bind fun ds ρ => .ok (.none :: ds) ρ | none => .bad) := id rfl
@[simp] theorem rx_xCallB (m : List D → List D → RB) (f : Ev → RX (List D)) : xCallB m i f ρ = (f ρ).bind fun ds ρ => match lstAt ρ i with | some (l, k) => (match m l ds with | .ok r l' => ofX (toD r) (ρ.set i (mkL k l')) | .bad => .bad) | none => .bad := id rfl
@[simp] theorem rx_xCallBO (m : List D → List D → RB) (f : Ev → RX (List D)) : xCallBO m i f ρ = (f ρ).bind fun ds ρ => match lstAt ρ i with | some (l, k) => (match m l ds with | .ok r l' => ofX (toL r) (ρ.set i (mkL k l')) | .bad => .bad) | none => .bad := id rfl
@[simp] theorem rx_xComp (vs : List Nat) (fi : Ev → RX (List D)) (g : D → Ev → Option Ev) (ft : Ev → RX Bool) (fe : Ev → RX D) : xComp vs fi g ft fe ρ = (fi ρ).bind fun l ρ1 => if l.length ≤ sizeLine then compX (compXS vs g ft fe) l (wipeE ρ1 vs) else .bad := id rfl
@[simp] theorem rx_lift_ok (k : α → Ev → Out) : liftX (.ok a ρ) k = k a ρ := id rfl
@[simp] theorem rx_lift_bad (k : α → Ev → Out) : liftX .bad k = .bad := id rfl
@[simp] theorem ry_set (f : Ev → RX D) : ySet i f ρ = liftX (f ρ) fun d ρ => .nx (ρ.set i (.sh d)) := id rfl
@[simp] theorem ry_setO (f : Ev → RX (List D)) : ySetO i f ρ = liftX (f ρ) fun d ρ => .nx (ρ.set i (.ow d)) := id rfl
@[simp] theorem ry_asg (f : Ev → RX D) (g : D → Ev → Option Ev) : yAsg f g ρ = liftX (f ρ) fun d ρ => match g d ρ with | some ρ' => .nx ρ' | none => .bad := id rfl
@[simp] theorem ry_if (c : Ev → RX Bool) (F F' : Ev → Out) : yIf c F F' ρ = liftX (c ρ) fun b ρ => if b then F ρ else F' ρ := id rfl
@[simp] theorem ry_drop (f : Ev → RX D) : yDrop f ρ = liftX (f ρ) fun _ ρ => .nx ρ := id rfl
@[simp] theorem ry_ret (f : Ev → RX D) : yRet f ρ = liftX (f ρ) fun d ρ => .rt (.sh d) := id rfl
@[simp] theorem ry_retO (f : Ev → RX (List D)) : yRetO f ρ = liftX (f ρ) fun d ρ => .rt (.ow d) := id rfl
@[simp] theorem ry_retB (f : Ev → RX D) : yRetB f ρ = liftX (f ρ) fun d ρ => .rtB (.sh d) ρ := id rfl
@[simp] theorem ry_retOB (f : Ev → RX (List D)) : yRetOB f ρ = liftX (f ρ) fun d ρ => .rtB (.ow d) ρ := id rfl
@[simp] theorem ry_retVB : yRetVB i ρ = (match ρ[i]? with | some (.ow l) => .rtB (.ow l) ρ | some (.sh d) => .rtB (.sh d) ρ | _ => .bad) := id rfl
@[simp] theorem ry_retNB : yRetNB ρ = .rtB (.sh .none) ρ := id rfl
@[simp] theorem ry_for (fi : Ev → RX (List D)) (g : D → Ev → Option Ev) (F : Ev → Out) : yFor fi g F ρ = liftX (fi ρ) fun l ρ => forO (gTo g F) l ρ := id rfl
@[simp] theorem ry_app (f : Ev → RX D) : yApp i f ρ = (match lstAt ρ i with
  | none => .bad
  | some _ => liftX (f ρ) fun d ρ => match lstAt ρ i with
    | some (l, b) => if l.length < sizeLine then .nx (ρ.set i (mkL b (l ++ [d]))) else .bad
    | none => .bad) := id rfl
@[simp] theorem ry_store (fi fv : Ev → RX D) : yStore i fi fv ρ = liftX (fv ρ) fun d ρ => match lstAt ρ i with
  | none => .bad
  | some _ => liftX (fi ρ) fun k ρ => match lstAt ρ i with
    | some (l, b) => match k with
      | .int z => match ixN l.length z with
        | some j => .nx (ρ.set i (mkL b (l.set j d)))
        | none => .bad
      | _ => .bad
    | none => .bad := id rfl
@[simp] theorem rx_fin_rtB (b : Nat) : finB b (.rtB s ρ) = (match ρ[b]? with | some (.bo l) => .ok s l | _ => .bad) := id rfl
@[simp] theorem rx_fin_nx (b : Nat) : finB b (.nx ρ) = (match ρ[b]? with | some (.bo l) => .ok (.sh .none) l | _ => .bad) := id rfl
@[simp] theorem rx_run1 (n b : Nat) (F : Ev → Out) (a : D) (h : b < 1) : runB 1 n b F l [a] = finB b (F ((.sh a :: List.replicate (n - 1) .no).set b (.bo l))) := if_pos ⟨rfl, h⟩
@[simp] theorem rx_run2 (n b : Nat) (F : Ev → Out) (a c : D) (h : b < 2) : runB 2 n b F l [a, c] = finB b (F ((.sh a :: .sh c :: List.replicate (n - 2) .no).set b (.bo l))) := if_pos ⟨rfl, h⟩
@[simp] theorem rx_run3 (n b : Nat) (F : Ev → Out) (a c d : D) (h : b < 3) : runB 3 n b F l [a, c, d] = finB b (F ((.sh a :: .sh c :: .sh d :: List.replicate (n - 3) .no).set b (.bo l))) := if_pos ⟨rfl, h⟩
@[simp] theorem rx_run4 (n b : Nat) (F : Ev → Out) (a c d e : D) (h : b < 4) : runB 4 n b F l [a, c, d, e] = finB b (F ((.sh a :: .sh c :: .sh d :: .sh e :: List.replicate (n - 4) .no).set b (.bo l))) := if_pos ⟨rfl, h⟩
@[simp] theorem r_run0 (n : Nat) (F : Ev → Out) : runD 0 n F [] = fin (F (List.replicate n .no)) := id rfl
/-! defs -/
@[simp] theorem r_fin_nx : fin (.nx ρ) = .ok (.sh .none) := id rfl
@[simp] theorem r_fin_rt : fin (.rt s) = .ok s := id rfl
@[simp] theorem r_fin_ex (u : Xn) : fin (.ex u ρ) = .ex u := id rfl
@[simp] theorem r_run1 (n : Nat) (F : Ev → Out) (a : D) : runD 1 n F [a] = fin (F (.sh a :: List.replicate (n - 1) .no)) := id rfl
@[simp] theorem r_run2 (n : Nat) (F : Ev → Out) (a b : D) : runD 2 n F [a, b] = fin (F (.sh a :: .sh b :: List.replicate (n - 2) .no)) := id rfl
@[simp] theorem r_run3 (n : Nat) (F : Ev → Out) (a b c : D) : runD 3 n F [a, b, c] = fin (F (.sh a :: .sh b :: .sh c :: List.replicate (n - 3) .no)) := id rfl
@[simp] theorem r_run4 (n : Nat) (F : Ev → Out) (a b c d : D) : runD 4 n F [a, b, c, d] = fin (F (.sh a :: .sh b :: .sh c :: .sh d :: List.replicate (n - 4) .no)) := id rfl
/-! data -/
theorem r_lim (l : List D) (h : l.length ≤ sizeLine) : lim l = some l := if_pos h
theorem r_tupD (l : List D) (h : l.length ≤ sizeLine) : tupD l = some (.tuple l) := by unfold tupD; rw [r_lim l h]; rfl
@[simp] theorem r_lim0 : lim [] = some [] := if_pos (show 0 ≤ sizeLine by decide)
@[simp] theorem r_tup0 : tupD [] = some (.tuple []) := r_tupD [] (show 0 ≤ sizeLine by decide)
@[simp] theorem r_lim1 (a0 : D) : lim [a0] = some [a0] := if_pos (show 1 ≤ sizeLine by decide)
@[simp] theorem r_tup1 (a0 : D) : tupD [a0] = some (.tuple [a0]) := r_tupD [a0] (show 1 ≤ sizeLine by decide)
@[simp] theorem r_lim2 (a0 a1 : D) : lim [a0, a1] = some [a0, a1] := if_pos (show 2 ≤ sizeLine by decide)
@[simp] theorem r_tup2 (a0 a1 : D) : tupD [a0, a1] = some (.tuple [a0, a1]) := r_tupD [a0, a1] (show 2 ≤ sizeLine by decide)
@[simp] theorem r_lim3 (a0 a1 a2 : D) : lim [a0, a1, a2] = some [a0, a1, a2] := if_pos (show 3 ≤ sizeLine by decide)
@[simp] theorem r_tup3 (a0 a1 a2 : D) : tupD [a0, a1, a2] = some (.tuple [a0, a1, a2]) := r_tupD [a0, a1, a2] (show 3 ≤ sizeLine by decide)
@[simp] theorem r_lim4 (a0 a1 a2 a3 : D) : lim [a0, a1, a2, a3] = some [a0, a1, a2, a3] := if_pos (show 4 ≤ sizeLine by decide)
@[simp] theorem r_tup4 (a0 a1 a2 a3 : D) : tupD [a0, a1, a2, a3] = some (.tuple [a0, a1, a2, a3]) := r_tupD [a0, a1, a2, a3] (show 4 ≤ sizeLine by decide)
@[simp] theorem r_lim5 (a0 a1 a2 a3 a4 : D) : lim [a0, a1, a2, a3, a4] = some [a0, a1, a2, a3, a4] := if_pos (show 5 ≤ sizeLine by decide)
@[simp] theorem r_tup5 (a0 a1 a2 a3 a4 : D) : tupD [a0, a1, a2, a3, a4] = some (.tuple [a0, a1, a2, a3, a4]) := r_tupD [a0, a1, a2, a3, a4] (show 5 ≤ sizeLine by decide)
@[simp] theorem r_lim6 (a0 a1 a2 a3 a4 a5 : D) : lim [a0, a1, a2, a3, a4, a5] = some [a0, a1, a2, a3, a4, a5] := if_pos (show 6 ≤ sizeLine by decide)
@[simp] theorem r_tup6 (a0 a1 a2 a3 a4 a5 : D) : tupD [a0, a1, a2, a3, a4, a5] = some (.tuple [a0, a1, a2, a3, a4, a5]) := r_tupD [a0, a1, a2, a3, a4, a5] (show 6 ≤ sizeLine by decide)
@[simp] theorem r_lim7 (a0 a1 a2 a3 a4 a5 a6 : D) : lim [a0, a1, a2, a3, a4, a5, a6] = some [a0, a1, a2, a3, a4, a5, a6] := if_pos (show 7 ≤ sizeLine by decide)
@[simp] theorem r_tup7 (a0 a1 a2 a3 a4 a5 a6 : D) : tupD [a0, a1, a2, a3, a4, a5, a6] = some (.tuple [a0, a1, a2, a3, a4, a5, a6]) := r_tupD [a0, a1, a2, a3, a4, a5, a6] (show 7 ≤ sizeLine by decide)
@[simp] theorem r_lim8 (a0 a1 a2 a3 a4 a5 a6 a7 : D) : lim [a0, a1, a2, a3, a4, a5, a6, a7] = some [a0, a1, a2, a3, a4, a5, a6, a7] := if_pos (show 8 ≤ sizeLine by decide)
@[simp] theorem r_tup8 (a0 a1 a2 a3 a4 a5 a6 a7 : D) : tupD [a0, a1, a2, a3, a4, a5, a6, a7] = some (.tuple [a0, a1, a2, a3, a4, a5, a6, a7]) := r_tupD [a0, a1, a2, a3, a4, a5, a6, a7] (show 8 ≤ sizeLine by decide)
@[simp] theorem r_lim9 (a0 a1 a2 a3 a4 a5 a6 a7 a8 : D) : lim [a0, a1, a2, a3, a4, a5, a6, a7, a8] = some [a0, a1, a2, a3, a4, a5, a6, a7, a8] := if_pos (show 9 ≤ sizeLine by decide)
@[simp] theorem r_tup9 (a0 a1 a2 a3 a4 a5 a6 a7 a8 : D) : tupD [a0, a1, a2, a3, a4, a5, a6, a7, a8] = some (.tuple [a0, a1, a2, a3, a4, a5, a6, a7, a8]) := r_tupD [a0, a1, a2, a3, a4, a5, a6, a7, a8] (show 9 ≤ sizeLine by decide)
@[simp] theorem r_lim10 (a0 a1 a2 a3 a4 a5 a6 a7 a8 a9 : D) : lim [a0, a1, a2, a3, a4, a5, a6, a7, a8, a9] = some [a0, a1, a2, a3, a4, a5, a6, a7, a8, a9] := if_pos (show 10 ≤ sizeLine by decide)
@[simp] theorem r_tup10 (a0 a1 a2 a3 a4 a5 a6 a7 a8 a9 : D) : tupD [a0, a1, a2, a3, a4, a5, a6, a7, a8, a9] = some (.tuple [a0, a1, a2, a3, a4, a5, a6, a7, a8, a9]) := r_tupD [a0, a1, a2, a3, a4, a5, a6, a7, a8, a9] (show 10 ≤ sizeLine by decide)
@[simp] theorem r_lim11 (a0 a1 a2 a3 a4 a5 a6 a7 a8 a9 a10 : D) : lim [a0, a1, a2, a3, a4, a5, a6, a7, a8, a9, a10] = some [a0, a1, a2, a3, a4, a5, a6, a7, a8, a9, a10] := if_pos (show 11 ≤ sizeLine by decide)
@[simp] theorem r_tup11 (a0 a1 a2 a3 a4 a5 a6 a7 a8 a9 a10 : D) : tupD [a0, a1, a2, a3, a4, a5, a6, a7, a8, a9, a10] = some (.tuple [a0, a1, a2, a3, a4, a5, a6, a7, a8, a9, a10]) := r_tupD [a0, a1, a2, a3, a4, a5, a6, a7, a8, a9, a10] (show 11 ≤ sizeLine by decide)
@[simp] theorem r_lim12 (a0 a1 a2 a3 a4 a5 a6 a7 a8 a9 a10 a11 : D) : lim [a0, a1, a2, a3, a4, a5, a6, a7, a8, a9, a10, a11] = some [a0, a1, a2, a3, a4, a5, a6, a7, a8, a9, a10, a11] := if_pos (show 12 ≤ sizeLine by decide)
@[simp] theorem r_tup12 (a0 a1 a2 a3 a4 a5 a6 a7 a8 a9 a10 a11 : D) : tupD [a0, a1, a2, a3, a4, a5, a6, a7, a8, a9, a10, a11] = some (.tuple [a0, a1, a2, a3, a4, a5, a6, a7, a8, a9, a10, a11]) := r_tupD [a0, a1, a2, a3, a4, a5, a6, a7, a8, a9, a10, a11] (show 12 ≤ sizeLine by decide)
@[simp] theorem r_lim13 (a0 a1 a2 a3 a4 a5 a6 a7 a8 a9 a10 a11 a12 : D) : lim [a0, a1, a2, a3, a4, a5, a6, a7, a8, a9, a10, a11, a12] = some [a0, a1, a2, a3, a4, a5, a6, a7, a8, a9, a10, a11, a12] := if_pos (show 13 ≤ sizeLine by decide)
@[simp] theorem r_tup13 (a0 a1 a2 a3 a4 a5 a6 a7 a8 a9 a10 a11 a12 : D) : tupD [a0, a1, a2, a3, a4, a5, a6, a7, a8, a9, a10, a11, a12] = some (.tuple [a0, a1, a2, a3, a4, a5, a6, a7, a8, a9, a10, a11, a12]) := r_tupD [a0, a1, a2, a3, a4, a5, a6, a7, a8, a9, a10, a11, a12] (show 13 ≤ sizeLine by decide)
@[simp] theorem r_lim14 (a0 a1 a2 a3 a4 a5 a6 a7 a8 a9 a10 a11 a12 a13 : D) : lim [a0, a1, a2, a3, a4, a5, a6, a7, a8, a9, a10, a11, a12, a13] = some [a0, a1, a2, a3, a4, a5, a6, a7, a8, a9, a10, a11, a12, a13] := if_pos (show 14 ≤ sizeLine by decide)
@[simp] theorem r_tup14 (a0 a1 a2 a3 a4 a5 a6 a7 a8 a9 a10 a11 a12 a13 : D) : tupD [a0, a1, a2, a3, a4, a5, a6, a7, a8, a9, a10, a11, a12, a13] = some (.tuple [a0, a1, a2, a3, a4, a5, a6, a7, a8, a9, a10, a11, a12, a13]) := r_tupD [a0, a1, a2, a3, a4, a5, a6, a7, a8, a9, a10, a11, a12, a13] (show 14 ≤ sizeLine by decide)
@[simp] theorem r_lim15 (a0 a1 a2 a3 a4 a5 a6 a7 a8 a9 a10 a11 a12 a13 a14 : D) : lim [a0, a1, a2, a3, a4, a5, a6, a7, a8, a9, a10, a11, a12, a13, a14] = some [a0, a1, a2, a3, a4, a5, a6, a7, a8, a9, a10, a11, a12, a13, a14] := if_pos (show 15 ≤ sizeLine by decide)
@[simp] theorem r_tup15 (a0 a1 a2 a3 a4 a5 a6 a7 a8 a9 a10 a11 a12 a13 a14 : D) : tupD [a0, a1, a2, a3, a4, a5, a6, a7, a8, a9, a10, a11, a12, a13, a14] = some (.tuple [a0, a1, a2, a3, a4, a5, a6, a7, a8, a9, a10, a11, a12, a13, a14]) := r_tupD [a0, a1, a2, a3, a4, a5, a6, a7, a8, a9, a10, a11, a12, a13, a14] (show 15 ≤ sizeLine by decide)
@[simp] theorem r_lim16 (a0 a1 a2 a3 a4 a5 a6 a7 a8 a9 a10 a11 a12 a13 a14 a15 : D) : lim [a0, a1, a2, a3, a4, a5, a6, a7, a8, a9, a10, a11, a12, a13, a14, a15] = some [a0, a1, a2, a3, a4, a5, a6, a7, a8, a9, a10, a11, a12, a13, a14, a15] := if_pos (show 16 ≤ sizeLine by decide)
@[simp] theorem r_tup16 (a0 a1 a2 a3 a4 a5 a6 a7 a8 a9 a10 a11 a12 a13 a14 a15 : D) : tupD [a0, a1, a2, a3, a4, a5, a6, a7, a8, a9, a10, a11, a12, a13, a14, a15] = some (.tuple [a0, a1, a2, a3, a4, a5, a6, a7, a8, a9, a10, a11, a12, a13, a14, a15]) := r_tupD [a0, a1, a2, a3, a4, a5, a6, a7, a8, a9, a10, a11, a12, a13, a14, a15] (show 16 ≤ sizeLine by decide)
@[simp] theorem r_lim17 (a0 a1 a2 a3 a4 a5 a6 a7 a8 a9 a10 a11 a12 a13 a14 a15 a16 : D) : lim [a0, a1, a2, a3, a4, a5, a6, a7, a8, a9, a10, a11, a12, a13, a14, a15, a16] = some [a0, a1, a2, a3, a4, a5, a6, a7, a8, a9, a10, a11, a12, a13, a14, a15, a16] := if_pos (show 17 ≤ sizeLine by decide)
@[simp] theorem r_tup17 (a0 a1 a2 a3 a4 a5 a6 a7 a8 a9 a10 a11 a12 a13 a14 a15 a16 : D) : tupD [a0, a1, a2, a3, a4, a5, a6, a7, a8, a9, a10, a11, a12, a13, a14, a15, a16] = some (.tuple [a0, a1, a2, a3, a4, a5, a6, a7, a8, a9, a10, a11, a12, a13, a14, a15, a16]) := r_tupD [a0, a1, a2, a3, a4, a5, a6, a7, a8, a9, a10, a11, a12, a13, a14, a15, a16] (show 17 ≤ sizeLine by decide)
@[simp] theorem r_lim18 (a0 a1 a2 a3 a4 a5 a6 a7 a8 a9 a10 a11 a12 a13 a14 a15 a16 a17 : D) : lim [a0, a1, a2, a3, a4, a5, a6, a7, a8, a9, a10, a11, a12, a13, a14, a15, a16, a17] = some [a0, a1, a2, a3, a4, a5, a6, a7, a8, a9, a10, a11, a12, a13, a14, a15, a16, a17] := if_pos (show 18 ≤ sizeLine by decide)
@[simp] theorem r_tup18 (a0 a1 a2 a3 a4 a5 a6 a7 a8 a9 a10 a11 a12 a13 a14 a15 a16 a17 : D) : tupD [a0, a1, a2, a3, a4, a5, a6, a7, a8, a9, a10, a11, a12, a13, a14, a15, a16, a17] = some (.tuple [a0, a1, a2, a3, a4, a5, a6, a7, a8, a9, a10, a11, a12, a13, a14, a15, a16, a17]) := r_tupD [a0, a1, a2, a3, a4, a5, a6, a7, a8, a9, a10, a11, a12, a13, a14, a15, a16, a17] (show 18 ≤ sizeLine by decide)
@[simp] theorem r_lim19 (a0 a1 a2 a3 a4 a5 a6 a7 a8 a9 a10 a11 a12 a13 a14 a15 a16 a17 a18 : D) : lim [a0, a1, a2, a3, a4, a5, a6, a7, a8, a9, a10, a11, a12, a13, a14, a15, a16, a17, a18] = some [a0, a1, a2, a3, a4, a5, a6, a7, a8, a9, a10, a11, a12, a13, a14, a15, a16, a17, a18] := if_pos (show 19 ≤ sizeLine by decide)
@[simp] theorem r_tup19 (a0 a1 a2 a3 a4 a5 a6 a7 a8 a9 a10 a11 a12 a13 a14 a15 a16 a17 a18 : D) : tupD [a0, a1, a2, a3, a4, a5, a6, a7, a8, a9, a10, a11, a12, a13, a14, a15, a16, a17, a18] = some (.tuple [a0, a1, a2, a3, a4, a5, a6, a7, a8, a9, a10, a11, a12, a13, a14, a15, a16, a17, a18]) := r_tupD [a0, a1, a2, a3, a4, a5, a6, a7, a8, a9, a10, a11, a12, a13, a14, a15, a16, a17, a18] (show 19 ≤ sizeLine by decide)
@[simp] theorem r_lim20 (a0 a1 a2 a3 a4 a5 a6 a7 a8 a9 a10 a11 a12 a13 a14 a15 a16 a17 a18 a19 : D) : lim [a0, a1, a2, a3, a4, a5, a6, a7, a8, a9, a10, a11, a12, a13, a14, a15, a16, a17, a18, a19] = some [a0, a1, a2, a3, a4, a5, a6, a7, a8, a9, a10, a11, a12, a13, a14, a15, a16, a17, a18, a19] := if_pos (show 20 ≤ sizeLine by decide)
@[simp] theorem r_tup20 (a0 a1 a2 a3 a4 a5 a6 a7 a8 a9 a10 a11 a12 a13 a14 a15 a16 a17 a18 a19 : D) : tupD [a0, a1, a2, a3, a4, a5, a6, a7, a8, a9, a10, a11, a12, a13, a14, a15, a16, a17, a18, a19] = some (.tuple [a0, a1, a2, a3, a4, a5, a6, a7, a8, a9, a10, a11, a12, a13, a14, a15, a16, a17, a18, a19]) := r_tupD [a0, a1, a2, a3, a4, a5, a6, a7, a8, a9, a10, a11, a12, a13, a14, a15, a16, a17, a18, a19] (show 20 ≤ sizeLine by decide)
@[simp] theorem r_lim21 (a0 a1 a2 a3 a4 a5 a6 a7 a8 a9 a10 a11 a12 a13 a14 a15 a16 a17 a18 a19 a20 : D) : lim [a0, a1, a2, a3, a4, a5, a6, a7, a8, a9, a10, a11, a12, a13, a14, a15, a16, a17, a18, a19, a20] = some [a0, a1, a2, a3, a4, a5, a6, a7, a8, a9, a10, a11, a12, a13, a14, a15, a16, a17, a18, a19, a20] := if_pos (show 21 ≤ sizeLine by decide)
@[simp] theorem r_tup21 (a0 a1 a2 a3 a4 a5 a6 a7 a8 a9 a10 a11 a12 a13 a14 a15 a16 a17 a18 a19 a20 : D) : tupD [a0, a1, a2, a3, a4, a5, a6, a7, a8, a9, a10, a11, a12, a13, a14, a15, a16, a17, a18, a19, a20] = some (.tuple [a0, a1, a2, a3, a4, a5, a6, a7, a8, a9, a10, a11, a12, a13, a14, a15, a16, a17, a18, a19, a20]) := r_tupD [a0, a1, a2, a3, a4, a5, a6, a7, a8, a9, a10, a11, a12, a13, a14, a15, a16, a17, a18, a19, a20] (show 21 ≤ sizeLine by decide)
@[simp] theorem r_lim22 (a0 a1 a2 a3 a4 a5 a6 a7 a8 a9 a10 a11 a12 a13 a14 a15 a16 a17 a18 a19 a20 a21 : D) : lim [a0, a1, a2, a3, a4, a5, a6, a7, a8, a9, a10, a11, a12, a13, a14, a15, a16, a17, a18, a19, a20, a21] = some [a0, a1, a2, a3, a4, a5, a6, a7, a8, a9, a10, a11, a12, a13, a14, a15, a16, a17, a18, a19, a20, a21] := if_pos (show 22 ≤ sizeLine by decide)
@[simp] theorem r_tup22 (a0 a1 a2 a3 a4 a5 a6 a7 a8 a9 a10 a11 a12 a13 a14 a15 a16 a17 a18 a19 a20 a21 : D) : tupD [a0, a1, a2, a3, a4, a5, a6, a7, a8, a9, a10, a11, a12, a13, a14, a15, a16, a17, a18, a19, a20, a21] = some (.tuple [a0, a1, a2, a3, a4, a5, a6, a7, a8, a9, a10, a11, a12, a13, a14, a15, a16, a17, a18, a19, a20, a21]) := r_tupD [a0, a1, a2, a3, a4, a5, a6, a7, a8, a9, a10, a11, a12, a13, a14, a15, a16, a17, a18, a19, a20, a21] (show 22 ≤ sizeLine by decide)
@[simp] theorem r_lim23 (a0 a1 a2 a3 a4 a5 a6 a7 a8 a9 a10 a11 a12 a13 a14 a15 a16 a17 a18 a19 a20 a21 a22 : D) : lim [a0, a1, a2, a3, a4, a5, a6, a7, a8, a9, a10, a11, a12, a13, a14, a15, a16, a17, a18, a19, a20, a21, a22] = some [a0, a1, a2, a3, a4, a5, a6, a7, a8, a9, a10, a11, a12, a13, a14, a15, a16, a17, a18, a19, a20, a21, a22] := if_pos (show 23 ≤ sizeLine by decide)
@[simp] theorem r_tup23 (a0 a1 a2 a3 a4 a5 a6 a7 a8 a9 a10 a11 a12 a13 a14 a15 a16 a17 a18 a19 a20 a21 a22 : D) : tupD [a0, a1, a2, a3, a4, a5, a6, a7, a8, a9, a10, a11, a12, a13, a14, a15, a16, a17, a18, a19, a20, a21, a22] = some (.tuple [a0, a1, a2, a3, a4, a5, a6, a7, a8, a9, a10, a11, a12, a13, a14, a15, a16, a17, a18, a19, a20, a21, a22]) := r_tupD [a0, a1, a2, a3, a4, a5, a6, a7, a8, a9, a10, a11, a12, a13, a14, a15, a16, a17, a18, a19, a20, a21, a22] (show 23 ≤ sizeLine by decide)
@[simp] theorem r_lim24 (a0 a1 a2 a3 a4 a5 a6 a7 a8 a9 a10 a11 a12 a13 a14 a15 a16 a17 a18 a19 a20 a21 a22 a23 : D) : lim [a0, a1, a2, a3, a4, a5, a6, a7, a8, a9, a10, a11, a12, a13, a14, a15, a16, a17, a18, a19, a20, a21, a22, a23] = some [a0, a1, a2, a3, a4, a5, a6, a7, a8, a9, a10, a11, a12, a13, a14, a15, a16, a17, a18, a19, a20, a21, a22, a23] := if_pos (show 24 ≤ sizeLine by decide)
@[simp] theorem r_tup24 (a0 a1 a2 a3 a4 a5 a6 a7 a8 a9 a10 a11 a12 a13 a14 a15 a16 a17 a18 a19 a20 a21 a22 a23 : D) : tupD [a0, a1, a2, a3, a4, a5, a6, a7, a8, a9, a10, a11, a12, a13, a14, a15, a16, a17, a18, a19, a20, a21, a22, a23] = some (.tuple [a0, a1, a2, a3, a4, a5, a6, a7, a8, a9, a10, a11, a12, a13, a14, a15, a16, a17, a18, a19, a20, a21, a22, a23]) := r_tupD [a0, a1, a2, a3, a4, a5, a6, a7, a8, a9, a10, a11, a12, a13, a14, a15, a16, a17, a18, a19, a20, a21, a22, a23] (show 24 ≤ sizeLine by decide)
@[simp] theorem r_tru_b : truD (.bool b) = some b := id rfl
@[simp] theorem r_tru_i : truD (.int x) = some (x != 0) := id rfl
@[simp] theorem r_tru_l : truD (.list l) = some (!l.isEmpty) := id rfl
@[simp] theorem r_tru_t : truD (.tuple l) = some (!l.isEmpty) := id rfl
@[simp] theorem r_tru_n : truD .none = some false := id rfl
@[simp] theorem r_bOf : bOf (.bool b) = some b := id rfl
@[simp] theorem r_add : addD (.int x) (.int y) = some (.int (x + y)) := id rfl
@[simp] theorem r_addL : addD (.list l) (.list m) = (catD l m).map .list := id rfl
@[simp] theorem r_addO : addO (.list l) (.list m) = catD l m := id rfl
@[simp] theorem r_cat (h : l.length + m.length ≤ sizeLine) : catD l m = some (l ++ m) := if_pos h
@[simp] theorem r_sub : subD (.int x) (.int y) = some (.int (x - y)) := id rfl
@[simp] theorem r_mul (h : okMul x y = true) : mulD (.int x) (.int y) = some (.int (x * y)) := if_pos h
@[simp] theorem r_imul (h : okMul x y = true) : imulD (.int x) (.int y) = some (.int (x * y)) := if_pos h
@[simp] theorem r_mulL : mulD (.list l) (.int x) = (repD l x).map .list := id rfl
@[simp] theorem r_mulO : mulO (.list l) (.int x) = repD l x := id rfl
@[simp] theorem r_iadd : iaddD (.int x) (.int y) = some (.int (x + y)) := id rfl
@[simp] theorem r_fdiv (h : okDiv x y = true) : fdivD (.int x) (.int y) = some (.int (x.fdiv y)) := if_pos h
@[simp] theorem r_mod (h : y ≠ 0) : modD (.int x) (.int y) = some (.int (x.fmod y)) := if_pos h
@[simp] theorem r_pow (h : okPow x y = true) : powD (.int x) (.int y) = some (.int (x ^ y.toNat)) := if_pos h
@[simp] theorem r_lt : ltD (.int x) (.int y) = some (.bool (decide (x < y))) := id rfl
@[simp] theorem r_le : leD (.int x) (.int y) = some (.bool (decide (x ≤ y))) := id rfl
@[simp] theorem r_gt : gtD (.int x) (.int y) = some (.bool (decide (y < x))) := id rfl
@[simp] theorem r_ge : geD (.int x) (.int y) = some (.bool (decide (y ≤ x))) := id rfl
@[simp] theorem r_neg : negD (.int x) = some (.int (-x)) := id rfl
@[simp] theorem r_not : notD d = (truD d).map fun k => .bool (!k) := id rfl
@[simp] theorem r_len_l : lenD [.list l] = some (.int l.length) := id rfl
@[simp] theorem r_len_t : lenD [.tuple l] = some (.int l.length) := id rfl
@[simp] theorem r_int_i : intD [.int x] = some (.int x) := id rfl
@[simp] theorem r_int_b : intD [.bool b] = some (.int (if b then 1 else 0)) := id rfl
@[simp] theorem r_abs : absD [.int x] = some (.int (if x < 0 then -x else x)) := id rfl
@[simp] theorem r_gcd : gcdD [.int x, .int y] = some (.int ((Nat.gcd x.natAbs y.natAbs : Nat) : Int)) := id rfl
@[simp] theorem r_all : allD [.list l] = (blsD l).map fun bs => .bool (bs.all id) := id rfl
@[simp] theorem r_any : anyD [.list l] = (blsD l).map fun bs => .bool (bs.any id) := id rfl
@[simp] theorem r_sum : sumD [.list l] = (intsD l).map fun bs => .int bs.sum := id rfl
@[simp] theorem r_bls (bs : List Bool) : blsD (bs.map .bool) = some bs := blsD_map bs
@[simp] theorem r_ints (bs : List Int) : intsD (bs.map .int) = some bs := intsD_map bs
@[simp] theorem r_bls_nil : blsD [] = some [] := id rfl
@[simp] theorem r_bls_cons : blsD (.bool b :: l) = (blsD l).map (b :: ·) := id rfl
@[simp] theorem r_ints_nil : intsD [] = some [] := id rfl
@[simp] theorem r_ints_cons : intsD (.int x :: l) = (intsD l).map (x :: ·) := id rfl
@[simp] theorem r_listO : listO [.list l] = some l := id rfl
@[simp] theorem r_listOt : listO [.tuple l] = some l := id rfl
@[simp] theorem r_tupleD : tupleD [.list l] = some (.tuple l) := id rfl
@[simp] theorem r_tupleDt : tupleD [.tuple l] = some (.tuple l) := id rfl
@[simp] theorem r_sPopX : sPopX j ρ = onOw j ρ fun l => match l.getLast? with
  | some _ => .nx (ρ.set j (.ow l.dropLast))
  | none => .bad := id rfl
@[simp] theorem r_strI (h : x.natAbs.log2 < 1920) : strD [.int x] = some (.str (toString x)) := if_pos h
@[simp] theorem r_strS (u : Str) : strD [.str u] = some (.str u) := id rfl
@[simp] theorem r_eDSel (ks : List Str) (fs : Ev → R (List D)) (fk : Ev → R D) : eDSel ks fs fk ρ = (fs ρ).bind fun ds => (fk ρ).bind fun k => ofO (selD ks ds k) := id rfl
@[simp] theorem r_seq_l : seqD (.list l) = some l := id rfl
@[simp] theorem r_seq_t : seqD (.tuple l) = some l := id rfl
@[simp] theorem r_enu : enuD [.list l] = some (enuL l) := id rfl
@[simp] theorem r_zip : zipD [.list l, .list m] = some (zipL l m) := id rfl
@[simp] theorem r_intOf : intOf (.int x) = some (some x) := id rfl
@[simp] theorem r_slice (o o' : Option Int) : sliceD (.list l) o o' = some (.list (cutL l o o')) := id rfl
@[simp] theorem r_sliceT (o o' : Option Int) : sliceD (.tuple l) o o' = some (.tuple (cutL l o o')) := id rfl
@[simp] theorem r_sliceO (o o' : Option Int) : sliceO (.list l) o o' = some (cutL l o o') := id rfl
@[simp] theorem r_revO : revO (.list l) = some l.reverse := id rfl
@[simp] theorem r_ix_l : ixD (.list l) (.int x) = atI l x := id rfl
@[simp] theorem r_ix_t : ixD (.tuple l) (.int x) = atI l x := id rfl
theorem r_at (n : Nat) : atI l (n : Int) = l[n]? := by
  unfold atI ixN
  by_cases h : n < l.length
  · rw [if_pos (by omega), if_pos (by omega)]; simp
  · rw [if_pos (by omega), if_neg (by omega), List.getElem?_eq_none (by omega)]; rfl
@[simp] theorem r_atI (h0 : 0 ≤ x) : atI l x = l[x.toNat]? := by
  have := r_at (l := l) x.toNat
  rwa [Int.toNat_of_nonneg h0] at this
@[simp] theorem r_at_last : atI (l ++ [d]) (-1 : Int) = some d := by
  unfold atI ixN
  have e : ((-1 : Int) + ((l ++ [d]).length : Nat)).toNat = l.length := by simp; omega
  rw [if_neg (by decide), if_pos (by simp; omega), e]
  simp
theorem range1_ok (h : x < 2 ^ 62) (h0 : -(2 ^ 62) ≤ x) : range1D [.int x] = some (rngL 0 1 x.toNat) := by
  show (if in62 x then _ else _) = _
  rw [if_pos (show in62 x = true from decide_eq_true ⟨h0, h⟩)]
theorem range2_ok (h : x < 2 ^ 62) (h0 : -(2 ^ 62) ≤ x) (h' : y < 2 ^ 62) (h0' : -(2 ^ 62) ≤ y) : range2D [.int x, .int y] = some (rngL x 1 (y - x).toNat) := by
  show (if in62 x && in62 y then _ else _) = _
  have e1 : in62 x = true := decide_eq_true ⟨h0, h⟩
  have e2 : in62 y = true := decide_eq_true ⟨h0', h'⟩
  rw [e1, e2]; rfl
end

/-! ### sizes -/
/-- |i| < 2^k -/
structure Sz (k : Nat) (i : Int) : Prop where
  lt : i.natAbs < 2 ^ k
section
variable {a b k m : Nat} {i j : Int}
theorem Sz.mono (h : Sz a i) (l : a ≤ b) : Sz b i := ⟨Nat.lt_of_lt_of_le h.lt (Nat.pow_le_pow_right (by decide) l)⟩
theorem Sz.neg (h : Sz a i) : Sz a (-i) := ⟨by rw [Int.natAbs_neg]; exact h.lt⟩
theorem Sz.mul (h : Sz a i) (h' : Sz b j) : Sz (a + b) (i * j) := ⟨by
  rw [Int.natAbs_mul, Nat.pow_add]
  exact Nat.mul_lt_mul'' h.lt h'.lt⟩
theorem Sz.add (h : Sz a i) (h' : Sz a j) : Sz (a + 1) (i + j) := ⟨by
  rw [Nat.pow_succ]
  have := Int.natAbs_add_le i j
  have := h.lt
  have := h'.lt
  omega⟩
theorem Sz.sub (h : Sz a i) (h' : Sz a j) : Sz (a + 1) (i - j) := by
  rw [Int.sub_eq_add_neg]; exact h.add h'.neg
theorem Sz.of_le (h : Sz a i) (l : j.natAbs ≤ i.natAbs) : Sz a j := ⟨Nat.lt_of_le_of_lt l h.lt⟩
theorem fdiv_abs (i j : Int) : (i.fdiv j).natAbs ≤ i.natAbs := Int.natAbs_fdiv_le_natAbs i j
theorem Sz.fdiv (h : Sz a i) : Sz a (i.fdiv j) := h.of_le (fdiv_abs i j)
theorem Sz.lit (h : decide (i.natAbs < 2 ^ a) = true) : Sz a i := ⟨(of_decide_eq_true h : i.natAbs < 2 ^ a)⟩
theorem bits_le (h : Sz k i) : Builtin.Int.intBits i ≤ k := by
  unfold Builtin.Int.intBits
  have := h.lt
  split
  · omega
  · rename_i z
    have hz : i.natAbs ≠ 0 := by simpa using z
    have := (Nat.log2_lt hz).mpr this
    omega
theorem sz_bits (h : Builtin.Int.intBits i ≤ k) : Sz k i := by
  unfold Builtin.Int.intBits at h
  split at h
  · rename_i e
    simp at e; subst e
    exact ⟨Nat.two_pow_pos _⟩
  · rename_i e
    exact ⟨(Nat.log2_lt (by simpa using e)).mp (by omega)⟩
theorem okMul_of (h : Sz a i) (h' : Sz b j) (l : a + b ≤ 134217728) : okMul i j = true := by
  have e1 := bits_le h
  have e2 := bits_le h'
  unfold okMul
  exact decide_eq_true (by omega)
theorem okDiv_of (h : Sz 9000 j) (hj : j ≠ 0) : okDiv i j = true := by
  have hz : j.natAbs ≠ 0 := by omega
  have := (Nat.log2_lt hz).mpr h.lt
  unfold okDiv Builtin.divisionGoesByPylong
  have e : ¬ (300 < j.natAbs.log2 / 30 + 1) := by omega
  simp [hj, e]
theorem okDiv_lit (h : decide (j.natAbs < 2 ^ 64) = true) (hj : j ≠ 0) : okDiv i j = true := okDiv_of ((Sz.lit (a := 64) h).mono (by decide)) hj
end

/-- for omega -/
theorem Sz.of {k : Nat} {i : Int} (c : Nat) (h : -(c : Int) < i) (h' : i < c) (hc : decide (c ≤ 2 ^ k) = true) : Sz k i := ⟨Nat.lt_of_lt_of_le (by omega : i.natAbs < c) (of_decide_eq_true hc)⟩
theorem r_mulS {x y : Int} (h1 : -1000000000000000000000000 < x) (h2 : x < 1000000000000000000000000) (h3 : -1000000000000000000000000 < y) (h4 : y < 1000000000000000000000000) : mulD (.int x) (.int y) = some (.int (x * y)) :=
  r_mul (okMul_of (a := 80) (b := 80) (Sz.of 1000000000000000000000000 h1 h2 (by decide)) (Sz.of 1000000000000000000000000 h3 h4 (by decide)) (by decide))
theorem r_fdivS {x y : Int} (h1 : -1000000000000000000000000 < y) (h2 : y < 1000000000000000000000000) (h0 : y ≠ 0) : fdivD (.int x) (.int y) = some (.int (x.fdiv y)) :=
  r_fdiv (okDiv_of ((Sz.of (k := 80) 1000000000000000000000000 h1 h2 (by decide)).mono (by decide)) h0)
/-! ### draws -/
structure IsDraws (c : Nat) (xs : List Int) : Prop where
  len : xs.length = c
  lo : ∀ x ∈ xs, 0 ≤ x
  hi : ∀ x ∈ xs, x < 1000
def gI (xs : List Int) (i : Nat) : Int := xs.getD i 0
section
variable {c : Nat} {xs : List Int}
theorem IsDraws.get (h : IsDraws c xs) (i : Nat) (hi : i < c) : xs[i]? = some (gI xs i) := by
  unfold gI
  rw [List.getD_eq_getElem?_getD, List.getElem?_eq_getElem (by rw [h.len]; exact hi)]; rfl
theorem IsDraws.mem (h : IsDraws c xs) (i : Nat) : gI xs i = 0 ∨ gI xs i ∈ xs := by
  unfold gI
  rw [List.getD_eq_getElem?_getD]
  cases e : xs[i]? with
  | none => left; rfl
  | some x => right; exact List.mem_of_getElem? e
theorem IsDraws.glo (h : IsDraws c xs) (i : Nat) : 0 ≤ gI xs i := by
  rcases h.mem i with e | e
  · rw [e]; decide
  · exact h.lo _ e
theorem IsDraws.ghi (h : IsDraws c xs) (i : Nat) : gI xs i < 1000 := by
  rcases h.mem i with e | e
  · rw [e]; decide
  · exact h.hi _ e
theorem cut_map {α : Type} (F : α → D) (xs : List α) (lo hi : Option Int) : cutL (xs.map F) lo hi = ((xs.drop (HT.sIx xs.length 0 lo)).take (HT.sIx xs.length xs.length hi - HT.sIx xs.length 0 lo)).map F := by
  unfold cutL; rw [List.length_map, List.map_take, List.map_drop]
theorem sIx_in {n d : Nat} {v : Int} (h0 : 0 ≤ v) (h : v ≤ n) : HT.sIx n d (some v) = v.toNat := by
  show (if v < 0 then (v + (n : Int)).toNat else min v.toNat n) = _
  rw [if_neg (by omega)]; omega
theorem IsDraws.sub (h : IsDraws c xs) (a b : Nat) (hb : b ≤ c) (hab : a ≤ b) : IsDraws (b - a) ((xs.drop a).take (b - a)) := ⟨by simp [h.len]; omega, fun x hx => h.lo x (List.mem_of_mem_drop (List.mem_of_mem_take hx)), fun x hx => h.hi x (List.mem_of_mem_drop (List.mem_of_mem_take hx))⟩
theorem IsDraws.cut (h : IsDraws c xs) {a b : Int} (m : Nat) (h0 : 0 ≤ a) (h1 : b ≤ c) (h2 : b = a + m) : ∃ ys, cutL (xs.map .int) (some a) (some b) = ys.map .int ∧ IsDraws m ys := by
  have q := h.sub a.toNat b.toNat (by omega) (by omega)
  rw [show b.toNat - a.toNat = m by omega] at q
  refine ⟨_, ?_, q⟩
  rw [cut_map, h.len, sIx_in h0 (by omega), sIx_in (by omega) h1, show b.toNat - a.toNat = m by omega]
theorem IsDraws.cutTo (h : IsDraws c xs) {b : Int} (m : Nat) (h1 : b ≤ c) (h2 : b = m) : ∃ ys, cutL (xs.map .int) none (some b) = ys.map .int ∧ IsDraws m ys := by
  have q := h.sub 0 b.toNat (by omega) (by omega)
  rw [show b.toNat - 0 = m by omega] at q
  refine ⟨_, ?_, q⟩
  rw [cut_map, h.len, HT.sIx_none, sIx_in (by omega) h1, show b.toNat - 0 = m by omega]
theorem IsDraws.cutFrom (h : IsDraws c xs) {a : Int} (m : Nat) (h0 : 0 ≤ a) (h2 : (c : Int) = a + m) : ∃ ys, cutL (xs.map .int) (some a) none = ys.map .int ∧ IsDraws m ys := by
  have q := h.sub a.toNat c (by omega) (by omega)
  rw [show c - a.toNat = m by omega] at q
  refine ⟨_, ?_, q⟩
  rw [cut_map, h.len, HT.sIx_none, sIx_in h0 (by omega), show c - a.toNat = m by omega]
end
@[simp] theorem kit_bool_bool : kitB "bool" "bool" = some true := by decide +kernel
@[simp] theorem kit_bool_int : kitB "bool" "int" = some true := by decide +kernel
@[simp] theorem kit_bool_str : kitB "bool" "str" = some false := by decide +kernel
@[simp] theorem kit_bool_list : kitB "bool" "list" = some false := by decide +kernel
@[simp] theorem kit_bool_tuple : kitB "bool" "tuple" = some false := by decide +kernel
@[simp] theorem kit_int_bool : kitB "int" "bool" = some false := by decide +kernel
@[simp] theorem kit_int_int : kitB "int" "int" = some true := by decide +kernel
@[simp] theorem kit_int_str : kitB "int" "str" = some false := by decide +kernel
@[simp] theorem kit_int_list : kitB "int" "list" = some false := by decide +kernel
@[simp] theorem kit_int_tuple : kitB "int" "tuple" = some false := by decide +kernel
@[simp] theorem kit_str_bool : kitB "str" "bool" = some false := by decide +kernel
@[simp] theorem kit_str_int : kitB "str" "int" = some false := by decide +kernel
@[simp] theorem kit_str_str : kitB "str" "str" = some true := by decide +kernel
@[simp] theorem kit_str_list : kitB "str" "list" = some false := by decide +kernel
@[simp] theorem kit_str_tuple : kitB "str" "tuple" = some false := by decide +kernel
@[simp] theorem kit_list_bool : kitB "list" "bool" = some false := by decide +kernel
@[simp] theorem kit_list_int : kitB "list" "int" = some false := by decide +kernel
@[simp] theorem kit_list_str : kitB "list" "str" = some false := by decide +kernel
@[simp] theorem kit_list_list : kitB "list" "list" = some true := by decide +kernel
@[simp] theorem kit_list_tuple : kitB "list" "tuple" = some false := by decide +kernel
@[simp] theorem kit_tuple_bool : kitB "tuple" "bool" = some false := by decide +kernel
@[simp] theorem kit_tuple_int : kitB "tuple" "int" = some false := by decide +kernel
@[simp] theorem kit_tuple_str : kitB "tuple" "str" = some false := by decide +kernel
@[simp] theorem kit_tuple_list : kitB "tuple" "list" = some false := by decide +kernel
@[simp] theorem kit_tuple_tuple : kitB "tuple" "tuple" = some true := by decide +kernel
@[simp] theorem kit_NoneType_bool : kitB "NoneType" "bool" = some false := by decide +kernel
@[simp] theorem kit_NoneType_int : kitB "NoneType" "int" = some false := by decide +kernel
@[simp] theorem kit_NoneType_str : kitB "NoneType" "str" = some false := by decide +kernel
@[simp] theorem kit_NoneType_list : kitB "NoneType" "list" = some false := by decide +kernel
@[simp] theorem kit_NoneType_tuple : kitB "NoneType" "tuple" = some false := by decide +kernel
@[simp] theorem isi_bool (n : String) (b : Bool) : isiD n (.bool b) = (kitB "bool" n).map .bool := rfl
@[simp] theorem isi_int (n : String) (b : Int) : isiD n (.int b) = (kitB "int" n).map .bool := rfl
@[simp] theorem isi_str (n : String) (b : Str) : isiD n (.str b) = (kitB "str" n).map .bool := rfl
@[simp] theorem isi_list (n : String) (b : List D) : isiD n (.list b) = (kitB "list" n).map .bool := rfl
@[simp] theorem isi_tup (n : String) (b : List D) : isiD n (.tuple b) = (kitB "tuple" n).map .bool := rfl
@[simp] theorem isi_none (n : String) : isiD n .none = (kitB "NoneType" n).map .bool := rfl

/-! ### loops -/
theorem forO_gen {F : D → Ev → Out} (J : Out → Prop) : ∀ {l : List D} (I : Nat → Ev → Prop) {ρ : Ev}, I 0 ρ →
    (∀ i d ρ, l[i]? = some d → I i ρ → (∃ ρ', (F d ρ = .nx ρ' ∨ F d ρ = .ct ρ') ∧ I (i + 1) ρ') ∨ (∃ ρ', F d ρ = .bk ρ' ∧ J (.nx ρ')) ∨ (∃ r, F d ρ = .rt r ∧ J (.rt r)) ∨ (∃ r ρ', F d ρ = .rtB r ρ' ∧ J (.rtB r ρ')) ∨ (∃ x ρ', F d ρ = .ex x ρ' ∧ J (.ex x ρ'))) →
    (∀ ρ, I l.length ρ → J (.nx ρ)) → J (forO F l ρ)
  | [], I, ρ, h0, _, e => e ρ h0
  | d :: l, I, ρ, h0, st, e => by
    have ih : ∀ ρ', I 1 ρ' → J (forO F l ρ') := fun ρ' h => forO_gen J (fun i => I (i + 1)) h (fun i d ρ hd hi => st (i + 1) d ρ (by simpa using hd) hi) (fun ρ h => e ρ (by simpa using h))
    unfold forO
    rcases st 0 d ρ (by simp) h0 with ⟨ρ', h | h, hi⟩ | ⟨ρ', h, hj⟩ | ⟨r, h, hj⟩ | ⟨r, ρ', h, hj⟩ | ⟨x, ρ', h, hj⟩
    · rw [h]; exact ih ρ' hi
    · rw [h]; exact ih ρ' hi
    · rw [h]; exact hj
    · rw [h]; exact hj
    · rw [h]; exact hj
    · rw [h]; exact hj
theorem forO_inv {F : D → Ev → Out} {l : List D} (I : Nat → Ev → Prop) {ρ : Ev} (h0 : I 0 ρ) (st : ∀ i d ρ, l[i]? = some d → I i ρ → ∃ ρ', (F d ρ = .nx ρ' ∨ F d ρ = .ct ρ') ∧ I (i + 1) ρ') : ∃ ρ', forO F l ρ = .nx ρ' ∧ I l.length ρ' :=
  forO_gen (fun o => ∃ ρ', o = .nx ρ' ∧ I l.length ρ') I h0 (fun i d ρ hd hi => .inl (st i d ρ hd hi)) fun ρ h => ⟨ρ, rfl, h⟩
theorem forO_fold {F : D → Ev → Out} {τ : Type} (R : τ → Ev → Prop) (step : τ → D → τ) : ∀ {l : List D} {s : τ} {ρ : Ev}, R s ρ → (∀ s ρ d, d ∈ l → R s ρ → ∃ ρ', (F d ρ = .nx ρ' ∨ F d ρ = .ct ρ') ∧ R (step s d) ρ') →
    ∃ ρ', forO F l ρ = .nx ρ' ∧ R (l.foldl step s) ρ'
  | [], s, ρ, h0, _ => ⟨ρ, rfl, h0⟩
  | d :: l, s, ρ, h0, st => by
    obtain ⟨ρ1, h, h1⟩ := st s ρ d (by simp) h0
    obtain ⟨ρ', e, h2⟩ := forO_fold R step (l := l) h1 fun s ρ d hd => st s ρ d (by simp [hd])
    refine ⟨ρ', ?_, h2⟩
    unfold forO
    rcases h with h | h <;> rw [h] <;> exact e
theorem rng0_get {n i : Nat} {d : D} (h : (rngL 0 1 n)[i]? = some d) : i < n ∧ d = .int (i : Nat) := by
  obtain ⟨h1, rfl⟩ := rngL_get h
  exact ⟨h1, by simp⟩
theorem mem_rng0 {n : Nat} {d : D} (h : d ∈ rngL 0 1 n) : ∃ i, i < n ∧ d = .int (i : Nat) := by
  obtain ⟨i, h1⟩ := List.mem_iff_getElem?.mp h
  exact ⟨i, rng0_get h1⟩
theorem mem_rng {lo c : Int} {n : Nat} {d : D} (h : d ∈ rngL lo c n) : ∃ i, i < n ∧ d = .int (lo + (i : Nat) * c) := by
  unfold rngL at h
  obtain ⟨i, h1, rfl⟩ := List.mem_map.mp h
  exact ⟨i, by simpa using h1, rfl⟩
theorem compR_map {step : D → R (Option D)} (φ : D → D) : ∀ {l : List D}, (∀ d ∈ l, step d = .ok (some (φ d))) → compR step l = .ok (l.map φ)
  | [], _ => rfl
  | d :: l, h => by
    unfold compR
    rw [h d (by simp), compR_map φ (l := l) fun e he => h e (by simp [he])]
    rfl
theorem compR_map' {α : Type} {step : D → R (Option D)} {F : α → D} {φ : α → D} : ∀ {l : List α}, (∀ a ∈ l, step (F a) = .ok (some (φ a))) → compR step (l.map F) = .ok (l.map φ)
  | [], _ => rfl
  | a :: l, h => by
    rw [List.map_cons]
    unfold compR
    rw [h a (by simp), compR_map' (l := l) fun e he => h e (by simp [he])]
    rfl
theorem compR_filter {step : D → R (Option D)} (φ : D → Option D) : ∀ {l : List D}, (∀ d ∈ l, step d = .ok (φ d)) → compR step l = .ok (l.filterMap φ)
  | [], _ => rfl
  | d :: l, h => by
    unfold compR
    rw [h d (by simp), compR_filter φ (l := l) fun e he => h e (by simp [he]), List.filterMap_cons]
    cases φ d <;> rfl
theorem compX_all {step : D → Ev → RX (Option D)} (I : Ev → Prop) (P : D → Prop) : ∀ {l : List D} {ρ : Ev}, (∀ d ρ, d ∈ l → I ρ → ∃ y ρ', step d ρ = .ok (some y) ρ' ∧ I ρ' ∧ P y) → I ρ →
    ∃ ys ρ', compX step l ρ = .ok ys ρ' ∧ I ρ' ∧ ys.length = l.length ∧ ∀ y ∈ ys, P y
  | [], ρ, _, h0 => ⟨[], ρ, rfl, h0, rfl, by simp⟩
  | d :: l, ρ, h, h0 => by
    obtain ⟨y, ρ1, e1, h1, p1⟩ := h d ρ (by simp) h0
    obtain ⟨ys, ρ2, e2, h2, l2, p2⟩ := compX_all I P (l := l) (fun d ρ hd => h d ρ (by simp [hd])) h1
    refine ⟨y :: ys, ρ2, ?_, h2, by simp [l2], fun z hz => ?_⟩
    · unfold compX
      rw [e1, rx_bind_ok, e2]; rfl
    · rcases List.mem_cons.mp hz with rfl | hz
      · exact p1
      · exact p2 z hz
/-! ### data without dicts, of a small depth -/
mutual
def okD : Nat → D → Bool
  | _, .none => true
  | _, .bool _ => true
  | _, .int _ => true
  | _, .str x => PyData.strOk x
  | 0, _ => false
  | n + 1, .list l => okL n l
  | n + 1, .tuple l => okL n l
  | _, .dict _ => false
def okL : Nat → List D → Bool
  | _, [] => true
  | n, d :: l => okD n d && okL n l
end
mutual
theorem okD_spec : ∀ (n : Nat) (d : D), okD n d = true → d.canLay0 = true ∧ d.depth ≤ n
  | _, .none, _ => ⟨rfl, Nat.zero_le _⟩
  | _, .bool _, _ => ⟨rfl, Nat.zero_le _⟩
  | _, .int _, _ => ⟨rfl, Nat.zero_le _⟩
  | 0, .str x, h => ⟨by simpa [okD, PyData.canLay0] using h, Nat.zero_le _⟩
  | n + 1, .str x, h => ⟨by simpa [okD, PyData.canLay0] using h, Nat.zero_le _⟩
  | 0, .list _, h => by simp [okD] at h
  | 0, .tuple _, h => by simp [okD] at h
  | 0, .dict _, h => by simp [okD] at h
  | n + 1, .dict _, h => by simp [okD] at h
  | n + 1, .list l, h => by
    obtain ⟨h1, h2⟩ := okL_spec n l (by simpa [okD] using h)
    exact ⟨by simpa [PyData.canLay0] using h1, by simpa [PyData.depth] using h2⟩
  | n + 1, .tuple l, h => by
    obtain ⟨h1, h2⟩ := okL_spec n l (by simpa [okD] using h)
    exact ⟨by simpa [PyData.canLay0] using h1, by simpa [PyData.depth] using h2⟩
theorem okL_spec : ∀ (n : Nat) (l : List D), okL n l = true → PyData.canLayAll0 l = true ∧ PyData.depthAll l ≤ n
  | _, [], _ => ⟨rfl, Nat.zero_le _⟩
  | n, d :: l, h => by
    have h' : okD n d = true ∧ okL n l = true := by simpa [okL] using h
    obtain ⟨h1, h2⟩ := okD_spec n d h'.1
    obtain ⟨h3, h4⟩ := okL_spec n l h'.2
    exact ⟨by simp [PyData.canLayAll0, h1, h3], by simp [PyData.depthAll]; omega⟩
end
theorem okL_iff : ∀ {n : Nat} {l : List D}, okL n l = true ↔ ∀ d ∈ l, okD n d = true
  | n, [] => by simp [okL]
  | n, d :: l => by simp [okL, okL_iff (l := l)]
@[simp] theorem okD_int (n : Nat) (i : Int) : okD n (.int i) = true := by cases n <;> rfl
@[simp] theorem okD_bool (n : Nat) (i : Bool) : okD n (.bool i) = true := by cases n <;> rfl
@[simp] theorem okD_none (n : Nat) : okD n .none = true := by cases n <;> rfl
@[simp] theorem okD_list (n : Nat) (l : List D) : okD (n + 1) (.list l) = okL n l := rfl
@[simp] theorem okD_tuple (n : Nat) (l : List D) : okD (n + 1) (.tuple l) = okL n l := rfl
@[simp] theorem okL_nil (n : Nat) : okL n [] = true := rfl
@[simp] theorem okL_cons (n : Nat) (d : D) (l : List D) : okL n (d :: l) = (okD n d && okL n l) := rfl
@[simp] theorem okL_ints (n : Nat) (l : List Int) : okL n (l.map .int) = true := okL_iff.mpr fun d h => by
  obtain ⟨i, _, rfl⟩ := List.mem_map.mp h
  exact okD_int n i
theorem shaped_of {d : D} (h : okD 64 d = true) : SeqAt.shaped d = true := by
  obtain ⟨h1, h2⟩ := okD_spec _ _ h
  unfold SeqAt.shaped
  simp [h1, h2]
theorem r_eqD {a b : D} (h : okD 64 a = true) (h' : okD 64 b = true) : eqD a b = some (.bool (PyData.eqv a b)) := by
  unfold eqD; rw [shaped_of h, shaped_of h']; rfl
@[simp] theorem r_eq_s (x y : Str) : eqD (.str x) (.str y) = some (.bool (decide (x = y))) := by
  unfold eqD
  split
  · show some (PyData.bool (x == y)) = _
    by_cases h : x = y
    · subst h; simp
    · simp [h]
  · rfl
@[simp] theorem r_ne_s (x y : Str) : neD (.str x) (.str y) = some (.bool (!decide (x = y))) := by
  unfold neD
  split
  · show some (PyData.bool (!(x == y))) = _
    by_cases h : x = y
    · subst h; simp
    · simp [h]
  · rfl
theorem r_neD {a b : D} (h : okD 64 a = true) (h' : okD 64 b = true) : neD a b = some (.bool (!PyData.eqv a b)) := by
  unfold neD; rw [shaped_of h, shaped_of h']; rfl
theorem eqv_self {d : D} (h : okD 64 d = true) : PyData.eqv d d = true := SeqAt.eqv_refl d (okD_spec _ _ h).1
theorem r_eq_self {d : D} (h : okD 64 d = true) : eqD d d = some (.bool true) := by rw [r_eqD h h, eqv_self h]
theorem r_ne_self {d : D} (h : okD 64 d = true) : neD d d = some (.bool false) := by rw [r_neD h h, eqv_self h]; rfl
@[simp] theorem r_eq_i (i j : Int) : eqD (.int i) (.int j) = some (.bool (decide (i = j))) := by rw [r_eqD (by simp) (by simp)]; rfl
@[simp] theorem r_ne_i (i j : Int) : neD (.int i) (.int j) = some (.bool (!decide (i = j))) := by rw [r_neD (by simp) (by simp)]; rfl
/-! ### repr: sizes -/
structure Sw (w : Nat) (d : D) : Prop where
  sh : d.showable = true
  le : d.shown.length ≤ w
theorem Sw.mono {w w' : Nat} {d : D} (h : Sw w d) (e : w ≤ w') : Sw w' d := ⟨h.sh, Nat.le_trans h.le e⟩
theorem sw_int {s : Nat} {i : Int} (h : Sz s i) (hs : s ≤ 1920) (h0 : 0 < s) : Sw (s + 1) (.int i) := by
  have hl : i.natAbs.log2 < s := by
    by_cases z : i.natAbs = 0
    · rw [z]; simpa using h0
    · exact (Nat.log2_lt z).mpr h.lt
  refine ⟨decide_eq_true (by omega), ?_⟩
  have := int_text_length_le h0 hl
  show (Str.ofString (toString i)).length ≤ s + 1
  rw [PySem.ofString_length]
  exact this
theorem sw_none : Sw 5 .none := ⟨rfl, by decide +kernel⟩
theorem sw_bool (b : Bool) : Sw 5 (.bool b) := ⟨rfl, by cases b <;> decide +kernel⟩
theorem sw_all {w : Nat} : ∀ {l : List D}, (∀ d ∈ l, Sw w d) → PyData.showableAll l = true ∧ ((PyData.shownAll l).map (·.length)).sum ≤ l.length * w ∧ (PyData.shownAll l).length = l.length
  | [], _ => ⟨rfl, by simp [PyData.shownAll], rfl⟩
  | d :: l, h => by
    obtain ⟨h1, h2, h3⟩ := sw_all (l := l) fun e he => h e (by simp [he])
    obtain ⟨h4, h5⟩ := h d (by simp)
    refine ⟨by simp [PyData.showableAll, h4, h1], ?_, by simp [PyData.shownAll, h3]⟩
    simp only [PyData.shownAll, List.map_cons, List.sum_cons, List.length_cons, Nat.succ_mul]
    omega
theorem sw_list {w : Nat} {l : List D} (h : ∀ d ∈ l, Sw w d) : Sw (l.length * (w + 2) + 3) (.list l) := by
  obtain ⟨h1, h2, h3⟩ := sw_all h
  refine ⟨by simpa [PyData.showable] using h1, ?_⟩
  have := listText_len_le (PyData.shownAll l)
  simp only [PyData.shown]
  rw [Nat.mul_add]
  omega
theorem sw_tup {w : Nat} {l : List D} (h : ∀ d ∈ l, Sw w d) : Sw (l.length * (w + 2) + 3) (.tuple l) := by
  obtain ⟨h1, h2, h3⟩ := sw_all h
  refine ⟨by simpa [PyData.showable] using h1, ?_⟩
  have := tupleText_len_le (PyData.shownAll l)
  simp only [PyData.shown]
  rw [Nat.mul_add]
  omega
theorem r_repr_t {l : List D} {w : Nat} (h : okL 63 l = true) (hs : ∀ d ∈ l, Sw w d) (hw : l.length * (w + 2) + 3 ≤ sizeLine) : reprL [.tuple l] = some (.str (PyData.shown (.tuple l))) := by
  obtain ⟨h1, h2⟩ := sw_tup hs
  unfold reprL reprD
  simp only
  rw [shaped_of (d := .tuple l) h, h1, decide_eq_true (Nat.le_trans h2 hw)]; rfl
theorem r_repr_l {l : List D} {w : Nat} (h : okL 63 l = true) (hs : ∀ d ∈ l, Sw w d) (hw : l.length * (w + 2) + 3 ≤ sizeLine) : reprL [.list l] = some (.str (PyData.shown (.list l))) := by
  obtain ⟨h1, h2⟩ := sw_list hs
  unfold reprL reprD
  simp only
  rw [shaped_of (d := .list l) h, h1, decide_eq_true (Nat.le_trans h2 hw)]; rfl
end VL

set_option Elab.async false
set_option linter.all false
set_option maxRecDepth 100000
set_option autoImplicit false
namespace W
open PySem PySem.Spec PyProof.Rows L2 VL
noncomputable def b__law_draws_1 : Ev → Out := sSeq (sSet 6 (cst (.int 0))) (sSeq (sIf (e1 bOf (e2 gtD (e1 lenD (eCons (eOwn 2) (cst []))) (cst (.int 0)))) (sSeq (sSet 7 (e2 modD (e1 intD (eCons (eOwn 5) (cst []))) (e1 lenD (eCons (eOwn 2) (cst []))))) (sIf (e1 bOf (e2 geD (e2 ixD (eOwn 2) (eOwn 7)) (e2 powD (cst (.int 10)) (cst (.int 18))))) (sSeq (sSet 6 (e2 modD (e1 intD (eCons (e2 ixD (eOwn 2) (eOwn 7)) (cst []))) (cst (.int 1000)))) (sStore 2 (eVar 7) (e2 fdivD (e2 ixD (eOwn 2) (eOwn 7)) (cst (.int 1000))))) (sSeq (sSet 8 (e2 modD (e1 intD (eCons (e2 addD (e2 addD (e2 mulD (e2 ixD (eOwn 2) (eOwn 7)) (cst (.int 48271))) (e2 mulD (eOwn 5) (cst (.int 69621)))) (cst (.int 11))) (cst []))) (cst (.int 2147483647)))) (sSeq (sSet 8 (e2 modD (e1 intD (eCons (e2 addD (e2 mulD (eOwn 8) (cst (.int 16807))) (eOwn 7)) (cst []))) (cst (.int 2147483629)))) (sSet 6 (e2 modD (e1 intD (eCons (e2 fdivD (eOwn 8) (cst (.int 7))) (cst []))) (cst (.int 1000)))))))) (sNil)) (sApp 4 (eVar 6)))
noncomputable def c__law_draws : Ev → Out := sSeq (sSetO 2 (eComp [3] (e1 seqD (eVar 0)) (gSet 3) (cst true) (eVar 3))) (sSeq (sSetO 4 (e1 lim (cst []))) (sSeq (sFor (e1 range1D (eCons (eOwn 1) (cst []))) (gSet 5) b__law_draws_1) (sRetV 4)))
noncomputable def m__law_draws : List D → R SD := runD 2 9 c__law_draws
noncomputable def b__law_gcd_1 : Ev → Out := sSeq (sIf (e1 bOf (e2 eqD (eOwn 1) (cst (.int 0)))) (.bk) (sNil)) (sSeq (sSet 3 (e2 modD (e1 intD (eCons (eOwn 0) (cst []))) (eOwn 1))) (sSeq (sSet 0 (eVar 1)) (sSet 1 (eVar 3))))
noncomputable def c__law_gcd : Ev → Out := sSeq (sSet 0 (e1 absD (eCons (eOwn 0) (cst [])))) (sSeq (sSet 1 (e1 absD (eCons (eOwn 1) (cst [])))) (sSeq (sFor (e1 range1D (eCons (cst (.int 4000)) (cst []))) (gSet 2) b__law_gcd_1) (sRet (eVar 0))))
noncomputable def m__law_gcd : List D → R SD := runD 2 4 c__law_gcd
noncomputable def c__law_number : Ev → Out := sSeq (sIf (e1 bOf (e2 ltD (eOwn 1) (cst (.int 0)))) (sSeq (sSet 0 (e1 negD (eOwn 0))) (sSet 1 (e1 negD (eOwn 1)))) (sNil)) (sSeq (sSet 2 (eCall m__law_gcd (eCons (eVar 0) (eCons (eVar 1) (cst []))))) (sRet (e1 tupD (eCons (e2 fdivD (eOwn 0) (eOwn 2)) (eCons (e2 fdivD (eOwn 1) (eOwn 2)) (cst []))))))
noncomputable def m__law_number : List D → R SD := runD 2 3 c__law_number
noncomputable def c__law_drawn : Ev → Out := sSeq (sSet 1 (e2 modD (e1 intD (eCons (e2 ixD (eOwn 0) (cst (.int 0))) (cst []))) (cst (.int 8)))) (sSeq (sIf (e1 bOf (e2 eqD (eOwn 1) (cst (.int 7)))) (sSeq (sSet 2 (e2 addD (e2 mulD (e2 addD (e2 mulD (e2 addD (e2 mulD (e1 intD (eCons (e2 ixD (eOwn 0) (cst (.int 1))) (cst []))) (cst (.int 1000))) (e1 intD (eCons (e2 ixD (eOwn 0) (cst (.int 2))) (cst [])))) (cst (.int 1000))) (e1 intD (eCons (e2 ixD (eOwn 0) (cst (.int 3))) (cst [])))) (cst (.int 1000))) (e1 intD (eCons (e2 ixD (eOwn 0) (cst (.int 4))) (cst []))))) (sSet 3 (e2 addD (e2 addD (cst (.int 1)) (e2 mulD (e2 addD (e2 mulD (e2 addD (e2 mulD (e1 intD (eCons (e2 ixD (eOwn 0) (cst (.int 5))) (cst []))) (cst (.int 1000))) (e1 intD (eCons (e2 ixD (eOwn 0) (cst (.int 6))) (cst [])))) (cst (.int 1000))) (e1 intD (eCons (e2 ixD (eOwn 0) (cst (.int 7))) (cst [])))) (cst (.int 900)))) (e1 intD (eCons (e2 ixD (eOwn 0) (cst (.int 1))) (cst [])))))) (sSeq (sSet 2 (e2 modD (e1 intD (eCons (e2 ixD (eOwn 0) (cst (.int 1))) (cst []))) (e2 addD (cst (.int 4)) (e2 mulD (cst (.int 20)) (eOwn 1))))) (sSet 3 (e2 addD (cst (.int 1)) (e2 modD (e1 intD (eCons (e2 ixD (eOwn 0) (cst (.int 2))) (cst []))) (e2 addD (cst (.int 1)) (e2 mulD (cst (.int 3)) (e2 modD (e1 intD (eCons (eOwn 1) (cst []))) (cst (.int 3)))))))))) (sSeq (sIf (e1 bOf (e2 eqD (e2 modD (e1 intD (eCons (e2 ixD (eOwn 0) (cst (.int 3))) (cst []))) (cst (.int 2))) (cst (.int 1)))) (sSet 2 (e1 negD (eOwn 2))) (sNil)) (sRet (eCall m__law_number (eCons (eVar 2) (eCons (eVar 3) (cst [])))))))
noncomputable def m__law_drawn : List D → R SD := runD 1 4 c__law_drawn
noncomputable def c__law_times : Ev → Out := sRet (eCall m__law_number (eCons (e2 mulD (e2 ixD (eOwn 0) (cst (.int 0))) (e2 ixD (eOwn 1) (cst (.int 0)))) (eCons (e2 mulD (e2 ixD (eOwn 0) (cst (.int 1))) (e2 ixD (eOwn 1) (cst (.int 1)))) (cst []))))
noncomputable def m__law_times : List D → R SD := runD 2 2 c__law_times
noncomputable def c_number : Ev → Out := sSeq (sIf (e1 bOf (e2 ltD (eOwn 1) (cst (.int 0)))) (sPar 0 1 (eCons (e1 negD (eOwn 0)) (eCons (e1 negD (eOwn 1)) (cst [])))) (sNil)) (sSeq (sSet 2 (e1 gcdD (eCons (eOwn 0) (eCons (eOwn 1) (cst []))))) (sRet (e1 tupD (eCons (e2 fdivD (eOwn 0) (eOwn 2)) (eCons (e2 fdivD (eOwn 1) (eOwn 2)) (cst []))))))
noncomputable def m_number : List D → R SD := runD 2 3 c_number
noncomputable def c_plus : Ev → Out := sRet (eCall m_number (eCons (e2 addD (e2 mulD (e2 ixD (eOwn 0) (cst (.int 0))) (e2 ixD (eOwn 1) (cst (.int 1)))) (e2 mulD (e2 ixD (eOwn 1) (cst (.int 0))) (e2 ixD (eOwn 0) (cst (.int 1))))) (eCons (e2 mulD (e2 ixD (eOwn 0) (cst (.int 1))) (e2 ixD (eOwn 1) (cst (.int 1)))) (cst []))))
noncomputable def m_plus : List D → R SD := runD 2 2 c_plus
noncomputable def c_minus : Ev → Out := sRet (eCall m_number (eCons (e2 subD (e2 mulD (e2 ixD (eOwn 0) (cst (.int 0))) (e2 ixD (eOwn 1) (cst (.int 1)))) (e2 mulD (e2 ixD (eOwn 1) (cst (.int 0))) (e2 ixD (eOwn 0) (cst (.int 1))))) (eCons (e2 mulD (e2 ixD (eOwn 0) (cst (.int 1))) (e2 ixD (eOwn 1) (cst (.int 1)))) (cst []))))
noncomputable def m_minus : List D → R SD := runD 2 2 c_minus
noncomputable def c_times : Ev → Out := sRet (eCall m_number (eCons (e2 mulD (e2 ixD (eOwn 0) (cst (.int 0))) (e2 ixD (eOwn 1) (cst (.int 0)))) (eCons (e2 mulD (e2 ixD (eOwn 0) (cst (.int 1))) (e2 ixD (eOwn 1) (cst (.int 1)))) (cst []))))
noncomputable def m_times : List D → R SD := runD 2 2 c_times
noncomputable def c__law_plus : Ev → Out := sRet (eCall m__law_number (eCons (e2 addD (e2 mulD (e2 ixD (eOwn 0) (cst (.int 0))) (e2 ixD (eOwn 1) (cst (.int 1)))) (e2 mulD (e2 ixD (eOwn 1) (cst (.int 0))) (e2 ixD (eOwn 0) (cst (.int 1))))) (eCons (e2 mulD (e2 ixD (eOwn 0) (cst (.int 1))) (e2 ixD (eOwn 1) (cst (.int 1)))) (cst []))))
noncomputable def m__law_plus : List D → R SD := runD 2 2 c__law_plus
noncomputable def c_compare : Ev → Out := sSeq (sPar 2 3 (eCons (e2 mulD (e2 ixD (eOwn 0) (cst (.int 0))) (e2 ixD (eOwn 1) (cst (.int 1)))) (eCons (e2 mulD (e2 ixD (eOwn 1) (cst (.int 0))) (e2 ixD (eOwn 0) (cst (.int 1)))) (cst [])))) (sSeq (sIf (e1 bOf (e2 ltD (eOwn 2) (eOwn 3))) (sRet (e1 negD (cst (.int 1)))) (sNil)) (sRet (e1 intD (eCons (e2 gtD (eOwn 2) (eOwn 3)) (cst [])))))
noncomputable def m_compare : List D → R SD := runD 2 4 c_compare
noncomputable def b_total_1 : Ev → Out := sSet 1 (eCall m_plus (eCons (eVar 1) (eCons (eVar 2) (cst []))))
noncomputable def c_total : Ev → Out := sSeq (sSet 1 (cst (.tuple [(.int 0), (.int 1)]))) (sSeq (sFor (e1 seqD (eVar 0)) (gSet 2) b_total_1) (sRet (eVar 1)))
noncomputable def m_total : List D → R SD := runD 1 3 c_total
noncomputable def b__law_total_1 : Ev → Out := sSet 1 (eCall m__law_plus (eCons (eVar 1) (eCons (eVar 2) (cst []))))
noncomputable def c__law_total : Ev → Out := sSeq (sSet 1 (e1 tupD (eCons (cst (.int 0)) (eCons (cst (.int 1)) (cst []))))) (sSeq (sFor (e1 seqD (eVar 0)) (gSet 2) b__law_total_1) (sRet (eVar 1)))
noncomputable def m__law_total : List D → R SD := runD 1 3 c__law_total
noncomputable def c_divided : Ev → Out := sRet (eCall m_number (eCons (e2 mulD (e2 ixD (eOwn 0) (cst (.int 0))) (e2 ixD (eOwn 1) (cst (.int 1)))) (eCons (e2 mulD (e2 ixD (eOwn 0) (cst (.int 1))) (e2 ixD (eOwn 1) (cst (.int 0)))) (cst []))))
noncomputable def m_divided : List D → R SD := runD 2 2 c_divided
noncomputable def b__law_is_number_1 : Ev → Out := sIf (eOr (eNot (e1 truD (e1 (isiD "int") (eOwn 1)))) (e1 truD (e1 (isiD "bool") (eOwn 1)))) (sRet (cst (.bool false))) (sNil)
noncomputable def c__law_is_number : Ev → Out := sSeq (sIf (eOr (eNot (e1 truD (e1 (isiD "tuple") (eOwn 0)))) (e1 bOf (e2 neD (e1 lenD (eCons (eOwn 0) (cst []))) (cst (.int 2))))) (sRet (cst (.bool false))) (sNil)) (sSeq (sFor (e1 seqD (eVar 0)) (gSet 1) b__law_is_number_1) (sRet (eAndV (e2 geD (e2 ixD (eOwn 0) (cst (.int 1))) (cst (.int 1))) (e2 eqD (eCall m__law_gcd (eCons (e2 ixD (eOwn 0) (cst (.int 0))) (eCons (e2 ixD (eOwn 0) (cst (.int 1))) (cst [])))) (cst (.int 1))))))
noncomputable def m__law_is_number : List D → R SD := runD 1 2 c__law_is_number
noncomputable def c__law_is_numbers : Ev → Out := sRet (eAndV (e1 (isiD "list") (eOwn 0)) (e1 allD (eCons (eLst (eComp [1] (e1 seqD (eVar 0)) (gSet 1) (cst true) (eCall m__law_is_number (eCons (eVar 1) (cst []))))) (cst []))))
noncomputable def m__law_is_numbers : List D → R SD := runD 1 2 c__law_is_numbers
noncomputable def c__law_less : Ev → Out := sRet (e2 ltD (e2 mulD (e2 ixD (eOwn 0) (cst (.int 0))) (e2 ixD (eOwn 1) (cst (.int 1)))) (e2 mulD (e2 ixD (eOwn 1) (cst (.int 0))) (e2 ixD (eOwn 0) (cst (.int 1)))))
noncomputable def m__law_less : List D → R SD := runD 2 2 c__law_less
noncomputable def c__law_order : Ev → Out := sSeq (sIf (e1 truD (eCall m__law_less (eCons (eVar 0) (eCons (eVar 1) (cst []))))) (sRet (e1 negD (cst (.int 1)))) (sNil)) (sSeq (sIf (e1 truD (eCall m__law_less (eCons (eVar 1) (eCons (eVar 0) (cst []))))) (sRet (cst (.int 1))) (sNil)) (sRet (cst (.int 0))))
noncomputable def m__law_order : List D → R SD := runD 2 2 c__law_order

/-! ### draws -/
theorem slB {n : Nat} (h : n ≤ 100000) : n ≤ sizeLine := Nat.le_trans h (by decide)
theorem idD_ok (l : List D) (ρ : Ev) (k : Nat) (hk : k < ρ.length) : compR (compS [k] (gSet k) (cst true) (eVar k) ρ) l = .ok l := by
  have := compR_map (step := compS [k] (gSet k) (cst true) (eVar k) ρ) (fun d => d) (l := l) fun d _ => by
    simp [compS, hk]
  rw [this, List.map_id']
theorem fmod_rng {a b : Int} (h : 0 < b) : 0 ≤ a.fmod b ∧ a.fmod b < b := ⟨Int.fmod_nonneg_of_pos a h, Int.fmod_lt_of_pos a h⟩
theorem draws_app {c : Nat} {xs : List Int} (hx : IsDraws c xs) (x : Int) (h1 : 0 ≤ x) (h2 : x < 1000) : IsDraws (c + 1) (xs ++ [x]) := ⟨by simp [hx.len], fun y hy => by
  rcases List.mem_append.mp hy with h | h
  · exact hx.lo y h
  · simp at h; subst h; exact h1, fun y hy => by
  rcases List.mem_append.mp hy with h | h
  · exact hx.hi y h
  · simp at h; subst h; exact h2⟩
theorem draws_step {a b : SD} {rs xs : List Int} {j3 j5 j6 j7 j8 : SD} {i : Nat} (hi : i < 100000) (hrl : rs.length ≤ 63) (hrz : ∀ z ∈ rs, Sz 1048577 z) (hx : IsDraws i xs) :
    ∃ (rs' : List Int) (x : Int) (k5 k6 k7 k8 : SD), gTo (gSet 5) b__law_draws_1 (.int (i : Nat)) [a, b, .ow (rs.map .int), j3, .ow (xs.map .int), j5, j6, j7, j8] = .nx [a, b, .ow (rs'.map .int), j3, .ow ((xs ++ [x]).map .int), k5, k6, k7, k8] ∧ rs'.length = rs.length ∧ (∀ z ∈ rs', Sz 1048577 z) ∧ 0 ≤ x ∧ x < 1000 := by
  have hxl : xs.length < sizeLine := by rw [hx.len]; exact Nat.lt_of_lt_of_le hi (by decide)
  by_cases he : 0 < rs.length
  · have hne : (rs.length : Int) ≠ 0 := by omega
    obtain ⟨a1, a2⟩ := fmod_rng (a := ((i : Nat) : Int)) (b := rs.length) (by omega)
    generalize hk : (((i : Nat) : Int).fmod rs.length) = k at a1 a2
    have hm : modD (.int (i : Nat)) (.int rs.length) = some (.int k) := by rw [r_mod hne, hk]
    obtain ⟨v, hv⟩ : ∃ v, rs[k.toNat]? = some v := ⟨_, List.getElem?_eq_getElem (by omega)⟩
    have hvz : Sz 1048577 v := hrz v (List.mem_of_getElem? hv)
    by_cases hbig : 1000000000000000000 ≤ v
    · have hd : okDiv v 1000 = true := okDiv_lit (by decide) (by decide)
      have hix : ixN rs.length k = some k.toNat := by unfold ixN; rw [if_pos a1, if_pos a2]
      refine ⟨rs.set k.toNat (v.fdiv 1000), v.fmod 1000, .sh (.int (i : Nat)), .sh (.int (v.fmod 1000)), .sh (.int k), j8, ?_, by simp, fun z hz => ?_, (fmod_rng (by decide)).1, (fmod_rng (by decide)).2⟩
      · simp [b__law_draws_1, he, hm, a1, hv, hbig, hd, hix, hxl, okPow]
      · rcases List.mem_or_eq_of_mem_set hz with h | h
        · exact hrz z h
        · subst h; exact hvz.fdiv
    · have h1 : okMul v 48271 = true := okMul_of hvz (b := 100) (.lit (by decide)) (by decide)
      have hi2 : Sz 100 (i : Nat) := (Sz.lit (i := 100000) (a := 100) (by decide)).of_le (by omega)
      have h2 : okMul (i : Nat) 69621 = true := okMul_of hi2 (b := 100) (.lit (by decide)) (by decide)
      have h3 : okMul ((v * 48271 + (i : Nat) * 69621 + 11).fmod 2147483647) 16807 = true := by
        obtain ⟨b1, b2⟩ := fmod_rng (a := v * 48271 + (i : Nat) * 69621 + 11) (b := 2147483647) (by decide)
        exact okMul_of (a := 100) (b := 100) ((Sz.lit (i := 2147483647) (a := 100) (by decide)).of_le (by omega)) (.lit (by decide)) (by decide)
      have h4 : ∀ x : Int, okDiv x 7 = true := fun x => okDiv_lit (by decide) (by decide)
      exact ⟨rs, _, _, _, _, _, by simp [b__law_draws_1, he, hm, a1, hv, hbig, h1, h2, h3, h4, hxl, okPow]; exact ⟨rfl, rfl, rfl, rfl, rfl⟩, rfl, hrz, (fmod_rng (by decide)).1, (fmod_rng (by decide)).2⟩
  · have h0 : rs = [] := by cases rs with | nil => rfl | cons _ _ => simp at he
    subst h0
    exact ⟨[], 0, _, _, _, _, by simp [b__law_draws_1, hxl]; exact ⟨rfl, rfl, rfl, rfl⟩, rfl, hrz, by decide, by decide⟩
theorem draws_ok (ns : List Int) (hn : ns.length ≤ 63) (hb : ∀ z ∈ ns, Builtin.Int.intBits z ≤ 1048576) (z : Int) (c : Nat) (hz : z = c) (hc : c ≤ 100000) : ∃ xs : List Int, m__law_draws [.list (ns.map .int), .int z] = .ok (.ow (xs.map .int)) ∧ IsDraws c xs := by
  subst hz
  obtain ⟨ρ', e, hρ⟩ := forO_inv (F := gTo (gSet 5) b__law_draws_1) (l := rngL 0 1 c)
    (fun i ρ => ∃ rs xs : List Int, ∃ j3 j5 j6 j7 j8 : SD, ρ = [.sh (.list (ns.map .int)), .sh (.int c), .ow (rs.map .int), j3, .ow (xs.map .int), j5, j6, j7, j8] ∧ rs.length ≤ 63 ∧ (∀ z ∈ rs, Sz 1048577 z) ∧ IsDraws i xs)
    (ρ := [.sh (.list (ns.map .int)), .sh (.int c), .ow (ns.map .int), .no, .ow [], .no, .no, .no, .no])
    ⟨ns, [], _, _, _, _, _, rfl, hn, fun z hz => sz_bits (Nat.le_trans (hb z hz) (by decide)), ⟨rfl, by simp, by simp⟩⟩
    (fun i d ρ hd hi => by
      obtain ⟨hic, rfl⟩ := rng0_get hd
      obtain ⟨rs, xs, j3, j5, j6, j7, j8, rfl, hrl, hrz, hx⟩ := hi
      obtain ⟨rs', x, k5, k6, k7, k8, e, h1, h2, h3, h4⟩ := draws_step (a := .sh (.list (ns.map .int))) (b := .sh (.int c)) (j3 := j3) (j5 := j5) (j6 := j6) (j7 := j7) (j8 := j8) (Nat.lt_of_lt_of_le hic hc) hrl hrz hx
      exact ⟨_, .inl e, rs', xs ++ [x], _, _, _, _, _, rfl, by omega, h2, draws_app hx x h3 h4⟩)
  rw [rngL_length] at hρ
  obtain ⟨rs, xs, j3, j5, j6, j7, j8, rfl, _, _, hx⟩ := hρ
  refine ⟨xs, ?_, hx⟩
  simp [m__law_draws, c__law_draws, slB (Nat.le_trans hn (by decide)), range1_ok (x := (c : Nat)) (by omega) (by omega), idD_ok, e]
/-! ### gcd -/
theorem gcd_step {a b : Nat} {j2 j3 : SD} {d : D} (hb : b ≠ 0) : ∃ k2 k3, gTo (gSet 2) b__law_gcd_1 d [.sh (.int (a : Nat)), .sh (.int (b : Nat)), j2, j3] = .nx [.sh (.int (b : Nat)), .sh (.int ((a % b : Nat) : Int)), k2, k3] := by
  have hm : modD (.int (a : Nat)) (.int (b : Nat)) = some (.int ((a % b : Nat) : Int)) := by
    rw [r_mod (by omega)]; simp [Int.fmod_eq_emod_of_nonneg]
  have hz : ((b : Int) = 0) = False := by simp; exact hb
  exact ⟨_, _, by simp [b__law_gcd_1, hm, hb]; exact ⟨rfl, rfl⟩⟩
theorem gcd_halves {a b : Nat} (h : b ≤ a) (hb : b ≠ 0) : 2 * (b * (a % b)) ≤ a * b ∧ a % b ≤ b := by
  have h1 : a % b < b := Nat.mod_lt _ (by omega)
  have h2 : a % b + b ≤ a := by
    have e := Nat.div_add_mod a b
    have : 1 ≤ a / b := (Nat.one_le_div_iff (by omega)).mpr h
    have : b * 1 ≤ b * (a / b) := Nat.mul_le_mul_left b this
    omega
  refine ⟨?_, by omega⟩
  calc 2 * (b * (a % b)) = b * (2 * (a % b)) := by grind
    _ ≤ b * a := Nat.mul_le_mul_left b (by omega)
    _ = a * b := Nat.mul_comm _ _
theorem gcd_ok {a b : Int} (ha : Sz 1990 a) (hb : Sz 1990 b) : m__law_gcd [.int a, .int b] = .ok (.sh (.int (Nat.gcd a.natAbs b.natAbs : Nat))) := by
  have L := forO_gen (F := gTo (gSet 2) b__law_gcd_1) (l := rngL 0 1 4000) (fun o => ∃ c j1 j2 j3, o = .nx [.sh (.int (c : Nat)), j1, j2, j3] ∧ c = Nat.gcd a.natAbs b.natAbs)
    (fun i ρ => ∃ (x y : Nat) (j2 j3 : SD), ρ = [.sh (.int (x : Nat)), .sh (.int (y : Nat)), j2, j3] ∧ Nat.gcd x y = Nat.gcd a.natAbs b.natAbs ∧ ((i = 0 ∧ x * y * 2 < 2 ^ 4000) ∨ (x * y * 2 ^ i < 2 ^ 4000 ∧ y ≤ x)))
    (ρ := [.sh (.int (a.natAbs : Nat)), .sh (.int (b.natAbs : Nat)), .no, .no])
    ⟨_, _, _, _, rfl, rfl, .inl ⟨rfl, by
      have h1 := Nat.mul_lt_mul'' ha.lt hb.lt
      rw [← Nat.pow_add] at h1
      have h2 : (2 : Nat) ^ 4000 = 2 ^ (1990 + 1990) * 2 ^ 20 := by rw [← Nat.pow_add]
      rw [h2]
      have : (2 : Nat) ^ 20 = 1048576 := by decide
      rw [this]
      generalize (2 : Nat) ^ (1990 + 1990) = q at *
      omega⟩⟩
    (fun i d ρ hd hi => by
      obtain ⟨x, y, j2, j3, rfl, hg, hp⟩ := hi
      by_cases hy : y = 0
      · subst hy
        right; left
        refine ⟨_, by simp [b__law_gcd_1, -Out.bk.injEq]; rfl, x, _, _, _, rfl, by simpa using hg⟩
      · obtain ⟨k2, k3, e⟩ := gcd_step (a := x) (b := y) (j2 := j2) (j3 := j3) (d := d) hy
        left
        refine ⟨_, .inl e, y, x % y, k2, k3, rfl, by rw [← hg, Nat.gcd_comm x y, Nat.gcd_comm y (x % y), ← Nat.gcd_rec], .inr ?_⟩
        rcases hp with ⟨rfl, hp⟩ | ⟨hp, hl⟩
        · have : x % y < y := Nat.mod_lt _ (by omega)
          have h2 : x % y ≤ x := Nat.mod_le _ _
          refine ⟨Nat.lt_of_le_of_lt ?_ hp, by omega⟩
          calc y * (x % y) * 2 ^ (0 + 1) = y * (x % y) * 2 := by simp
            _ ≤ y * x * 2 := Nat.mul_le_mul_right 2 (Nat.mul_le_mul_left y h2)
            _ = x * y * 2 := by rw [Nat.mul_comm y x]
        · obtain ⟨h1, h2⟩ := gcd_halves hl hy
          refine ⟨Nat.lt_of_le_of_lt ?_ hp, h2⟩
          calc y * (x % y) * 2 ^ (i + 1) = 2 * (y * (x % y)) * 2 ^ i := by rw [Nat.pow_succ]; grind
            _ ≤ x * y * 2 ^ i := Nat.mul_le_mul_right _ h1)
    (fun ρ h => by
      obtain ⟨x, y, j2, j3, rfl, hg, hp⟩ := h
      rw [rngL_length] at hp
      rcases hp with ⟨h, _⟩ | ⟨hp, hl⟩
      · cases h
      · have h0 : x * y = 0 := by
          rcases Nat.eq_zero_or_pos (x * y) with h | h
          · exact h
          · have : 1 * 2 ^ 4000 ≤ x * y * 2 ^ 4000 := Nat.mul_le_mul_right _ h
            rw [Nat.one_mul] at this
            exact absurd hp (Nat.not_lt.mpr this)
        have hy : y = 0 := by
          rcases Nat.mul_eq_zero.mp h0 with h | h
          · omega
          · exact h
        subst hy
        exact ⟨x, _, _, _, rfl, by simpa using hg⟩)
  obtain ⟨c, j1, j2, j3, e, rfl⟩ := L
  have ea : ∀ a : Int, (if a < 0 then -a else a) = (a.natAbs : Int) := fun a => by split <;> omega
  have hr := range1_ok (x := 4000) (by decide) (by decide)
  simp [m__law_gcd, c__law_gcd, ea, hr, e]
/-! ### numbers -/
def qD (q : Int × Int) : D := .tuple [.int q.1, .int q.2]
def mkQ (n d : Int) : Int × Int := if d < 0 then ((-n).fdiv (Nat.gcd n.natAbs d.natAbs : Nat), (-d).fdiv (Nat.gcd n.natAbs d.natAbs : Nat)) else (n.fdiv (Nat.gcd n.natAbs d.natAbs : Nat), d.fdiv (Nat.gcd n.natAbs d.natAbs : Nat))
structure Nm (q : Int × Int) : Prop where
  pos : 1 ≤ q.2
  low : Nat.gcd q.1.natAbs q.2.natAbs = 1
theorem fdiv_of_dvd {a g : Int} (hg : g ∣ a) (h0 : g ≠ 0) : a.fdiv g * g = a := by
  obtain ⟨k, rfl⟩ := hg
  rw [Int.mul_fdiv_cancel_left k h0, Int.mul_comm]
theorem mkQ_key (x y : Int) (hp : 0 < y) : Nm (x.fdiv (Nat.gcd x.natAbs y.natAbs : Nat), y.fdiv (Nat.gcd x.natAbs y.natAbs : Nat)) ∧ x.fdiv (Nat.gcd x.natAbs y.natAbs : Nat) * y = x * y.fdiv (Nat.gcd x.natAbs y.natAbs : Nat) := by
  have hgp := Nat.gcd_pos_of_pos_right x.natAbs (show 0 < y.natAbs by omega)
  have hg0 : (Nat.gcd x.natAbs y.natAbs : Int) ≠ 0 := by omega
  have d1 : (Nat.gcd x.natAbs y.natAbs : Int) ∣ x := Int.ofNat_dvd_left.mpr (Nat.gcd_dvd_left _ _)
  have d2 : (Nat.gcd x.natAbs y.natAbs : Int) ∣ y := Int.ofNat_dvd_left.mpr (Nat.gcd_dvd_right _ _)
  have e1 := fdiv_of_dvd d1 hg0
  have e2 := fdiv_of_dvd d2 hg0
  generalize hu : x.fdiv (Nat.gcd x.natAbs y.natAbs : Nat) = u at *
  generalize hv : y.fdiv (Nat.gcd x.natAbs y.natAbs : Nat) = v at *
  generalize hg : Nat.gcd x.natAbs y.natAbs = g at *
  have hvp : 0 < v := by
    rcases Int.lt_or_le 0 v with h | h
    · exact h
    · have : v * g ≤ 0 := Int.mul_nonpos_of_nonpos_of_nonneg h (by omega)
      omega
  refine ⟨⟨hvp, ?_⟩, ?_⟩
  · have e3 : 1 * g = Nat.gcd u.natAbs v.natAbs * g := by
      rw [← Nat.gcd_mul_right]
      have a1 : u.natAbs * g = x.natAbs := by rw [← e1, Int.natAbs_mul]; rfl
      have a2 : v.natAbs * g = y.natAbs := by rw [← e2, Int.natAbs_mul]; rfl
      rw [a1, a2, hg, Nat.one_mul]
    exact (Nat.eq_of_mul_eq_mul_right hgp e3).symm
  · rw [← e1, ← e2]; grind
theorem mkQ_spec (n d : Int) (hd : d ≠ 0) : Nm (mkQ n d) ∧ (mkQ n d).1 * d = n * (mkQ n d).2 := by
  unfold mkQ
  by_cases h : d < 0
  · rw [if_pos h]
    obtain ⟨k1, k2⟩ := mkQ_key (-n) (-d) (by omega)
    rw [Int.natAbs_neg, Int.natAbs_neg] at k1 k2
    exact ⟨k1, by dsimp only at *; grind⟩
  · rw [if_neg h]
    exact mkQ_key n d (by omega)
theorem mkQ_nm {n d : Int} (hd : d ≠ 0) : Nm (mkQ n d) := (mkQ_spec n d hd).1
theorem mkQ_eq {n d : Int} (hd : d ≠ 0) : (mkQ n d).1 * d = n * (mkQ n d).2 := (mkQ_spec n d hd).2
theorem mkQ_sz1 {n d : Int} {k : Nat} (h : Sz k n) : Sz k (mkQ n d).1 := by
  unfold mkQ; split
  · exact (h.neg).fdiv
  · exact h.fdiv
theorem mkQ_sz2 {n d : Int} {k : Nat} (h : Sz k d) : Sz k (mkQ n d).2 := by
  unfold mkQ; split
  · exact (h.neg).fdiv
  · exact h.fdiv
/-- numbers in lowest terms are the same if they are equal -/
theorem Nm.uniq {p q : Int × Int} (hp : Nm p) (hq : Nm q) (h : p.1 * q.2 = q.1 * p.2) : p = q := by
  have h1 := hp.pos
  have h2 := hq.pos
  have a : p.2.natAbs ∣ q.2.natAbs := by
    have : p.2.natAbs ∣ p.1.natAbs * q.2.natAbs := by
      rw [← Int.natAbs_mul, h, Int.natAbs_mul]; exact ⟨q.1.natAbs, Nat.mul_comm _ _⟩
    exact (Nat.Coprime.dvd_of_dvd_mul_left (Nat.Coprime.symm hp.low) this)
  have b : q.2.natAbs ∣ p.2.natAbs := by
    have : q.2.natAbs ∣ q.1.natAbs * p.2.natAbs := by
      rw [← Int.natAbs_mul, ← h, Int.natAbs_mul]; exact ⟨p.1.natAbs, Nat.mul_comm _ _⟩
    exact (Nat.Coprime.dvd_of_dvd_mul_left (Nat.Coprime.symm hq.low) this)
  have e : p.2 = q.2 := by
    have := Nat.dvd_antisymm a b
    omega
  rw [e] at h
  have e1 : p.1 = q.1 := Int.eq_of_mul_eq_mul_right (by omega) h
  exact Prod.ext e1 e
theorem gcd_neg' (n d : Int) : Nat.gcd (-n).natAbs (-d).natAbs = Nat.gcd n.natAbs d.natAbs := by rw [Int.natAbs_neg, Int.natAbs_neg]
theorem gcd_sz {n d : Int} {k : Nat} (h : Sz k d) (hd : d ≠ 0) : Sz k (Nat.gcd n.natAbs d.natAbs : Nat) := h.of_le (by
  have := Nat.le_of_dvd (by omega) (Nat.gcd_dvd_right n.natAbs d.natAbs)
  omega)
theorem gcd_ne {n d : Int} (hd : d ≠ 0) : (Nat.gcd n.natAbs d.natAbs : Int) ≠ 0 := by
  have := Nat.gcd_pos_of_pos_right n.natAbs (show 0 < d.natAbs by omega)
  omega
theorem okDiv_gcd {n d : Int} (h : Sz 9000 d) (hd : d ≠ 0) (x : Int) : okDiv x (Nat.gcd n.natAbs d.natAbs : Nat) = true := okDiv_of (gcd_sz h hd) (gcd_ne hd)
theorem s2 : (2 : Nat) ≤ sizeLine := by decide
theorem number_ok {n d : Int} (h2 : Sz 9000 d) (hd : d ≠ 0) : m_number [.int n, .int d] = .ok (.sh (qD (mkQ n d))) := by
  have o := okDiv_gcd (n := n) h2 hd
  by_cases h : d < 0
  · simp [m_number, c_number, h, o, s2, qD, mkQ]
  · simp [m_number, c_number, h, o, s2, qD, mkQ]
theorem lnumber_ok {n d : Int} (h1 : Sz 1990 n) (h2 : Sz 1990 d) (hd : d ≠ 0) : m__law_number [.int n, .int d] = .ok (.sh (qD (mkQ n d))) := by
  have o := okDiv_gcd (n := n) (h2.mono (by decide)) hd
  by_cases h : d < 0
  · have e := gcd_ok h1.neg h2.neg
    rw [gcd_neg'] at e
    simp [m__law_number, c__law_number, h, o, s2, qD, mkQ, e]
  · have e := gcd_ok h1 h2
    simp [m__law_number, c__law_number, h, o, s2, qD, mkQ, e]
@[simp] theorem ix_q0 (q : Int × Int) : ixD (qD q) (.int 0) = some (.int q.1) := by simp [qD]
@[simp] theorem ix_q1 (q : Int × Int) : ixD (qD q) (.int 1) = some (.int q.2) := by simp [qD]
@[simp] theorem okD_q (n : Nat) (q : Int × Int) : okD (n + 1) (qD q) = true := by simp [qD]
/-- a number within 2^k -/
structure Nk (k : Nat) (q : Int × Int) : Prop where
  nm : Nm q
  s1 : Sz k q.1
  s2 : Sz k q.2
theorem Nk.mono {k l : Nat} {q : Int × Int} (h : Nk k q) (e : k ≤ l) : Nk l q := ⟨h.nm, h.s1.mono e, h.s2.mono e⟩
theorem Nk.ne {k : Nat} {q : Int × Int} (h : Nk k q) : q.2 ≠ 0 := by have := h.nm.pos; omega
theorem mkQ_nk {n d : Int} {k : Nat} (hd : d ≠ 0) (h1 : Sz k n) (h2 : Sz k d) : Nk k (mkQ n d) := ⟨mkQ_nm hd, mkQ_sz1 h1, mkQ_sz2 h2⟩
def addQ (p q : Int × Int) : Int × Int := mkQ (p.1 * q.2 + q.1 * p.2) (p.2 * q.2)
def mulQ (p q : Int × Int) : Int × Int := mkQ (p.1 * q.1) (p.2 * q.2)
def subQ (p q : Int × Int) : Int × Int := mkQ (p.1 * q.2 - q.1 * p.2) (p.2 * q.2)
def divQ (p q : Int × Int) : Int × Int := mkQ (p.1 * q.2) (p.2 * q.1)
def negQ (p : Int × Int) : Int × Int := (-p.1, p.2)
theorem Nm.neg {p : Int × Int} (h : Nm p) : Nm (negQ p) := ⟨h.pos, by show Nat.gcd (-p.1).natAbs _ = 1; rw [Int.natAbs_neg]; exact h.low⟩
section
variable {p q : Int × Int} {k l : Nat}
theorem Nk.neg (h : Nk k p) : Nk k (negQ p) := ⟨h.nm.neg, h.s1.neg, h.s2⟩
theorem Nk.mulne (hp : Nk k p) (hq : Nk l q) : p.2 * q.2 ≠ 0 := Int.mul_ne_zero hp.ne hq.ne
theorem Nk.add (hp : Nk k p) (hq : Nk l q) : Nk (k + l + 1) (addQ p q) := mkQ_nk (hp.mulne hq) ((hp.s1.mul hq.s2).add (Nat.add_comm l k ▸ hq.s1.mul hp.s2)) ((hp.s2.mul hq.s2).mono (by omega))
theorem Nk.sub (hp : Nk k p) (hq : Nk l q) : Nk (k + l + 1) (subQ p q) := mkQ_nk (hp.mulne hq) ((hp.s1.mul hq.s2).sub (Nat.add_comm l k ▸ hq.s1.mul hp.s2)) ((hp.s2.mul hq.s2).mono (by omega))
theorem Nk.mul (hp : Nk k p) (hq : Nk l q) : Nk (k + l) (mulQ p q) := mkQ_nk (hp.mulne hq) (hp.s1.mul hq.s1) (hp.s2.mul hq.s2)
theorem Nk.div (hp : Nk k p) (hq : Nk l q) (h0 : q.1 ≠ 0) : Nk (k + l) (divQ p q) := mkQ_nk (Int.mul_ne_zero hp.ne h0) (hp.s1.mul hq.s2) (hp.s2.mul hq.s1)
theorem plus_ok (hp : Nk k p) (hq : Nk l q) (e : k + l ≤ 8000) : m_plus [qD p, qD q] = .ok (.sh (qD (addQ p q))) := by
  have o1 := okMul_of hp.s1 hq.s2 (by omega)
  have o2 := okMul_of hq.s1 hp.s2 (by omega)
  have o3 := okMul_of hp.s2 hq.s2 (by omega)
  have n := number_ok (n := p.1 * q.2 + q.1 * p.2) ((hp.s2.mul hq.s2).mono (show _ ≤ 9000 by omega)) (hp.mulne hq)
  simp [m_plus, c_plus, o1, o2, o3, n, addQ]
theorem minus_ok (hp : Nk k p) (hq : Nk l q) (e : k + l ≤ 8000) : m_minus [qD p, qD q] = .ok (.sh (qD (subQ p q))) := by
  have o1 := okMul_of hp.s1 hq.s2 (by omega)
  have o2 := okMul_of hq.s1 hp.s2 (by omega)
  have o3 := okMul_of hp.s2 hq.s2 (by omega)
  have n := number_ok (n := p.1 * q.2 - q.1 * p.2) ((hp.s2.mul hq.s2).mono (show _ ≤ 9000 by omega)) (hp.mulne hq)
  simp [m_minus, c_minus, o1, o2, o3, n, subQ]
theorem times_ok (hp : Nk k p) (hq : Nk l q) (e : k + l ≤ 8000) : m_times [qD p, qD q] = .ok (.sh (qD (mulQ p q))) := by
  have o1 := okMul_of hp.s1 hq.s1 (by omega)
  have o3 := okMul_of hp.s2 hq.s2 (by omega)
  have n := number_ok (n := p.1 * q.1) ((hp.s2.mul hq.s2).mono (show _ ≤ 9000 by omega)) (hp.mulne hq)
  simp [m_times, c_times, o1, o3, n, mulQ]
theorem divided_ok (hp : Nk k p) (hq : Nk l q) (h0 : q.1 ≠ 0) (e : k + l ≤ 8000) : m_divided [qD p, qD q] = .ok (.sh (qD (divQ p q))) := by
  have o1 := okMul_of hp.s1 hq.s2 (by omega)
  have o3 := okMul_of hp.s2 hq.s1 (by omega)
  have n := number_ok (n := p.1 * q.2) ((hp.s2.mul hq.s1).mono (show _ ≤ 9000 by omega)) (Int.mul_ne_zero hp.ne h0)
  simp [m_divided, c_divided, o1, o3, n, divQ]
theorem lplus_ok (hp : Nk k p) (hq : Nk l q) (e : k + l ≤ 1900) : m__law_plus [qD p, qD q] = .ok (.sh (qD (addQ p q))) := by
  have o1 := okMul_of hp.s1 hq.s2 (by omega)
  have o2 := okMul_of hq.s1 hp.s2 (by omega)
  have o3 := okMul_of hp.s2 hq.s2 (by omega)
  have n := lnumber_ok (((hp.s1.mul hq.s2).add (Nat.add_comm l k ▸ hq.s1.mul hp.s2)).mono (by omega)) ((hp.s2.mul hq.s2).mono (by omega)) (hp.mulne hq)
  simp [m__law_plus, c__law_plus, o1, o2, o3, n, addQ]
theorem ltimes_ok (hp : Nk k p) (hq : Nk l q) (e : k + l ≤ 1900) : m__law_times [qD p, qD q] = .ok (.sh (qD (mulQ p q))) := by
  have o1 := okMul_of hp.s1 hq.s1 (by omega)
  have o3 := okMul_of hp.s2 hq.s2 (by omega)
  have n := lnumber_ok ((hp.s1.mul hq.s1).mono (by omega)) ((hp.s2.mul hq.s2).mono (by omega)) (hp.mulne hq)
  simp [m__law_times, c__law_times, o1, o3, n, mulQ]
/-- the sign of the difference -/
def cmpQ (p q : Int × Int) : Int := if p.1 * q.2 < q.1 * p.2 then -1 else if q.1 * p.2 < p.1 * q.2 then 1 else 0
theorem compare_ok (hp : Nk k p) (hq : Nk l q) (e : k + l ≤ 8000) : m_compare [qD p, qD q] = .ok (.sh (.int (cmpQ p q))) := by
  have o1 := okMul_of hp.s1 hq.s2 (by omega)
  have o2 := okMul_of hq.s1 hp.s2 (by omega)
  unfold cmpQ
  by_cases h : p.1 * q.2 < q.1 * p.2
  · simp [m_compare, c_compare, o1, o2, h]
  · by_cases h' : q.1 * p.2 < p.1 * q.2
    · simp [m_compare, c_compare, o1, o2, h, h']
    · simp [m_compare, c_compare, o1, o2, h, h']
theorem lless_ok (hp : Nk k p) (hq : Nk l q) (e : k + l ≤ 8000) : m__law_less [qD p, qD q] = .ok (.sh (.bool (decide (p.1 * q.2 < q.1 * p.2)))) := by
  have o1 := okMul_of hp.s1 hq.s2 (by omega)
  have o2 := okMul_of hq.s1 hp.s2 (by omega)
  simp [m__law_less, c__law_less, o1, o2]
theorem lorder_ok (hp : Nk k p) (hq : Nk l q) (e : k + l ≤ 8000) : m__law_order [qD p, qD q] = .ok (.sh (.int (cmpQ p q))) := by
  have o1 := lless_ok hp hq e
  have o2 := lless_ok hq hp (by omega)
  unfold cmpQ
  by_cases h : p.1 * q.2 < q.1 * p.2
  · simp [m__law_order, c__law_order, o1, o2, h]
  · by_cases h' : q.1 * p.2 < p.1 * q.2
    · simp [m__law_order, c__law_order, o1, o2, h, h']
    · simp [m__law_order, c__law_order, o1, o2, h, h']
end

/-! ### looks at numbers -/
theorem is_number_ok {q : Int × Int} (h : Nk 1990 q) : m__law_is_number [qD q] = .ok (.sh (.bool true)) := by
  have g := gcd_ok h.s1 h.s2
  rw [h.nm.low] at g
  have hp : 1 ≤ q.2 := h.nm.pos
  have e : forO (gTo (gSet 1) b__law_is_number_1) [.int q.1, .int q.2] [.sh (qD q), .no] = .nx [.sh (qD q), .sh (.int q.2)] := by
    simp [forO, b__law_is_number_1]
  unfold qD at e ⊢
  simp [m__law_is_number, c__law_is_number, e, g, hp]
theorem is_numbers_ok {qs : List (Int × Int)} (hl : qs.length ≤ 100000) (h : ∀ q ∈ qs, Nk 1990 q) : m__law_is_numbers [.list (qs.map qD)] = .ok (.sh (.bool true)) := by
  have e : compR (compS [1] (gSet 1) (cst true) (eCall m__law_is_number (eCons (eVar 1) (cst []))) [.sh (.list (qs.map qD)), .no]) (qs.map qD) = .ok ((qs.map qD).map fun _ => .bool true) :=
    compR_map _ fun d hd => by
      obtain ⟨q, hq, rfl⟩ := List.mem_map.mp hd
      simp [compS, is_number_ok (h q hq)]
  have e2 : blsD ((qs.map qD).map fun _ => .bool true) = some (qs.map fun _ => true) := by
    have := blsD_map (qs.map fun _ => true)
    rw [List.map_map] at this ⊢
    exact this
  simp only [List.map_map] at e e2
  simp [m__law_is_numbers, c__law_is_numbers, e, e2, slB hl]
def sumQ (qs : List (Int × Int)) : Int × Int := qs.foldl addQ (0, 1)
theorem nk01 : Nk 1 (0, 1) := ⟨⟨by decide, by decide⟩, .lit (by decide), .lit (by decide)⟩
theorem fold_map {α τ : Type} (F : α → D) (g : τ → α → τ) (step : τ → D → τ) (h : ∀ s a, step s (F a) = g s a) : ∀ (l : List α) (s : τ), (l.map F).foldl step s = l.foldl g s
  | [], _ => rfl
  | a :: l, s => by simp [h, fold_map F g step h l]
theorem total_loop {qs : List (Int × Int)} {K : Nat} (hq : ∀ q ∈ qs, Nk K q) (hl : (K + 1) * qs.length ≤ 1000) (hk : K ≤ 100) (x : SD) :
    ∃ j, forO (gTo (gSet 2) b_total_1) (qs.map qD) [x, .sh (qD (0, 1)), .no] = .nx [x, .sh (qD (sumQ qs)), j] := by
  have go : ∀ (qs : List (Int × Int)) (s : Int × Int) (n : Nat) (j : SD), (∀ q ∈ qs, Nk K q) → Nk n s → n + (K + 1) * qs.length ≤ 1001 → ∃ j', forO (gTo (gSet 2) b_total_1) (qs.map qD) [x, .sh (qD s), j] = .nx [x, .sh (qD (qs.foldl addQ s)), j'] := by
    intro qs
    induction qs with
    | nil => exact fun s n j _ _ _ => ⟨j, rfl⟩
    | cons q qs ih =>
      intro s n j hq hs hn
      rw [List.length_cons, Nat.mul_add] at hn
      have e : gTo (gSet 2) b_total_1 (qD q) [x, .sh (qD s), j] = .nx [x, .sh (qD (addQ s q)), .sh (qD q)] := by
        simp [b_total_1, plus_ok hs (hq q (by simp)) (by omega)]
      obtain ⟨j', ih'⟩ := ih (addQ s q) (n + K + 1) (.sh (qD q)) (fun q h => hq q (by simp [h])) (hs.add (hq q (by simp))) (by omega)
      refine ⟨j', ?_⟩
      rw [List.map_cons]
      unfold forO
      rw [e]
      exact ih'
  exact go qs (0, 1) 1 .no hq nk01 (by omega)
theorem ltotal_loop {qs : List (Int × Int)} {K : Nat} (hq : ∀ q ∈ qs, Nk K q) (hl : (K + 1) * qs.length ≤ 1000) (hk : K ≤ 100) (x : SD) :
    ∃ j, forO (gTo (gSet 2) b__law_total_1) (qs.map qD) [x, .sh (qD (0, 1)), .no] = .nx [x, .sh (qD (sumQ qs)), j] := by
  have go : ∀ (qs : List (Int × Int)) (s : Int × Int) (n : Nat) (j : SD), (∀ q ∈ qs, Nk K q) → Nk n s → n + (K + 1) * qs.length ≤ 1001 → ∃ j', forO (gTo (gSet 2) b__law_total_1) (qs.map qD) [x, .sh (qD s), j] = .nx [x, .sh (qD (qs.foldl addQ s)), j'] := by
    intro qs
    induction qs with
    | nil => exact fun s n j _ _ _ => ⟨j, rfl⟩
    | cons q qs ih =>
      intro s n j hq hs hn
      rw [List.length_cons, Nat.mul_add] at hn
      have e : gTo (gSet 2) b__law_total_1 (qD q) [x, .sh (qD s), j] = .nx [x, .sh (qD (addQ s q)), .sh (qD q)] := by
        simp [b__law_total_1, lplus_ok hs (hq q (by simp)) (by omega)]
      obtain ⟨j', ih'⟩ := ih (addQ s q) (n + K + 1) (.sh (qD q)) (fun q h => hq q (by simp [h])) (hs.add (hq q (by simp))) (by omega)
      refine ⟨j', ?_⟩
      rw [List.map_cons]
      unfold forO
      rw [e]
      exact ih'
  exact go qs (0, 1) 1 .no hq nk01 (by omega)
theorem q01 : (.tuple [.int 0, .int 1] : D) = qD (0, 1) := rfl
theorem total_ok {qs : List (Int × Int)} {K : Nat} (hq : ∀ q ∈ qs, Nk K q) (hl : (K + 1) * qs.length ≤ 1000) (hk : K ≤ 100) : m_total [.list (qs.map qD)] = .ok (.sh (qD (sumQ qs))) := by
  obtain ⟨j, e⟩ := total_loop hq hl hk (.sh (.list (qs.map qD)))
  simp [m_total, c_total, e, q01]
theorem ltotal_ok {qs : List (Int × Int)} {K : Nat} (hq : ∀ q ∈ qs, Nk K q) (hl : (K + 1) * qs.length ≤ 1000) (hk : K ≤ 100) : m__law_total [.list (qs.map qD)] = .ok (.sh (qD (sumQ qs))) := by
  obtain ⟨j, e⟩ := ltotal_loop hq hl hk (.sh (.list (qs.map qD)))
  simp [m__law_total, c__law_total, e, q01]
end W

set_option Elab.async false
set_option linter.all false
set_option maxRecDepth 100000
set_option autoImplicit false
namespace VL
open PySem PySem.Spec PyProof.Rows L2

def strsOf : List D → Option (List Str)
  | [] => some []
  | .str a :: l => (strsOf l).map (a :: ·)
  | _ => none
/-- a.split(b) -/
def splitD (a : Str) : D → Option (List D)
  | .str b => if (b.length == 0) = false ∧ a.length + 2 ≤ sizeLine then some ((Txt.split a b).map .str) else none
  | _ => none
/-- a.join(l) -/
def joinD (a : Str) : D → Option D
  | .list l => match strsOf l with
    | some ys => if (ys.map (·.length)).sum + ys.length * a.length ≤ 16777216 then some (.str (Txt.join a ys)) else none
    | none => none
  | _ => none
def eStr {γ : Type} (F : Str → D → Option γ) (f g : Ev → R D) : Ev → R γ := fun ρ => (f ρ).bind fun x => match x with
  | .str a => (g ρ).bind fun y => ofO (F a y)
  | _ => .bad
theorem strsOf_rp {K : Fg} {Hs : Hp} {l : List D} {ys : List Str} (h : strsOf l = some ys) {xs : List V} (r : RpL K Hs l xs) : xs = ys.map V.str := by
  induction l generalizing ys xs with
  | nil => cases r; cases h; rfl
  | cons d l ih =>
    cases d <;> first | cases h | skip
    rename_i a
    unfold strsOf at h
    cases z : strsOf l with
    | none => rw [z] at h; cases h
    | some zs =>
      rw [z] at h; cases h
      cases r with
      | cons r1 r2 => cases r1; rw [ih z r2]; rfl
theorem rp_strs {K : Fg} {Hs : Hp} (ys : List Str) : RpL K Hs (ys.map fun a => (PyData.str a : D)) (ys.map V.str) := by
  induction ys with
  | nil => exact .nil
  | cons a l ih => exact .cons (.str a) ih

section
variable {X : Cx} {W : WX} {o e : Expr} {apos pos : Pos} {f g : Ev → R D}
theorem v_splitO (ho : VP X W o f) (he : VP X W e g) (hs : starEach [e] X.env = [(false, eval e X.env)] := by rfl) (hbase : attributeBase o "split" X.env (eval o X.env) = eval o X.env := by rfl) (hline : (apos.endLine == pos.line) = true := by rfl) :
    VO X W (.Call (.Attribute o "split" apos) [e] [] pos) (eStr splitD f g) := PE.imp (pe_split ho he hs hbase hline) fun σ H Q ⟨S, G, Hs, ρ, r, p⟩ => by
  refine ⟨S, G, Hs, ρ, r, (Post.bind p).imp fun x Hs1 H1 e q u hu => ?_⟩
  cases x with
  | str a =>
    refine ⟨⟨a, hu.str⟩, S, G, Hs1, ρ, r.step e, (Post.bind q).imp fun y Hs2 H2 e' q' v hv => ?_⟩
    cases y with
    | str b =>
      change Post _ _ _ _ _ _ (ofO (if (b.length == 0) = false ∧ a.length + 2 ≤ sizeLine then some ((Txt.split a b).map fun a => (PyData.str a : D)) else none)) _ at q'
      split at q'
      · rename_i hc
        refine ⟨a, b, hu.str, by rw [hv.str], hc.1, hc.2, fun p hp => ?_⟩
        obtain ⟨x1, x2, x3, x4⟩ := new_own e'.sub hp (rp_strs (Txt.split a b))
        exact q' _ _ x1 p _ ((e.trans e').same.free hp) x2 x3 x4
      · exact q'.elim
    | _ => exact q'.elim
  | _ => exact q.elim
theorem v_join (ho : VP X W o f) (he : VP X W e g) (hs : starEach [e] X.env = [(false, eval e X.env)] := by rfl) (hbase : attributeBase o "join" X.env (eval o X.env) = eval o X.env := by rfl) (hline : (apos.endLine == pos.line) = true := by rfl) :
    VE X W (.Call (.Attribute o "join" apos) [e] [] pos) (eStr joinD f g) := PE.imp (pe_join ho he hs hbase hline) fun σ H Q ⟨S, G, Hs, ρ, r, p⟩ => by
  refine ⟨S, G, Hs, ρ, r, (Post.bind p).imp fun x Hs1 H1 e q u hu => ?_⟩
  cases x with
  | str a =>
    refine ⟨⟨a, hu.str⟩, S, G, Hs1, ρ, r.step e, (Post.bind q).imp fun y Hs2 H2 e' q' v hv => ?_⟩
    cases y with
    | list l =>
      cases z : strsOf l with
      | none => unfold joinD at q'; simp only [z] at q'; exact q'.elim
      | some ys =>
        unfold joinD at q'; simp only [z] at q'
        split at q'
        · rename_i hc
          obtain ⟨b, xs, rfl, h1, h2⟩ := hv.list e'.sub
          have h3 := strsOf_rp z h2
          subst h3
          exact ⟨a, b, ys, hu.str, rfl, .inl h1, hc, q'.now e'.sub _ (.str _)⟩
        · exact q'.elim
    | _ => exact q'.elim
  | _ => exact q.elim
end
@[simp] theorem r_eStrE {γ : Type} (F : Str → D → Option γ) (f g : Ev → R D) (ρ : Ev) {a : Str} {y : D} (h1 : f ρ = .ok (.str a)) (h2 : g ρ = .ok y) : eStr F f g ρ = ofO (F a y) := by
  unfold eStr; rw [h1]; show (g ρ).bind _ = _; rw [h2]; rfl
end VL

set_option Elab.async false
set_option linter.all false
set_option maxRecDepth 100000
set_option autoImplicit false
namespace W
open PySem PySem.Spec PyProof.Rows L2 VL
open TL (tl tl_append tl_join joinL join_eq split_join ext_tl)
noncomputable def b_words_of_1 : Ev → Out := sSeq (sApp 1 (e1 tupD (eCons (eVar 2) (eCons (eVar 3) (cst []))))) (sAug 2 iaddD (e2 addD (e1 lenD (eCons (eOwn 3) (cst []))) (cst (.int 1))))
noncomputable def c_words_of : Ev → Out := sSeq (sSetO 1 (e1 lim (cst []))) (sSeq (sSet 2 (cst (.int 1))) (sSeq (sFor (e1 seqD (eLst (eStr splitD (eOwn 0) (cst (.str " "))))) (gSet 3) b_words_of_1) (sRetV 1)))
noncomputable def m_words_of : List D → R SD := runD 1 4 c_words_of
noncomputable def b__law_words_1 : Ev → Out := sIf (e1 bOf (e2 eqD (e2 ixD (eOwn 0) (eOwn 4)) (cst (.str " ")))) (sSeq (sApp 1 (e1 tupD (eCons (eVar 3) (eCons (eVar 2) (cst []))))) (sSeq (sSet 2 (cst (.str ""))) (sSet 3 (e2 addD (eOwn 4) (cst (.int 2)))))) (sSet 2 (e2 addD (eOwn 2) (e2 ixD (eOwn 0) (eOwn 4))))
noncomputable def c__law_words : Ev → Out := sSeq (sSetO 1 (e1 lim (cst []))) (sSeq (sSet 2 (cst (.str ""))) (sSeq (sSet 3 (cst (.int 1))) (sSeq (sFor (e1 range1D (eCons (e1 lenD (eCons (eOwn 0) (cst []))) (cst []))) (gSet 4) b__law_words_1) (sRetO (e2 addO (eOwn 1) (eLst (e1 lim (eCons (e1 tupD (eCons (eVar 3) (eCons (eVar 2) (cst [])))) (cst [])))))))))
noncomputable def m__law_words : List D → R SD := runD 1 5 c__law_words
noncomputable def c__law_is_integer : Ev → Out := sRet (eAndV (e1 (isiD "int") (eOwn 0)) (e1 notD (e1 (isiD "bool") (eOwn 0))))
noncomputable def m__law_is_integer : List D → R SD := runD 1 1 c__law_is_integer
noncomputable def c_law : Ev → Out := sSeq (sSet 1 (eLst (e1 lim (eCons (cst (.str " ")) (eCons (cst (.str "a")) (eCons (cst (.str " ")) (eCons (cst (.str "sign")) (eCons (cst (.str "b7")) (eCons (cst (.str "-1,2")) (eCons (cst (.str "<=")) (eCons (cst (.str "  ")) (eCons (cst (.str "word ")) (eCons (cst (.str "!=")) (eCons (cst (.str "0")) (cst []))))))))))))))) (sSeq (sSet 2 (eStr joinD (cst (.str "")) (eLst (eComp [3] (e1 seqD (e3 sliceD (eOwn 0) (pNo) (e1 intOf (cst (.int 63))))) (gSet 3) (cst true) (e2 ixD (eOwn 1) (e2 modD (e1 intD (eCons (eOwn 3) (cst []))) (cst (.int 11)))))))) (sSeq (sSet 4 (eCall m_words_of (eCons (eVar 2) (cst [])))) (sSeq (sIf (eOr (eNot (e1 truD (e1 (isiD "list") (eOwn 4)))) (e1 bOf (e2 neD (eOwn 4) (eCall m__law_words (eCons (eVar 2) (cst [])))))) (sRet (cst (.bool false))) (sNil)) (sRet (e1 allD (eCons (eLst (eComp [5] (e1 seqD (eVar 4)) (gSet 5) (cst true) (eAndV (e1 (isiD "tuple") (eOwn 5)) (eAndV (eCall m__law_is_integer (eCons (e2 ixD (eOwn 5) (cst (.int 0))) (cst []))) (e1 (isiD "str") (e2 ixD (eOwn 5) (cst (.int 1)))))))) (cst [])))))))
noncomputable def m_law : List D → R SD := runD 1 6 c_law
abbrev mk (l : List Nat) : Str := ⟨l.toArray⟩
theorem sp_eq : (" " : Str) = mk [32] := by decide +kernel
theorem em_eq : ("" : Str) = mk [] := by decide +kernel
theorem mk_len (l : List Nat) : (mk l).length = l.length := rfl
theorem mk_inj {a b : List Nat} (h : mk a = mk b) : a = b := by
  have := congrArg (fun s : Str => s.cps.toList) h
  exact this
theorem mk_app (a b : List Nat) : mk a ++ mk b = mk (a ++ b) := by
  have h : tl (mk a ++ mk b) = a ++ b := by rw [tl_append]
  have : mk (tl (mk a ++ mk b)) = mk a ++ mk b := by cases mk a ++ mk b; rfl
  rw [← this, h]
/-- the words of a list of signs, the first one begun -/
def wl : List Nat → List Nat → List (List Nat)
  | w, [] => [w]
  | w, c :: l => if c = 32 then w :: wl [] l else wl (w ++ [c]) l
theorem wl_ne (w l : List Nat) : wl w l ≠ [] := by
  induction l generalizing w with
  | nil => simp [wl]
  | cons c l ih => unfold wl; split; simp; exact ih _
theorem wl_join (w l : List Nat) : joinL [32] (wl w l) = w ++ l := by
  induction l generalizing w with
  | nil => simp [wl, joinL]
  | cons c l ih =>
    unfold wl
    split
    · rename_i h
      subst h
      have := ih []
      cases q : wl [] l with
      | nil => exact absurd q (wl_ne _ _)
      | cons a r => rw [q] at this; show w ++ ([32] ++ joinL [32] (a :: r)) = _; rw [this]; rfl
    · rw [ih]; simp
theorem wl_free (w l : List Nat) (h : 32 ∉ w) : ∀ p ∈ wl w l, 32 ∉ p := by
  induction l generalizing w with
  | nil => intro p hp; rw [wl, List.mem_singleton] at hp; rw [hp]; exact h
  | cons c l ih =>
    intro p hp
    unfold wl at hp
    split at hp
    · rcases List.mem_cons.mp hp with rfl | hp
      · exact h
      · exact ih [] (by simp) p hp
    · rename_i hc
      exact ih _ (by simp [h]; omega) p hp
theorem wl_all (P : Nat → Prop) (w l : List Nat) (hw : ∀ c ∈ w, P c) (hl : ∀ c ∈ l, P c) : ∀ p ∈ wl w l, ∀ c ∈ p, P c := by
  induction l generalizing w with
  | nil => intro p hp; rw [wl, List.mem_singleton] at hp; rw [hp]; exact hw
  | cons c l ih =>
    intro p hp
    unfold wl at hp
    have hl' : ∀ d ∈ l, P d := fun d hd => hl d (by simp [hd])
    split at hp
    · rcases List.mem_cons.mp hp with rfl | hp
      · exact hw
      · exact ih [] (by simp) hl' p hp
    · exact ih _ (fun d hd => by rcases List.mem_append.mp hd with h | h; exact hw d h; rw [List.mem_singleton.mp h]; exact hl c (by simp)) hl' p hp
theorem wl_count (w l : List Nat) : (wl w l).length ≤ l.length + 1 := by
  induction l generalizing w with
  | nil => simp [wl]
  | cons c l ih =>
    unfold wl
    split
    · have := ih []; simp; omega
    · have := ih (w ++ [c]); simp; omega
theorem wl_len (w l : List Nat) : ∀ p ∈ wl w l, p.length ≤ w.length + l.length := by
  induction l generalizing w with
  | nil => intro p hp; rw [wl, List.mem_singleton] at hp; rw [hp]; simp
  | cons c l ih =>
    intro p hp
    unfold wl at hp
    split at hp
    · rcases List.mem_cons.mp hp with rfl | hp
      · simp
      · have := ih [] p hp; simp at this ⊢; omega
    · have := ih _ p hp; simp at this ⊢; omega
theorem split_wl (l : List Nat) : Txt.split (mk l) " " = (wl [] l).map mk := by
  have h : Txt.join " " ((wl [] l).map mk) = mk l := by
    have hx : tl (Txt.join " " ((wl [] l).map mk)) = l := by
      rw [join_eq, tl_join, sp_eq, List.map_map]
      have : (List.map (tl ∘ mk) (wl [] l)) = wl [] l := by
        rw [show (tl ∘ mk) = id from rfl, List.map_id]
      rw [this]
      exact (wl_join [] l).trans (by simp)
    have : mk (tl (Txt.join " " ((wl [] l).map mk))) = Txt.join " " ((wl [] l).map mk) := by cases Txt.join " " ((wl [] l).map mk); rfl
    rw [← this, hx]
  rw [← h]
  refine split_join (s := 32) (S := []) (by rw [sp_eq]) (by rw [sp_eq]; decide +kernel) (by simp [wl_ne]) fun p hp => ?_
  obtain ⟨q, hq, rfl⟩ := List.mem_map.mp hp
  exact wl_free [] l (by simp) q hq

theorem at_n {α : Type} (l : List α) (n : Nat) : atI l (n : Int) = l[n]? := by
  unfold atI ixN
  by_cases h : n < l.length
  · have : ((n : Int) < 0) = False := by simp
    simp [h]
  · simp [h]
/-- the words with their columns -/
def cols : Int → List (List Nat) → List (Int × List Nat)
  | _, [] => []
  | s, w :: ws => (s, w) :: cols (s + w.length + 1) ws
abbrev cD (p : Int × List Nat) : D := .tuple [.int p.1, .str (mk p.2)]
theorem words_loop (x : D) : ∀ (ws : List (List Nat)) (s : Int) (f : List (Int × List Nat)) (y3 : SD), f.length + ws.length ≤ 100000 → (∀ w ∈ ws, w.length ≤ 100000) →
    ∃ y2 y3', forO (gTo (gSet 3) b_words_of_1) (ws.map fun w => .str (mk w)) [.sh x, .ow (f.map cD), .sh (.int s), y3] = .nx [.sh x, .ow ((f ++ cols s ws).map cD), y2, y3']
  | [], s, f, y3, _, _ => ⟨.sh (.int s), y3, by simp [forO, cols]⟩
  | w :: ws, s, f, y3, h, hw => by
    obtain ⟨y2, y3', ih⟩ := words_loop x ws (s + w.length + 1) (f ++ [(s, w)]) (.sh (.str (mk w))) (by simp at h ⊢; omega) fun v hv => hw v (by simp [hv])
    have l1 : lenD [.str (mk w)] = some (.int w.length) := if_pos (slB (hw w (by simp)))
    have l2 : f.length < sizeLine := Nat.lt_of_lt_of_le (by simp at h; omega : f.length < 100001) (by decide)
    have st : gTo (gSet 3) b_words_of_1 (.str (mk w)) [.sh x, .ow (f.map cD), .sh (.int s), y3] = .nx [.sh x, .ow ((f ++ [(s, w)]).map cD), .sh (.int (s + w.length + 1)), .sh (.str (mk w))] := by
      simp [b_words_of_1, onOw, l1, l2, iaddD, Int.add_assoc]
    refine ⟨y2, y3', ?_⟩
    rw [List.map_cons, forO, st]
    simpa [cols] using ih
theorem words_ok {l : List Nat} (h : l.length ≤ 1000) : m_words_of [.str (mk l)] = .ok (.ow ((cols 1 (wl [] l)).map cD)) := by
  have c1 := wl_count [] l
  have c2 := wl_len [] l
  obtain ⟨y2, y3, hl⟩ := words_loop (.str (mk l)) (wl [] l) 1 [] .no (by simp; omega) fun w hw => by have := c2 w hw; simp at this; omega
  have sd : splitD (mk l) (.str " ") = some ((wl [] l).map fun w => .str (mk w)) := by
    have : splitD (mk l) (.str " ") = some ((Txt.split (mk l) " ").map .str) := if_pos ⟨by rw [sp_eq]; rfl, Nat.le_trans (by rw [mk_len]; omega : _ ≤ 1002) (by decide)⟩
    rw [this, split_wl, List.map_map]; rfl
  simp only [List.map_nil, List.nil_append] at hl
  simp [m_words_of, c_words_of, sd, hl]
theorem lwords_ok {l : List Nat} (h : l.length ≤ 1000) : m__law_words [.str (mk l)] = .ok (.ow ((cols 1 (wl [] l)).map cD)) := by
  have sl : l.length ≤ sizeLine := slB (by omega)
  have c1 := wl_count [] l
  obtain ⟨ρ', e, f, w, s, y4, rfl, hI, hf, hw⟩ := forO_inv (F := gTo (gSet 4) b__law_words_1) (l := rngL 0 1 l.length)
    (fun k ρ => ∃ (f : List (Int × List Nat)) (w : List Nat) (s : Int) (y4 : SD), ρ = [.sh (.str (mk l)), .ow (f.map cD), .sh (.str (mk w)), .sh (.int s), y4] ∧ f ++ cols s (wl w (l.drop k)) = cols 1 (wl [] l) ∧ f.length ≤ k ∧ s + w.length = k + 1 ∧ w.length ≤ k)
    (ρ := [.sh (.str (mk l)), .ow [], .sh (.str (mk [])), .sh (.int 1), .no]) ⟨[], [], 1, .no, rfl, by simp, by simp, by simp, by simp⟩
    (fun k d ρ hd ⟨f, w, s, y4, e, hI, hf, hs, hw⟩ => by
      obtain ⟨hk, rfl⟩ := rng0_get hd
      subst e
      have gk : l[k]? = some l[k] := List.getElem?_eq_getElem hk
      have dk : l.drop k = l[k] :: l.drop (k + 1) := List.drop_eq_getElem_cons hk
      have ix : ixD (.str (mk l)) (.int (k : Nat)) = some (.str (mk [l[k]])) := by
        show (if (mk l).length ≤ sizeLine then (atI l (k : Int)).map _ else none) = _
        rw [if_pos (show (mk l).length ≤ sizeLine from sl), at_n, gk]; rfl
      have fl : f.length < sizeLine := Nat.lt_of_lt_of_le (by omega : f.length < 1001) (by decide)
      have ad : addD (.str (mk w)) (.str (mk [l[k]])) = some (.str (mk (w ++ [l[k]]))) := by
        show (if (mk w).length + (mk [l[k]]).length ≤ sizeLine then some (PyData.str (mk w ++ mk [l[k]])) else none) = _
        rw [if_pos (slB (by rw [mk_len, mk_len]; simp; omega)), mk_app]
      by_cases hc : l[k] = 32
      · have q : eqD (.str (mk [l[k]])) (.str " ") = some (.bool true) := by rw [r_eq_s, sp_eq, hc]; simp
        refine ⟨_, .inl (by simp [b__law_words_1, ix, q, onOw, fl]; rfl), f ++ [(s, w)], [], (k : Int) + 2, .sh (.int (k : Nat)), by simp [em_eq], ?_, by simp; omega, by simp; omega, by simp⟩
        rw [dk] at hI
        rw [← hI, show wl w (l[k] :: l.drop (k + 1)) = w :: wl [] (l.drop (k + 1)) from by rw [wl, if_pos hc]]
        have : (k : Int) + 2 = s + w.length + 1 := by omega
        rw [this]
        conv => rhs; unfold cols
        rw [List.append_assoc]; rfl
      · have q : eqD (.str (mk [l[k]])) (.str " ") = some (.bool false) := by
          rw [r_eq_s, sp_eq]
          have : ¬ mk [l[k]] = mk [32] := fun z => hc (by simpa using mk_inj z)
          simp [this]
        refine ⟨_, .inl (by simp [b__law_words_1, ix, q, ad]; rfl), f, w ++ [l[k]], s, .sh (.int (k : Nat)), by simp, ?_, by omega, by simp; omega, by simp; omega⟩
        rw [dk] at hI
        rw [← hI, show wl w (l[k] :: l.drop (k + 1)) = wl (w ++ [l[k]]) (l.drop (k + 1)) from by rw [wl, if_neg hc]])
  rw [rngL_length, List.drop_length] at hI
  have ln : lenD [.str (mk l)] = some (.int l.length) := if_pos sl
  have rg : range1D [.int (l.length : Int)] = some (rngL 0 1 l.length) := by
    rw [range1_ok (by omega) (by omega)]; simp
  have ca : catD (f.map cD) [cD (s, w)] = some ((cols 1 (wl [] l)).map cD) := by
    rw [r_cat (slB (by simp [rngL_length] at hf ⊢; omega)), ← hI]
    simp [wl, cols]
  simp [m__law_words, c__law_words, em_eq, ln, rg, e, ca]

def PC : List (List Nat) := [[32], [97], [32], [115, 105, 103, 110], [98, 55], [45, 49, 44, 50], [60, 61], [32, 32], [119, 111, 114, 100, 32], [33, 61], [48]]
theorem pc_eq : ([.str " ", .str "a", .str " ", .str "sign", .str "b7", .str "-1,2", .str "<=", .str "  ", .str "word ", .str "!=", .str "0"] : List D) = PC.map fun w => .str (mk w) := by
  have h : ([" ", "a", " ", "sign", "b7", "-1,2", "<=", "  ", "word ", "!=", "0"] : List Str) = PC.map mk := by decide +kernel
  have := congrArg (List.map fun x : Str => (PyData.str x : D)) h
  rw [List.map_map] at this
  exact this
def pcOf (z : Int) : List Nat := PC.getD (z.fmod 11).toNat []
theorem pc_ix (z : Int) : ixD (.list (PC.map fun w => .str (mk w))) (.int (z.fmod 11)) = some (.str (mk (pcOf z))) ∧ (pcOf z).length ≤ 5 ∧ ∀ c ∈ pcOf z, c < 1114112 := by
  obtain ⟨h0, h1⟩ := fmod_rng (a := z) (b := 11) (by decide)
  obtain ⟨k, hk⟩ : ∃ k : Nat, z.fmod 11 = k := ⟨(z.fmod 11).toNat, by omega⟩
  have hk' : k < 11 := by omega
  unfold pcOf
  rw [hk, r_ix_l, at_n, Int.toNat_natCast]
  have : k = 0 ∨ k = 1 ∨ k = 2 ∨ k = 3 ∨ k = 4 ∨ k = 5 ∨ k = 6 ∨ k = 7 ∨ k = 8 ∨ k = 9 ∨ k = 10 := by omega
  rcases this with rfl | rfl | rfl | rfl | rfl | rfl | rfl | rfl | rfl | rfl | rfl <;> exact ⟨rfl, by decide, by decide⟩
theorem strsOf_map (ls : List (List Nat)) : strsOf (ls.map fun w => .str (mk w)) = some (ls.map mk) := by
  induction ls with
  | nil => rfl
  | cons a l ih => show (strsOf (l.map _)).map _ = _; rw [ih]; rfl
theorem join_flat (ls : List (List Nat)) : Txt.join (mk []) (ls.map mk) = mk ls.flatten := by
  have h : ∀ ls : List (List Nat), joinL [] ls = ls.flatten := fun ls => by
    induction ls with
    | nil => rfl
    | cons a l ih =>
      cases l with
      | nil => simp [joinL]
      | cons b l => show a ++ ([] ++ joinL [] (b :: l)) = _; rw [ih]; simp
  refine ext_tl ?_
  rw [join_eq, tl_join, List.map_map, show (tl ∘ mk) = id from rfl, List.map_id]
  exact h ls
theorem sum_le (ls : List (List Nat)) (h : ∀ w ∈ ls, w.length ≤ 5) : (ls.map List.length).sum ≤ 5 * ls.length := by
  induction ls with
  | nil => simp
  | cons a l ih =>
    have h1 := ih fun w hw => h w (by simp [hw])
    have h2 := h a (by simp)
    simp; omega
theorem join_ok {ls : List (List Nat)} (h : ∀ w ∈ ls, w.length ≤ 5) (hl : ls.length ≤ 63) : joinD "" (.list (ls.map fun w => .str (mk w))) = some (.str (mk ls.flatten)) ∧ ls.flatten.length ≤ 315 := by
  have hs := sum_le ls h
  refine ⟨?_, by rw [List.length_flatten]; omega⟩
  unfold joinD
  simp only [strsOf_map]
  have e : ((ls.map mk).map (·.length)).sum = (ls.map List.length).sum := by rw [List.map_map]; rfl
  rw [if_pos (by rw [e, List.length_map, em_eq, mk_len]; simp; omega), em_eq, join_flat]
theorem int_ok (z : Int) : m__law_is_integer [.int z] = .ok (.sh (.bool true)) := by simp [m__law_is_integer, c__law_is_integer]
theorem cols_mem {P : List Nat → Prop} : ∀ {ws : List (List Nat)} {s : Int}, (∀ w ∈ ws, P w) → ∀ p ∈ cols s ws, P p.2
  | [], _, _, p, hp => by simp [cols] at hp
  | w :: ws, s, h, p, hp => by
    rcases List.mem_cons.mp hp with rfl | hp
    · exact h w (by simp)
    · exact cols_mem (ws := ws) (fun v hv => h v (by simp [hv])) p hp
theorem cols_len : ∀ (ws : List (List Nat)) (s : Int), (cols s ws).length = ws.length
  | [], _ => rfl
  | w :: ws, s => by simp [cols, cols_len ws]
theorem law_true (ns : List Int) (hn : ns.length ≤ 63) (hb : ∀ z ∈ ns, Builtin.Int.intBits z ≤ 1048576) : m_law [.list (ns.map .int)] = .ok (.sh (.bool true)) := by
  have cu : cutL (ns.map PyData.int) none (some 63) = ns.map .int := by
    unfold cutL
    rw [HT.sIx_none]
    have : HT.sIx (ns.map PyData.int).length (ns.map PyData.int).length (some 63) = (ns.map PyData.int).length := by
      rw [List.length_map]; simp [HT.sIx]; omega
    rw [this, List.drop_zero, Nat.sub_zero]; exact List.take_of_length_le (Nat.le_refl _)
  obtain ⟨ls, hls⟩ : ∃ ls, ls = ns.map pcOf := ⟨_, rfl⟩
  have p5 : ∀ w ∈ ls, w.length ≤ 5 := fun w hw => by rw [hls] at hw; obtain ⟨z, _, rfl⟩ := List.mem_map.mp hw; exact (pc_ix z).2.1
  have pk : ∀ w ∈ ls, ∀ c ∈ w, c < 1114112 := fun w hw => by rw [hls] at hw; obtain ⟨z, _, rfl⟩ := List.mem_map.mp hw; exact (pc_ix z).2.2
  obtain ⟨j1, j2⟩ := join_ok p5 (by rw [hls]; simpa using hn)
  obtain ⟨L, hL⟩ : ∃ L, L = ls.flatten := ⟨_, rfl⟩
  rw [← hL] at j1 j2
  have Lk : ∀ c ∈ L, c < 1114112 := fun c hc => by
    rw [hL] at hc
    obtain ⟨w, hw, hc⟩ := List.mem_flatten.mp hc
    exact pk w hw c hc
  have w1 := words_ok (l := L) (by omega)
  have w2 := lwords_ok (l := L) (by omega)
  obtain ⟨C, hC⟩ : ∃ C, C = cols 1 (wl [] L) := ⟨_, rfl⟩
  have cl : C.length ≤ 1000 := by have := wl_count [] L; rw [hC, cols_len]; omega
  rw [← hC] at w1 w2
  have ok : okD 64 (.list (C.map cD)) = true := by
    rw [okD_list, okL_iff]
    intro d hd
    obtain ⟨p, hp, rfl⟩ := List.mem_map.mp hd
    have hs : PyData.strOk (mk p.2) = true := by
      have q := cols_mem (P := fun w => ∀ c ∈ w, c < 1114112) (wl_all _ [] L (by simp) Lk) p (by rw [← hC]; exact hp)
      show (mk p.2).cps.all _ = true
      rw [Array.all_eq_true']
      intro c hc
      simpa using q c (by simpa using hc)
    show okL _ [_, _] = true
    simp [okD, hs]
  have ne := r_ne_self ok
  have step1 : ∀ ρ : Ev, 3 < ρ.length → ρ[1]? = some (.sh (.list (PC.map fun w => .str (mk w)))) → compR (compS [3] (gSet 3) (cst true) (e2 ixD (eOwn 1) (e2 modD (e1 intD (eCons (eOwn 3) (cst []))) (cst (.int 11)))) ρ) (ns.map PyData.int) = .ok (ls.map fun w => .str (mk w)) := fun ρ hρ h1 => by
    have := compR_map' (step := compS [3] (gSet 3) (cst true) (e2 ixD (eOwn 1) (e2 modD (e1 intD (eCons (eOwn 3) (cst []))) (cst (.int 11)))) ρ) (F := PyData.int) (φ := fun z => (PyData.str (mk (pcOf z)) : D)) (l := ns) fun z _ => by
      have := (pc_ix z).1
      simp [compS, hρ, h1, r_mod, -r_ix_l, this]
    rw [this, hls, List.map_map]; rfl
  have step2 : ∀ ρ : Ev, 5 < ρ.length → compR (compS [5] (gSet 5) (cst true) (eAndV (e1 (isiD "tuple") (eOwn 5)) (eAndV (eCall m__law_is_integer (eCons (e2 ixD (eOwn 5) (cst (.int 0))) (cst []))) (e1 (isiD "str") (e2 ixD (eOwn 5) (cst (.int 1)))))) ρ) (C.map cD) = .ok (C.map fun _ => .bool true) := fun ρ hρ =>
    compR_map' fun p _ => by simp [compS, hρ, int_ok]
  have pce := pc_eq
  have al : allD [.list (C.map fun _ => (PyData.bool true : D))] = some (.bool true) := by
    have : ∀ C : List (Int × List Nat), blsD (C.map fun _ => (PyData.bool true : D)) = some (C.map fun _ => true) := fun C => by
      induction C with
      | nil => rfl
      | cons a l ih => show (blsD (l.map _)).map _ = _; rw [ih]; rfl
    rw [r_all, this]; simp
  have pl : lim (PC.map fun w => (PyData.str (mk w) : D)) = some (PC.map fun w => (PyData.str (mk w) : D)) := if_pos (slB (by rw [List.length_map]; decide))
  have ejoin : ∀ ρ : Ev, ρ.length = 6 → ρ[0]? = some (.sh (.list (ns.map .int))) → ρ[1]? = some (.sh (.list (PC.map fun w => .str (mk w)))) →
      eStr joinD (cst (.str "")) (eLst (eComp [3] (e1 seqD (e3 sliceD (eOwn 0) (pNo) (e1 intOf (cst (.int 63))))) (gSet 3) (cst true) (e2 ixD (eOwn 1) (e2 modD (e1 intD (eCons (eOwn 3) (cst []))) (cst (.int 11)))))) ρ = .ok (.str (mk L)) := fun ρ h0 h1 h2 => by
    have z := step1 ρ (by omega) h2
    have zl : ns.length ≤ sizeLine := slB (by omega)
    rw [r_eStrE (a := "") (y := .list (ls.map fun w => .str (mk w))) _ _ _ _ rfl (by simp [h1, cu, z, zl]), j1]; rfl
  have cls : C.length ≤ sizeLine := slB (by omega)
  simp [m_law, c_law, pce, pl, ejoin, step2, w1, w2, ne, al, cls, -r_all]
end W

namespace W
open PySem PySem.Spec PyProof.Rows L2 VL
def topS (i : Nat) : Stmt := PySem.Challenge.pw_wheretrue_k15_words_of_a_line.main.body.getD i (.Pass ⟨0, 0, 0, 0⟩)
/-! words_of -/
abbrev ws_words_of : Stmt := topS 1
abbrev wN_words_of : List Str := ["line", "found", "column", "word"]
theorem wsc_words_of : FnScope wN_words_of ["line"] (defScope ws_words_of) := ⟨rfl, rfl, rfl, by decide +kernel, rfl, by decide +kernel, by decide +kernel⟩
theorem wd_words_of {P : Program} {w : World} {K : Fg} {mg : Str → Option Value} {base : Heap} (Fn : Df K mg "words_of" ws_words_of ["line"]) (z_len : mg "len" = none) : Cl P w K mg base 1 "words_of" ["line"] m_words_of :=
  cl_ok Fn wsc_words_of fun f cdv A outer s H E I => by
    unfold c_words_of b_words_of_1
    exact (vss_cons (vs_setO (i := 1) wsc_words_of.nd rfl (by first | exact Or.inl rfl | exact Or.inr rfl) (vo_lst (va_nil))) (vss_cons (vs_set (i := 2) wsc_words_of.nd rfl (by first | exact Or.inl rfl | exact Or.inr rfl) (ve_int)) (vss_cons (vs_for I.hp rfl (vi_seq (VO.ve (v_splitO (vp_var 0 (pv 0)) (VE.vp (ve_str))))) (vg_name (pg_name (i := 3) wsc_words_of.nd rfl (by first | exact Or.inl rfl | exact Or.inr rfl))) (vss_cons (vs_app 1 (pv 1) (ve_tup (va_cons (ve_var 2 (pv 2)) (va_cons (ve_var 3 (pv 3)) (va_nil))))) (vss_one (vs_aug (i := 2) wsc_words_of.nd rfl (by first | exact Or.inl rfl | exact Or.inr rfl) (VE.vp (v_op d_add (VE.vp (v_blt c_len rfl z_len b_len (vap_cons (vp_var 3 (pv 3)) (vap_nil)))) (VE.vp (ve_int)))) dip_add)))) (vss_one (vs_retV 1 (pv 1))))))
/-! _law_words -/
abbrev ws__law_words : Stmt := topS 4
abbrev wN__law_words : List Str := ["_law_line", "_law_found", "_law_word", "_law_start", "_law_k"]
theorem wsc__law_words : FnScope wN__law_words ["_law_line"] (defScope ws__law_words) := ⟨rfl, rfl, rfl, by decide +kernel, rfl, by decide +kernel, by decide +kernel⟩
theorem wd__law_words {P : Program} {w : World} {K : Fg} {mg : Str → Option Value} {base : Heap} (Fn : Df K mg "_law_words" ws__law_words ["_law_line"]) (z_range : mg "range" = none) (z_len : mg "len" = none) : Cl P w K mg base 1 "_law_words" ["_law_line"] m__law_words :=
  cl_ok Fn wsc__law_words fun f cdv A outer s H E I => by
    unfold c__law_words b__law_words_1
    exact (vss_cons (vs_setO (i := 1) wsc__law_words.nd rfl (by first | exact Or.inl rfl | exact Or.inr rfl) (vo_lst (va_nil))) (vss_cons (vs_set (i := 2) wsc__law_words.nd rfl (by first | exact Or.inl rfl | exact Or.inr rfl) (ve_str)) (vss_cons (vs_set (i := 3) wsc__law_words.nd rfl (by first | exact Or.inl rfl | exact Or.inr rfl) (ve_int)) (vss_cons (vs_for I.hp rfl (vi_range1 rfl z_range (vap_cons (VE.vp (v_blt c_len rfl z_len b_len (vap_cons (vp_var 0 (pv 0)) (vap_nil)))) (vap_nil))) (vg_name (pg_name (i := 4) wsc__law_words.nd rfl (by first | exact Or.inl rfl | exact Or.inr rfl))) (vss_one (vs_if (t_cmp (d_eq I.hr.units) (VE.vp (v_ix d_ix (vp_var 0 (pv 0)) (vp_var 4 (pv 4)))) (VE.vp (ve_str))) (vss_cons (vs_app 1 (pv 1) (ve_tup (va_cons (ve_var 3 (pv 3)) (va_cons (ve_var 2 (pv 2)) (va_nil))))) (vss_cons (vs_set (i := 2) wsc__law_words.nd rfl (by first | exact Or.inl rfl | exact Or.inr rfl) (ve_str)) (vss_one (vs_set (i := 3) wsc__law_words.nd rfl (by first | exact Or.inl rfl | exact Or.inr rfl) (v_op d_add (vp_var 4 (pv 4)) (VE.vp (ve_int))))))) (vss_one (vs_set (i := 2) wsc__law_words.nd rfl (by first | exact Or.inl rfl | exact Or.inr rfl) (v_op d_add (vp_var 2 (pv 2)) (VE.vp (v_ix d_ix (vp_var 0 (pv 0)) (vp_var 4 (pv 4)))))))))) (vss_one (vs_retO (v_opO d_addO (vp_var 1 (pv 1)) (VE.vp (VO.ve (vo_lst (va_cons (ve_tup (va_cons (ve_var 3 (pv 3)) (va_cons (ve_var 2 (pv 2)) (va_nil)))) (va_nil))))))))))))
/-! _law_is_integer -/
abbrev ws__law_is_integer : Stmt := topS 3
abbrev wN__law_is_integer : List Str := ["_law_actual"]
theorem wsc__law_is_integer : FnScope wN__law_is_integer ["_law_actual"] (defScope ws__law_is_integer) := ⟨rfl, rfl, rfl, by decide +kernel, rfl, by decide +kernel, by decide +kernel⟩
theorem wd__law_is_integer {P : Program} {w : World} {K : Fg} {mg : Str → Option Value} {base : Heap} (Fn : Df K mg "_law_is_integer" ws__law_is_integer ["_law_actual"]) (z_isinstance : mg "isinstance" = none) (z_bool : mg "bool" = none) (z_int : mg "int" = none) : Cl P w K mg base 1 "_law_is_integer" ["_law_actual"] m__law_is_integer :=
  cl_ok Fn wsc__law_is_integer fun f cdv A outer s H E I => by
    unfold c__law_is_integer
    exact (vss_one (vs_ret (v_and (v_isi rfl z_isinstance b_isinstance (vp_var 0 (pv 0)) (pe_bltn rfl z_int b_int rfl)) (v_and1 (v_not (VE.vp (v_isi rfl z_isinstance b_isinstance (vp_var 0 (pv 0)) (pe_bltn rfl z_bool b_bool rfl))))))))
/-! law -/
abbrev ws_law : Stmt := topS 5
abbrev wN_law : List Str := ["_law_script", "_law_pieces", "_law_line", "_law_cell", "_law_words_here", "_law_pair"]
theorem wsc_law : FnScope wN_law ["_law_script"] (defScope ws_law) := ⟨rfl, rfl, rfl, by decide +kernel, rfl, by decide +kernel, by decide +kernel⟩
theorem wd_law {P : Program} {w : World} {K : Fg} {mg : Str → Option Value} {base : Heap} {f : Addr} {fd : FuncData} (Fn : Fun K "law" "law" ws_law f fd) (C_words_of : Cl P w K mg base 1 "words_of" ["line"] m_words_of) (C__law_words : Cl P w K mg base 1 "_law_words" ["_law_line"] m__law_words) (C__law_is_integer : Cl P w K mg base 1 "_law_is_integer" ["_law_actual"] m__law_is_integer) (z_int : mg "int" = none) (z_isinstance : mg "isinstance" = none) (z_list : mg "list" = none) (z_all : mg "all" = none) (z_str : mg "str" = none) (z_tuple : mg "tuple" = none) : DOk P w K mg base 2 f fd ["_law_script"] m_law :=
  def_ok Fn wsc_law fun cdv A outer s H E I => by
    unfold c_law
    exact (vss_cons (vs_set (i := 1) wsc_law.nd rfl (by first | exact Or.inl rfl | exact Or.inr rfl) (VO.ve (vo_lst (va_cons (ve_str) (va_cons (ve_str) (va_cons (ve_str) (va_cons (ve_str) (va_cons (ve_str) (va_cons (ve_str) (va_cons (ve_str) (va_cons (ve_str) (va_cons (ve_str) (va_cons (ve_str) (va_cons (ve_str) (va_nil))))))))))))))) (vss_cons (vs_set (i := 2) wsc_law.nd rfl (by first | exact Or.inl rfl | exact Or.inr rfl) (v_join (VE.vp (ve_str)) (VE.vp (VO.ve (vo_comp (own := [("_law_cell", 3)]) (ts := [3]) rfl wsc_law.nd (vi_seq (v_slice (vp_var 0 (pv 0)) (vpo_none) (vpo_some (ve_int)))) (blkOk_by (N := wN_law) (sc := defScope ws_law) (by decide +kernel)) (fun _ _ _ _ _ => vg_name (pg_name (i := 3) wsc_law.nd rfl (by first | exact Or.inl rfl | exact Or.inr rfl))) (fun _ _ _ _ _ => vts_nil) (fun _ _ _ _ _ => v_ix d_ix (vp_var 1 (pv 1)) (VE.vp (v_op d_mod (VE.vp (v_typ c_int rfl z_int b_int (vap_cons (vp_var 3 (pv 3)) (vap_nil)))) (VE.vp (ve_int)))))))))) (vss_cons (vs_set (i := 4) wsc_law.nd rfl (by first | exact Or.inl rfl | exact Or.inr rfl) (v_calC C_words_of I.hr I.gd I.tk (va_cons (ve_var 2 (pv 2)) (va_nil)))) (vss_cons (vs_if (VW.vt (vw_or (vt_not (t_tru (VE.vp (v_isi rfl z_isinstance b_isinstance (vp_var 4 (pv 4)) (pe_bltn rfl z_list b_list rfl))))) (vw_or1 (t_cmp (d_ne I.hr.units) (vp_var 4 (pv 4)) (VE.vp (v_calC C__law_words I.hr I.gd I.tk (va_cons (ve_var 2 (pv 2)) (va_nil)))))))) (vss_one (vs_ret (ve_bl))) (vss_nil)) (vss_one (vs_ret (v_blt (c_all rfl) rfl z_all b_all (vap_cons (VE.vp (VO.ve (vo_comp (own := [("_law_pair", 5)]) (ts := [5]) rfl wsc_law.nd (vi_seq (ve_var 4 (pv 4))) (blkOk_by (N := wN_law) (sc := defScope ws_law) (by decide +kernel)) (fun _ _ _ _ _ => vg_name (pg_name (i := 5) wsc_law.nd rfl (by first | exact Or.inl rfl | exact Or.inr rfl))) (fun _ _ _ _ _ => vts_nil) (fun _ _ _ _ _ => v_and (v_isi rfl z_isinstance b_isinstance (vp_var 5 (pv 5)) (pe_bltn rfl z_tuple b_tuple rfl)) (v_and (v_calC C__law_is_integer I.hr I.gd takes0 (va_cons (v_ix d_ix (vp_var 5 (pv 5)) (VE.vp (ve_int))) (va_nil))) (v_and1 (v_isi rfl z_isinstance b_isinstance (VE.vp (v_ix d_ix (vp_var 5 (pv 5)) (VE.vp (ve_int)))) (pe_bltn rfl z_str b_str rfl)))))))) (vap_nil)))))))))
/-! the end -/
theorem all_mk {P : Program} {w : World} {K : Fg} {h : Heap} {mg : Str → Option Value} {fa : Addr} (X : K.In h) (G : h.Ns mainGlobals mg) (hfa : mg "law" = some (.ref fa))
    {f0 : Addr} {od0 an0 : Option Addr} {sl0 : Array (Option Value)} {oc0 kV0 dc0 pm0 cd0 ct0 : Value}
    (a0 : PySem.W.nsIn K mainGlobals "words_of" = some (some (.ref f0))) (l0 : K.lookup f0 = some ⟨oc0, od0, .func (PySem.W.fnOf "words_of" "words_of" (defArgs ws_words_of) (defBody ws_words_of) (defScope ws_words_of) .none kV0 dc0 pm0 an0 cd0 ct0), sl0⟩) (c0 : PySem.W.codeIn K cd0 "words_of" = true) (k0 : PySem.W.keepIn K (.ref f0) = true)
    {f1 : Addr} {od1 an1 : Option Addr} {sl1 : Array (Option Value)} {oc1 kV1 dc1 pm1 cd1 ct1 : Value}
    (a1 : PySem.W.nsIn K mainGlobals "_law_words" = some (some (.ref f1))) (l1 : K.lookup f1 = some ⟨oc1, od1, .func (PySem.W.fnOf "_law_words" "_law_words" (defArgs ws__law_words) (defBody ws__law_words) (defScope ws__law_words) .none kV1 dc1 pm1 an1 cd1 ct1), sl1⟩) (c1 : PySem.W.codeIn K cd1 "_law_words" = true) (k1 : PySem.W.keepIn K (.ref f1) = true)
    {f2 : Addr} {od2 an2 : Option Addr} {sl2 : Array (Option Value)} {oc2 kV2 dc2 pm2 cd2 ct2 : Value}
    (a2 : PySem.W.nsIn K mainGlobals "_law_is_integer" = some (some (.ref f2))) (l2 : K.lookup f2 = some ⟨oc2, od2, .func (PySem.W.fnOf "_law_is_integer" "_law_is_integer" (defArgs ws__law_is_integer) (defBody ws__law_is_integer) (defScope ws__law_is_integer) .none kV2 dc2 pm2 an2 cd2 ct2), sl2⟩) (c2 : PySem.W.codeIn K cd2 "_law_is_integer" = true) (k2 : PySem.W.keepIn K (.ref f2) = true)
    {f3 : Addr} {od3 an3 : Option Addr} {sl3 : Array (Option Value)} {oc3 kV3 dc3 pm3 cd3 ct3 : Value}
    (a3 : PySem.W.nsIn K mainGlobals "law" = some (some (.ref f3))) (l3 : K.lookup f3 = some ⟨oc3, od3, .func (PySem.W.fnOf "law" "law" (defArgs ws_law) (defBody ws_law) (defScope ws_law) .none kV3 dc3 pm3 an3 cd3 ct3), sl3⟩) (c3 : PySem.W.codeIn K cd3 "law" = true) (k3 : PySem.W.keepIn K (.ref f3) = true)
    (zz_len : PySem.W.nsIn K mainGlobals "len" = some none)
    (zz_range : PySem.W.nsIn K mainGlobals "range" = some none)
    (zz_isinstance : PySem.W.nsIn K mainGlobals "isinstance" = some none)
    (zz_bool : PySem.W.nsIn K mainGlobals "bool" = some none)
    (zz_int : PySem.W.nsIn K mainGlobals "int" = some none)
    (zz_list : PySem.W.nsIn K mainGlobals "list" = some none)
    (zz_all : PySem.W.nsIn K mainGlobals "all" = some none)
    (zz_str : PySem.W.nsIn K mainGlobals "str" = some none)
    (zz_tuple : PySem.W.nsIn K mainGlobals "tuple" = some none) :
    ∃ fd : FuncData, (∀ (s : Shared) (u : Value), BindsTo s fd ⟨[u], []⟩ [("_law_script", u)]) ∧ ∀ base, DOk P w K mg base 2 fa fd ["_law_script"] m_law := by
  have F0 := fun_mk (st := ws_words_of) l0 c0 k0
  have D_words_of : Df K mg "words_of" ws_words_of ["line"] := ⟨_, _, F0, PySem.W.mg_of X G a0, F0.binds (ps := ["line"]) fun _ _ _ _ _ _ us hl => match us, hl with | [_], _ => rfl⟩
  have F1 := fun_mk (st := ws__law_words) l1 c1 k1
  have D__law_words : Df K mg "_law_words" ws__law_words ["_law_line"] := ⟨_, _, F1, PySem.W.mg_of X G a1, F1.binds (ps := ["_law_line"]) fun _ _ _ _ _ _ us hl => match us, hl with | [_], _ => rfl⟩
  have F2 := fun_mk (st := ws__law_is_integer) l2 c2 k2
  have D__law_is_integer : Df K mg "_law_is_integer" ws__law_is_integer ["_law_actual"] := ⟨_, _, F2, PySem.W.mg_of X G a2, F2.binds (ps := ["_law_actual"]) fun _ _ _ _ _ _ us hl => match us, hl with | [_], _ => rfl⟩
  have F3 := fun_mk (st := ws_law) l3 c3 k3
  have e := hfa.symm.trans (PySem.W.mg_of X G a3)
  cases e
  have z_len : mg "len" = none := PySem.W.mg_none_of X G zz_len
  have z_range : mg "range" = none := PySem.W.mg_none_of X G zz_range
  have z_isinstance : mg "isinstance" = none := PySem.W.mg_none_of X G zz_isinstance
  have z_bool : mg "bool" = none := PySem.W.mg_none_of X G zz_bool
  have z_int : mg "int" = none := PySem.W.mg_none_of X G zz_int
  have z_list : mg "list" = none := PySem.W.mg_none_of X G zz_list
  have z_all : mg "all" = none := PySem.W.mg_none_of X G zz_all
  have z_str : mg "str" = none := PySem.W.mg_none_of X G zz_str
  have z_tuple : mg "tuple" = none := PySem.W.mg_none_of X G zz_tuple
  have C_words_of := fun base => wd_words_of (P := P) (w := w) (base := base) D_words_of z_len
  have C__law_words := fun base => wd__law_words (P := P) (w := w) (base := base) D__law_words z_range z_len
  have C__law_is_integer := fun base => wd__law_is_integer (P := P) (w := w) (base := base) D__law_is_integer z_isinstance z_bool z_int
  have C_law := fun base => wd_law (P := P) (w := w) (base := base) F3 (C_words_of base) (C__law_words base) (C__law_is_integer base) z_int z_isinstance z_list z_all z_str z_tuple
  exact ⟨PySem.W.fnOf "law" "law" (defArgs ws_law) (defBody ws_law) (defScope ws_law) .none kV3 dc3 pm3 an3 cd3 ct3, fun s u => .of_eq rfl, C_law⟩
end W
open PySem PySem.W PyProof.Rows VL
set_option maxHeartbeats 0 in
theorem PySem.Challenge.cw_wheretrue_k15_words_of_a_line_holds : PySem.Challenge.rw_wheretrue_k15_words_of_a_line.Holds := by
  w_on; o_law; k_head; (case hw => w_witness2)
  k_fill
  refine VL.law_end (l := PySem.Challenge.rw_wheretrue_k15_words_of_a_line) (k := 2) (x := "_law_script") (m := W.m_law) rfl rfl ⟨rfl, by decide, by decide⟩ (fun w h Y => PySem.W.kIn_of Y) W.law_true ?F
  case F =>
    intro w mg fa h KX G hmg
    refine' W.all_mk KX G hmg ?a0 ?l0 ?c0 ?k0 ?a1 ?l1 ?c1 ?k1 ?a2 ?l2 ?c2 ?k2 ?a3 ?l3 ?c3 ?k3 ?zz_len ?zz_range ?zz_isinstance ?zz_bool ?zz_int ?zz_list ?zz_all ?zz_str ?zz_tuple
    (case a0 => k_is); (case l0 => k_is); (case c0 => k_is); (case k0 => k_is); (case a1 => k_is); (case l1 => k_is); (case c1 => k_is); (case k1 => k_is); (case a2 => k_is); (case l2 => k_is); (case c2 => k_is); (case k2 => k_is); (case a3 => k_is); (case l3 => k_is); (case c3 => k_is); (case k3 => k_is); (case zz_len => k_is); (case zz_range => k_is); (case zz_isinstance => k_is); (case zz_bool => k_is); (case zz_int => k_is); (case zz_list => k_is); (case zz_all => k_is); (case zz_str => k_is); (case zz_tuple => k_is)
