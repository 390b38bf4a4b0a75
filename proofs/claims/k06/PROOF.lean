import PyProof.Rows.All
import HandS.ForMost
import HandS.ForExc
import HandS.Wide
import HandS.WideBits
import HandS.Gcd
import HandS.IsInst
import HandS.Style
import HandS.Deep
import HandS.TupAny
import HandS.TryOnly
import HandS.Flow
import HandS.RaiseMore
import HandS.EndBits
import HandS.Dict
import PyProof.P3Eq
import PyProof.ReprLen
import PySem.Challenge.RW_wheretrue_k06_square_free_parts
set_option Elab.async false
set_option linter.all false
set_option maxRecDepth 100000
set_option maxHeartbeats 4000000
set_option Elab.async false
set_option linter.all false
set_option maxRecDepth 100000
namespace VL
open PySem PySem.Spec PyProof.Rows L2

abbrev D := PyData
abbrev Fg := PySem.W.Frag
abbrev Sg := L2.St
set_option autoImplicit false

/-! ### data in a heap -/
/-- the data of a list that was made new; of a list that stays as it is -/
def tg (l : List D) : D := .dict [(.int 0, .list l)]
def tf (l : List D) : D := .dict [(.int 1, .list l)]
/-- a dict with text keys -/
def dkD (ks : List Str) (ds : List D) : D := .dict ((PyData.str "", PyData.none) :: (ks.map fun k => PyData.str k).zip ds)
/-- a list that is never changed -/
def OldL (K : Fg) (H : Hp) (a : Addr) (xs : List V) : Prop :=
  (∃ o, H a = some (.frz o (.lst xs))) ∨
    ∃ (o : Obj) (its : Array Value) (n : Nat), K.lookup a = some o ∧ o.cls = .type "list" ∧ o.dict = none ∧ o.data = .seq its n ∧ its.size ≤ sizeLine ∧ Vals xs its.toList
mutual
inductive Rp (K : Fg) (H : Hp) : D → V → Prop
  | non : Rp K H .none .non
  | bl (b : Bool) : Rp K H (.bool b) (.bl b)
  | int (i : Int) : Rp K H (.int i) (.int i)
  | str (x : Str) : Rp K H (.str x) (.str x)
  | lst {a : Addr} {xs : List V} {ds : List D} : SqL K H a xs → RpL K H ds xs → Rp K H (.list ds) (.ref a)
  | tup {a : Addr} {xs : List V} {ds : List D} : SqT K H a xs → RpL K H ds xs → Rp K H (.tuple ds) (.ref a)
  | nl {a : Addr} {xs : List V} {ds : List D} : H a = some (.lst xs) → RpL K H ds xs → Rp K H (tg ds) (.ref a)
  | fl {a : Addr} {xs : List V} {ds : List D} : OldL K H a xs → RpL K H ds xs → Rp K H (tf ds) (.ref a)
  | dk {a : Addr} {ks : List Str} {vs : List V} {ds : List D} : H a = some (.dK (mergeK [] ((ks.zip vs).map fun p => ((Sum.inr p.1 : Key), p.2)))) → vs.length = ks.length → RpL K H ds vs → Rp K H (dkD ks ds) (.ref a)
inductive RpL (K : Fg) (H : Hp) : List D → List V → Prop
  | nil : RpL K H [] []
  | cons {v : V} {vs : List V} {d : D} {ds : List D} : Rp K H d v → RpL K H ds vs → RpL K H (d :: ds) (v :: vs)
end

theorem Rd.mono {H H' : Hp} {a : Addr} {u : HO} (e : Same H H') (h : Rd H a u) : Rd H' a u := by
  rcases h with h | ⟨o, h⟩
  · exact .inl (e _ _ h)
  · exact .inr ⟨o, e _ _ h⟩
theorem OldL.mono {K : Fg} {H H' : Hp} {a : Addr} {xs : List V} (e : Same H H') (h : OldL K H a xs) : OldL K H' a xs := by
  rcases h with ⟨o, h⟩ | h
  · exact .inl ⟨o, e _ _ h⟩
  · exact .inr h
theorem OldL.seq {K : Fg} {H : Hp} {a : Addr} {xs : List V} (h : OldL K H a xs) : SqL K H a xs := by
  rcases h with ⟨o, h⟩ | h
  · exact .inl (.inr ⟨o, h⟩)
  · exact .inr h
theorem SqT.mono {K : Fg} {H H' : Hp} {a : Addr} {xs : List V} (e : Same H H') (h : SqT K H a xs) : SqT K H' a xs := by
  rcases h with h | h
  · exact .inl (Rd.mono e h)
  · exact .inr h
section
variable {K : Fg} {H H' : Hp}
mutual
theorem Rp.mono (e : Same H H') : ∀ {d : D} {v : V}, Rp K H d v → Rp K H' d v
  | _, _, .non => .non
  | _, _, .bl b => .bl b
  | _, _, .int i => .int i
  | _, _, .str x => .str x
  | _, _, .lst h r => .lst (Same.seq e h) (RpL.mono e r)
  | _, _, .tup h r => .tup (SqT.mono e h) (RpL.mono e r)
  | _, _, .nl h r => .nl (e _ _ h) (RpL.mono e r)
  | _, _, .fl h r => .fl (OldL.mono e h) (RpL.mono e r)
  | _, _, .dk h l r => .dk (e _ _ h) l (RpL.mono e r)
theorem RpL.mono (e : Same H H') : ∀ {d : List D} {v : List V}, RpL K H d v → RpL K H' d v
  | _, _, .nil => .nil
  | _, _, .cons h r => .cons (Rp.mono e h) (RpL.mono e r)
end
theorem nodict_all : ∀ {l : List D}, PyData.hasDictAll l = false → ∀ d ∈ l, d.hasDict = false
  | [], _, d, hd => by simp at hd
  | x :: l, h, d, hd => by
    unfold PyData.hasDictAll at h
    rw [Bool.or_eq_false_iff] at h
    rcases List.mem_cons.mp hd with rfl | hd
    · exact h.1
    · exact nodict_all h.2 d hd
theorem nodict_list {l : List D} (h : (PyData.list l).hasDict = false) : ∀ d ∈ l, d.hasDict = false := nodict_all (by unfold PyData.hasDict at h; exact h)
theorem nodict_tup {l : List D} (h : (PyData.tuple l).hasDict = false) : ∀ d ∈ l, d.hasDict = false := nodict_all (by unfold PyData.hasDict at h; exact h)
theorem nodict_of {d : D} (h : SeqAt.shaped d = true) : d.hasDict = false := PyData.hasDict_of_canLay d (SeqAt.canLay_of_shaped h)
mutual
theorem Rp.dp : ∀ {d : D} {v : V}, Rp K H d v → d.hasDict = false → Dp K H v d
  | _, _, .non, _ => .non
  | _, _, .bl b, _ => .bl b
  | _, _, .int i, _ => .int i
  | _, _, .str x, _ => .str x
  | _, _, .lst h r, n => .lst h (RpL.dp r (nodict_list n))
  | _, _, .tup h r, n => .tup h (RpL.dp r (nodict_tup n))
  | _, _, .nl h r, n => by simp [tg, PyData.hasDict] at n
  | _, _, .fl h r, n => by simp [tf, PyData.hasDict] at n
  | _, _, .dk h l r, n => by simp [dkD, PyData.hasDict] at n
theorem RpL.dp : ∀ {d : List D} {v : List V}, RpL K H d v → (∀ x ∈ d, x.hasDict = false) → DpAll K H v d
  | _, _, .nil, _ => .nil
  | _, _, .cons h r, n => .cons (Rp.dp h (n _ (by simp))) (RpL.dp r (fun x hx => n x (by simp [hx])))
end
theorem RpL.length : ∀ {ds : List D} {vs : List V}, RpL K H ds vs → ds.length = vs.length
  | _, _, .nil => rfl
  | _, _, .cons _ r => congrArg (· + 1) (RpL.length r)
theorem RpL.get : ∀ {ds : List D} {vs : List V} {i : Nat} {d : D}, RpL K H ds vs → ds[i]? = some d → ∃ v, vs[i]? = some v ∧ Rp K H d v
  | _, _, _, _, .nil, e => by simp at e
  | _, _, 0, _, .cons h _, e => by simp at e; subst e; exact ⟨_, rfl, h⟩
  | _, _, i + 1, _, .cons _ r, e => by
    obtain ⟨v, h1, h2⟩ := RpL.get (i := i) r (by simpa using e)
    exact ⟨v, by simpa using h1, h2⟩
theorem RpL.append : ∀ {ds es : List D} {vs ws : List V}, RpL K H ds vs → RpL K H es ws → RpL K H (ds ++ es) (vs ++ ws)
  | _, _, _, _, .nil, s => s
  | _, _, _, _, .cons h r, s => .cons h (RpL.append r s)
theorem RpL.take : ∀ {ds : List D} {vs : List V} (n : Nat), RpL K H ds vs → RpL K H (ds.take n) (vs.take n)
  | _, _, 0, _ => .nil
  | _, _, _ + 1, .nil => .nil
  | _, _, n + 1, .cons h r => .cons h (RpL.take n r)
theorem RpL.drop : ∀ {ds : List D} {vs : List V} (n : Nat), RpL K H ds vs → RpL K H (ds.drop n) (vs.drop n)
  | _, _, 0, r => r
  | _, _, _ + 1, .nil => .nil
  | _, _, n + 1, .cons _ r => RpL.drop n r
theorem RpL.set {d : D} {v : V} (q : Rp K H d v) : ∀ {ds : List D} {vs : List V} (i : Nat), RpL K H ds vs → RpL K H (ds.set i d) (vs.set i v)
  | _, _, _, .nil => .nil
  | _, _, 0, .cons _ r => .cons q r
  | _, _, i + 1, .cons h r => .cons h (RpL.set q i r)
theorem RpL.reverse {ds : List D} {vs : List V} (r : RpL K H ds vs) : RpL K H ds.reverse vs.reverse := by
  induction ds generalizing vs with
  | nil => cases r; exact .nil
  | cons d ds ih =>
    cases r with
    | cons h r =>
      rw [List.reverse_cons, List.reverse_cons]
      exact (ih r).append (.cons h .nil)
theorem RpL.dropLast {ds : List D} {vs : List V} (r : RpL K H ds vs) : RpL K H ds.dropLast vs.dropLast := by
  rw [List.dropLast_eq_take, List.dropLast_eq_take, r.length]
  exact r.take _
theorem RpL.replicate {ds : List D} {vs : List V} (r : RpL K H ds vs) : ∀ n : Nat, RpL K H (List.replicate n ds).flatten (List.replicate n vs).flatten
  | 0 => .nil
  | n + 1 => by
    rw [List.replicate_succ, List.replicate_succ, List.flatten_cons, List.flatten_cons]
    exact r.append (RpL.replicate r n)
theorem RpL.ints : ∀ {ns : List Int} {vs : List V}, RpL K H (ns.map PyData.int) vs → vs = ns.map V.int
  | [], _, r => by cases r; rfl
  | n :: ns, _, r => by
    cases r with
    | cons h r => cases h; rw [RpL.ints r]; rfl
theorem RpL.of_ints : ∀ (ns : List Int), RpL K H (ns.map PyData.int) (ns.map V.int)
  | [] => .nil
  | n :: ns => .cons (.int n) (RpL.of_ints ns)
end

/-! ### the frozen part and the whole -/
/-- from (Hs, H) to (Hs', H'): nothing that stood is changed, what is newly frozen is new -/
structure Ext (Hs H Hs' H' : Hp) : Prop where
  sub : Same Hs' H'
  same : Same H H'
  grow : Same Hs Hs'
  fresh : ∀ p o, Hs' p = some o → Hs p = none → H p = none
theorem Ext.refl {Hs H : Hp} (h : Same Hs H) : Ext Hs H Hs H := ⟨h, .refl _, .refl _, fun p o a b => by rw [a] at b; cases b⟩
theorem Ext.trans {Hs H Hs1 H1 Hs2 H2 : Hp} (a : Ext Hs H Hs1 H1) (b : Ext Hs1 H1 Hs2 H2) : Ext Hs H Hs2 H2 where
  sub := b.sub
  same := a.same.trans b.same
  grow := a.grow.trans b.grow
  fresh := fun p o h1 h2 => by
    cases e : Hs1 p with
    | none => exact a.same.free (b.fresh p o h1 e)
    | some u => exact a.fresh p u e h2
/-- a new object, frozen at once -/
theorem Ext.new {Hs H : Hp} {p : Addr} {o : HO} (h : Same Hs H) (hp : H p = none) : Ext Hs H (upd Hs p o) (upd H p o) where
  sub := fun b u e => by
    by_cases hb : b = p
    · subst hb; rw [upd_same] at e ⊢; exact e
    · rw [upd_ne hb] at e ⊢; exact h b u e
  same := fun b u e => by rw [upd_ne (ne_of_none e hp)]; exact e
  grow := fun b u e => by rw [upd_ne (ne_of_none (h b u e) hp)]; exact e
  fresh := fun b u e n => by
    by_cases hb : b = p
    · subst hb; exact hp
    · rw [upd_ne hb] at e; rw [e] at n; cases n
/-- a new object, not frozen -/
theorem Ext.hid {Hs H : Hp} {p : Addr} {o : HO} (h : Same Hs H) (hp : H p = none) : Ext Hs H Hs (upd H p o) where
  sub := fun b u e => by rw [upd_ne (ne_of_none (h b u e) hp)]; exact h b u e
  same := fun b u e => by rw [upd_ne (ne_of_none e hp)]; exact e
  grow := .refl _
  fresh := fun b u e n => by rw [e] at n; cases n
/-- what was new and not frozen is frozen -/
theorem Ext.frz {Hs H Hs' H' : Hp} {p : Addr} {o : HO} (e : Ext Hs H Hs' H') (h0 : H p = none) (h1 : H' p = some o) (h2 : Hs' p = none) : Ext Hs H (upd Hs' p o) H' where
  sub := fun b u q => by
    by_cases hb : b = p
    · subst hb; rw [upd_same] at q; cases q; exact h1
    · rw [upd_ne hb] at q; exact e.sub b u q
  same := e.same
  grow := e.grow.trans fun b u q => by rw [upd_ne (ne_of_none q h2)]; exact q
  fresh := fun b u q n => by
    by_cases hb : b = p
    · subst hb; exact h0
    · rw [upd_ne hb] at q; exact e.fresh b u q n

/-! ### slots -/
inductive SD where
  | no
  | sh (d : D)
  | ow (l : List D)
  | bo (l : List D)
abbrev Ev := List SD
/-- the heap at the start, without the list that is lent; that list's address -/
structure Gx where
  h : Hp
  b : Nat → Option Addr

def RelS (K : Fg) (G : Gx) (Hs H : Hp) (i : Nat) : SD → Option (Option V) → Prop
  | .no, _ => True
  | .sh d, x => ∃ v, x = some (some v) ∧ Rp K Hs d v
  | .ow l, x => ∃ p vs, x = some (some (.ref p)) ∧ G.h p = none ∧ Hs p = none ∧ H p = some (.lst vs) ∧ RpL K Hs l vs ∧ ∀ j, G.b j ≠ some p
  | .bo l, x => ∃ p vs, x = some (some (.ref p)) ∧ G.b i = some p ∧ H p = some (.lst vs) ∧ RpL K Hs l vs

structure RelE (K : Fg) (S : Hp) (G : Gx) (Hs H : Hp) (σ : Sg) (ρ : Ev) : Prop where
  sub : Same Hs H
  old : Same G.h H
  ext : Same S Hs
  new : ∀ p o, Hs p = some o → S p = none → G.h p = none
  len : ρ.length = σ.length
  slot : ∀ (i : Nat) (r : SD), ρ[i]? = some r → RelS K G Hs H i r σ[i]?
  bor : ∀ (i : Nat) (p : Addr), G.b i = some p → G.h p = none ∧ Hs p = none ∧ H p ≠ none
  one : ∀ (i j : Nat) (p : Addr), G.b i = some p → G.b j = some p → i = j
  dis : ∀ (i j : Nat) (l m : List D) (p : Addr), ρ[i]? = some (.ow l) → ρ[j]? = some (.ow m) → σ[i]? = some (some (.ref p)) → σ[j]? = some (some (.ref p)) → i = j

section
variable {K : Fg} {S Hs H Hs' H' : Hp} {G : Gx} {σ : Sg} {ρ : Ev}
theorem RelE.step (r : RelE K S G Hs H σ ρ) (e : Ext Hs H Hs' H') : RelE K S G Hs' H' σ ρ where
  sub := e.sub
  old := r.old.trans e.same
  ext := r.ext.trans e.grow
  new := fun p o a b => by
    cases q : Hs p with
    | none => exact r.old.free (e.fresh p o a q)
    | some u => exact r.new p u q b
  len := r.len
  slot := fun i s hs => by
    have q := r.slot i s hs
    cases s with
    | no => trivial
    | sh d =>
      obtain ⟨v, e1, e2⟩ := q
      exact ⟨v, e1, e2.mono e.grow⟩
    | ow l =>
      obtain ⟨p, vs, e1, e2, e3, e4, e5, e6⟩ := q
      refine ⟨p, vs, e1, e2, ?_, e.same _ _ e4, e5.mono e.grow, e6⟩
      cases q : Hs' p with
      | none => rfl
      | some u =>
        have := e.fresh p u q e3
        rw [e4] at this; cases this
    | bo l =>
      obtain ⟨p, vs, e1, e2, e3, e4⟩ := q
      exact ⟨p, vs, e1, e2, e.same _ _ e3, e4.mono e.grow⟩
  dis := r.dis
  bor := fun i p hp => by
    obtain ⟨h1, h2, h3⟩ := r.bor i p hp
    refine ⟨h1, ?_, fun z => h3 (e.same.free z)⟩
    cases q : Hs' p with
    | none => rfl
    | some u => exact (h3 (e.fresh p u q h2)).elim
  one := r.one
theorem RelE.get {i : Nat} {d : D} (r : RelE K S G Hs H σ ρ) (h : ρ[i]? = some (.sh d)) : ∃ v, σ[i]? = some (some v) ∧ Rp K Hs d v := r.slot i _ h
theorem RelE.own' {i : Nat} {l : List D} (r : RelE K S G Hs H σ ρ) (h : ρ[i]? = some (.ow l)) : ∃ p vs, σ[i]? = some (some (.ref p)) ∧ G.h p = none ∧ Hs p = none ∧ H p = some (.lst vs) ∧ RpL K Hs l vs ∧ ∀ j, G.b j ≠ some p := r.slot i _ h
theorem RelE.own {i : Nat} {l : List D} (r : RelE K S G Hs H σ ρ) (h : ρ[i]? = some (.ow l)) : ∃ p vs, σ[i]? = some (some (.ref p)) ∧ G.h p = none ∧ Hs p = none ∧ H p = some (.lst vs) ∧ RpL K Hs l vs :=
  let ⟨p, vs, e1, e2, e3, e4, e5, _⟩ := r.own' h
  ⟨p, vs, e1, e2, e3, e4, e5⟩
theorem RelE.lent {i : Nat} {l : List D} (r : RelE K S G Hs H σ ρ) (h : ρ[i]? = some (.bo l)) : ∃ p vs, σ[i]? = some (some (.ref p)) ∧ G.b i = some p ∧ H p = some (.lst vs) ∧ RpL K Hs l vs := r.slot i _ h

theorem set_get {α : Type} {l : List α} {i j : Nat} {x y : α} (h : (l.set i x)[j]? = some y) : (j = i ∧ i < l.length ∧ y = x) ∨ (j ≠ i ∧ l[j]? = some y) := by
  by_cases e : j = i
  · subst e
    by_cases hl : j < l.length
    · rw [List.getElem?_set_self hl] at h
      exact .inl ⟨rfl, hl, (Option.some.inj h).symm⟩
    · rw [List.getElem?_eq_none (by simpa using hl)] at h; cases h
  · rw [List.getElem?_set_ne (Ne.symm e)] at h
    exact .inr ⟨e, h⟩
/-- a slot is forgotten, or what stands there is shared data -/
theorem RelE.set {i : Nat} {d : D} {v : V} (r : RelE K S G Hs H σ ρ) (h : Rp K Hs d v) : RelE K S G Hs H (σ.set i (some v)) (ρ.set i (.sh d)) where
  sub := r.sub
  old := r.old
  ext := r.ext
  new := r.new
  len := by simpa using r.len
  slot := fun j s hs => by
    rcases set_get hs with ⟨rfl, hl, rfl⟩ | ⟨hj, hs⟩
    · exact ⟨v, by rw [List.getElem?_set_self (by rw [← r.len]; exact hl)], h⟩
    · rw [List.getElem?_set_ne (Ne.symm hj)]
      exact r.slot j s hs
  dis := fun j k l m p a b c d' => by
    rcases set_get a with ⟨_, _, e⟩ | ⟨hj, a⟩
    · cases e
    · rcases set_get b with ⟨_, _, e⟩ | ⟨hk, b⟩
      · cases e
      · rw [List.getElem?_set_ne (Ne.symm hj)] at c
        rw [List.getElem?_set_ne (Ne.symm hk)] at d'
        exact r.dis j k l m p a b c d'
  bor := r.bor
  one := r.one
theorem RelE.setNo {i : Nat} {v : Option V} (r : RelE K S G Hs H σ ρ) : RelE K S G Hs H (σ.set i v) (ρ.set i .no) where
  sub := r.sub
  old := r.old
  ext := r.ext
  new := r.new
  len := by simpa using r.len
  slot := fun j s hs => by
    rcases set_get hs with ⟨rfl, hl, rfl⟩ | ⟨hj, hs⟩
    · trivial
    · rw [List.getElem?_set_ne (Ne.symm hj)]
      exact r.slot j s hs
  dis := fun j k l m p a b c d' => by
    rcases set_get a with ⟨_, _, e⟩ | ⟨hj, a⟩
    · cases e
    · rcases set_get b with ⟨_, _, e⟩ | ⟨hk, b⟩
      · cases e
      · rw [List.getElem?_set_ne (Ne.symm hj)] at c
        rw [List.getElem?_set_ne (Ne.symm hk)] at d'
        exact r.dis j k l m p a b c d'
  bor := r.bor
  one := r.one
/-- a new list of one's own -/
theorem RelE.setOw {i : Nat} {l : List D} {p : Addr} {vs : List V} (r : RelE K S G Hs H σ ρ) (e : Ext Hs H Hs' H') (h0 : H p = none) (h1 : Hs' p = none) (h2 : H' p = some (.lst vs)) (h3 : RpL K Hs' l vs) :
    RelE K S G Hs' H' (σ.set i (some (.ref p))) (ρ.set i (.ow l)) := by
  have r' := r.step e
  have nb : ∀ j, G.b j ≠ some p := fun j z => (r.bor j p z).2.2 h0
  have away : ∀ (j : Nat) (m : List D), ρ[j]? = some (.ow m) → σ[j]? = some (some (.ref p)) → False := fun j m hj hs => by
    obtain ⟨q, ws, e1, _, _, e4, _⟩ := r.own hj
    rw [hs] at e1; cases e1
    rw [h0] at e4; cases e4
  refine ⟨r'.sub, r'.old, r'.ext, r'.new, by simpa using r.len, fun j s hs => ?_, r'.bor, r'.one, fun j k l m q a b c d' => ?_⟩
  · rcases set_get hs with ⟨rfl, hl, rfl⟩ | ⟨hj, hs⟩
    · exact ⟨p, vs, by rw [List.getElem?_set_self (by rw [← r.len]; exact hl)], r.old.free h0, h1, h2, h3, nb⟩
    · rw [List.getElem?_set_ne (Ne.symm hj)]
      exact r'.slot j s hs
  · rcases set_get a with ⟨rfl, hl, e⟩ | ⟨hj, a'⟩
    · rcases set_get b with ⟨rfl, _, e⟩ | ⟨hk, b'⟩
      · rfl
      · rw [List.getElem?_set_self (by rw [← r.len]; exact hl)] at c
        rw [List.getElem?_set_ne (Ne.symm hk)] at d'
        cases c
        exact (away k m b' d').elim
    · rcases set_get b with ⟨rfl, hl, e⟩ | ⟨hk, b'⟩
      · rw [List.getElem?_set_self (by rw [← r.len]; exact hl)] at d'
        rw [List.getElem?_set_ne (Ne.symm hj)] at c
        cases d'
        exact (away j l a' c).elim
      · rw [List.getElem?_set_ne (Ne.symm hj)] at c
        rw [List.getElem?_set_ne (Ne.symm hk)] at d'
        exact r.dis j k l m q a' b' c d'
/-- a list of one's own is changed -/
theorem RelE.wr {i : Nat} {l l' : List D} {p : Addr} {ws : List V} (r : RelE K S G Hs H σ ρ) (hi : ρ[i]? = some (.ow l)) (hs : σ[i]? = some (some (.ref p))) (h : RpL K Hs l' ws) :
    RelE K S G Hs (upd H p (.lst ws)) σ (ρ.set i (.ow l')) := by
  obtain ⟨q, us, e1, e2, e3, e4, e5, e6⟩ := r.own' hi
  rw [hs] at e1; cases e1
  refine ⟨fun b u e => ?_, fun b u e => ?_, r.ext, r.new, by simpa using r.len, fun j s hj => ?_, fun jj a ha => ?_, r.one, fun j k m n q a b c d' => ?_⟩
  · rw [upd_ne (ne_of_none e e3)]; exact r.sub b u e
  · rw [upd_ne (ne_of_none e e2)]; exact r.old b u e
  · rcases set_get hj with ⟨rfl, hl, rfl⟩ | ⟨hj', hj⟩
    · exact ⟨p, ws, hs, e2, e3, upd_same, h, e6⟩
    · have q := r.slot j s hj
      cases s with
      | no => trivial
      | sh d => exact q
      | ow m =>
        obtain ⟨q, xs, f1, f2, f3, f4, f5, f6⟩ := q
        refine ⟨q, xs, f1, f2, f3, ?_, f5, f6⟩
        rw [upd_ne]
        · exact f4
        · rintro rfl
          exact hj' (r.dis j i m l q hj hi f1 hs)
      | bo m =>
        obtain ⟨q, xs, f1, f2, f3, f4⟩ := q
        refine ⟨q, xs, f1, f2, ?_, f4⟩
        rw [upd_ne]
        · exact f3
        · rintro rfl
          exact e6 j f2
  · obtain ⟨h1, h2, h3⟩ := r.bor jj a ha
    refine ⟨h1, h2, ?_⟩
    rw [upd_ne]
    · exact h3
    · rintro rfl
      exact e6 jj ha
  · have go : ∀ (j : Nat) (m : List D), (ρ.set i (.ow l'))[j]? = some (.ow m) → ∃ m', ρ[j]? = some (.ow m') := fun j m h => by
      rcases set_get h with ⟨rfl, _, _⟩ | ⟨_, h⟩
      · exact ⟨l, hi⟩
      · exact ⟨m, h⟩
    obtain ⟨m', a'⟩ := go j m a
    obtain ⟨n', b'⟩ := go k n b
    exact r.dis j k m' n' q a' b' c d'
/-- the lent list is changed -/
theorem RelE.wrB {i : Nat} {l l' : List D} {p : Addr} {ws : List V} (r : RelE K S G Hs H σ ρ) (hi : ρ[i]? = some (.bo l)) (hs : σ[i]? = some (some (.ref p))) (h : RpL K Hs l' ws) :
    RelE K S G Hs (upd H p (.lst ws)) σ (ρ.set i (.bo l')) := by
  obtain ⟨q, us, e1, e6, e4, e5⟩ := r.lent hi
  rw [hs] at e1; cases e1
  obtain ⟨e2, e3, _⟩ := r.bor i p e6
  refine ⟨fun b u e => ?_, fun b u e => ?_, r.ext, r.new, by simpa using r.len, fun j s hj => ?_, fun jj a ha => ?_, r.one, fun j k m n q a b c d' => ?_⟩
  · rw [upd_ne (ne_of_none e e3)]; exact r.sub b u e
  · rw [upd_ne (ne_of_none e e2)]; exact r.old b u e
  · rcases set_get hj with ⟨rfl, hl, rfl⟩ | ⟨hj', hj⟩
    · exact ⟨p, ws, hs, e6, upd_same, h⟩
    · have q := r.slot j s hj
      cases s with
      | no => trivial
      | sh d => exact q
      | ow m =>
        obtain ⟨q, xs, f1, f2, f3, f4, f5, f6⟩ := q
        refine ⟨q, xs, f1, f2, f3, ?_, f5, f6⟩
        rw [upd_ne]
        · exact f4
        · rintro rfl
          exact f6 i e6
      | bo m =>
        obtain ⟨q, xs, f1, f2, f3, f4⟩ := q
        refine ⟨q, xs, f1, f2, ?_, f4⟩
        rw [upd_ne]
        · exact f3
        · rintro rfl
          exact hj' (r.one j i q f2 e6)
  · obtain ⟨h1, h2, h3⟩ := r.bor jj a ha
    refine ⟨h1, h2, ?_⟩
    by_cases z : a = p
    · subst z; rw [upd_same]; simp
    · rw [upd_ne z]; exact h3
  · rcases set_get a with ⟨_, _, e⟩ | ⟨_, a⟩
    · cases e
    · rcases set_get b with ⟨_, _, e⟩ | ⟨_, b⟩
      · cases e
      · exact r.dis j k m n q a b c d'
/-- a list of one's own is frozen -/
theorem RelE.fz {i : Nat} {l : List D} (r : RelE K S G Hs H σ ρ) (hi : ρ[i]? = some (.ow l)) : ∃ Hs', Same Hs Hs' ∧ RelE K S G Hs' H σ (ρ.set i (.sh (.list l))) := by
  obtain ⟨p, vs, e1, e2, e3, e4, e5, e6⟩ := r.own' hi
  have g : Same Hs (upd Hs p (.lst vs)) := fun b u q => by rw [upd_ne (ne_of_none q e3)]; exact q
  refine ⟨upd Hs p (.lst vs), g, fun b u q => ?_, r.old, r.ext.trans g, fun b u q n => ?_, by simpa using r.len, fun j s hj => ?_, fun jj a ha => ?_, r.one, fun j k m n q a b c d' => ?_⟩
  · by_cases hb : b = p
    · subst hb; rw [upd_same] at q; cases q; exact e4
    · rw [upd_ne hb] at q; exact r.sub b u q
  · by_cases hb : b = p
    · subst hb; exact e2
    · rw [upd_ne hb] at q; exact r.new b u q n
  · rcases set_get hj with ⟨rfl, hl, rfl⟩ | ⟨hj', hj⟩
    · exact ⟨_, e1, .lst (.inl (.inl upd_same)) (e5.mono g)⟩
    · have q := r.slot j s hj
      cases s with
      | no => trivial
      | sh d =>
        obtain ⟨v, q1, q2⟩ := q
        exact ⟨v, q1, q2.mono g⟩
      | ow m =>
        obtain ⟨q, xs, f1, f2, f3, f4, f5, f6⟩ := q
        refine ⟨q, xs, f1, f2, ?_, f4, f5.mono g, f6⟩
        rw [upd_ne]
        · exact f3
        · rintro rfl
          exact hj' (r.dis j i m l q hj hi f1 e1)
      | bo m =>
        obtain ⟨q, xs, f1, f2, f3, f4⟩ := q
        exact ⟨q, xs, f1, f2, f3, f4.mono g⟩
  · obtain ⟨h1, h2, h3⟩ := r.bor jj a ha
    refine ⟨h1, ?_, h3⟩
    rw [upd_ne]
    · exact h2
    · rintro rfl
      exact e6 jj ha
  · rcases set_get a with ⟨_, _, e⟩ | ⟨hj, a⟩
    · cases e
    · rcases set_get b with ⟨_, _, e⟩ | ⟨hk, b⟩
      · cases e
      · exact r.dis j k m n q a b c d'
end

/-! ### outcomes -/
/-- an exception: its class's name, its fields -/
structure Xn where
  name : Str
  flds : List (Str × D) := []
inductive R (α : Type) where
  | ok (a : α)
  | ex (x : Xn)
  | bad
def R.bind {α β : Type} (r : R α) (f : α → R β) : R β := match r with
  | .ok a => f a
  | .ex x => .ex x
  | .bad => .bad
instance : Monad R where
  pure := .ok
  bind := R.bind
theorem ok_bind {α β : Type} (a : α) (f : α → R β) : (R.ok a >>= f) = f a := rfl
theorem ex_bind {α β : Type} (x : Xn) (f : α → R β) : (R.ex x >>= f) = .ex x := rfl
theorem bad_bind {α β : Type} (f : α → R β) : ((R.bad : R α) >>= f) = .bad := rfl
theorem pure_ok {α : Type} (a : α) : (pure a : R α) = .ok a := rfl

inductive Out where
  | nx (ρ : Ev)
  | rt (r : SD)
  | rtB (r : SD) (ρ : Ev)
  | bk (ρ : Ev)
  | ct (ρ : Ev)
  | ex (x : Xn) (ρ : Ev)
  | bad
end VL

set_option Elab.async false
set_option linter.all false
set_option maxRecDepth 100000
set_option autoImplicit false
namespace VL
open PySem PySem.Spec PyProof.Rows L2

/-! ### what is wanted behind an evaluation -/
/-- the exception told by x, as it lies -/
def XRp (K : Fg) (mg : Str → Option Value) (H : Hp) (x : Xn) (cls : Value) (dd : Option Addr) : Prop :=
  mg x.name = some cls ∧ (x.flds = [] ∨ ∃ a vs, dd = some a ∧ H a = some (.xd vs) ∧ vs.map (·.1) = x.flds.map (·.1) ∧ RpL K H (x.flds.map (·.2)) (vs.map (·.2)))

def Post {α : Type} (K : Fg) (mg : Str → Option Value) (W : WX) (Hs H : Hp) (σ : Sg) : R α → (α → Hp → Hp → Prop) → Prop
  | .ok a, P => ∀ Hs' H', Ext Hs H Hs' H' → P a Hs' H'
  | .ex x, _ => ∀ Hs' H' cls dd, Ext Hs H Hs' H' → XRp K mg H' x cls dd → W cls dd σ H'
  | .bad, _ => False

section
variable {K : Fg} {mg : Str → Option Value} {W : WX} {Hs H Hs1 H1 : Hp} {σ : Sg} {α β : Type}
theorem Post.up {r : R α} {P : α → Hp → Hp → Prop} (e : Ext Hs H Hs1 H1) (h : Post K mg W Hs H σ r P) : Post K mg W Hs1 H1 σ r P := by
  cases r with
  | ok a => exact fun Hs' H' e' => h Hs' H' (e.trans e')
  | ex x => exact fun Hs' H' cls dd e' hx => h Hs' H' cls dd (e.trans e') hx
  | bad => exact h
theorem Post.imp {r : R α} {P P' : α → Hp → Hp → Prop} (h : Post K mg W Hs H σ r P) (hp : ∀ a Hs' H', Ext Hs H Hs' H' → P a Hs' H' → P' a Hs' H') : Post K mg W Hs H σ r P' := by
  cases r with
  | ok a => exact fun Hs' H' e' => hp _ _ _ e' (h Hs' H' e')
  | ex x => exact h
  | bad => exact h
theorem Post.bind {r : R α} {f : α → R β} {P : β → Hp → Hp → Prop} (h : Post K mg W Hs H σ (r.bind f) P) : Post K mg W Hs H σ r (fun a Hs' H' => Post K mg W Hs' H' σ (f a) P) := by
  cases r with
  | ok a => exact fun Hs' H' e => Post.up e h
  | ex x => exact h
  | bad => exact h
theorem Post.now {a : α} {P : α → Hp → Hp → Prop} (hs : Same Hs H) (h : Post K mg W Hs H σ (.ok a) P) : P a Hs H := h Hs H (.refl hs)
end

/-! ### the readings -/
/-- read at once: a list whose items are frozen, or frozen data -/
def Pk (K : Fg) (Hs H : Hp) (d : D) (v : V) : Prop := Rp K Hs d v ∨ ∃ l a xs, d = .list l ∧ v = .ref a ∧ SqL K H a xs ∧ RpL K Hs l xs
theorem Pk.up {K : Fg} {Hs H Hs1 H1 : Hp} {d : D} {v : V} (h : Pk K Hs H d v) (e : Ext Hs H Hs1 H1) : Pk K Hs1 H1 d v := by
  rcases h with h | ⟨l, a, xs, h1, h2, h3, h4⟩
  · exact .inl (h.mono e.grow)
  · exact .inr ⟨l, a, xs, h1, h2, Same.seq e.same h3, h4.mono e.grow⟩
theorem Pk.rp {K : Fg} {Hs H : Hp} {d : D} {v : V} (h : Pk K Hs H d v) (e : Same Hs H) : Rp K H d v := by
  rcases h with h | ⟨l, a, xs, rfl, rfl, h3, h4⟩
  · exact h.mono e
  · exact .lst h3 (h4.mono e)
theorem Pk.list {K : Fg} {Hs H : Hp} {l : List D} {v : V} (h : Pk K Hs H (.list l) v) (e : Same Hs H) : ∃ a xs, v = .ref a ∧ SqL K H a xs ∧ RpL K Hs l xs := by
  rcases h with h | ⟨l', a, xs, h1, h2, h3, h4⟩
  · cases h with
    | lst h1 h2 => exact ⟨_, _, rfl, Same.seq e h1, h2⟩
  · cases h1
    exact ⟨a, xs, h2, h3, h4⟩
theorem Pk.tup {K : Fg} {Hs H : Hp} {l : List D} {v : V} (h : Pk K Hs H (.tuple l) v) (e : Same Hs H) : ∃ a xs, v = .ref a ∧ SqT K H a xs ∧ RpL K Hs l xs := by
  rcases h with h | ⟨l', a, xs, h1, h2, h3, h4⟩
  · cases h with
    | tup h1 h2 => exact ⟨_, _, rfl, SqT.mono e h1, h2⟩
  · cases h1
theorem Pk.int {K : Fg} {Hs H : Hp} {i : Int} {v : V} (h : Pk K Hs H (.int i) v) : v = .int i := by
  rcases h with h | ⟨l', a, xs, h1, h2, h3, h4⟩
  · cases h; rfl
  · cases h1
theorem Pk.bl {K : Fg} {Hs H : Hp} {i : Bool} {v : V} (h : Pk K Hs H (.bool i) v) : v = .bl i := by
  rcases h with h | ⟨l', a, xs, h1, h2, h3, h4⟩
  · cases h; rfl
  · cases h1
theorem Pk.str {K : Fg} {Hs H : Hp} {i : Str} {v : V} (h : Pk K Hs H (.str i) v) : v = .str i := by
  rcases h with h | ⟨l', a, xs, h1, h2, h3, h4⟩
  · cases h; rfl
  · cases h1
theorem Pk.non {K : Fg} {Hs H : Hp} {v : V} (h : Pk K Hs H .none v) : v = .non := by
  rcases h with h | ⟨l', a, xs, h1, h2, h3, h4⟩
  · cases h; rfl
  · cases h1

def tE (K : Fg) (mg : Str → Option Value) (W : WX) (f : Ev → R D) : TE := fun σ H Q => ∃ S G Hs ρ, RelE K S G Hs H σ ρ ∧ Post K mg W Hs H σ (f ρ) (fun d Hs' H' => ∀ v, Rp K Hs' d v → Q v H')
/-- read at once -/
def tPk (K : Fg) (mg : Str → Option Value) (W : WX) (f : Ev → R D) : TE := fun σ H Q => ∃ S G Hs ρ, RelE K S G Hs H σ ρ ∧ Post K mg W Hs H σ (f ρ) (fun d Hs' H' => ∀ v, Pk K Hs' H' d v → Q v H')
/-- a new list -/
def tO (K : Fg) (mg : Str → Option Value) (W : WX) (f : Ev → R (List D)) : TE := fun σ H Q => ∃ S G Hs ρ, RelE K S G Hs H σ ρ ∧
  Post K mg W Hs H σ (f ρ) (fun l Hs' H' => ∀ p vs, H p = none → Hs' p = none → H' p = some (.lst vs) → RpL K Hs' l vs → Q (.ref p) H')
def tT (K : Fg) (mg : Str → Option Value) (W : WX) (f : Ev → R Bool) : TT := fun σ H Q => ∃ S G Hs ρ, RelE K S G Hs H σ ρ ∧ Post K mg W Hs H σ (f ρ) (fun b _ H' => Q b H')
def tA (K : Fg) (mg : Str → Option Value) (W : WX) (f : Ev → R (List D)) : TA := fun σ H Q => ∃ S G Hs ρ, RelE K S G Hs H σ ρ ∧ Post K mg W Hs H σ (f ρ) (fun ds Hs' H' => ∀ vs, RpL K Hs' ds vs → Q vs H')

def VE (X : Cx) (W : WX) (e : Expr) (f : Ev → R D) : Prop := PE X e (tE X.K X.mg W f)
def VP (X : Cx) (W : WX) (e : Expr) (f : Ev → R D) : Prop := PE X e (tPk X.K X.mg W f)
def VO (X : Cx) (W : WX) (e : Expr) (f : Ev → R (List D)) : Prop := PE X e (tO X.K X.mg W f)
def VT (X : Cx) (W : WX) (e : Expr) (f : Ev → R Bool) : Prop := PT X e (tT X.K X.mg W f)
def VW (X : Cx) (W : WX) (e : Expr) (f : Ev → R Bool) : Prop := PW X e (tT X.K X.mg W f)
def VA (X : Cx) (W : WX) (es : List Expr) (f : Ev → R (List D)) : Prop := PA X es (tA X.K X.mg W f)

theorem PE.imp {X : Cx} {e : Expr} {t t' : TE} (h : PE X e t) (i : ∀ σ H Q, t' σ H Q → t σ H Q) : PE X e t' := ⟨fun pins s σ H Q I q => h.run pins s σ H Q I (i σ H Q q)⟩
theorem PT.imp {X : Cx} {e : Expr} {t t' : TT} (h : PT X e t) (i : ∀ σ H Q, t' σ H Q → t σ H Q) : PT X e t' := ⟨fun pins s σ H Q I q => h.run pins s σ H Q I (i σ H Q q)⟩
theorem PW.imp {X : Cx} {e : Expr} {t t' : TT} (h : PW X e t) (i : ∀ σ H Q, t' σ H Q → t σ H Q) : PW X e t' := ⟨fun wh pins s σ H Q I q => h.run wh pins s σ H Q I (i σ H Q q)⟩
theorem PA.imp {X : Cx} {es : List Expr} {t t' : TA} (h : PA X es t) (i : ∀ σ H Q, t' σ H Q → t σ H Q) : PA X es t' := ⟨fun pos pins s σ H Q I q => h.run pos pins s σ H Q I (i σ H Q q)⟩
theorem PS.imp {X : Cx} {st : Stmt} {t t' : TS} (h : PS X st t) (i : ∀ D σ H, t' D σ H → t D σ H) : PS X st t' := ⟨fun pins s σ H D I q => h.run pins s σ H D I (i D σ H q)⟩
theorem PSs.imp {X : Cx} {st : List Stmt} {t t' : TS} (h : PSs X st t) (i : ∀ D σ H, t' D σ H → t D σ H) : PSs X st t' := ⟨fun pins s σ H D I q => h.run pins s σ H D I (i D σ H q)⟩
theorem PG.imp {X : Cx} {tg : Expr} {t t' : TG} (h : PG X tg t) (i : ∀ v σ H Q, t' v σ H Q → t v σ H Q) : PG X tg t' := ⟨fun pins s σ H v u Q I r q => h.run pins s σ H v u Q I r (i v σ H Q q)⟩
theorem PI.imp {X : Cx} {tg iter : Expr} {t t' : TI} (h : PI X tg iter t) (i : ∀ σ H Q, t' σ H Q → t σ H Q) : PI X tg iter t' := ⟨fun pins s σ H Q I q => h.run pins s σ H Q I (i σ H Q q)⟩

/-- a computation whose exception is not wanted -/
def noex {α : Type} : R α → R α
  | .ok a => .ok a
  | _ => .bad
def ofO {α : Type} : Option α → R α
  | some a => .ok a
  | none => .bad
theorem ofO_some {α : Type} (a : α) : ofO (some a) = .ok a := rfl
theorem bind_ok {α β : Type} (a : α) (f : α → R β) : (R.ok a).bind f = f a := rfl
theorem bind_ex {α β : Type} (x : Xn) (f : α → R β) : (R.ex x : R α).bind f = .ex x := rfl
theorem bind_bad {α β : Type} (f : α → R β) : (R.bad : R α).bind f = .bad := rfl

/-! ### combinators -/
def cst {α : Type} (a : α) : Ev → R α := fun _ => .ok a
def eVar (i : Nat) : Ev → R D := fun ρ => match ρ[i]? with
  | some (.sh d) => .ok d
  | _ => .bad
/-- .. or a list of one's own, read at once -/
def eOwn (i : Nat) : Ev → R D := fun ρ => match ρ[i]? with
  | some (.sh d) => .ok d
  | some (.ow l) => .ok (.list l)
  | some (.bo l) => .ok (.list l)
  | _ => .bad
def e1 {α β : Type} (F : α → Option β) (f : Ev → R α) : Ev → R β := fun ρ => (f ρ).bind fun x => ofO (F x)
def e2 {α β γ : Type} (F : α → β → Option γ) (f : Ev → R α) (g : Ev → R β) : Ev → R γ := fun ρ => (f ρ).bind fun x => (g ρ).bind fun y => ofO (F x y)
def eCons (f : Ev → R D) (g : Ev → R (List D)) : Ev → R (List D) := fun ρ => (f ρ).bind fun x => (g ρ).bind fun xs => .ok (x :: xs)
def eLst (f : Ev → R (List D)) : Ev → R D := fun ρ => (f ρ).bind fun l => .ok (.list l)
def eIf {α : Type} (c : Ev → R Bool) (f g : Ev → R α) : Ev → R α := fun ρ => (c ρ).bind fun b => if b then f ρ else g ρ
def eAnd (f g : Ev → R Bool) : Ev → R Bool := fun ρ => (f ρ).bind fun b => if b then g ρ else .ok false
def eOr (f g : Ev → R Bool) : Ev → R Bool := fun ρ => (f ρ).bind fun b => if b then .ok true else g ρ
def eNot (f : Ev → R Bool) : Ev → R Bool := fun ρ => (f ρ).bind fun b => .ok (!b)

section
variable {X : Cx} {W : WX} {e a b c : Expr} {es : List Expr} {pos : Pos} {f g : Ev → R D} {fl : Ev → R (List D)} {fb gb : Ev → R Bool}

theorem VE.vp (h : VE X W e f) : VP X W e f := PE.imp h fun σ H Q ⟨S, G, Hs, ρ, r, p⟩ => ⟨S, G, Hs, ρ, r, p.imp fun _ _ _ e q v hv => q v (.inl hv)⟩
theorem VO.ve (h : VO X W e fl) : VE X W e (eLst fl) := PE.imp h fun σ H Q ⟨S, G, Hs, ρ, r, p⟩ => ⟨S, G, Hs, ρ, r, by
  unfold eLst at p
  cases q : fl ρ with
  | bad => rw [q] at p; exact p
  | ex x => rw [q] at p; exact p
  | ok l =>
    rw [q] at p
    refine fun Hs' H' e p' vs h0 h1 h2 h3 => ?_
    exact p _ _ (e.frz h0 h2 h1) _ (.lst (.inl (.inl upd_same)) (h3.mono fun b u z => by rw [upd_ne (ne_of_none z h1)]; exact z))⟩

/-! ### names, constants -/
theorem ve_pe {v : V} {d : D} (h : PE X e (tC v)) (hd : ∀ K H, Rp K H d v) : VE X W e (cst d) := PE.imp h fun σ H Q ⟨S, G, Hs, ρ, r, p⟩ => p.now r.sub v (hd _ _)
theorem ve_int {i j pos} : VE X W (.Constant (.int i) j pos) (cst (.int i)) := ve_pe pe_int fun _ _ => .int i
theorem ve_bl {i j pos} : VE X W (.Constant (.bool i) j pos) (cst (.bool i)) := ve_pe pe_bl fun _ _ => .bl i
theorem ve_non {j pos} : VE X W (.Constant .none j pos) (cst .none) := ve_pe pe_non fun _ _ => .non
theorem ve_str {i j pos} : VE X W (.Constant (.str i) j pos) (cst (.str i)) := ve_pe pe_str fun _ _ => .str i
theorem ve_var (i : Nat) {x : Str} {pos : Pos} (h : PE X (.Name x pos) (tVar i)) : VE X W (.Name x pos) (eVar i) := PE.imp h fun σ H Q ⟨S, G, Hs, ρ, r, p⟩ => by
  unfold eVar at p
  cases q : ρ[i]? with
  | none => rw [q] at p; exact p.elim
  | some s =>
    rw [q] at p
    cases s with
    | no => exact p.elim
    | ow l => exact p.elim
    | bo l => exact p.elim
    | sh d =>
      obtain ⟨v, e1, e2⟩ := r.get q
      exact ⟨v, e1, p.now r.sub v e2⟩
theorem vp_var (i : Nat) {x : Str} {pos : Pos} (h : PE X (.Name x pos) (tVar i)) : VP X W (.Name x pos) (eOwn i) := PE.imp h fun σ H Q ⟨S, G, Hs, ρ, r, p⟩ => by
  unfold eOwn at p
  cases q : ρ[i]? with
  | none => rw [q] at p; exact p.elim
  | some s =>
    rw [q] at p
    cases s with
    | no => exact p.elim
    | ow l =>
      obtain ⟨a, vs, e1, _, _, e4, e5⟩ := r.own q
      exact ⟨_, e1, p.now r.sub _ (.inr ⟨l, a, vs, rfl, rfl, .inl (.inl e4), e5⟩)⟩
    | bo l =>
      obtain ⟨a, vs, e1, _, e4, e5⟩ := r.lent q
      exact ⟨_, e1, p.now r.sub _ (.inr ⟨l, a, vs, rfl, rfl, .inl (.inl e4), e5⟩)⟩
    | sh d =>
      obtain ⟨v, e1, e2⟩ := r.get q
      exact ⟨v, e1, p.now r.sub v (.inl e2)⟩

/-! ### operators -/
def OpD (K : Fg) (r : R2) (F : D → D → Option D) : Prop := ∀ (Hs H : Hp) (x y : D) (u v : V) (Q : VK) (d : D), Same Hs H → F x y = some d → Pk K Hs H x u → Pk K Hs H y v →
  (∀ Hs' H' w, Ext Hs H Hs' H' → Rp K Hs' d w → Q w H') → r u v H Q
def OpO (K : Fg) (r : R2) (F : D → D → Option (List D)) : Prop := ∀ (Hs H : Hp) (x y : D) (u v : V) (Q : VK) (l : List D), Same Hs H → F x y = some l → Pk K Hs H x u → Pk K Hs H y v →
  (∀ Hs' H' p vs, Ext Hs H Hs' H' → H p = none → Hs' p = none → H' p = some (.lst vs) → RpL K Hs' l vs → Q (.ref p) H') → r u v H Q
theorem sim_op {K : Fg} {mg : Str → Option Value} {r : R2} {F : D → D → Option D} (hd : OpD K r F) : ∀ σ H Q, tE K mg W (e2 F f g) σ H Q → tOp r (tPk K mg W f) (tPk K mg W g) σ H Q := fun σ H Q ⟨S, G, Hs, ρ, r, p⟩ => by
  refine ⟨S, G, Hs, ρ, r, (Post.bind p).imp fun x Hs1 H1 e q u hu => ?_⟩
  refine ⟨S, G, Hs1, ρ, r.step e, (Post.bind q).imp fun y Hs2 H2 e' q' v hv => ?_⟩
  cases z : F x y with
  | none => rw [z] at q'; exact q'.elim
  | some d =>
    rw [z] at q'
    exact hd Hs2 H2 x y u v Q d e'.sub z (hu.up e') hv fun Hs' H' w e'' hw => q' Hs' H' e'' w hw
theorem sim_opO {K : Fg} {mg : Str → Option Value} {r : R2} {F : D → D → Option (List D)} (hd : OpO K r F) : ∀ σ H Q, tO K mg W (e2 F f g) σ H Q → tOp r (tPk K mg W f) (tPk K mg W g) σ H Q := fun σ H Q ⟨S, G, Hs, ρ, r, p⟩ => by
  refine ⟨S, G, Hs, ρ, r, (Post.bind p).imp fun x Hs1 H1 e q u hu => ?_⟩
  refine ⟨S, G, Hs1, ρ, r.step e, (Post.bind q).imp fun y Hs2 H2 e' q' v hv => ?_⟩
  cases z : F x y with
  | none => rw [z] at q'; exact q'.elim
  | some d =>
    rw [z] at q'
    exact hd Hs2 H2 x y u v Q d e'.sub z (hu.up e') hv fun Hs' H' w vs e'' h0 h1 h2 h3 => q' Hs' H' e'' w vs ((e.trans e').same.free h0) h1 h2 h3
theorem ve_op {op : Operator} {r : R2} {F : D → D → Option D} (ho : OpR X (binaryOp op) r) (hd : OpD X.K r F) (ha : VP X W a f) (hb : VP X W b g) : VE X W (.BinOp a op b pos) (e2 F f g) := PE.imp (pe_op ho ha hb) (sim_op hd)
theorem vo_op {op : Operator} {r : R2} {F : D → D → Option (List D)} (ho : OpR X (binaryOp op) r) (hd : OpO X.K r F) (ha : VP X W a f) (hb : VP X W b g) : VO X W (.BinOp a op b pos) (e2 F f g) := PE.imp (pe_op ho ha hb) (sim_opO hd)
theorem ve_cmp {op : CmpOp} {r : R2} {F : D → D → Option D} (ho : OpR X (compareOp op) r) (hd : OpD X.K r F) (ha : VP X W a f) (hb : VP X W b g) (hm : behindInMarks op b = false) : VE X W (.Compare a [op] [b] pos) (e2 F f g) := PE.imp (pe_cmpR ho ha hb hm) (sim_op hd)
theorem ve_ix {r : R2} {F : D → D → Option D} (hr : IxR X r) (hd : OpD X.K r F) (ha : VP X W a f) (hb : VP X W b g) (hs : PlainIx b) : VE X W (.Subscript a b pos) (e2 F f g) := PE.imp (pe_ix hr ha hb hs) (sim_op hd)
/-- one place -/
def UnD (K : Fg) (r : V → Hp → VK → Prop) (F : D → Option D) : Prop := ∀ (Hs H : Hp) (x : D) (u : V) (Q : VK) (d : D), Same Hs H → F x = some d → Pk K Hs H x u →
  (∀ Hs' H' w, Ext Hs H Hs' H' → Rp K Hs' d w → Q w H') → r u H Q
theorem sim_un {K : Fg} {mg : Str → Option Value} {r : V → Hp → VK → Prop} {F : D → Option D} (hd : UnD K r F) : ∀ σ H Q, tE K mg W (e1 F f) σ H Q → tUn r (tPk K mg W f) σ H Q := fun σ H Q ⟨S, G, Hs, ρ, r, p⟩ => by
  refine ⟨S, G, Hs, ρ, r, (Post.bind p).imp fun x Hs1 H1 e q u hu => ?_⟩
  cases z : F x with
  | none => rw [z] at q; exact q.elim
  | some d =>
    rw [z] at q
    exact hd Hs1 H1 x u Q d e.sub z hu fun Hs' H' w e'' hw => q Hs' H' e'' w hw
theorem ve_un {op : UnaryOp} {r : V → Hp → VK → Prop} {F : D → Option D} (ho : UnR X (unaryOp op) r) (hd : UnD X.K r F) (ha : VP X W a f) : VE X W (.UnaryOp op a pos) (e1 F f) := PE.imp (pe_un ho ha) (sim_un hd)

/-! ### tests -/
def bOf : D → Option Bool
  | .bool b => some b
  | _ => none
def truD : D → Option Bool
  | .none => some false
  | .bool b => some b
  | .int i => some (i != 0)
  | .str x => if x.length ≤ sizeLine then some ((x.length : Int) != 0) else none
  | .list l => some (!l.isEmpty)
  | .tuple l => some (!l.isEmpty)
  | .dict _ => none
theorem truV_of {K : Fg} {Hs H : Hp} {d : D} {v : V} {k : Bool} (hs : Same Hs H) (h : Pk K Hs H d v) (e : truD d = some k) : TruV K v H k := by
  have emp : ∀ {l : List D} {xs : List V}, RpL K Hs l xs → (!l.isEmpty) = !xs.isEmpty := fun {l xs} r => by cases r <;> rfl
  cases d with
  | none => cases h.non; exact (Option.some.inj e).symm
  | bool b => cases h.bl; exact (Option.some.inj e).symm
  | int i => cases h.int; exact (Option.some.inj e).symm
  | str x =>
    cases h.str
    have e' : (if x.length ≤ sizeLine then some ((x.length : Int) != 0) else none) = some k := e
    split at e'
    · rename_i hz
      exact ⟨hz, (Option.some.inj e').symm⟩
    · cases e'
  | list l =>
    obtain ⟨a, xs, rfl, h1, h2⟩ := h.list hs
    exact .inl ⟨xs, h1, by rw [← emp h2]; exact (Option.some.inj e).symm⟩
  | tuple l =>
    obtain ⟨a, xs, rfl, h1, h2⟩ := h.tup hs
    exact .inr (.inl ⟨xs, h1, by rw [← emp h2]; exact (Option.some.inj e).symm⟩)
  | dict _ => cases e
theorem vt_tru (ha : VP X W a f) (he : ∀ whole, isTrue a X.env whole = (do let v ← whole; standAt a.pos; holding [v] (truthy v))) : VT X W a (e1 truD f) := PT.imp (pt_truth ha he) fun σ H Q ⟨S, G, Hs, ρ, r, p⟩ => by
  refine ⟨S, G, Hs, ρ, r, (Post.bind p).imp fun x Hs1 H1 e q u hu => ?_⟩
  cases z : truD x with
  | none => rw [z] at q; exact q.elim
  | some k =>
    rw [z] at q
    exact ⟨k, truV_of e.sub hu z, q.now e.sub⟩
/-- a comparison as a test -/
theorem vt_cmp {op : CmpOp} {r : R2} {F : D → D → Option D} (ho : OpR X (compareOp op) r) (hd : OpD X.K r F) (ha : VP X W a f) (hb : VP X W b g) (hm : behindInMarks op b = false) : VT X W (.Compare a [op] [b] pos) (e1 bOf (e2 F f g)) := by
  refine PT.imp (pt_cmpR ho ha hb hm) fun σ H Q ⟨S, G, Hs, ρ, r, p⟩ => ?_
  refine sim_op hd σ H _ ⟨S, G, Hs, ρ, r, (Post.bind p).imp fun x Hs1 H1 e q v hv => ?_⟩
  cases x with
  | bool k => cases hv; exact ⟨k, rfl, q.now e.sub⟩
  | none => exact q.elim
  | int _ => exact q.elim
  | str _ => exact q.elim
  | list _ => exact q.elim
  | tuple _ => exact q.elim
  | dict _ => exact q.elim
theorem sim_and {K : Fg} {mg : Str → Option Value} : ∀ σ H Q, tT K mg W (eAnd fb gb) σ H Q → tAnd (tT K mg W fb) (tT K mg W gb) σ H Q := fun σ H Q ⟨S, G, Hs, ρ, r, p⟩ => by
  refine ⟨S, G, Hs, ρ, r, (Post.bind p).imp fun k Hs1 H1 e q => ?_⟩
  cases k with
  | true => exact ⟨S, G, Hs1, ρ, r.step e, q⟩
  | false => exact q.now e.sub
theorem sim_or {K : Fg} {mg : Str → Option Value} : ∀ σ H Q, tT K mg W (eOr fb gb) σ H Q → tOr (tT K mg W fb) (tT K mg W gb) σ H Q := fun σ H Q ⟨S, G, Hs, ρ, r, p⟩ => by
  refine ⟨S, G, Hs, ρ, r, (Post.bind p).imp fun k Hs1 H1 e q => ?_⟩
  cases k with
  | false => exact ⟨S, G, Hs1, ρ, r.step e, q⟩
  | true => exact q.now e.sub
theorem VW.vt (h : VW X W e fb) : VT X W e fb := PW.pt h
theorem vw_and1 (ha : VT X W a fb) : VW X W (.BoolOp .And [a] pos) fb := pw_and1 ha
theorem vw_or1 (ha : VT X W a fb) : VW X W (.BoolOp .Or [a] pos) fb := pw_or1 ha
theorem vw_and {rest : List Expr} (ha : VT X W a fb) (hb : VW X W (.BoolOp .And (b :: rest) pos) gb) : VW X W (.BoolOp .And (a :: b :: rest) pos) (eAnd fb gb) := PW.imp (pw_and ha hb) sim_and
theorem vw_or {rest : List Expr} (ha : VT X W a fb) (hb : VW X W (.BoolOp .Or (b :: rest) pos) gb) : VW X W (.BoolOp .Or (a :: b :: rest) pos) (eOr fb gb) := PW.imp (pw_or ha hb) sim_or
theorem vt_not (ha : VT X W a fb) : VT X W (.UnaryOp .Not a pos) (eNot fb) := PT.imp (pt_not ha) fun σ H Q ⟨S, G, Hs, ρ, r, p⟩ =>
  ⟨S, G, Hs, ρ, r, (Post.bind p).imp fun k Hs1 H1 e q => q.now e.sub⟩
theorem ve_ifExp (hc : VT X W c fb) (ha : VE X W a f) (hb : VE X W b g) : VE X W (.IfExp c a b pos) (eIf fb f g) := PE.imp (pe_ifExp hc ha hb) fun σ H Q ⟨S, G, Hs, ρ, r, p⟩ => by
  refine ⟨S, G, Hs, ρ, r, (Post.bind p).imp fun k Hs1 H1 e q => ?_⟩
  cases k with
  | true => exact ⟨S, G, Hs1, ρ, r.step e, q⟩
  | false => exact ⟨S, G, Hs1, ρ, r.step e, q⟩

/-! ### arguments, displays -/
theorem va_nil : VA X W [] (cst []) := PA.imp pa_nil fun σ H Q ⟨S, G, Hs, ρ, r, p⟩ => p.now r.sub [] .nil
theorem va_cons (ha : VE X W e f) (hr : VA X W es fl) (hs : starEach (e :: es) X.env = (false, eval e X.env) :: starEach es X.env := by rfl) : VA X W (e :: es) (eCons f fl) := PA.imp (pa_cons ha hr hs) fun σ H Q ⟨S, G, Hs, ρ, r, p⟩ => by
  refine ⟨S, G, Hs, ρ, r, (Post.bind p).imp fun x Hs1 H1 e q u hu => ?_⟩
  refine ⟨S, G, Hs1, ρ, r.step e, (Post.bind q).imp fun xs Hs2 H2 e' q' us hus => ?_⟩
  exact q'.now e'.sub (u :: us) (.cons (hu.mono e'.grow) hus)
def lim (l : List D) : Option (List D) := if l.length ≤ sizeLine then some l else none
theorem lim_some {l l' : List D} (h : lim l = some l') : l' = l ∧ l.length ≤ sizeLine := by
  unfold lim at h
  split at h
  · rename_i z
    exact ⟨(Option.some.inj h).symm, z⟩
  · cases h
def tupD (l : List D) : Option D := (lim l).map .tuple
theorem ve_tup {x1 : Nat} (h : VA X W es fl) : VE X W (.Tuple es x1 pos) (e1 tupD fl) := PE.imp (pe_tup h) fun σ H Q ⟨S, G, Hs, ρ, r, p⟩ => by
  refine ⟨S, G, Hs, ρ, r, (Post.bind p).imp fun l Hs1 H1 e q us hus => ?_⟩
  unfold tupD at q
  cases z : lim l with
  | none => rw [z] at q; exact q.elim
  | some l' =>
    rw [z] at q
    obtain ⟨rfl, hz⟩ := lim_some z
    refine ⟨by rw [← hus.length]; exact hz, fun p hp => ?_⟩
    have x := Ext.new (o := .tup us) e.sub hp
    exact q _ _ x _ (.tup (.inl (.inl upd_same)) (hus.mono x.grow))
theorem vo_lst (h : VA X W es fl) : VO X W (.List es pos) (e1 lim fl) := PE.imp (pe_lst h) fun σ H Q ⟨S, G, Hs, ρ, r, p⟩ => by
  refine ⟨S, G, Hs, ρ, r, (Post.bind p).imp fun l Hs1 H1 e q us hus => ?_⟩
  cases z : lim l with
  | none => rw [z] at q; exact q.elim
  | some l' =>
    rw [z] at q
    obtain ⟨rfl, hz⟩ := lim_some z
    refine ⟨by rw [← hus.length]; exact hz, fun p hp => ?_⟩
    have x := Ext.hid (o := .lst us) e.sub hp
    refine q _ _ x p us (e.same.free hp) ?_ upd_same hus
    cases y : Hs1 p with
    | none => rfl
    | some o => rw [e.sub _ _ y] at hp; cases hp
end
end VL

set_option Elab.async false
set_option linter.all false
set_option maxRecDepth 100000
set_option autoImplicit false
namespace VL
open PySem PySem.Spec PyProof.Rows L2

/-! ### operators by data -/
/-- a two-place operator of the machine computes F on data -/
def DOp (X : Cx) (f : Value → Value → Sem Value) (F : D → D → Option D) : Prop := ∃ r, OpR X f r ∧ OpD X.K r F
def DOpO (X : Cx) (f : Value → Value → Sem Value) (F : D → D → Option (List D)) : Prop := ∃ r, OpR X f r ∧ OpO X.K r F

section
variable {X : Cx} {pins : List (Addr × Obj)} {σ : Sg} {H : Hp} {s : Shared} {a b : Addr} {xs zs : List V}
/-- a list that is read, its very object -/
theorem rd_obj (I : Inv X pins σ H s) (h : SqL X.K H a xs) : xs.length ≤ sizeLine ∧ ∃ (its : List Value) (n : Nat) (sl : Array (Option Value)), Vals xs its ∧ xs.length = its.length ∧ s.heap.get? a = some { cls := .type "list", dict := none, data := .seq its.toArray n, slots := sl } := by
  obtain ⟨its, r, ⟨o, n, e, hc, hd, hs⟩, z⟩ := I.list h
  obtain ⟨c, d, dt, sl⟩ := o
  simp only at hc hd hs
  subst hc hd hs
  exact ⟨z, its, n, sl, r, r.length, e⟩
end
open PySem.AutoSeq1 (wpAny_loadPart') in
theorem list_mulW (l : Addr) (items : Array Value) (n : Nat) (sl : Array (Option Value)) (x : Int) (u : Tok) (hc0 : ¬(!Builtin.List.listFitsIndex x) = true) (hc1 : ¬items.size * x.toNat > (2 ^ 63 - 1) / 8) (hc2 : ¬Builtin.List.listTooLong (items.size * x.toNat) = true) :
    Meets (Builtin.«list.__mul__» ⟨[.ref l, .int x u], []⟩) (fun _ R s => s.heap.get? l = some { cls := .type "list", dict := none, data := .seq items n, slots := sl } ∧ R (.ok (.ret (Value.ref s.heap.objs.size))) { s with heap := s.heap.push { cls := Value.type "list", data := Data.seq (List.foldl (fun x1 x2 => x1 ++ x2) #[] (List.replicate (if items.isEmpty = true then 0 else x.toNat) items)) }, toks := s.toks }) :=
  .of_wp fun prog w A R s h => by
    obtain ⟨hp, g, d, tk, os⟩ := s; obtain ⟨hl, h⟩ := h
    have hsz := PySem.AutoListH.joined_fits hc2
    wp_walk using wpAny_loadPart' hl
    refine wpAny_ite_false (decide_eq_false (Nat.not_lt.mpr hsz)) ?_; wp_walk using wpAny_loadPart' hl; exact ⟨_, rfl, h⟩
open PySem.AutoSeq1 (wpAny_loadPart') in
theorem int_rmulW (a : Int) (t : Tok) (l : Addr) (items : Array Value) (n : Nat) (sl : Array (Option Value)) :
    Meets (Builtin.«int.__rmul__» ⟨[.int a t, .ref l], []⟩) (fun _ R s => s.heap.get? l = some { cls := .type "list", dict := none, data := .seq items n, slots := sl } ∧ R (.ok (.ret Value.notImplemented)) s) :=
  .of_wp fun prog w A R s h => by obtain ⟨hp, g, d, tk, os⟩ := s; obtain ⟨hl, h⟩ := h; wp_walk using wpAny_loadPart' hl; exact ⟨_, rfl, h⟩
section
variable {X : Cx}
def rCatS (K : Fg) : R2 := fun x y H Q => ∃ l b xs zs, x = .ref l ∧ y = .ref b ∧ SqL K H l xs ∧ SqL K H b zs ∧ xs.length + zs.length ≤ sizeLine ∧ ∀ p, H p = none → Q (.ref p) (upd H p (.lst (xs ++ zs)))
theorem op_catR : OpR X (binaryOp .Add) (rCatS X.K) := by
  intro pins s σ H x y v u Q I rx ry h
  obtain ⟨l, b, xs, zs, rfl, rfl, hH, hB, hz, q⟩ := h
  cases rx
  cases ry
  obtain ⟨z, its, n, sl, r, hl, e⟩ := rd_obj I hH
  obtain ⟨z2, its2, n2, sl2, r2, hl2, e2⟩ := rd_obj I hB
  have ea : its.toArray ++ its2.toArray = (its ++ its2).toArray := by simp
  refine concat_meets ⟨_, e, rfl⟩ ⟨_, e2, rfl⟩ noFill_list_add seq_list_add PySem.F.slot_list_add PySem.F.entry_list_add (PySem.F.args_list_add_2 _ _) (list_addW l b its.toArray its2.toArray n n2 none none sl sl2 (by rw [List.size_toArray, List.size_toArray]; omega)) ⟨e, e2, ?_⟩
  rw [ea]
  exact ⟨.ref _, _, I.lnew (t' := s.toks) (r.append r2) (by rw [List.length_append]; omega), rfl, q _ I.fresh⟩
def rRepR (K : Fg) : R2 := fun x y H Q => ∃ l k xs, x = .ref l ∧ y = .int k ∧ SqL K H l xs ∧ -(2 ^ 63) ≤ k ∧ k < 2 ^ 63 ∧ xs.length * k.toNat ≤ sizeLine ∧
  ∀ p, H p = none → Q (.ref p) (upd H p (.lst (List.replicate k.toNat xs).flatten))
theorem op_repR : OpR X (binaryOp .Mult) (rRepR X.K) := by
  intro pins s σ H x y v u Q I rx ry h
  obtain ⟨l, k, xs, rfl, rfl, hH, h1, h2, hz, q⟩ := h
  cases rx
  obtain ⟨t, rfl⟩ := ry
  obtain ⟨z, its, n, sl, r, hl, e⟩ := rd_obj I hH
  have hlen : its.toArray.size * k.toNat ≤ sizeLine := by rw [List.size_toArray, ← hl]; exact hz
  have hcap : ¬ its.toArray.size * k.toNat > (2 ^ 63 - 1) / 8 := by
    have : (sizeLine : Nat) ≤ (2 ^ 63 - 1) / 8 := by decide
    omega
  have hfit : ¬ (!Builtin.List.listFitsIndex k) = true := by
    rw [fitsIndex_both h1 h2]
    exact Bool.false_ne_true
  have hlong : ¬ Builtin.List.listTooLong (its.toArray.size * k.toNat) = true := by
    rw [notLongL hlen]
    exact Bool.false_ne_true
  have hnew : List.foldl (fun x1 x2 => x1 ++ x2) #[] (List.replicate (if its.toArray.isEmpty = true then 0 else k.toNat) its.toArray) = (List.replicate k.toNat its).flatten.toArray := by
    have f0 : ∀ m : Nat, List.foldl (fun x1 x2 => x1 ++ x2) #[] (List.replicate m its.toArray) = (List.replicate m its).flatten.toArray := fun m => by
      have := foldl_rep its m []
      rw [List.nil_append] at this
      exact this
    rw [f0]
    cases its with
    | nil => simp
    | cons a r' => rw [if_neg (by simp)]
  refine wpAny_binaryOp_repeat_ref (T := "list") (U := "int") (by decide) ⟨_, e, rfl⟩ (fun s' => typeIs_int s' k t) noFill_list_mul F.fills_int_mul F.slot_int_rmul repeat_list F.slot_int_index.lookup
    (call_meets F.slot_int_rmul (typeIs_int s k t) F.entry_int_rmul (F.args_int_rmul_2 _ _) (int_rmulW k t l its.toArray n sl)
      ⟨e, rfl, ⟨_, e, rfl⟩, call_meets F.slot_list_mul ⟨_, e, rfl⟩ F.entry_list_mul (F.args_list_mul_2 _ _) (list_mulW l its.toArray n sl k t hfit hcap hlong) ⟨e, ?_⟩⟩)
  rw [hnew]
  exact ⟨.ref _, _, I.lnew (t' := s.toks) (r.rep k.toNat) (by rw [PyProof.Rows.lm_len_rep_flat, Nat.mul_comm]; exact hz), rfl, q _ I.fresh⟩
end

/-! ### the data functions -/
def okMul (i j : Int) : Bool := decide ((Builtin.Int.intBits i : Int) + (Builtin.Int.intBits j : Int) ≤ 134217728)
def okDiv (i j : Int) : Bool := decide (j ≠ 0) && !(Builtin.divisionGoesByPylong i j)
def okPow (i j : Int) : Bool := decide (0 ≤ j ∧ j ≤ 1000000 ∧ i.natAbs < 2 ^ 64)
def catD (a b : List D) : Option (List D) := if a.length + b.length ≤ sizeLine then some (a ++ b) else none
def repD (a : List D) (k : Int) : Option (List D) := if -(2 ^ 63) ≤ k ∧ k < 2 ^ 63 ∧ a.length * k.toNat ≤ sizeLine then some (List.replicate k.toNat a).flatten else none
def addD : D → D → Option D
  | .int i, .int j => some (.int (i + j))
  | .str a, .str b => if a.length + b.length ≤ sizeLine then some (.str (a ++ b)) else none
  | .list a, .list b => (catD a b).map .list
  | _, _ => none
def addO : D → D → Option (List D)
  | .list a, .list b => catD a b
  | _, _ => none
def subD : D → D → Option D
  | .int i, .int j => some (.int (i - j))
  | _, _ => none
def mulD : D → D → Option D
  | .int i, .int j => if okMul i j then some (.int (i * j)) else none
  | .list a, .int k => (repD a k).map .list
  | _, _ => none
def mulO : D → D → Option (List D)
  | .list a, .int k => repD a k
  | _, _ => none
def fdivD : D → D → Option D
  | .int i, .int j => if okDiv i j then some (.int (i.fdiv j)) else none
  | _, _ => none
def modD : D → D → Option D
  | .int i, .int j => if j ≠ 0 then some (.int (i.fmod j)) else none
  | _, _ => none
def powD : D → D → Option D
  | .int i, .int j => if okPow i j then some (.int (i ^ j.toNat)) else none
  | _, _ => none
def ltD : D → D → Option D
  | .int i, .int j => some (.bool (decide (i < j)))
  | _, _ => none
def leD : D → D → Option D
  | .int i, .int j => some (.bool (decide (i ≤ j)))
  | _, _ => none
def gtD : D → D → Option D
  | .int i, .int j => some (.bool (decide (j < i)))
  | _, _ => none
def geD : D → D → Option D
  | .int i, .int j => some (.bool (decide (j ≤ i)))
  | _, _ => none
def eqS : D → D → Option Bool
  | .str x, .str y => some (decide (x = y))
  | _, _ => none
def eqD (a b : D) : Option D := if SeqAt.shaped a && SeqAt.shaped b then some (.bool (PyData.eqv a b)) else (eqS a b).map .bool
def neD (a b : D) : Option D := if SeqAt.shaped a && SeqAt.shaped b then some (.bool (!PyData.eqv a b)) else (eqS a b).map fun b => .bool (!b)
def isNonD : D → Bool
  | .none => true
  | _ => false
def isD : D → D → Option D
  | .bool a, .bool b => some (.bool (decide (a = b)))
  | a, .none => some (.bool (isNonD a))
  | _, _ => none
def isnotD : D → D → Option D
  | .bool a, .bool b => some (.bool (!decide (a = b)))
  | a, .none => some (.bool (!isNonD a))
  | _, _ => none
def negD : D → Option D
  | .int i => some (.int (-i))
  | _ => none
def ixD : D → D → Option D
  | .list l, .int i => atI l i
  | .tuple l, .int i => atI l i
  | .str z, .int i => if z.length ≤ sizeLine then (atI z.cps.toList i).map fun c => .str ⟨#[c]⟩ else none
  | _, _ => none
def flatD : D → Bool
  | .none | .bool _ | .int _ | .str _ => true
  | _ => false
def inD (x y : D) : Option Bool := match y with
  | .list ds => if SeqAt.shaped x && SeqAt.shaped (.list ds) then some (ds.any fun z => PyData.eqv z x) else if flatD x && ds.all flatD then some (ds.any fun z => PyData.eqv z x) else none
  | .tuple ds => if flatD x && ds.all flatD then some (ds.any fun z => PyData.eqv z x) else none
  | .str j => match x with
    | .str i => some (!(Builtin.Str.occurrences j i 0 j.length 1).isEmpty)
    | _ => none
  | _ => none
def memD (x y : D) : Option D := (inD x y).map .bool
def nmemD (x y : D) : Option D := (inD x y).map fun b => .bool (!b)

section
variable {K : Fg} {Hs H : Hp}
theorem same_at {p : Addr} (h : Same Hs H) (n : H p = none) : Hs p = none := h.free n
theorem RpL.get' : ∀ {ds : List D} {vs : List V} {i : Nat} {v : V}, RpL K H ds vs → vs[i]? = some v → ∃ d, ds[i]? = some d ∧ Rp K H d v
  | _, _, _, _, .nil, e => by simp at e
  | _, _, 0, _, .cons h _, e => by simp at e; subst e; exact ⟨_, rfl, h⟩
  | _, _, i + 1, _, .cons _ r, e => by
    obtain ⟨v, h1, h2⟩ := RpL.get' (i := i) r (by simpa using e)
    exact ⟨v, by simpa using h1, h2⟩
theorem RpL.at {ds : List D} {vs : List V} {i : Int} {d : D} (r : RpL K H ds vs) (e : atI ds i = some d) : ∃ v, atI vs i = some v ∧ Rp K H d v := by
  unfold atI at e ⊢
  rw [← r.length]
  cases q : ixN ds.length i with
  | none => rw [q] at e; cases e
  | some j =>
    rw [q] at e
    exact r.get e
/-- a new list, frozen or not -/
theorem new_lst {p : Addr} {l : List D} {vs : List V} (h : Same Hs H) (n : H p = none) (r : RpL K Hs l vs) : Ext Hs H (upd Hs p (.lst vs)) (upd H p (.lst vs)) ∧ Rp K (upd Hs p (.lst vs)) (.list l) (.ref p) :=
  ⟨.new h n, .lst (.inl (.inl upd_same)) (r.mono (Ext.new h n).grow)⟩
theorem new_own {p : Addr} {l : List D} {vs : List V} (h : Same Hs H) (n : H p = none) (r : RpL K Hs l vs) : Ext Hs H Hs (upd H p (.lst vs)) ∧ Hs p = none ∧ (upd H p (.lst vs)) p = some (.lst vs) ∧ RpL K Hs l vs :=
  ⟨.hid h n, h.free n, upd_same, r⟩
theorem flatV_of {d : D} {v : V} (h : Rp K H d v) (f : flatD d = true) : flatV v = true := by
  cases h <;> first | rfl | cases f
theorem eqV_of {d e : D} {v u : V} (h : Rp K H d v) (h' : Rp K H e u) (f : flatD d = true) (f' : flatD e = true) : eqV v u = PyData.eqv d e := by
  cases h <;> cases h' <;> first | rfl | cases f | cases f' | simp [eqV, PyData.eqv]
theorem inV_of {e : D} {u : V} (h' : Rp K H e u) (f' : flatD e = true) : ∀ {ds : List D} {vs : List V}, RpL K H ds vs → ds.all flatD = true → vs.all flatV = true ∧ inV u vs = ds.any fun z => PyData.eqv z e
  | _, _, .nil, _ => ⟨rfl, rfl⟩
  | d :: ds, v :: vs, .cons h r, f => by
    rw [List.all_cons, Bool.and_eq_true] at f
    obtain ⟨a, b⟩ := inV_of h' f' r f.2
    refine ⟨by rw [List.all_cons, flatV_of h f.1, a]; rfl, ?_⟩
    unfold inV at b ⊢
    rw [List.any_cons, List.any_cons, b, eqV_of h h' f.1 f']
end

section
variable {X : Cx}
/-- ints only -/
theorem dop_int {f : Value → Value → Sem Value} {C : Int → Int → Prop} {g : Int → Int → V} {F : D → D → Option D} (ho : OpR X f (rI C g))
    (hF : ∀ x y d, F x y = some d → ∃ i j, x = .int i ∧ y = .int j ∧ C i j ∧ ∀ K H, Rp K H d (g i j)) : DOp X f F := ⟨_, ho, fun Hs H x y u v Q d hs e hx hy k => by
  obtain ⟨i, j, rfl, rfl, hc, hr⟩ := hF x y d e
  exact ⟨i, j, hx.int, hy.int, hc, k _ _ _ (.refl hs) (hr _ _)⟩⟩
theorem dop_int0 {f : Value → Value → Sem Value} {g : Int → Int → V} {F : D → D → Option D} (ho : OpR X f (rI0 g))
    (hF : ∀ x y d, F x y = some d → ∃ i j, x = .int i ∧ y = .int j ∧ ∀ K H, Rp K H d (g i j)) : DOp X f F := ⟨_, ho, fun Hs H x y u v Q d hs e hx hy k => by
  obtain ⟨i, j, rfl, rfl, hr⟩ := hF x y d e
  exact ⟨i, j, hx.int, hy.int, k _ _ _ (.refl hs) (hr _ _)⟩⟩
theorem d_add : DOp X (binaryOp .Add) addD := ⟨_, op_add.or (op_add_str.or op_catR), fun Hs H x y u v Q d hs e hx hy k => by
  unfold addD at e
  split at e
  · cases e
    exact .inl ⟨_, _, hx.int, hy.int, k _ _ _ (.refl hs) (.int _)⟩
  · split at e
    · rename_i hz
      cases e
      exact .inr (.inl ⟨_, _, hx.str, hy.str, hz, k _ _ _ (.refl hs) (.str _)⟩)
    · cases e
  · unfold catD at e
    split at e
    · rename_i hz
      cases e
      obtain ⟨p, xs, rfl, h1, h2⟩ := hx.list hs
      obtain ⟨p', ys, rfl, h3, h4⟩ := hy.list hs
      refine .inr (.inr ⟨p, p', xs, ys, rfl, rfl, h1, h3, by rw [← h2.length, ← h4.length]; exact hz, fun q hq => ?_⟩)
      obtain ⟨e1, e2⟩ := new_lst hs hq (h2.append h4)
      exact k _ _ _ e1 e2
    · cases e
  · cases e⟩
theorem d_addO : DOpO X (binaryOp .Add) addO := ⟨_, op_catR, fun Hs H x y u v Q d hs e hx hy k => by
  unfold addO at e
  split at e
  · unfold catD at e
    split at e
    · rename_i hz
      cases e
      obtain ⟨p, xs, rfl, h1, h2⟩ := hx.list hs
      obtain ⟨p', ys, rfl, h3, h4⟩ := hy.list hs
      refine ⟨p, p', xs, ys, rfl, rfl, h1, h3, by rw [← h2.length, ← h4.length]; exact hz, fun q hq => ?_⟩
      obtain ⟨e1, e2, e3, e4⟩ := new_own hs hq (h2.append h4)
      exact k _ _ _ _ e1 hq e2 e3 e4
    · cases e
  · cases e⟩
theorem d_sub : DOp X (binaryOp .Sub) subD := dop_int0 op_sub fun x y d e => by
  unfold subD at e
  split at e
  · cases e; exact ⟨_, _, rfl, rfl, fun _ _ => .int _⟩
  · cases e
theorem d_mul : DOp X (binaryOp .Mult) mulD := ⟨_, op_mulX.or op_repR, fun Hs H x y u v Q d hs e hx hy k => by
  unfold mulD at e
  split at e
  · split at e
    · rename_i hz
      cases e
      unfold okMul at hz
      have hz' := of_decide_eq_true hz
      exact .inl ⟨_, _, hx.int, hy.int, hz', k _ _ _ (.refl hs) (.int _)⟩
    · cases e
  · unfold repD at e
    split at e
    · rename_i hz
      cases e
      obtain ⟨p, xs, rfl, h1, h2⟩ := hx.list hs
      refine .inr ⟨p, _, xs, rfl, hy.int, h1, hz.1, hz.2.1, by rw [← h2.length]; exact hz.2.2, fun q hq => ?_⟩
      obtain ⟨e1, e2⟩ := new_lst hs hq (h2.replicate _)
      exact k _ _ _ e1 e2
    · cases e
  · cases e⟩
theorem d_mulO : DOpO X (binaryOp .Mult) mulO := ⟨_, op_repR, fun Hs H x y u v Q d hs e hx hy k => by
  unfold mulO at e
  split at e
  · unfold repD at e
    split at e
    · rename_i hz
      cases e
      obtain ⟨p, xs, rfl, h1, h2⟩ := hx.list hs
      refine ⟨p, _, xs, rfl, hy.int, h1, hz.1, hz.2.1, by rw [← h2.length]; exact hz.2.2, fun q hq => ?_⟩
      obtain ⟨e1, e2, e3, e4⟩ := new_own hs hq (h2.replicate _)
      exact k _ _ _ _ e1 hq e2 e3 e4
    · cases e
  · cases e⟩
def CDivD (i j : Int) : Prop := okDiv i j = true
theorem op_fdivD : OpR X (binaryOp .FloorDiv) (rI CDivD fun i j => .int (i.fdiv j)) := opI fun i j _ _ _ _ _ hc q => by
  unfold CDivD okDiv at hc
  rw [Bool.and_eq_true] at hc
  exact floordiv_int (of_decide_eq_true hc.1) q (.inl (by simpa using hc.2))
theorem d_fdiv : DOp X (binaryOp .FloorDiv) fdivD := dop_int op_fdivD fun x y d e => by
  unfold fdivD at e
  split at e
  · split at e
    · rename_i hz
      cases e; exact ⟨_, _, rfl, rfl, hz, fun _ _ => .int _⟩
    · cases e
  · cases e
theorem d_mod : DOp X (binaryOp .Mod) modD := dop_int op_modN fun x y d e => by
  unfold modD at e
  split at e
  · split at e
    · rename_i hz
      cases e; exact ⟨_, _, rfl, rfl, hz, fun _ _ => .int _⟩
    · cases e
  · cases e
theorem d_pow : DOp X (binaryOp .Pow) powD := dop_int op_pow fun x y d e => by
  unfold powD at e
  split at e
  · split at e
    · rename_i hz
      unfold okPow at hz
      have hz' := of_decide_eq_true hz
      cases e; exact ⟨_, _, rfl, rfl, hz', fun _ _ => .int _⟩
    · cases e
  · cases e
theorem d_lt : DOp X (compareOp .Lt) ltD := dop_int0 op_lt fun x y d e => by
  unfold ltD at e
  split at e
  · cases e; exact ⟨_, _, rfl, rfl, fun _ _ => .bl _⟩
  · cases e
theorem d_le : DOp X (compareOp .LtE) leD := dop_int0 op_le fun x y d e => by
  unfold leD at e
  split at e
  · cases e; exact ⟨_, _, rfl, rfl, fun _ _ => .bl _⟩
  · cases e
theorem d_gt : DOp X (compareOp .Gt) gtD := dop_int0 op_gt fun x y d e => by
  unfold gtD at e
  split at e
  · cases e; exact ⟨_, _, rfl, rfl, fun _ _ => .bl _⟩
  · cases e
theorem d_ge : DOp X (compareOp .GtE) geD := dop_int0 op_ge fun x y d e => by
  unfold geD at e
  split at e
  · cases e; exact ⟨_, _, rfl, rfl, fun _ _ => .bl _⟩
  · cases e
theorem eqS_some {a b : D} {r : Bool} (h : eqS a b = some r) : ∃ x y, a = .str x ∧ b = .str y ∧ r = decide (x = y) := by
  cases a <;> cases b <;> simp [eqS] at h
  exact ⟨_, _, rfl, rfl, h.symm⟩
theorem dec_str (x y : Str) : decide (V.str x = V.str y) = decide (x = y) := by
  by_cases h : x = y
  · subst h; simp
  · rw [decide_eq_false h, decide_eq_false (fun z => h (V.str.inj z))]
theorem d_eq (hu : X.A.units + 64 < cLine) : DOp X (compareOp .Eq) eqD := ⟨_, (op_eqD hu).or op_eq, fun Hs H x y u v Q d hs e hx hy k => by
  unfold eqD at e
  split at e
  · rename_i hz
    cases e
    rw [Bool.and_eq_true] at hz
    exact .inl ⟨x, y, (hx.rp hs).dp (nodict_of hz.1), (hy.rp hs).dp (nodict_of hz.2), hz.1, hz.2, k _ _ _ (.refl hs) (.bl _)⟩
  · obtain ⟨r, e1, rfl⟩ := Option.map_eq_some_iff.mp e
    obtain ⟨a, b, rfl, rfl, rfl⟩ := eqS_some e1
    right
    rw [hx.str, hy.str]
    exact ⟨rfl, by rw [dec_str]; exact k _ _ _ (.refl hs) (.bl _)⟩⟩
theorem d_ne (hu : X.A.units + 64 < cLine) : DOp X (compareOp .NotEq) neD := ⟨_, (op_neD hu).or op_ne, fun Hs H x y u v Q d hs e hx hy k => by
  unfold neD at e
  split at e
  · rename_i hz
    cases e
    rw [Bool.and_eq_true] at hz
    exact .inl ⟨x, y, (hx.rp hs).dp (nodict_of hz.1), (hy.rp hs).dp (nodict_of hz.2), hz.1, hz.2, k _ _ _ (.refl hs) (.bl _)⟩
  · obtain ⟨r, e1, rfl⟩ := Option.map_eq_some_iff.mp e
    obtain ⟨a, b, rfl, rfl, rfl⟩ := eqS_some e1
    right
    rw [hx.str, hy.str]
    exact ⟨rfl, by rw [dec_str]; exact k _ _ _ (.refl hs) (.bl _)⟩⟩
theorem is_non {K : Fg} {Hs H : Hp} {x : D} {u : V} (hx : Pk K Hs H x u) : decide (u = .non) = isNonD x := by
  rcases hx with h | ⟨l, a, xs, rfl, rfl, _, _⟩
  · cases h <;> rfl
  · rfl
theorem d_is : DOp X (compareOp .Is) isD := ⟨_, op_isBl.or op_isN, fun Hs H x y u v Q d hs e hx hy k => by
  unfold isD at e
  split at e
  · cases e
    exact .inl ⟨_, _, hx.bl, hy.bl, k _ _ _ (.refl hs) (.bl _)⟩
  · cases e
    refine .inr ⟨hy.non, ?_⟩
    rw [is_non hx]
    exact k _ _ _ (.refl hs) (.bl _)
  · cases e⟩
theorem d_isnot : DOp X (compareOp .IsNot) isnotD := ⟨_, op_notBl.or op_notN, fun Hs H x y u v Q d hs e hx hy k => by
  unfold isnotD at e
  split at e
  · cases e
    exact .inl ⟨_, _, hx.bl, hy.bl, k _ _ _ (.refl hs) (.bl _)⟩
  · cases e
    refine .inr ⟨hy.non, ?_⟩
    rw [is_non hx]
    exact k _ _ _ (.refl hs) (.bl _)
  · cases e⟩
theorem inD_cases {x y : D} {b : Bool} (e : inD x y = some b) :
    (∃ ds, y = .list ds ∧ SeqAt.shaped x = true ∧ SeqAt.shaped (.list ds) = true ∧ b = ds.any fun z => PyData.eqv z x) ∨
    (∃ ds, (y = .tuple ds ∨ y = .list ds) ∧ flatD x = true ∧ ds.all flatD = true ∧ b = ds.any fun z => PyData.eqv z x) ∨ (∃ i j, x = .str i ∧ y = .str j ∧ b = !(Builtin.Str.occurrences j i 0 j.length 1).isEmpty) := by
  unfold inD at e
  split at e
  · split at e
    · rename_i hz
      cases e
      rw [Bool.and_eq_true] at hz
      exact .inl ⟨_, rfl, hz.1, hz.2, rfl⟩
    · split at e
      · rename_i hz
        cases e
        rw [Bool.and_eq_true] at hz
        exact .inr (.inl ⟨_, .inr rfl, hz.1, hz.2, rfl⟩)
      · cases e
  · split at e
    · rename_i hz
      cases e
      rw [Bool.and_eq_true] at hz
      exact .inr (.inl ⟨_, .inl rfl, hz.1, hz.2, rfl⟩)
    · cases e
  · split at e
    · cases e
      exact .inr (.inr ⟨_, _, rfl, rfl, rfl⟩)
    · cases e
  · cases e
theorem d_in (hu : X.A.units + 65 < cLine) : DOp X (compareOp .In) memD := ⟨_, (op_inD hu).or (op_in_seq.or op_in_str), fun Hs H x y u v Q d hs e hx hy k => by
  obtain ⟨b, e', rfl⟩ := Option.map_eq_some_iff.mp (show (inD x y).map _ = some d from e)
  rcases inD_cases e' with ⟨ds, rfl, h1, h2, rfl⟩ | ⟨ds, hyd, h1, h2, rfl⟩ | ⟨i, j, rfl, rfl, rfl⟩
  · exact .inl ⟨x, ds, (hx.rp hs).dp (nodict_of h1), (hy.rp hs).dp (nodict_of h2), h1, h2, k _ _ _ (.refl hs) (.bl _)⟩
  · obtain ⟨a, xs, rfl, h3, h4⟩ : ∃ a xs, v = .ref a ∧ (SqL X.K H a xs ∨ SqT X.K H a xs) ∧ RpL X.K Hs ds xs := by
      rcases hyd with rfl | rfl
      · obtain ⟨a, xs, e1, e2, e3⟩ := hy.tup hs
        exact ⟨a, xs, e1, .inr e2, e3⟩
      · obtain ⟨a, xs, e1, e2, e3⟩ := hy.list hs
        exact ⟨a, xs, e1, .inl e2, e3⟩
    have hx' := hx.rp hs
    obtain ⟨f1, f2⟩ := inV_of hx' h1 (h4.mono hs) h2
    refine .inr (.inl ⟨a, xs, rfl, h3, flatV_of hx' h1, f1, ?_⟩)
    rw [f2]
    exact k _ _ _ (.refl hs) (.bl _)
  · exact .inr (.inr ⟨i, j, hx.str, hy.str, k _ _ _ (.refl hs) (.bl _)⟩)⟩
theorem d_notin (hu : X.A.units + 65 < cLine) : DOp X (compareOp .NotIn) nmemD := ⟨_, (op_notInD hu).or (op_notIn_seq.or op_notIn_str), fun Hs H x y u v Q d hs e hx hy k => by
  obtain ⟨b, e', rfl⟩ := Option.map_eq_some_iff.mp (show (inD x y).map _ = some d from e)
  rcases inD_cases e' with ⟨ds, rfl, h1, h2, rfl⟩ | ⟨ds, hyd, h1, h2, rfl⟩ | ⟨i, j, rfl, rfl, rfl⟩
  · exact .inl ⟨x, ds, (hx.rp hs).dp (nodict_of h1), (hy.rp hs).dp (nodict_of h2), h1, h2, k _ _ _ (.refl hs) (.bl _)⟩
  · obtain ⟨a, xs, rfl, h3, h4⟩ : ∃ a xs, v = .ref a ∧ (SqL X.K H a xs ∨ SqT X.K H a xs) ∧ RpL X.K Hs ds xs := by
      rcases hyd with rfl | rfl
      · obtain ⟨a, xs, e1, e2, e3⟩ := hy.tup hs
        exact ⟨a, xs, e1, .inr e2, e3⟩
      · obtain ⟨a, xs, e1, e2, e3⟩ := hy.list hs
        exact ⟨a, xs, e1, .inl e2, e3⟩
    have hx' := hx.rp hs
    obtain ⟨f1, f2⟩ := inV_of hx' h1 (h4.mono hs) h2
    refine .inr (.inl ⟨a, xs, rfl, h3, flatV_of hx' h1, f1, ?_⟩)
    rw [f2]
    exact k _ _ _ (.refl hs) (.bl _)
  · exact .inr (.inr ⟨i, j, hx.str, hy.str, k _ _ _ (.refl hs) (.bl _)⟩)⟩

def DIx (X : Cx) (F : D → D → Option D) : Prop := ∃ r, IxR X r ∧ OpD X.K r F
theorem d_ix : DIx X ixD := ⟨_, ix_seq, fun Hs H x y u v Q d hs e hx hy k => by
  unfold ixD at e
  split at e
  · obtain ⟨a, xs, rfl, h1, h2⟩ := hx.list hs
    obtain ⟨w, e1, e2⟩ := h2.at e
    exact .inl ⟨a, xs, _, w, rfl, hy.int, h1, e1, k _ _ _ (.refl hs) e2⟩
  · obtain ⟨a, xs, rfl, h1, h2⟩ := hx.tup hs
    obtain ⟨w, e1, e2⟩ := h2.at e
    exact .inr (.inl ⟨a, xs, _, w, rfl, hy.int, h1, e1, k _ _ _ (.refl hs) e2⟩)
  · split at e
    · rename_i hz
      obtain ⟨c, e1, rfl⟩ := Option.map_eq_some_iff.mp e
      exact .inr (.inr ⟨_, _, c, hx.str, hy.int, hz, e1, k _ _ _ (.refl hs) (.str _)⟩)
    · cases e
  · cases e⟩
def DUn (X : Cx) (f : Value → Sem Value) (F : D → Option D) : Prop := ∃ r, UnR X f r ∧ UnD X.K r F
theorem d_neg : DUn X (unaryOp .USub) negD := ⟨_, un_neg, fun Hs H x u Q d hs e hx k => by
  unfold negD at e
  split at e
  · cases e
    exact ⟨_, hx.int, k _ _ _ (.refl hs) (.int _)⟩
  · cases e⟩
end

section
variable {X : Cx} {W : WX} {a b c e : Expr} {es : List Expr} {pos : Pos} {f g h : Ev → R D} {F F' : D → D → Option D}
theorem v_op {op : Operator} (ho : DOp X (binaryOp op) F) (ha : VP X W a f) (hb : VP X W b g) : VE X W (.BinOp a op b pos) (e2 F f g) := let ⟨_, h1, h2⟩ := ho; ve_op h1 h2 ha hb
theorem v_opO {op : Operator} {F : D → D → Option (List D)} (ho : DOpO X (binaryOp op) F) (ha : VP X W a f) (hb : VP X W b g) : VO X W (.BinOp a op b pos) (e2 F f g) := let ⟨_, h1, h2⟩ := ho; vo_op h1 h2 ha hb
theorem v_cmp {op : CmpOp} (ho : DOp X (compareOp op) F) (ha : VP X W a f) (hb : VP X W b g) (hm : behindInMarks op b = false := by first | exact nomark _ | rfl) : VE X W (.Compare a [op] [b] pos) (e2 F f g) := let ⟨_, h1, h2⟩ := ho; ve_cmp h1 h2 ha hb hm
theorem t_cmp {op : CmpOp} (ho : DOp X (compareOp op) F) (ha : VP X W a f) (hb : VP X W b g) (hm : behindInMarks op b = false := by first | exact nomark _ | rfl) : VT X W (.Compare a [op] [b] pos) (e1 bOf (e2 F f g)) := let ⟨_, h1, h2⟩ := ho; vt_cmp h1 h2 ha hb hm
theorem v_ix (ho : DIx X F) (ha : VP X W a f) (hb : VP X W b g) (hs : PlainIx b := by exact fun _ _ => rfl) : VE X W (.Subscript a b pos) (e2 F f g) := let ⟨_, h1, h2⟩ := ho; ve_ix h1 h2 ha hb hs
theorem v_un {op : UnaryOp} {F : D → Option D} (ho : DUn X (unaryOp op) F) (ha : VP X W a f) : VE X W (.UnaryOp op a pos) (e1 F f) := let ⟨_, h1, h2⟩ := ho; ve_un h1 h2 ha
theorem t_tru (ha : VP X W a f) (he : ∀ whole, isTrue a X.env whole = (do let v ← whole; standAt a.pos; holding [v] (truthy v)) := by intro _; rfl) : VT X W a (e1 truD f) := vt_tru ha he
end
end VL

set_option Elab.async false
set_option linter.all false
set_option maxRecDepth 100000
set_option autoImplicit false
namespace VL
open PySem PySem.Spec PyProof.Rows L2

/-! ### arguments that are read at once -/
def PkL (K : Fg) (Hs H : Hp) : List D → List V → Prop
  | [], [] => True
  | d :: ds, v :: vs => Pk K Hs H d v ∧ PkL K Hs H ds vs
  | _, _ => False
theorem PkL.one {K : Fg} {Hs H : Hp} {d : D} {vs : List V} (h : PkL K Hs H [d] vs) : ∃ v, vs = [v] ∧ Pk K Hs H d v := by
  cases vs with
  | nil => exact h.elim
  | cons v r =>
    cases r with
    | nil => exact ⟨v, rfl, h.1⟩
    | cons w r => exact h.2.elim
theorem PkL.two {K : Fg} {Hs H : Hp} {d e : D} {vs : List V} (h : PkL K Hs H [d, e] vs) : ∃ v w, vs = [v, w] ∧ Pk K Hs H d v ∧ Pk K Hs H e w := by
  cases vs with
  | nil => exact h.elim
  | cons v r =>
    cases r with
    | nil => exact h.2.elim
    | cons w r =>
      cases r with
      | nil => exact ⟨v, w, rfl, h.1, h.2.1⟩
      | cons _ r => exact h.2.2.elim
theorem Pk.tupRp {K : Fg} {Hs H : Hp} {l : List D} {v : V} (h : Pk K Hs H (.tuple l) v) : Rp K Hs (.tuple l) v := by
  rcases h with h | ⟨l', a, xs, h1, h2, h3, h4⟩
  · exact h
  · cases h1
def tAp (K : Fg) (mg : Str → Option Value) (W : WX) (f : Ev → R (List D)) : TA := fun σ H Q => ∃ S G Hs ρ, RelE K S G Hs H σ ρ ∧ Post K mg W Hs H σ (f ρ) (fun ds Hs' H' => ∀ vs, PkL K Hs' H' ds vs → Q vs H')
def VAp (X : Cx) (W : WX) (es : List Expr) (f : Ev → R (List D)) : Prop := PA X es (tAp X.K X.mg W f)
section
variable {X : Cx} {W : WX} {e a b c : Expr} {es : List Expr} {pos : Pos} {f g : Ev → R D} {fl : Ev → R (List D)}
theorem vap_nil : VAp X W [] (cst []) := PA.imp pa_nil fun σ H Q ⟨S, G, Hs, ρ, r, p⟩ => p.now r.sub [] trivial
theorem vap_cons (ha : VP X W e f) (hr : VAp X W es fl) (hs : starEach (e :: es) X.env = (false, eval e X.env) :: starEach es X.env := by rfl) : VAp X W (e :: es) (eCons f fl) := PA.imp (pa_cons ha hr hs) fun σ H Q ⟨S, G, Hs, ρ, r, p⟩ => by
  refine ⟨S, G, Hs, ρ, r, (Post.bind p).imp fun x Hs1 H1 e q u hu => ?_⟩
  refine ⟨S, G, Hs1, ρ, r.step e, (Post.bind q).imp fun xs Hs2 H2 e' q' us hus => ?_⟩
  exact q'.now e'.sub (u :: us) ⟨hu.up e', hus⟩

/-! ### built-in functions -/
def CalD (X : Cx) (f : Value) (F : List D → Option D) : Prop := ∃ r, CallR X f r ∧ ∀ (Hs H : Hp) (ds : List D) (vs : List V) (Q : VK) (d : D), Same Hs H → F ds = some d → PkL X.K Hs H ds vs →
  (∀ Hs' H' w, Ext Hs H Hs' H' → Rp X.K Hs' d w → Q w H') → r vs H Q
def CalO (X : Cx) (f : Value) (F : List D → Option (List D)) : Prop := ∃ r, CallR X f r ∧ ∀ (Hs H : Hp) (ds : List D) (vs : List V) (Q : VK) (l : List D), Same Hs H → F ds = some l → PkL X.K Hs H ds vs →
  (∀ Hs' H' p vs, Ext Hs H Hs' H' → H p = none → Hs' p = none → H' p = some (.lst vs) → RpL X.K Hs' l vs → Q (.ref p) H') → r vs H Q
theorem sim_cal {K : Fg} {mg : Str → Option Value} {r : List V → Hp → VK → Prop} {F : List D → Option D} (h : ∀ (Hs H : Hp) (ds : List D) (vs : List V) (Q : VK) (d : D), Same Hs H → F ds = some d → PkL K Hs H ds vs →
    (∀ Hs' H' w, Ext Hs H Hs' H' → Rp K Hs' d w → Q w H') → r vs H Q) : ∀ σ H Q, tE K mg W (e1 F fl) σ H Q → tCB r (tAp K mg W fl) σ H Q := fun σ H Q ⟨S, G, Hs, ρ, r, p⟩ => by
  refine ⟨S, G, Hs, ρ, r, (Post.bind p).imp fun ds Hs1 H1 e q vs hv => ?_⟩
  cases z : F ds with
  | none => rw [z] at q; exact q.elim
  | some d =>
    rw [z] at q
    exact h Hs1 H1 ds vs Q d e.sub z hv fun Hs' H' w e'' hw => q Hs' H' e'' w hw
theorem sim_calO {K : Fg} {mg : Str → Option Value} {r : List V → Hp → VK → Prop} {F : List D → Option (List D)} (h : ∀ (Hs H : Hp) (ds : List D) (vs : List V) (Q : VK) (d : List D), Same Hs H → F ds = some d → PkL K Hs H ds vs →
    (∀ Hs' H' p vs, Ext Hs H Hs' H' → H p = none → Hs' p = none → H' p = some (.lst vs) → RpL K Hs' d vs → Q (.ref p) H') → r vs H Q) : ∀ σ H Q, tO K mg W (e1 F fl) σ H Q → tCB r (tAp K mg W fl) σ H Q := fun σ H Q ⟨S, G, Hs, ρ, r, p⟩ => by
  refine ⟨S, G, Hs, ρ, r, (Post.bind p).imp fun ds Hs1 H1 e q vs hv => ?_⟩
  cases z : F ds with
  | none => rw [z] at q; exact q.elim
  | some d =>
    rw [z] at q
    exact h Hs1 H1 ds vs Q d e.sub z hv fun Hs' H' p vs e'' h0 h1 h2 h3 => q Hs' H' e'' p vs (e.same.free h0) h1 h2 h3
variable {x : Str} {p : Pos} {bid T : String} {F : List D → Option D} {G : List D → Option (List D)}
theorem v_blt (hc : CalD X (.builtin bid) F) (hg : Gl X x) (hm : X.mg x = none) (hv : bootBuiltins x = some (.builtin bid)) (ha : VAp X W (e :: es) fl) (hn : x ≠ "__name__" := by decide) (hdb : (x == ("__debug__" : Str)) = false := by decide)
    (he : starEach (e :: es) X.env = (false, eval e X.env) :: starEach es X.env := by rfl) (hpl : (backTo pos (starEach es X.env)).any (·.1) = false := by rfl) : VE X W (.Call (.Name x p) (e :: es) [] pos) (e1 F fl) :=
  let ⟨_, h1, h2⟩ := hc; PE.imp (pe_callB h1 hg hm hv ha hn hdb he hpl) (sim_cal h2)
theorem v_bltO (hc : CalO X (.builtin bid) G) (hg : Gl X x) (hm : X.mg x = none) (hv : bootBuiltins x = some (.builtin bid)) (ha : VAp X W (e :: es) fl) (hn : x ≠ "__name__" := by decide) (hdb : (x == ("__debug__" : Str)) = false := by decide)
    (he : starEach (e :: es) X.env = (false, eval e X.env) :: starEach es X.env := by rfl) (hpl : (backTo pos (starEach es X.env)).any (·.1) = false := by rfl) : VO X W (.Call (.Name x p) (e :: es) [] pos) (e1 G fl) :=
  let ⟨_, h1, h2⟩ := hc; PE.imp (pe_callB h1 hg hm hv ha hn hdb he hpl) (sim_calO h2)
theorem v_typ (hc : CalD X (.type T) F) (hg : Gl X x) (hm : X.mg x = none) (hv : bootBuiltins x = some (.type T)) (ha : VAp X W (e :: es) fl) (hn : x ≠ "__name__" := by decide) (hdb : (x == ("__debug__" : Str)) = false := by decide)
    (he : starEach (e :: es) X.env = (false, eval e X.env) :: starEach es X.env := by rfl) (hpl : (backTo pos (starEach es X.env)).any (·.1) = false := by rfl) : VE X W (.Call (.Name x p) (e :: es) [] pos) (e1 F fl) :=
  let ⟨_, h1, h2⟩ := hc; PE.imp (pe_callTy h1 hg hm hv ha hn hdb he hpl) (sim_cal h2)
theorem v_typO (hc : CalO X (.type T) G) (hg : Gl X x) (hm : X.mg x = none) (hv : bootBuiltins x = some (.type T)) (ha : VAp X W (e :: es) fl) (hn : x ≠ "__name__" := by decide) (hdb : (x == ("__debug__" : Str)) = false := by decide)
    (he : starEach (e :: es) X.env = (false, eval e X.env) :: starEach es X.env := by rfl) (hpl : (backTo pos (starEach es X.env)).any (·.1) = false := by rfl) : VO X W (.Call (.Name x p) (e :: es) [] pos) (e1 G fl) :=
  let ⟨_, h1, h2⟩ := hc; PE.imp (pe_callTy h1 hg hm hv ha hn hdb he hpl) (sim_calO h2)
theorem v_fun (hc : CalD X (.builtin bid) F) (hg : Gl X x) (hm : X.mg x = some (.builtin bid)) (ha : VAp X W (e :: es) fl) (hdb : (x == ("__debug__" : Str)) = false := by decide)
    (he : starEach (e :: es) X.env = (false, eval e X.env) :: starEach es X.env := by rfl) (hpl : (backTo pos (starEach es X.env)).any (·.1) = false := by rfl) : VE X W (.Call (.Name x p) (e :: es) [] pos) (e1 F fl) :=
  let ⟨_, h1, h2⟩ := hc; PE.imp (pe_callBfun h1 hg hm ha hdb he hpl) (sim_cal h2)

def gcdD : List D → Option D
  | [.int a, .int b] => some (.int ((Nat.gcd a.natAbs b.natAbs : Nat) : Int))
  | _ => none
theorem c_gcd : CalD X (.builtin "math.gcd") gcdD := ⟨_, cr_gcd, fun Hs H ds vs Q d hs e hv k => by
  unfold gcdD at e
  split at e
  · cases e
    obtain ⟨v, w, rfl, h1, h2⟩ := hv.two
    exact ⟨_, _, by rw [h1.int, h2.int], k _ _ _ (.refl hs) (.int _)⟩
  · cases e⟩
def lenD : List D → Option D
  | [.list l] => some (.int l.length)
  | [.tuple l] => some (.int l.length)
  | [.str z] => if z.length ≤ sizeLine then some (.int z.length) else none
  | _ => none
theorem c_len : CalD X (.builtin "len") lenD := ⟨_, call_len_seq.or call_len_str, fun Hs H ds vs Q d hs e hv k => by
  unfold lenD at e
  split at e
  · cases e
    obtain ⟨v, rfl, h⟩ := hv.one
    obtain ⟨a, xs, rfl, h1, h2⟩ := h.list hs
    refine .inl ⟨a, xs, rfl, .inl h1, ?_⟩
    rw [← h2.length]
    exact k _ _ _ (.refl hs) (.int _)
  · cases e
    obtain ⟨v, rfl, h⟩ := hv.one
    obtain ⟨a, xs, rfl, h1, h2⟩ := h.tup hs
    refine .inl ⟨a, xs, rfl, .inr h1, ?_⟩
    rw [← h2.length]
    exact k _ _ _ (.refl hs) (.int _)
  · split at e
    · rename_i hz
      cases e
      obtain ⟨v, rfl, h⟩ := hv.one
      exact .inr ⟨_, by rw [h.str], hz, k _ _ _ (.refl hs) (.int _)⟩
    · cases e
  · cases e⟩
def intD : List D → Option D
  | [.int i] => some (.int i)
  | [.bool b] => some (.int (if b then 1 else 0))
  | _ => none
theorem c_int : CalD X (.type "int") intD := ⟨_, call_int1, fun Hs H ds vs Q d hs e hv k => by
  unfold intD at e
  split at e
  · cases e
    obtain ⟨v, rfl, h⟩ := hv.one
    exact .inl ⟨_, by rw [h.int], k _ _ _ (.refl hs) (.int _)⟩
  · cases e
    obtain ⟨v, rfl, h⟩ := hv.one
    exact .inr ⟨_, by rw [h.bl], k _ _ _ (.refl hs) (.int _)⟩
  · cases e⟩
def absD : List D → Option D
  | [.int i] => some (.int (if i < 0 then -i else i))
  | _ => none
theorem c_abs : CalD X (.builtin "abs") absD := ⟨_, call_abs, fun Hs H ds vs Q d hs e hv k => by
  unfold absD at e
  split at e
  · cases e
    obtain ⟨v, rfl, h⟩ := hv.one
    exact ⟨_, by rw [h.int], k _ _ _ (.refl hs) (.int _)⟩
  · cases e⟩
def blsD : List D → Option (List Bool)
  | [] => some []
  | .bool b :: r => (blsD r).map (b :: ·)
  | _ :: _ => none
def intsD : List D → Option (List Int)
  | [] => some []
  | .int b :: r => (intsD r).map (b :: ·)
  | _ :: _ => none
theorem blsD_rp {K : Fg} {H : Hp} : ∀ {l : List D} {bs : List Bool} {vs : List V}, blsD l = some bs → RpL K H l vs → vs = bs.map V.bl
  | [], bs, vs, e, r => by cases e; cases r; rfl
  | .bool b :: l, bs, vs, e, r => by
    obtain ⟨bs', e', rfl⟩ := Option.map_eq_some_iff.mp (show (blsD l).map _ = some bs from e)
    cases r with
    | cons h r => cases h; rw [blsD_rp e' r]; rfl
  | .none :: _, _, _, e, _ => by cases e
  | .int _ :: _, _, _, e, _ => by cases e
  | .str _ :: _, _, _, e, _ => by cases e
  | .list _ :: _, _, _, e, _ => by cases e
  | .tuple _ :: _, _, _, e, _ => by cases e
  | .dict _ :: _, _, _, e, _ => by cases e
theorem intsD_rp {K : Fg} {H : Hp} : ∀ {l : List D} {bs : List Int} {vs : List V}, intsD l = some bs → RpL K H l vs → vs = bs.map V.int
  | [], bs, vs, e, r => by cases e; cases r; rfl
  | .int b :: l, bs, vs, e, r => by
    obtain ⟨bs', e', rfl⟩ := Option.map_eq_some_iff.mp (show (intsD l).map _ = some bs from e)
    cases r with
    | cons h r => cases h; rw [intsD_rp e' r]; rfl
  | .none :: _, _, _, e, _ => by cases e
  | .bool _ :: _, _, _, e, _ => by cases e
  | .str _ :: _, _, _, e, _ => by cases e
  | .list _ :: _, _, _, e, _ => by cases e
  | .tuple _ :: _, _, _, e, _ => by cases e
  | .dict _ :: _, _, _, e, _ => by cases e
theorem blsD_map : ∀ bs : List Bool, blsD (bs.map .bool) = some bs
  | [] => rfl
  | b :: bs => by show (blsD (bs.map .bool)).map _ = _; rw [blsD_map bs]; rfl
theorem intsD_map : ∀ bs : List Int, intsD (bs.map .int) = some bs
  | [] => rfl
  | b :: bs => by show (intsD (bs.map .int)).map _ = _; rw [intsD_map bs]; rfl
def allD : List D → Option D
  | [.list l] => (blsD l).map fun bs => .bool (bs.all id)
  | _ => none
def anyD : List D → Option D
  | [.list l] => (blsD l).map fun bs => .bool (bs.any id)
  | _ => none
def sumD : List D → Option D
  | [.list l] => (intsD l).map fun bs => .int bs.sum
  | _ => none
theorem c_all (hc : X.calm = true) : CalD X (.builtin "all") allD := ⟨_, cr_all hc, fun Hs H ds vs Q d hs e hv k => by
  unfold allD at e
  split at e
  · obtain ⟨bs, e', rfl⟩ := Option.map_eq_some_iff.mp e
    obtain ⟨v, rfl, h⟩ := hv.one
    obtain ⟨a, xs, rfl, h1, h2⟩ := h.list hs
    rw [blsD_rp e' h2] at h1
    exact ⟨a, bs, rfl, h1, k _ _ _ (.refl hs) (.bl _)⟩
  · cases e⟩
theorem c_any (hc : X.calm = true) : CalD X (.builtin "any") anyD := ⟨_, cr_any hc, fun Hs H ds vs Q d hs e hv k => by
  unfold anyD at e
  split at e
  · obtain ⟨bs, e', rfl⟩ := Option.map_eq_some_iff.mp e
    obtain ⟨v, rfl, h⟩ := hv.one
    obtain ⟨a, xs, rfl, h1, h2⟩ := h.list hs
    rw [blsD_rp e' h2] at h1
    exact ⟨a, bs, rfl, h1, k _ _ _ (.refl hs) (.bl _)⟩
  · cases e⟩
theorem c_sum (hc : X.calm = true) : CalD X (.builtin "sum") sumD := ⟨_, cr_sum hc, fun Hs H ds vs Q d hs e hv k => by
  unfold sumD at e
  split at e
  · obtain ⟨bs, e', rfl⟩ := Option.map_eq_some_iff.mp e
    obtain ⟨v, rfl, h⟩ := hv.one
    obtain ⟨a, xs, rfl, h1, h2⟩ := h.list hs
    rw [intsD_rp e' h2] at h1
    exact ⟨a, bs, rfl, h1, k _ _ _ (.refl hs) (.int _)⟩
  · cases e⟩
def maxI : Int → List Int → Int
  | m, [] => m
  | m, x :: r => maxI (if m < x then x else m) r
def minI : Int → List Int → Int
  | m, [] => m
  | m, x :: r => minI (if x < m then x else m) r
theorem maxI_ge : ∀ (l : List Int) (m : Int), m ≤ maxI m l ∧ (∀ x ∈ l, x ≤ maxI m l) ∧ (maxI m l = m ∨ maxI m l ∈ l)
  | [], m => ⟨Int.le_refl _, (fun _ h => by cases h), .inl rfl⟩
  | x :: r, m => by
    obtain ⟨h1, h2, h3⟩ := maxI_ge r (if m < x then x else m)
    have e : maxI m (x :: r) = maxI (if m < x then x else m) r := rfl
    rw [e]
    refine ⟨?_, fun y hy => ?_, ?_⟩
    · split at h1 <;> rename_i z <;> simp only [z, if_true, if_false] <;> omega
    · rcases List.mem_cons.mp hy with rfl | hy
      · split at h1 <;> rename_i z <;> simp only [z, if_true, if_false] <;> omega
      · exact h2 y hy
    · rcases h3 with h3 | h3
      · by_cases z : m < x
        · right; rw [h3, if_pos z]; exact List.mem_cons_self
        · left; rw [h3, if_neg z]
      · right; exact List.mem_cons_of_mem _ h3
theorem minI_le : ∀ (l : List Int) (m : Int), minI m l ≤ m ∧ (∀ x ∈ l, minI m l ≤ x) ∧ (minI m l = m ∨ minI m l ∈ l)
  | [], m => ⟨Int.le_refl _, (fun _ h => by cases h), .inl rfl⟩
  | x :: r, m => by
    obtain ⟨h1, h2, h3⟩ := minI_le r (if x < m then x else m)
    have e : minI m (x :: r) = minI (if x < m then x else m) r := rfl
    rw [e]
    refine ⟨?_, fun y hy => ?_, ?_⟩
    · split at h1 <;> rename_i z <;> simp only [z, if_true, if_false] <;> omega
    · rcases List.mem_cons.mp hy with rfl | hy
      · split at h1 <;> rename_i z <;> simp only [z, if_true, if_false] <;> omega
      · exact h2 y hy
    · rcases h3 with h3 | h3
      · by_cases z : x < m
        · right; rw [h3, if_pos z]; exact List.mem_cons_self
        · left; rw [h3, if_neg z]
      · right; exact List.mem_cons_of_mem _ h3
def maxD : List D → Option D
  | [.list l] => (intsD l).bind fun bs => match bs with
    | [] => none
    | m :: r => some (.int (maxI m r))
  | [.int i, .int j] => some (.int (if j > i then j else i))
  | _ => none
def minD : List D → Option D
  | [.list l] => (intsD l).bind fun bs => match bs with
    | [] => none
    | m :: r => some (.int (minI m r))
  | [.int i, .int j] => some (.int (if j < i then j else i))
  | _ => none
theorem c_max (hc : X.calm = true) : CalD X (.builtin "max") maxD := ⟨_, (cr_max hc).or (call_max2 hc), fun Hs H ds vs Q d hs e hv k => by
  unfold maxD at e
  split at e
  · obtain ⟨bs, e', e⟩ := Option.bind_eq_some_iff.mp e
    obtain ⟨v, rfl, h⟩ := hv.one
    obtain ⟨a, xs, rfl, h1, h2⟩ := h.list hs
    rw [intsD_rp e' h2] at h1
    cases bs with
    | nil => cases e
    | cons m r =>
      cases e
      refine .inl ⟨a, m :: r, rfl, h1, Nat.succ_pos _, fun y hy hge => ?_⟩
      obtain ⟨g1, g2, g3⟩ := maxI_ge r m
      have : y = maxI m r := by
        have a1 := hge m List.mem_cons_self
        have a2 : maxI m r ≤ y := by
          rcases g3 with g | g
          · rw [g]; exact a1
          · exact hge _ (List.mem_cons_of_mem _ g)
        have a3 : y ≤ maxI m r := by
          rcases List.mem_cons.mp hy with rfl | hy
          · exact g1
          · exact g2 y hy
        omega
      rw [this]
      exact k _ _ _ (.refl hs) (.int _)
  · cases e
    obtain ⟨v, w, rfl, h1, h2⟩ := hv.two
    exact .inr ⟨_, _, by rw [h1.int, h2.int], k _ _ _ (.refl hs) (.int _)⟩
  · cases e⟩
theorem c_min (hc : X.calm = true) : CalD X (.builtin "min") minD := ⟨_, (cr_min hc).or (call_min2 hc), fun Hs H ds vs Q d hs e hv k => by
  unfold minD at e
  split at e
  · obtain ⟨bs, e', e⟩ := Option.bind_eq_some_iff.mp e
    obtain ⟨v, rfl, h⟩ := hv.one
    obtain ⟨a, xs, rfl, h1, h2⟩ := h.list hs
    rw [intsD_rp e' h2] at h1
    cases bs with
    | nil => cases e
    | cons m r =>
      cases e
      refine .inl ⟨a, m :: r, rfl, h1, Nat.succ_pos _, fun y hy hge => ?_⟩
      obtain ⟨g1, g2, g3⟩ := minI_le r m
      have : y = minI m r := by
        have a1 := hge m List.mem_cons_self
        have a2 : y ≤ minI m r := by
          rcases g3 with g | g
          · rw [g]; exact a1
          · exact hge _ (List.mem_cons_of_mem _ g)
        have a3 : minI m r ≤ y := by
          rcases List.mem_cons.mp hy with rfl | hy
          · exact g1
          · exact g2 y hy
        omega
      rw [this]
      exact k _ _ _ (.refl hs) (.int _)
  · cases e
    obtain ⟨v, w, rfl, h1, h2⟩ := hv.two
    exact .inr ⟨_, _, by rw [h1.int, h2.int], k _ _ _ (.refl hs) (.int _)⟩
  · cases e⟩
def listO : List D → Option (List D)
  | [.list l] => some l
  | [.tuple l] => some l
  | _ => none
theorem c_listO : CalO X (.type "list") listO := ⟨_, call_list_of, fun Hs H ds vs Q d hs e hv k => by
  unfold listO at e
  split at e
  · cases e
    obtain ⟨v, rfl, h⟩ := hv.one
    obtain ⟨a, xs, rfl, h1, h2⟩ := h.list hs
    refine ⟨a, xs, rfl, .inl h1, fun q hq => ?_⟩
    obtain ⟨e1, e2, e3, e4⟩ := new_own hs hq h2
    exact k _ _ _ _ e1 hq e2 e3 e4
  · cases e
    obtain ⟨v, rfl, h⟩ := hv.one
    obtain ⟨a, xs, rfl, h1, h2⟩ := h.tup hs
    refine ⟨a, xs, rfl, .inr h1, fun q hq => ?_⟩
    obtain ⟨e1, e2, e3, e4⟩ := new_own hs hq h2
    exact k _ _ _ _ e1 hq e2 e3 e4
  · cases e⟩
def tupleD : List D → Option D
  | [.list l] => some (.tuple l)
  | [.tuple l] => some (.tuple l)
  | _ => none
theorem c_tuple : CalD X (.type "tuple") tupleD := ⟨_, call_tuple_of, fun Hs H ds vs Q d hs e hv k => by
  unfold tupleD at e
  split at e
  · cases e
    obtain ⟨v, rfl, h⟩ := hv.one
    obtain ⟨a, xs, rfl, h1, h2⟩ := h.list hs
    refine ⟨a, xs, rfl, .inl ⟨h1, fun q hq => ?_⟩⟩
    have x := Ext.new (o := .tup xs) hs hq
    exact k _ _ _ x (.tup (.inl (.inl upd_same)) (h2.mono x.grow))
  · cases e
    obtain ⟨v, rfl, h⟩ := hv.one
    rcases h with h | ⟨_, _, _, z, _⟩
    · cases h with
      | tup h1 h2 => exact ⟨_, _, rfl, .inr ⟨SqT.mono hs h1, k _ _ _ (.refl hs) (.tup h1 h2)⟩⟩
    · cases z
  · cases e⟩

/-! ### isinstance of a built-in type -/
def tyD : D → String
  | .none => "NoneType"
  | .bool _ => "bool"
  | .int _ => "int"
  | .str _ => "str"
  | .list _ => "list"
  | .tuple _ => "tuple"
  | .dict _ => "dict"
def isiD (n : String) (d : D) : Option D := match d with
  | .dict _ => none
  | d => (kitB (tyD d) n).map .bool
theorem tyX_of {K : Fg} {Hs H : Hp} {d : D} {v : V} (hs : Same Hs H) (h : Pk K Hs H d v) (nd : ∀ l, d ≠ .dict l) : TyX K H v (.type (tyD d)) := by
  cases d with
  | none => cases h.non; exact .base .non
  | bool b => cases h.bl; exact .base (.bl _)
  | int b => cases h.int; exact .base (.int _)
  | str b => cases h.str; exact .base (.str _)
  | list l =>
    obtain ⟨a, xs, rfl, h1, h2⟩ := h.list hs
    rcases h1 with (h1 | ⟨o, h1⟩) | ⟨o, its, n, h1, h2, _⟩
    · exact .base (.lst h1)
    · exact .base (.frz h1)
    · exact .kList h1 h2
  | tuple l =>
    obtain ⟨a, xs, rfl, h1, h2⟩ := h.tup hs
    rcases h1 with (h1 | ⟨o, h1⟩) | ⟨o, its, n, h1, h2, _⟩
    · exact .base (.tup h1)
    · exact .fTuple h1
    · exact .kTuple h1 h2
  | dict l => exact (nd l rfl).elim
theorem v_isi {xi xt : Str} {p1 p2 : Pos} {n : String} (hg : Gl X xi) (hm : X.mg xi = none) (hv : bootBuiltins xi = some (.builtin "isinstance")) (ha : VP X W a f) (ht : PE X (.Name xt p2) (tC (.ty n)))
    (hn : xi ≠ "__name__" := by decide) (hdb : (xi == ("__debug__" : Str)) = false := by decide)
    (he : starEach [a, .Name xt p2] X.env = (false, eval a X.env) :: starEach [.Name xt p2] X.env := by rfl) (hpl : (backTo pos (starEach [.Name xt p2] X.env)).any (·.1) = false := by rfl) (he2 : starEach [.Name xt p2] X.env = (false, eval (.Name xt p2) X.env) :: starEach [] X.env := by rfl) :
    VE X W (.Call (.Name xi p1) [a, .Name xt p2] [] pos) (e1 (isiD n) f) := by
  refine PE.imp (pe_callB call_isi hg hm hv (pa_cons ha (pa_cons ht pa_nil he2) he) hn hdb he hpl) fun σ H Q ⟨S, G, Hs, ρ, r, p⟩ => ?_
  refine ⟨S, G, Hs, ρ, r, (Post.bind p).imp fun d Hs1 H1 e q u hu => ?_⟩
  cases z : isiD n d with
  | none => rw [z] at q; exact q.elim
  | some d' =>
    rw [z] at q
    have nd : ∀ l, d ≠ .dict l := fun l w => by rw [w] at z; cases z
    have z' : (kitB (tyD d) n).map PyData.bool = some d' := by
      cases d with
      | dict l => exact (nd l rfl).elim
      | _ => exact z
    obtain ⟨b, h1, rfl⟩ := Option.map_eq_some_iff.mp z'
    exact ⟨u, .ty n, .type (tyD d), .type n, b, rfl, .ty n, tyX_of e.sub hu nd, kit_ty h1, q.now e.sub _ (.bl _)⟩
end

/-! ### slices -/
def cutL (l : List D) (lo hi : Option Int) : List D := (l.drop (HT.sIx l.length 0 lo)).take (HT.sIx l.length l.length hi - HT.sIx l.length 0 lo)
theorem cut_rp {K : Fg} {H : Hp} {l : List D} {vs : List V} (r : RpL K H l vs) (lo hi : Option Int) : RpL K H (cutL l lo hi) (cutV vs lo hi) := by
  unfold cutL cutV
  rw [r.length]
  exact (r.drop _).take _
def sliceD (x : D) (lo hi : Option Int) : Option D := match x with
  | .list l => some (.list (cutL l lo hi))
  | .tuple l => some (.tuple (cutL l lo hi))
  | .str z => if z.length ≤ sizeLine then some (.str (cutS z lo hi)) else none
  | _ => none
def sliceO (x : D) (lo hi : Option Int) : Option (List D) := match x with
  | .list l => some (cutL l lo hi)
  | _ => none
def pNo : Ev → R (Option Int) := cst none
def intOf : D → Option (Option Int)
  | .int i => some (some i)
  | _ => none
def tPo (K : Fg) (mg : Str → Option Value) (W : WX) (f : Ev → R (Option Int)) : TO := fun σ H Q => ∃ S G Hs ρ, RelE K S G Hs H σ ρ ∧ Post K mg W Hs H σ (f ρ) (fun o Hs' H' => Q o H')
def VPo (X : Cx) (W : WX) (e : Option Expr) (f : Ev → R (Option Int)) : Prop := PO X e (tPo X.K X.mg W f)
theorem PO.imp {X : Cx} {e : Option Expr} {t t' : TO} (h : PO X e t) (i : ∀ σ H Q, t' σ H Q → t σ H Q) : PO X e t' := ⟨fun pins s σ H Q I q => h.run pins s σ H Q I (i σ H Q q)⟩
def e3 {α β γ δ : Type} (F : α → β → γ → Option δ) (f : Ev → R α) (g : Ev → R β) (h : Ev → R γ) : Ev → R δ := fun ρ => (f ρ).bind fun x => (g ρ).bind fun y => (h ρ).bind fun z => ofO (F x y z)
section
variable {X : Cx} {W : WX} {e a b c : Expr} {lo hi : Option Expr} {p2 pos : Pos} {f g : Ev → R D} {gl gh : Ev → R (Option Int)}
theorem vpo_none : VPo X W none pNo := PO.imp po_none fun σ H Q ⟨S, G, Hs, ρ, r, p⟩ => p.now r.sub
theorem vpo_some (h : VE X W e f) : VPo X W (some e) (e1 intOf f) := PO.imp (po_some h) fun σ H Q ⟨S, G, Hs, ρ, r, p⟩ => by
  refine ⟨S, G, Hs, ρ, r, (Post.bind p).imp fun x Hs1 H1 e q u hu => ?_⟩
  cases x with
  | int i => cases hu; exact ⟨i, rfl, q.now e.sub⟩
  | none => exact q.elim
  | bool _ => exact q.elim
  | str _ => exact q.elim
  | list _ => exact q.elim
  | tuple _ => exact q.elim
  | dict _ => exact q.elim
theorem sl_any : SlR X (fun x lo hi H Q => rSlL X.K x lo hi H Q ∨ rSlA X.K x lo hi H Q ∨ rSlS x lo hi H Q) := sl_list.or (sl_tupA.or sl_str)
theorem cutV_whole {xs : List V} {lo hi : Option Int} (h : HT.sIx xs.length 0 lo = 0 ∧ HT.sIx xs.length xs.length hi = xs.length) : cutV xs lo hi = xs := by
  unfold cutV
  rw [h.1, h.2, Nat.sub_zero, List.drop_zero, List.take_length]
theorem v_slice (he : VP X W e f) (hl : VPo X W lo gl) (hu : VPo X W hi gh) : VE X W (.Subscript e (.Slice lo hi none p2) pos) (e3 sliceD f gl gh) := PE.imp (pe_slice sl_any he hl hu) fun σ H Q ⟨S, G, Hs, ρ, r, p⟩ => by
  refine ⟨S, G, Hs, ρ, r, (Post.bind p).imp fun x Hs1 H1 e q u hu => ?_⟩
  refine ⟨S, G, Hs1, ρ, r.step e, (Post.bind q).imp fun l Hs2 H2 e' q' => ?_⟩
  refine ⟨S, G, Hs2, ρ, (r.step e).step e', (Post.bind q').imp fun h Hs3 H3 e'' q'' => ?_⟩
  have hu3 := (hu.up e').up e''
  cases z : sliceD x l h with
  | none => rw [z] at q''; exact q''.elim
  | some d =>
    rw [z] at q''
    unfold sliceD at z
    split at z
    · cases z
      obtain ⟨a, xs, rfl, h1, h2⟩ := hu3.list e''.sub
      refine .inl ⟨a, xs, rfl, h1, fun p hp => ?_⟩
      obtain ⟨x1, x2⟩ := new_lst e''.sub hp (cut_rp h2 l h)
      exact q'' _ _ x1 _ x2
    · cases z
      have w := hu3.tupRp
      cases w with
      | @tup a xs _ h1 h2 =>
        refine .inr (.inl ⟨a, xs, rfl, SqT.mono e''.sub h1, fun hw => ?_, fun _ p hp => ?_⟩)
        · refine q''.now e''.sub _ (.tup h1 ?_)
          have := cut_rp h2 l h
          rw [cutV_whole hw] at this
          exact this
        · have x := Ext.new (o := .tup (cutV xs l h)) e''.sub hp
          exact q'' _ _ x _ (.tup (.inl (.inl upd_same)) ((cut_rp h2 l h).mono x.grow))
    · split at z
      · rename_i hz
        cases z
        exact .inr (.inr ⟨_, hu3.str, hz, q''.now e''.sub _ (.str _)⟩)
      · cases z
    · cases z
end
end VL

set_option Elab.async false
set_option linter.all false
set_option maxRecDepth 100000
set_option autoImplicit false
namespace VL
open PySem PySem.Spec PyProof.Rows L2

section
variable {X : Cx} {W : WX} {e a b c : Expr} {lo hi : Option Expr} {p2 pos : Pos} {f g : Ev → R D} {gl gh : Ev → R (Option Int)}
theorem v_sliceO (he : VP X W e f) (hl : VPo X W lo gl) (hu : VPo X W hi gh) : VO X W (.Subscript e (.Slice lo hi none p2) pos) (e3 sliceO f gl gh) := PE.imp (pe_slice sl_list he hl hu) fun σ H Q ⟨S, G, Hs, ρ, r, p⟩ => by
  refine ⟨S, G, Hs, ρ, r, (Post.bind p).imp fun x Hs1 H1 e q u hu => ?_⟩
  refine ⟨S, G, Hs1, ρ, r.step e, (Post.bind q).imp fun l Hs2 H2 e' q' => ?_⟩
  refine ⟨S, G, Hs2, ρ, (r.step e).step e', (Post.bind q').imp fun h Hs3 H3 e'' q'' => ?_⟩
  have hu3 := (hu.up e').up e''
  cases z : sliceO x l h with
  | none => rw [z] at q''; exact q''.elim
  | some d =>
    rw [z] at q''
    unfold sliceO at z
    split at z
    · cases z
      obtain ⟨a, xs, rfl, h1, h2⟩ := hu3.list e''.sub
      refine ⟨a, xs, rfl, h1, fun p hp => ?_⟩
      obtain ⟨x1, x2, x3, x4⟩ := new_own e''.sub hp (cut_rp h2 l h)
      exact q'' _ _ x1 p _ ((e.trans (e'.trans e'')).same.free hp) x2 x3 x4
    · cases z
/-- xs[::-1] -/
def revO : D → Option (List D)
  | .list l => some l.reverse
  | _ => none
theorem v_revO {k : Nat} {p1 p3 p4 : Pos} (he : VP X W e f) : VO X W (.Subscript e (.Slice none none (some (.UnaryOp .USub (.Constant (.int 1) k p1) p3)) p4) pos) (e1 revO f) := PE.imp (pe_revL he) fun σ H Q ⟨S, G, Hs, ρ, r, p⟩ => by
  refine ⟨S, G, Hs, ρ, r, (Post.bind p).imp fun x Hs1 H1 e q u hu => ?_⟩
  cases z : revO x with
  | none => rw [z] at q; exact q.elim
  | some d =>
    rw [z] at q
    unfold revO at z
    split at z
    · cases z
      obtain ⟨a, xs, rfl, h1, h2⟩ := hu.list e.sub
      refine ⟨a, xs, rfl, h1, fun p hp => ?_⟩
      obtain ⟨x1, x2, x3, x4⟩ := new_own e.sub hp h2.reverse
      exact q _ _ x1 p _ (e.same.free hp) x2 x3 x4
    · cases z
end

/-! ### statements -/
/-- what a def's end hands back -/
def RpO (K : Fg) (G Hs H : Hp) : SD → V → Prop
  | .no, _ => False
  | .bo _, _ => False
  | .sh d, v => Rp K Hs d v
  | .ow l, v => ∃ p vs, v = .ref p ∧ G p = none ∧ Hs p = none ∧ H p = some (.lst vs) ∧ RpL K Hs l vs
def OutOk (K : Fg) (mg : Str → Option Value) (W : WX) (S : Hp) (G : Gx) (Hs : Hp) (D : Ends) : Out → Prop
  | .nx ρ => ∀ Hs' H' σ', Same Hs Hs' → RelE K S G Hs' H' σ' ρ → D.nx σ' H'
  | .bk ρ => ∀ Hs' H' σ', Same Hs Hs' → RelE K S G Hs' H' σ' ρ → D.bk σ' H'
  | .ct ρ => ∀ Hs' H' σ', Same Hs Hs' → RelE K S G Hs' H' σ' ρ → D.ct σ' H'
  | .rt r => ∀ Hs' H' v, Ext S G.h Hs' H' → RpO K G.h Hs' H' r v → D.rt v H'
  | .rtB r ρ => ∀ Hs' H' v σ', Same Hs Hs' → RelE K S G Hs' H' σ' ρ → RpO K G.h Hs' H' r v → (∀ l, r = .ow l → ∀ i p, G.b i = some p → v ≠ .ref p) → D.rt v H'
  | .ex x ρ => ∀ Hs' H' σ' cls dd, Same Hs Hs' → RelE K S G Hs' H' σ' ρ → XRp K mg H' x cls dd → W cls dd σ' H'
  | .bad => False
def tS (K : Fg) (mg : Str → Option Value) (W : WX) (F : Ev → Out) : TS := fun D σ H => ∃ S G Hs ρ, RelE K S G Hs H σ ρ ∧ OutOk K mg W S G Hs D (F ρ)
def VS (X : Cx) (W : WX) (st : Stmt) (F : Ev → Out) : Prop := PS X st (tS X.K X.mg W F)
def VSs (X : Cx) (W : WX) (st : List Stmt) (F : Ev → Out) : Prop := PSs X st (tS X.K X.mg W F)

theorem OutOk.up {K : Fg} {mg : Str → Option Value} {W : WX} {S Hs Hs1 : Hp} {G : Gx} {D : Ends} {o : Out} (h : OutOk K mg W S G Hs D o) (e : Same Hs Hs1) : OutOk K mg W S G Hs1 D o := by
  cases o with
  | nx ρ => exact fun Hs' H' σ' a => h Hs' H' σ' (e.trans a)
  | bk ρ => exact fun Hs' H' σ' a => h Hs' H' σ' (e.trans a)
  | ct ρ => exact fun Hs' H' σ' a => h Hs' H' σ' (e.trans a)
  | rt r => exact h
  | rtB r ρ => exact fun Hs' H' v σ' a => h Hs' H' v σ' (e.trans a)
  | ex x ρ => exact fun Hs' H' σ' cls dd a => h Hs' H' σ' cls dd (e.trans a)
  | bad => exact h
theorem RelE.ext' {K : Fg} {S Hs H : Hp} {G : Gx} {σ : Sg} {ρ : Ev} (r : RelE K S G Hs H σ ρ) : Ext S G.h Hs H := ⟨r.sub, r.old, r.ext, r.new⟩

/-- an evaluation ahead -/
def liftE {α : Type} (r : R α) (ρ : Ev) (k : α → Out) : Out := match r with
  | .ok a => k a
  | .ex x => .ex x ρ
  | .bad => .bad
theorem lift_post {α : Type} {K : Fg} {mg : Str → Option Value} {W : WX} {S Hs H : Hp} {G : Gx} {σ : Sg} {ρ : Ev} {D : Ends} {r : R α} {k : α → Out} (rl : RelE K S G Hs H σ ρ) (h : OutOk K mg W S G Hs D (liftE r ρ k)) :
    Post K mg W Hs H σ r (fun a Hs' H' => OutOk K mg W S G Hs' D (k a)) := by
  cases r with
  | ok a => exact fun Hs' H' e => OutOk.up h e.grow
  | ex x => exact fun Hs' H' cls dd e hx => h Hs' H' σ cls dd e.grow (rl.step e) hx
  | bad => exact h

def seqO (o : Out) (k : Ev → Out) : Out := match o with
  | .nx ρ => k ρ
  | o => o
def sNil : Ev → Out := .nx
def sSeq (F G : Ev → Out) : Ev → Out := fun ρ => seqO (F ρ) G
section
variable {X : Cx} {W : WX} {e a b c : Expr} {es : List Expr} {pos : Pos} {f g : Ev → R D} {fl : Ev → R (List D)} {fb : Ev → R Bool} {st : Stmt} {rest : List Stmt} {F F' : Ev → Out}
theorem sim_seq {K : Fg} {mg : Str → Option Value} : ∀ D σ H, tS K mg W (sSeq F F') D σ H → tSeq (tS K mg W F) (tS K mg W F') D σ H := fun D σ H ⟨S, G, Hs, ρ, r, h⟩ => by
  refine ⟨S, G, Hs, ρ, r, ?_⟩
  unfold sSeq seqO at h
  cases q : F ρ with
  | nx ρ' =>
    rw [q] at h
    exact fun Hs' H' σ' a r' => ⟨S, G, Hs', ρ', r', h.up a⟩
  | bk ρ' => rw [q] at h; exact h
  | ct ρ' => rw [q] at h; exact h
  | rt r' => rw [q] at h; exact h
  | rtB r' ρ' => rw [q] at h; exact h
  | ex x ρ' => rw [q] at h; exact h
  | bad => rw [q] at h; exact h
theorem vss_nil : VSs X W [] sNil := PSs.imp pss_nil fun D σ H ⟨S, G, Hs, ρ, r, h⟩ => h Hs H σ (.refl _) r
theorem vss_cons (h1 : VS X W st F) (h2 : VSs X W rest F') : VSs X W (st :: rest) (sSeq F F') := PSs.imp (pss_cons h1 h2) sim_seq
theorem vss_one (h1 : VS X W st F) : VSs X W [st] F := pss_one h1
theorem vs_pass : VS X W (.Pass pos) sNil := PS.imp ps_pass fun D σ H ⟨S, G, Hs, ρ, r, h⟩ => h Hs H σ (.refl _) r
theorem vs_doc {x j pos'} : VS X W (.Expr (.Constant (.str x) j pos) pos') sNil := PS.imp ps_doc fun D σ H ⟨S, G, Hs, ρ, r, h⟩ => h Hs H σ (.refl _) r
theorem vs_break : VS X W (.Break pos) .bk := PS.imp ps_break fun D σ H ⟨S, G, Hs, ρ, r, h⟩ => h Hs H σ (.refl _) r
theorem vs_continue : VS X W (.Continue pos) .ct := PS.imp ps_continue fun D σ H ⟨S, G, Hs, ρ, r, h⟩ => h Hs H σ (.refl _) r
def sRet (f : Ev → R D) : Ev → Out := fun ρ => liftE (f ρ) ρ fun d => .rt (.sh d)
def sRetO (f : Ev → R (List D)) : Ev → Out := fun ρ => liftE (f ρ) ρ fun d => .rt (.ow d)
theorem vs_ret (he : VE X W e f) : VS X W (.Return (some e) pos) (sRet f) := PS.imp (ps_ret he) fun D σ H ⟨S, G, Hs, ρ, r, h⟩ =>
  ⟨S, G, Hs, ρ, r, (lift_post r h).imp fun d Hs' H' e q v hv => q Hs' H' v (r.step e).ext' hv⟩
theorem vs_retO (he : VO X W e fl) : VS X W (.Return (some e) pos) (sRetO fl) := PS.imp (ps_ret he) fun D σ H ⟨S, G, Hs, ρ, r, h⟩ =>
  ⟨S, G, Hs, ρ, r, (lift_post r h).imp fun d Hs' H' e q p vs h0 h1 h2 h3 => q Hs' H' _ (r.step e).ext' ⟨p, vs, rfl, r.old.free h0, h1, h2, h3⟩⟩
/-- return x, x a list of one's own -/
def sRetV (i : Nat) : Ev → Out := fun ρ => match ρ[i]? with
  | some (.ow l) => .rt (.ow l)
  | some (.sh d) => .rt (.sh d)
  | _ => .bad
theorem vs_retV (i : Nat) {x : Str} {p : Pos} (h : PE X (.Name x p) (tVar i)) : VS X W (.Return (some (.Name x p)) pos) (sRetV i) := PS.imp (ps_ret h) fun D σ H ⟨S, G, Hs, ρ, r, h⟩ => by
  unfold sRetV at h
  cases q : ρ[i]? with
  | none => rw [q] at h; exact h.elim
  | some s =>
    rw [q] at h
    cases s with
    | no => exact h.elim
    | sh d =>
      obtain ⟨v, e1, e2⟩ := r.get q
      exact ⟨v, e1, h Hs H v r.ext' e2⟩
    | bo l => exact h.elim
    | ow l =>
      obtain ⟨p, vs, e1, e2, e3, e4, e5⟩ := r.own q
      exact ⟨_, e1, h Hs H _ r.ext' ⟨p, vs, rfl, e2, e3, e4, e5⟩⟩
def sRetN : Ev → Out := fun _ => .rt (.sh .none)
theorem vs_retN : VS X W (.Return none pos) sRetN := PS.imp ps_retN fun D σ H ⟨S, G, Hs, ρ, r, h⟩ => h Hs H _ r.ext' .non
def sIf (c : Ev → R Bool) (F F' : Ev → Out) : Ev → Out := fun ρ => liftE (c ρ) ρ fun b => if b then F ρ else F' ρ
theorem vs_if {p q : List Stmt} (hc : VT X W c fb) (ha : VSs X W p F) (hb : VSs X W q F') : VS X W (.If c p q pos) (sIf fb F F') := PS.imp (ps_if hc ha hb) fun D σ H ⟨S, G, Hs, ρ, r, h⟩ => by
  refine ⟨S, G, Hs, ρ, r, (lift_post r h).imp fun k Hs' H' e q => ?_⟩
  cases k with
  | true => exact ⟨S, G, Hs', ρ, r.step e, q⟩
  | false => exact ⟨S, G, Hs', ρ, r.step e, q⟩
def sDrop (f : Ev → R D) : Ev → Out := fun ρ => liftE (f ρ) ρ fun _ => .nx ρ
theorem vs_expr (he : VE X W e f) (hs : swapsWith e none pos.line X.env = pure false := by rfl) : VS X W (.Expr e pos) (sDrop f) := PS.imp (ps_expr he hs) fun D σ H ⟨S, G, Hs, ρ, r, h⟩ =>
  ⟨S, G, Hs, ρ, r, (lift_post r h).imp fun d Hs' H' e q v hv => q Hs' H' σ (.refl _) (r.step e)⟩
/-- a list of one's own is frozen here -/
def sFz (i : Nat) (F : Ev → Out) : Ev → Out := fun ρ => match ρ[i]? with
  | some (.ow l) => F (ρ.set i (.sh (.list l)))
  | _ => F ρ
theorem sim_fz {K : Fg} {mg : Str → Option Value} (i : Nat) : ∀ D σ H, tS K mg W (sFz i F) D σ H → tS K mg W F D σ H := fun D σ H ⟨S, G, Hs, ρ, r, h⟩ => by
  unfold sFz at h
  cases q : ρ[i]? with
  | none => rw [q] at h; exact ⟨S, G, Hs, ρ, r, h⟩
  | some s =>
    rw [q] at h
    cases s with
    | no => exact ⟨S, G, Hs, ρ, r, h⟩
    | bo l => exact ⟨S, G, Hs, ρ, r, h⟩
    | sh d => exact ⟨S, G, Hs, ρ, r, h⟩
    | ow l =>
      obtain ⟨Hs', g, r'⟩ := r.fz q
      exact ⟨S, G, Hs', _, r', OutOk.up h g⟩
theorem vs_fz (i : Nat) (h : VS X W st F) : VS X W st (sFz i F) := PS.imp h (sim_fz i)
theorem vss_fz {sts : List Stmt} (i : Nat) (h : VSs X W sts F) : VSs X W sts (sFz i F) := PSs.imp h (sim_fz i)

/-! ### targets -/
/-- g: what an assigned item makes of the slots; ts: the slots that it may change -/
def tGt (K : Fg) (ts : List Nat) (g : D → Ev → Option Ev) : TG := fun v σ H Q => ∃ S G Hs ρ d ρ', RelE K S G Hs H σ ρ ∧ Rp K Hs d v ∧ g d ρ = some ρ' ∧
  ∀ σ', σ'.length = σ.length → (∀ j, j ∉ ts → σ'[j]? = σ[j]?) → RelE K S G Hs H σ' ρ' → Q σ' H
def VG (X : Cx) (tg : Expr) (ts : List Nat) (g : D → Ev → Option Ev) : Prop := PG X tg (tGt X.K ts g)
def gSet (i : Nat) : D → Ev → Option Ev := fun d ρ => some (ρ.set i (.sh d))
theorem vg_name {i : Nat} {x : Str} (h : PG X (.Name x pos) (gName i)) : VG X (.Name x pos) [i] (gSet i) := PG.imp h fun v σ H Q ⟨S, G, Hs, ρ, d, ρ', r, hd, e, q⟩ => by
  cases e
  refine q _ (by simp) (fun j hj => ?_) (r.set hd)
  rw [List.getElem?_set_ne]
  intro z
  exact hj (by simp [z])
def tGts (K : Fg) (ts : List Nat) (g : List D → Ev → Option Ev) : TGs := fun vs σ H Q => ∃ S G Hs ρ ds ρ', RelE K S G Hs H σ ρ ∧ RpL K Hs ds vs ∧ g ds ρ = some ρ' ∧
  ∀ σ', σ'.length = σ.length → (∀ j, j ∉ ts → σ'[j]? = σ[j]?) → RelE K S G Hs H σ' ρ' → Q σ' H
def VGs (X : Cx) (tg : List Expr) (ts : List Nat) (g : List D → Ev → Option Ev) : Prop := PGs X tg (tGts X.K ts g)
def gsNil : List D → Ev → Option Ev
  | [], ρ => some ρ
  | _ :: _, _ => none
def gsCons (g : D → Ev → Option Ev) (h : List D → Ev → Option Ev) : List D → Ev → Option Ev
  | [], _ => none
  | d :: ds, ρ => (g d ρ).bind (h ds)
theorem PGs.imp {tg : List Expr} {t t' : TGs} (h : PGs X tg t) (i : ∀ v σ H Q, t' v σ H Q → t v σ H Q) : PGs X tg t' := ⟨fun pins s σ H v u Q I r q => h.run pins s σ H v u Q I r (i v σ H Q q)⟩
theorem vgs_nil : VGs X [] [] gsNil := PGs.imp pgs_nil fun v σ H Q ⟨S, G, Hs, ρ, ds, ρ', r, hd, e, q⟩ => by
  cases hd with
  | nil => cases e; exact ⟨rfl, q σ rfl (fun _ _ => rfl) r⟩
  | cons _ _ => cases e
theorem vgs_cons {ts us : List Nat} {g : D → Ev → Option Ev} {k : List D → Ev → Option Ev} (h1 : VG X e ts g) (h2 : VGs X es us k)
    (hs : (assignEach (e :: es) X.env).map (·.2) = assign e X.env :: (assignEach es X.env).map (·.2) := by rfl) : VGs X (e :: es) (ts ++ us) (gsCons g k) := PGs.imp (pgs_cons h1 h2 hs) fun v σ H Q ⟨S, G, Hs, ρ, ds, ρ', r, hd, e, q⟩ => by
  cases hd with
  | nil => cases e
  | cons h r' =>
    obtain ⟨ρ1, e1, e2⟩ := Option.bind_eq_some_iff.mp e
    refine ⟨_, _, rfl, S, G, Hs, ρ, _, ρ1, r, h, e1, fun σ1 l1 f1 r1 => ?_⟩
    refine ⟨S, G, Hs, ρ1, _, ρ', r1, r', e2, fun σ2 l2 f2 r2 => q σ2 (l2.trans l1) (fun j hj => ?_) r2⟩
    rw [List.mem_append, not_or] at hj
    exact (f2 j hj.2).trans (f1 j hj.1)
def gTupD (n : Nat) (k : List D → Ev → Option Ev) : D → Ev → Option Ev := fun d ρ => match d with
  | .tuple l => if l.length = n then k l ρ else none
  | .list l => if l.length = n then k l ρ else none
  | _ => none
theorem PG.or {tg : Expr} {t t' : TG} (h : PG X tg t) (h' : PG X tg t') : PG X tg (fun v σ H Q => t v σ H Q ∨ t' v σ H Q) := ⟨fun pins s σ H v u Q I r q => q.elim (h.run pins s σ H v u Q I r) (h'.run pins s σ H v u Q I r)⟩
theorem vg_tup {k0 n : Nat} {ts : List Nat} {k : List D → Ev → Option Ev} (hc : X.calm = true) (h : VGs X es ts k)
    (hn : (assignEach es X.env).length = n := by rfl) (hst : (assignEach es X.env).findIdx? (·.1) = none := by rfl) : VG X (.Tuple es k0 pos) ts (gTupD n k) := PG.imp (PG.or (pg_tup hc h hn hst) (pg_lst hc h hn hst)) fun v σ H Q ⟨S, G, Hs, ρ, d, ρ', r, hd, e, q⟩ => by
  unfold gTupD at e
  split at e
  · split at e
    · rename_i hz
      cases hd with
      | tup h1 h2 => exact .inl ⟨_, _, rfl, SqT.mono r.sub h1, by rw [← h2.length]; exact hz, S, G, Hs, ρ, _, ρ', r, h2, e, q⟩
    · cases e
  · split at e
    · rename_i hz
      cases hd with
      | lst h1 h2 => exact .inr ⟨_, _, rfl, Same.seq r.sub h1, by rw [← h2.length]; exact hz, S, G, Hs, ρ, _, ρ', r, h2, e, q⟩
    · cases e
  · cases e
/-! ### assignments -/
def sAsg (f : Ev → R D) (g : D → Ev → Option Ev) : Ev → Out := fun ρ => liftE (f ρ) ρ fun d => match g d ρ with
  | some ρ' => .nx ρ'
  | none => .bad
theorem sim_asg {K : Fg} {mg : Str → Option Value} {ts : List Nat} {k : D → Ev → Option Ev} : ∀ D σ H, tS K mg W (sAsg f k) D σ H → tAsg (tE K mg W f) (tGt K ts k) D σ H := fun D σ H ⟨S, G, Hs, ρ, r, h⟩ => by
  refine ⟨S, G, Hs, ρ, r, (lift_post r h).imp fun d Hs' H' e q v hv => ?_⟩
  cases z : k d ρ with
  | none => rw [z] at q; exact q.elim
  | some ρ' =>
    rw [z] at q
    exact ⟨S, G, Hs', ρ, d, ρ', r.step e, hv, z, fun σ' _ _ r' => q Hs' H' σ' (.refl _) r'⟩
theorem vs_asg {tg : Expr} {ts : List Nat} {k : D → Ev → Option Ev} (he : VE X W e f) (hg : VG X tg ts k) (hs : swapsWithSole [tg] e pos.line X.env = pure false := by rfl) (hw : swappedStores [tg] e X.env = pure none := by rfl)
    (h1 : (assignEach [tg] X.env).map (·.2) = [assign tg X.env] := by rfl) : VS X W (.Assign [tg] e pos) (sAsg f k) := PS.imp (ps_asg he hg hs hw h1) sim_asg
def sSet (i : Nat) (f : Ev → R D) : Ev → Out := fun ρ => liftE (f ρ) ρ fun d => .nx (ρ.set i (.sh d))
theorem sim_set {K : Fg} {mg : Str → Option Value} {i : Nat} : ∀ D σ H, tS K mg W (sSet i f) D σ H → tAsg (tE K mg W f) (gName i) D σ H := fun D σ H ⟨S, G, Hs, ρ, r, h⟩ =>
  ⟨S, G, Hs, ρ, r, (lift_post r h).imp fun d Hs' H' e q v hv => q Hs' H' _ (.refl _) ((r.step e).set hv)⟩
def sSetO (i : Nat) (f : Ev → R (List D)) : Ev → Out := fun ρ => liftE (f ρ) ρ fun d => .nx (ρ.set i (.ow d))
theorem sim_setO {K : Fg} {mg : Str → Option Value} {i : Nat} : ∀ D σ H, tS K mg W (sSetO i fl) D σ H → tAsg (tO K mg W fl) (gName i) D σ H := fun D σ H ⟨S, G, Hs, ρ, r, h⟩ =>
  ⟨S, G, Hs, ρ, r, (lift_post r h).imp fun d Hs' H' e q p vs h0 h1 h2 h3 => q Hs' H' _ (.refl _) (r.setOw e h0 h1 h2 h3)⟩
theorem vs_set {i : Nat} {x : Str} {pos' : Pos} (hN : X.N.Nodup) (hi : X.N[i]? = some x) (hx : Loc X.env.scope x) (he : VE X W e f) (hs : swapsWith e (some (.Name x pos')) pos.line X.env = pure false := by rfl) (hf : X.fn x = true ∨ X.env.scope.names.lookup x = some .local := by first | exact .inl rfl | exact .inr rfl | assumption) :
    VS X W (.Assign [.Name x pos'] e pos) (sSet i f) := PS.imp (ps_set hN hi hx he hs hf) sim_set
theorem vs_setO {i : Nat} {x : Str} {pos' : Pos} (hN : X.N.Nodup) (hi : X.N[i]? = some x) (hx : Loc X.env.scope x) (he : VO X W e fl) (hs : swapsWith e (some (.Name x pos')) pos.line X.env = pure false := by rfl) (hf : X.fn x = true ∨ X.env.scope.names.lookup x = some .local := by first | exact .inl rfl | exact .inr rfl | assumption) :
    VS X W (.Assign [.Name x pos'] e pos) (sSetO i fl) := PS.imp (ps_set hN hi hx he hs hf) sim_setO
def sPar (i j : Nat) (fl : Ev → R (List D)) : Ev → Out := fun ρ => liftE (fl ρ) ρ fun ds => match ds with
  | [d, d'] => .nx ((ρ.set i (.sh d)).set j (.sh d'))
  | _ => .bad
theorem vs_par {i j : Nat} {x y : Str} {px py pt : Pos} {kt k2 pt2} (hc : X.calm = true) (hN : X.N.Nodup) (hi : X.N[i]? = some x) (hj : X.N[j]? = some y) (hij : i ≠ j)
    (hx : X.env.scope.names.lookup x = some .local) (hy : X.env.scope.names.lookup y = some .local) (ha : VA X W [a, b] fl)
    (hw : swappedStores [.Tuple [.Name x px, .Name y py] kt pt] (.Tuple [a, b] k2 pt2) X.env = pure (some [x, y]))
    (hs : swapsWithSole [.Tuple [.Name x px, .Name y py] kt pt] (.Tuple [a, b] k2 pt2) pos.line X.env = pure false := by rfl) :
    VS X W (.Assign [.Tuple [.Name x px, .Name y py] kt pt] (.Tuple [a, b] k2 pt2) pos) (sPar i j fl) := PS.imp (ps_par hc hN hi hj hij hx hy ha hw hs) fun D σ H ⟨S, G, Hs, ρ, r, h⟩ => by
  refine ⟨S, G, Hs, ρ, r, (lift_post r h).imp fun ds Hs' H' e q vs hv => ?_⟩
  cases hv with
  | nil => exact q.elim
  | cons h1 hv =>
    cases hv with
    | nil => exact q.elim
    | cons h2 hv =>
      cases hv with
      | cons _ _ => exact q.elim
      | nil => exact ⟨_, _, rfl, q Hs' H' _ (.refl _) (((r.step e).set h1).set h2)⟩
/-- x op= e -/
def sAug (i : Nat) (F : D → D → Option D) (f : Ev → R D) : Ev → Out := fun ρ => liftE ((eVar i ρ).bind fun x => (f ρ).bind fun y => ofO (F x y)) ρ fun d => .nx (ρ.set i (.sh d))
def DIp (X : Cx) (op : Operator) (F : D → D → Option D) : Prop := ∃ r, PIp X op r ∧ OpD X.K r F
def iaddD : D → D → Option D
  | .int i, .int j => some (.int (i + j))
  | _, _ => none
theorem dip_add : DIp X .Add iaddD := ⟨_, ip_add, fun Hs H x y u v Q d hs e hx hy k => by
  unfold iaddD at e
  split at e
  · cases e
    exact ⟨_, _, hx.int, hy.int, k _ _ _ (.refl hs) (.int _)⟩
  · cases e⟩
theorem dip_sub : DIp X .Sub subD := ⟨_, ip_sub, fun Hs H x y u v Q d hs e hx hy k => by
  unfold subD at e
  split at e
  · cases e
    exact ⟨_, _, hx.int, hy.int, k _ _ _ (.refl hs) (.int _)⟩
  · cases e⟩
theorem ip_mul : PIp X .Mult (rI CMulX fun i j => .int (i * j)) := by
  intro pins s σ H x y v u Q I r1 r2 h
  obtain ⟨i, j, e1, e2, hc, q⟩ := h
  subst e1; subst e2
  obtain ⟨t, rfl⟩ := r1
  obtain ⟨t', rfl⟩ := r2
  exact imul_int ⟨.int _, H, I.tok _, ⟨_, rfl⟩, q⟩ (CMulX.ok hc)
def imulD : D → D → Option D
  | .int i, .int j => if okMul i j then some (.int (i * j)) else none
  | _, _ => none
theorem dip_mul : DIp X .Mult imulD := ⟨_, ip_mul, fun Hs H x y u v Q d hs e hx hy k => by
  unfold imulD at e
  split at e
  · split at e
    · rename_i hz
      cases e
      unfold okMul at hz
      have hz' := of_decide_eq_true hz
      exact ⟨_, _, hx.int, hy.int, hz', k _ _ _ (.refl hs) (.int _)⟩
    · cases e
  · cases e⟩
theorem vs_aug {i : Nat} {x : Str} {op : Operator} {F : D → D → Option D} {pos' : Pos} (hN : X.N.Nodup) (hi : X.N[i]? = some x) (hx : Loc X.env.scope x) (he : VP X W e f) (ho : DIp X op F) (hf : X.fn x = true ∨ X.env.scope.names.lookup x = some .local := by first | exact .inl rfl | exact .inr rfl | assumption) :
    VS X W (.AugAssign (.Name x pos') op e pos) (sAug i F f) := by
  obtain ⟨ti, h1, h2⟩ := ho
  refine PS.imp (ps_aug hN hi hx he h1 hf) fun D σ H ⟨S, G, Hs, ρ, r, h⟩ => ?_
  have p := lift_post r h
  unfold eVar at p
  cases q : ρ[i]? with
  | none => rw [q] at p; exact p.elim
  | some s =>
    rw [q] at p
    cases s with
    | no => exact p.elim
    | ow l => exact p.elim
    | bo l => exact p.elim
    | sh d =>
      obtain ⟨v, e1, e2⟩ := r.get q
      refine ⟨v, e1, S, G, Hs, ρ, r, (Post.bind (show Post X.K X.mg W Hs H σ ((f ρ).bind fun y => ofO (F d y)) _ from p)).imp fun y Hs1 H1 e q w hw => ?_⟩
      cases z : F d y with
      | none => rw [z] at q; exact q.elim
      | some d' =>
        rw [z] at q
        refine h2 Hs1 H1 d y v w _ d' e.sub z (.inl (e2.mono e.grow)) hw fun Hs' H' z e' hz => ?_
        exact q Hs' H' e' Hs' H' _ (.refl _) (((r.step e).step e').set hz)
/-- x.append(e), x a list of one's own -/
def onOw (i : Nat) (ρ : Ev) (k : List D → Out) : Out := match ρ[i]? with
  | some (.ow l) => k l
  | _ => .bad
theorem on_own {K : Fg} {mg : Str → Option Value} {S Hs : Hp} {G : Gx} {En : Ends} {i : Nat} {ρ : Ev} {k : List D → Out} (h : OutOk K mg W S G Hs En (onOw i ρ k)) : ∃ l, ρ[i]? = some (.ow l) ∧ OutOk K mg W S G Hs En (k l) := by
  unfold onOw at h
  split at h
  · exact ⟨_, by assumption, h⟩
  · exact h.elim
def sApp (i : Nat) (f : Ev → R D) : Ev → Out := fun ρ => onOw i ρ fun l => liftE (f ρ) ρ fun d => if l.length < sizeLine then .nx (ρ.set i (.ow (l ++ [d]))) else .bad
theorem vs_app (i : Nat) {x : Str} {p apos cpos : Pos} (ho : PE X (.Name x p) (tVar i)) (he : VE X W e f)
    (hbase : attributeBase (.Name x p) "append" X.env (eval (.Name x p) X.env) = eval (.Name x p) X.env := by rfl)
    (hfew : ((backTo cpos (starEach [e] X.env)).all (fun x => !x.1) && (backToKw cpos (keywordEach [] X.env)).all (fun x => x.1.isSome)
      && decide ([e].length + ([] : List Keyword).length + (if ([] : List Keyword).isEmpty then 0 else 1) < 30)) = true := by rfl)
    (hline : (apos.endLine == cpos.line) = true := by rfl) (hs : starEach [e] X.env = (false, eval e X.env) :: starEach [] X.env := by rfl) (hplain : (backTo cpos (starEach [] X.env)).any (·.1) = false := by rfl)
    (hsw : swapsWith (.Call (.Attribute (.Name x p) "append" apos) [e] [] cpos) none pos.line X.env = pure false := by rfl) :
    VS X W (.Expr (.Call (.Attribute (.Name x p) "append" apos) [e] [] cpos) pos) (sApp i f) := by
  refine PS.imp (ps_expr (pe_bm PySem.F.plainAttrs_list PySem.F.slot_list_append PySem.F.type_list_append mt_append ho (pa_cons he pa_nil hs) hbase hfew hline hs hplain) hsw) fun D σ H ⟨S, G, Hs, ρ, r, h⟩ => ?_
  obtain ⟨l, hl, h⟩ := on_own h
  obtain ⟨a, vs, o1, o2, o3, o4, o5⟩ := r.own hl
  refine ⟨_, o1, .inl ⟨rfl, vs, .inl (.inl o4)⟩, S, G, Hs, ρ, r, (lift_post r h).imp fun d Hs' H' e q v hv => ?_⟩
  split at q
  · rename_i hz
    have r' := r.step e
    refine ⟨a, vs, v, rfl, rfl, e.same _ _ o4, by rw [← o5.length]; exact hz, ?_⟩
    exact q Hs' _ σ (.refl _) (r'.wr hl o1 ((o5.mono e.grow).append (.cons hv .nil)))
  · exact q.elim
/-- x.extend(e) -/
theorem list_extendW (l : Addr) (items : Array Value) (n : Nat) (b : Addr) (items2 : Array Value) (n2 : Nat) (sl2 : Array (Option Value)) (hc0 : ¬(!items.isEmpty && Builtin.List.listTooLong (items.size + items2.size)) = true) (hc1 : items.size ≤ sizeLine) (hs2 : items.size + items2.size ≤ sizeLine + 1) :
    Meets (Builtin.«list.extend» ⟨[.ref l, .ref b], []⟩) (fun _ R s => s.heap.get? l = some { cls := .type "list", dict := none, data := .seq items n, slots := #[] } ∧ s.heap.get? b = some { cls := .type "list", dict := none, data := .seq items2 n2, slots := sl2 } ∧ R (.ok (.ret Value.none)) { s with heap := s.heap.update l (Obj.mapSeq fun x => x ++ items2), toks := s.toks }) :=
  .of_wp fun prog w A R s h => by
    obtain ⟨hp, g, d, tk, os⟩ := s; obtain ⟨hl, hb, h⟩ := h; have f1 := AutoSeq1.idx_int; have f2 := AutoSeq1.sub_tuple_tuple; have f3 := AutoSeq1.sub_list_list; have f4 := AutoSeq1.sub_tuple_list; have f5 := AutoSeq1.sub_list_tuple;
    have hz' : (items ++ items2).size ≤ sizeLine + 1 := by rw [Array.size_append]; exact hs2
    wp_walk using (wpAny_updateSeq hl rfl (hz := hc1) (_hz' := hz')), AutoSeq1.wpAny_loadPart' hl, AutoSeq1.wpAny_loadPart' hb; exact ⟨_, rfl, h⟩
def rExtendR (K : Fg) : V → List V → Hp → VK → Prop := fun x vs H Q => ∃ l b xs zs, x = .ref l ∧ vs = [.ref b] ∧ H l = some (.lst xs) ∧ SqL K H b zs ∧ xs.length + zs.length ≤ sizeLine ∧ Q .non (upd H l (.lst (xs ++ zs)))
theorem mt_extendR : MtR X "list.extend" (rExtendR X.K) := by
  intro pins s σ H x vs v us Q I rx rv h
  obtain ⟨l, b, xs, zs, rfl, rfl, hH, hB, hz, q⟩ := h
  cases rx
  obtain ⟨u, rfl, ru⟩ := rv.one
  cases ru
  obtain ⟨z, its, n, r, hl, e⟩ := I.lstM hH
  obtain ⟨z2, its2, n2, sl2, r2, hl2, e2⟩ := rd_obj I hB
  have hsz : its.toArray.size + its2.toArray.size ≤ sizeLine := by rw [List.size_toArray, List.size_toArray]; omega
  have hlong : ¬ (!its.toArray.isEmpty && Builtin.List.listTooLong (its.toArray.size + its2.toArray.size)) = true := by
    rw [notLongL hsz, Bool.and_false]
    exact Bool.false_ne_true
  refine call_meets F.slot_list_extend ⟨_, e, rfl⟩ F.entry_list_extend (F.args_list_extend_2 _ _)
    (list_extendW l its.toArray n b its2.toArray n2 sl2 hlong (by rw [List.size_toArray]; omega) (by omega)) ⟨e, e2, ?_⟩
  refine ⟨.non, _, I.lset (its' := its ++ its2) hH e (by simp) (r.append r2) ?_, rfl, q⟩
  rw [List.length_append]
  omega
def sExt (i : Nat) (f : Ev → R D) : Ev → Out := fun ρ => onOw i ρ fun l => liftE (f ρ) ρ fun d => match d with
  | .list l' => if l.length + l'.length ≤ sizeLine then .nx (ρ.set i (.ow (l ++ l'))) else .bad
  | _ => .bad
theorem vs_ext (i : Nat) {x : Str} {p apos cpos : Pos} (ho : PE X (.Name x p) (tVar i)) (he : VP X W e f)
    (hbase : attributeBase (.Name x p) "extend" X.env (eval (.Name x p) X.env) = eval (.Name x p) X.env := by rfl)
    (hfew : ((backTo cpos (starEach [e] X.env)).all (fun x => !x.1) && (backToKw cpos (keywordEach [] X.env)).all (fun x => x.1.isSome)
      && decide ([e].length + ([] : List Keyword).length + (if ([] : List Keyword).isEmpty then 0 else 1) < 30)) = true := by rfl)
    (hline : (apos.endLine == cpos.line) = true := by rfl) (hs : starEach [e] X.env = (false, eval e X.env) :: starEach [] X.env := by rfl) (hplain : (backTo cpos (starEach [] X.env)).any (·.1) = false := by rfl)
    (hsw : swapsWith (.Call (.Attribute (.Name x p) "extend" apos) [e] [] cpos) none pos.line X.env = pure false := by rfl) :
    VS X W (.Expr (.Call (.Attribute (.Name x p) "extend" apos) [e] [] cpos) pos) (sExt i f) := by
  refine PS.imp (ps_expr (pe_bm PySem.F.plainAttrs_list PySem.F.slot_list_extend PySem.F.type_list_extend mt_extendR ho (pa_cons he pa_nil hs) hbase hfew hline hs hplain) hsw) fun D σ H ⟨S, G, Hs, ρ, r, h⟩ => ?_
  obtain ⟨l, hl, h⟩ := on_own h
  obtain ⟨a, vs, o1, o2, o3, o4, o5⟩ := r.own hl
  refine ⟨_, o1, .inl ⟨rfl, vs, .inl (.inl o4)⟩, S, G, Hs, ρ, r, (lift_post r h).imp fun d Hs' H' e q v hv => ?_⟩
  split at q
  · split at q
    · rename_i hz
      have r' := r.step e
      obtain ⟨b, xs, rfl, h1, h2⟩ := hv.list e.sub
      refine ⟨a, b, vs, xs, rfl, rfl, e.same _ _ o4, h1, by rw [← o5.length, ← h2.length]; exact hz, ?_⟩
      exact q Hs' _ σ (.refl _) (r'.wr hl o1 ((o5.mono e.grow).append h2))
    · exact q.elim
  · exact q.elim
/-- x[e] = v -/
def sStore (i : Nat) (fi fv : Ev → R D) : Ev → Out := fun ρ => onOw i ρ fun l => liftE ((fv ρ).bind fun d => (fi ρ).bind fun k => .ok (d, k)) ρ fun (d, k) => match k with
  | .int z => match ixN l.length z with
    | some j => .nx (ρ.set i (.ow (l.set j d)))
    | none => .bad
  | _ => .bad
theorem vs_store (i : Nat) {x : Str} {p spos : Pos} (ho : PE X (.Name x p) (tVar i)) (hi : VE X W a g) (he : VE X W e f)
    (hs : swapsWithSole [.Subscript (.Name x p) a spos] e pos.line X.env = pure false := by rfl) (hw : swappedStores [.Subscript (.Name x p) a spos] e X.env = pure none := by rfl)
    (h1 : (assignEach [.Subscript (.Name x p) a spos] X.env).map (·.2) = [assign (.Subscript (.Name x p) a spos) X.env] := by rfl)
    (ha : ∀ v, assign (.Subscript (.Name x p) a spos) X.env v = (do
      let ov ← holding [v] (eval (.Name x p) X.env)
      let iv ← holding [v, ov] (eval a X.env)
      standAt spos
      holding [v, ov, iv] (setItem ov iv v)
      release [v, ov, iv] []) := by intro _; rfl) : VS X W (.Assign [.Subscript (.Name x p) a spos] e pos) (sStore i g f) := by
  refine PS.imp (ps_asg he (pg_sub ho hi set_list ha) hs hw h1) fun D σ H ⟨S, G, Hs, ρ, r, h⟩ => ?_
  obtain ⟨l, hl, h⟩ := on_own h
  obtain ⟨b, vs, o1, o2, o3, o4, o5⟩ := r.own hl
  refine ⟨S, G, Hs, ρ, r, (Post.bind (lift_post r h)).imp fun d Hs' H' e q v hv => ?_⟩
  refine ⟨_, o1, S, G, Hs', ρ, r.step e, (Post.bind q).imp fun k Hs2 H2 e2 q2 w hw => ?_⟩
  have q3 := q2.now e2.sub
  cases k with
  | int z =>
    cases hw
    cases y : ixN l.length z with
    | none => simp only [y] at q3; exact q3.elim
    | some j =>
      simp only [y] at q3
      refine ⟨b, vs, z, j, rfl, rfl, e2.same _ _ (e.same _ _ o4), by rw [← o5.length]; exact y, ?_⟩
      exact q3 Hs2 _ σ (.refl _) (((r.step e).step e2).wr hl o1 (((o5.mono e.grow).mono e2.grow).set (hv.mono e2.grow) j))
  | none => exact q3.elim
  | bool _ => exact q3.elim
  | str _ => exact q3.elim
  | list _ => exact q3.elim
  | tuple _ => exact q3.elim
  | dict _ => exact q3.elim
/-- x[e] += v -/
def rGetL : V → V → Hp → VK → Prop := fun o i H Q => ∃ p xs k v, o = .ref p ∧ i = .int k ∧ H p = some (.lst xs) ∧ 0 ≤ k ∧ k < 2 ^ 63 ∧ xs[k.toNat]? = some v ∧ Q v H
theorem get_list : PGet X rGetL := by
  intro pins s σ H o i ov iv Q I ro ri h
  obtain ⟨p, xs, k, v, rfl, rfl, hp, h0, h1, h2, q⟩ := h
  cases ro
  obtain ⟨t, rfl⟩ := ri
  obtain ⟨its, r, pl, hz⟩ := I.list (.inl (.inl hp))
  obtain ⟨u, e1, e2⟩ := r.get h2
  exact wpAny_getItem_list pl.isList h0 h1 (by simpa using e1) ⟨v, H, I, e2, q⟩
def placeD (l : List D) : D → Option (Nat × D)
  | .int z => if 0 ≤ z ∧ z < 2 ^ 63 then (l[z.toNat]?).map fun y => (z.toNat, y) else none
  | _ => none
def sAugIx (i : Nat) (F : D → D → Option D) (fi fv : Ev → R D) : Ev → Out := fun ρ => onOw i ρ fun l => liftE ((fi ρ).bind fun k => ofO (placeD l k)) ρ fun jy => liftE ((fv ρ).bind fun d => ofO (F jy.2 d)) ρ fun d => .nx (ρ.set i (.ow (l.set jy.1 d)))
theorem vs_augIx (i : Nat) {x : Str} {op : Operator} {F : D → D → Option D} {p spos : Pos} (ho : PE X (.Name x p) (tVar i)) (hi : VE X W a g) (he : VE X W e f) (hop : DIp X op F)
    (ha : ∀ ov iv new, augStore a ov iv new = (do holding [new, ov, iv] (setItem ov iv new); release [new, ov, iv] []; pure .next) := by intros; rfl) : VS X W (.AugAssign (.Subscript (.Name x p) a spos) op e pos) (sAugIx i F g f) := by
  obtain ⟨ti, i1, i2⟩ := hop
  refine PS.imp (ps_augS ho hi get_list he i1 set_list ha) fun D σ H ⟨S, G, Hs, ρ, r, h⟩ => ?_
  obtain ⟨l, hl, h⟩ := on_own h
  obtain ⟨b, vs, o1, o2, o3, o4, o5⟩ := r.own hl
  refine ⟨_, o1, S, G, Hs, ρ, r, (Post.bind (lift_post r h)).imp fun k Hs1 H1 e1 q w hw => ?_⟩
  cases z : placeD l k with
  | none => rw [z] at q; exact q.elim
  | some jy =>
    rw [z] at q
    have q1 := q.now e1.sub
    unfold placeD at z
    split at z
    · rename_i z0
      split at z
      · rename_i hz
        obtain ⟨y, y1, rfl⟩ := Option.map_eq_some_iff.mp z
        cases hw
        obtain ⟨v, v1, v2⟩ := o5.get y1
        refine ⟨b, vs, _, v, rfl, rfl, e1.same _ _ o4, hz.1, hz.2, v1, ?_⟩
        refine ⟨S, G, Hs1, ρ, r.step e1, (Post.bind (lift_post (r.step e1) q1)).imp fun d Hs2 H2 e2 q2 u hu => ?_⟩
        cases z2 : F y d with
        | none => simp only [z2] at q2; exact q2.elim
        | some d' =>
          simp only [z2] at q2
          refine i2 Hs2 H2 y d v u _ d' e2.sub z2 (.inl ((v2.mono e1.grow).mono e2.grow)) (.inl hu) fun Hs3 H3 w3 e3 hw3 => ?_
          have q3 := q2 Hs3 H3 e3
          have r3 := ((r.step e1).step e2).step e3
          have lt : z0.toNat < l.length := (List.getElem?_eq_some_iff.mp y1).1
          refine ⟨b, vs, z0, z0.toNat, rfl, rfl, e3.same _ _ (e2.same _ _ (e1.same _ _ o4)), ?_, ?_⟩
          · unfold ixN
            rw [if_pos hz.1, if_pos]
            have := o5.length
            omega
          · exact q3 Hs3 _ σ (.refl _) (r3.wr hl o1 ((((o5.mono e1.grow).mono e2.grow).mono e3.grow).set hw3 _))
      · cases z
    · cases z
/-- x = y.pop() -/
def sPop (i j : Nat) : Ev → Out := fun ρ => onOw j ρ fun l => match l.getLast? with
  | some d => .nx ((ρ.set j (.ow l.dropLast)).set i (.sh d))
  | none => .bad
def sAsgPop (j : Nat) (g : D → Ev → Option Ev) : Ev → Out := fun ρ => onOw j ρ fun l => match l.getLast? with
  | some d => match g d (ρ.set j (.ow l.dropLast)) with
    | some ρ' => .nx ρ'
    | none => .bad
  | none => .bad
theorem pop_at {K : Fg} {H : Hp} {l : List VL.D} {vs : List V} {d : VL.D} (r : RpL K H l vs) (e : l.getLast? = some d) : ∃ v, vs[vs.length - 1]? = some v ∧ Rp K H d v := by
  rw [List.getLast?_eq_getElem?] at e
  rw [← r.length]
  exact r.get e
theorem vs_asgPop (j : Nat) {tg : Expr} {x : Str} {p apos cpos : Pos} {ts : List Nat} {k : VL.D → Ev → Option Ev} (ho : PE X (.Name x p) (tVar j)) (hg : VG X tg ts k)
    (hbase : attributeBase (.Name x p) "pop" X.env (eval (.Name x p) X.env) = eval (.Name x p) X.env := by rfl) (hline : (apos.endLine == cpos.line) = true := by rfl)
    (hs : swapsWithSole [tg] (.Call (.Attribute (.Name x p) "pop" apos) [] [] cpos) pos.line X.env = pure false := by rfl) (hw : swappedStores [tg] (.Call (.Attribute (.Name x p) "pop" apos) [] [] cpos) X.env = pure none := by rfl)
    (h1 : (assignEach [tg] X.env).map (·.2) = [assign tg X.env] := by rfl) : VS X W (.Assign [tg] (.Call (.Attribute (.Name x p) "pop" apos) [] [] cpos) pos) (sAsgPop j k) := by
  refine PS.imp (ps_asg (pe_bm0 PySem.F.plainAttrs_list PySem.F.slot_list_pop PySem.F.type_list_pop mt_pop ho hbase hline) hg hs hw h1) fun D σ H ⟨S, G, Hs, ρ, r, h⟩ => ?_
  obtain ⟨l, hl, h⟩ := on_own h
  obtain ⟨b, vs, o1, o2, o3, o4, o5⟩ := r.own hl
  cases z : l.getLast? with
  | none => rw [z] at h; exact h.elim
  | some d =>
    rw [z] at h
    obtain ⟨v, v1, v2⟩ := pop_at o5 z
    refine ⟨_, o1, .inl ⟨rfl, vs, .inl (.inl o4)⟩, b, vs, v, rfl, rfl, o4, v1, ?_⟩
    cases z2 : k d (ρ.set j (.ow l.dropLast)) with
    | none => simp only [z2] at h; exact h.elim
    | some ρ' =>
      simp only [z2] at h
      exact ⟨S, G, Hs, _, d, ρ', r.wr hl o1 o5.dropLast, v2, z2, fun σ' _ _ r' => h Hs _ σ' (.refl _) r'⟩
theorem vs_setPop (i j : Nat) {y x : Str} {p py apos cpos : Pos} (hN : X.N.Nodup) (hi : X.N[i]? = some y) (hx : Loc X.env.scope y) (ho : PE X (.Name x p) (tVar j))
    (hbase : attributeBase (.Name x p) "pop" X.env (eval (.Name x p) X.env) = eval (.Name x p) X.env := by rfl) (hline : (apos.endLine == cpos.line) = true := by rfl)
    (hs : swapsWith (.Call (.Attribute (.Name x p) "pop" apos) [] [] cpos) (some (.Name y py)) pos.line X.env = pure false := by rfl) (hf : X.fn y = true ∨ X.env.scope.names.lookup y = some .local := by first | exact .inl rfl | exact .inr rfl | assumption) :
    VS X W (.Assign [.Name y py] (.Call (.Attribute (.Name x p) "pop" apos) [] [] cpos) pos) (sPop i j) := by
  refine PS.imp (ps_set hN hi hx (pe_bm0 PySem.F.plainAttrs_list PySem.F.slot_list_pop PySem.F.type_list_pop mt_pop ho hbase hline) hs hf) fun D σ H ⟨S, G, Hs, ρ, r, h⟩ => ?_
  obtain ⟨l, hl, h⟩ := on_own h
  obtain ⟨b, vs, o1, o2, o3, o4, o5⟩ := r.own hl
  cases z : l.getLast? with
  | none => rw [z] at h; exact h.elim
  | some d =>
    rw [z] at h
    obtain ⟨v, v1, v2⟩ := pop_at o5 z
    exact ⟨_, o1, .inl ⟨rfl, vs, .inl (.inl o4)⟩, b, vs, v, rfl, rfl, o4, v1, h Hs _ _ (.refl _) ((r.wr hl o1 o5.dropLast).set v2)⟩
end
end VL

set_option Elab.async false
set_option linter.all false
set_option maxRecDepth 100000
set_option autoImplicit false
namespace VL
open PySem PySem.Spec PyProof.Rows L2

/-! ### what is walked -/
def ItD (K : Fg) (J : It) (Hs : Hp) (l : List D) : Prop := ∀ (i : Nat) (Hs' H' : Hp), Same Hs Hs' → Same Hs' H' →
  (∀ d, l[i]? = some d → J.go i H' ∧ ∀ x H'', J.yld i H' x H'' → ∃ Hs'', Ext Hs' H' Hs'' H'' ∧ Rp K Hs'' d x) ∧ (l.length ≤ i → J.stop i H')
def tIt (K : Fg) (mg : Str → Option Value) (W : WX) (f : Ev → R (List D)) : TI := fun σ H Rr => ∃ S G Hs ρ, RelE K S G Hs H σ ρ ∧ Post K mg W Hs H σ (f ρ) (fun l Hs' H' => ∀ J, ItD K J Hs' l → Rr J H')
def VI (X : Cx) (W : WX) (tg iter : Expr) (f : Ev → R (List D)) : Prop := PI X tg iter (tIt X.K X.mg W f)
def seqD : D → Option (List D)
  | .list l => some l
  | .tuple l => some l
  | .str z => some (z.cps.toList.map fun c => .str ⟨#[c]⟩)
  | _ => none
theorem it_list {K : Fg} {Hs : Hp} {a : Addr} {xs : List V} {l : List D} (h : SqL K Hs a xs) (r : RpL K Hs l xs) : ItD K (Itl K a) Hs l := fun i Hs' H' g s => by
  have h' : SqL K H' a xs := Same.seq s (Same.seq g h)
  refine ⟨fun d e => ?_, fun hl => ⟨xs, h', by rw [← r.length]; exact hl⟩⟩
  obtain ⟨v, v1, v2⟩ := r.get e
  refine ⟨⟨xs, v, h', v1⟩, fun x H'' y => ?_⟩
  obtain ⟨rfl, y⟩ := y
  have := y xs h'
  rw [v1] at this
  cases this
  exact ⟨Hs', .refl s, v2.mono g⟩
section
variable {X : Cx} {W : WX} {tg e : Expr} {pos : Pos}
/-- a list, a tuple or a text, walked -/
def iSeq (K : Fg) (tl : TE) : TI := fun σ H Rr => tl σ H fun x H1 => (∃ a, x = .ref a ∧ (∃ xs, SqL K H1 a xs) ∧ Rr (Itl K a) H1) ∨ (∃ a, x = .ref a ∧ (∃ xs, SqT K H1 a xs) ∧ Rr (Itt K a) H1) ∨ (∃ z, x = .str z ∧ Rr (Its z) H1)
theorem pi_seq {tl : TE} (hl : PE X e tl) : PI X tg e (iSeq X.K tl) := by
  refine ⟨fun pins s σ H R I h => ?_⟩
  -- the three rules, by the value that comes
  have k1 : ∀ (a : Addr) (s1 : Shared) (H1 : Hp), Inv X pins σ H1 s1 → (∃ xs, SqL X.K H1 a xs) → R (Itl X.K a) H1 → wpAny (model X.prog X.w) X.A (pyIter (.ref a)) (PIE X pins σ tg R) X.xe s1 := fun a s1 H1 I1 ⟨xs, hq⟩ q => by
    obtain ⟨its, rv, p, hz⟩ := I1.list hq
    refine wpAny_pyIter_list p.isList ?_
    refine ⟨s1.heap.objs.size, [s1.heap.objs.size], _, _, H1, rfl, I1.kept (t' := s1.toks) fun b o e => Heap.get?_push_of_some _ e, turn_list a _, ⟨_, Heap.get?_push_size _ rfl, rfl, rfl⟩, fun b hb => ?_, q⟩
    have e : b = s1.heap.objs.size := by simpa using hb
    subst e
    exact I1.fpOk (Nat.le_refl _) (I1.hok.fresh (Nat.le_refl _))
  have k2 : ∀ (a : Addr) (s1 : Shared) (H1 : Hp), Inv X pins σ H1 s1 → (∃ xs, SqT X.K H1 a xs) → R (Itt X.K a) H1 → wpAny (model X.prog X.w) X.A (pyIter (.ref a)) (PIE X pins σ tg R) X.xe s1 := fun a s1 H1 I1 ⟨xs, hq⟩ q => by
    obtain ⟨its, rv, p, hz⟩ := I1.tuple hq
    refine wpAny_pyIter_tuple (show s1.heap.IsTuple a its.toArray from p) ?_
    refine ⟨s1.heap.objs.size, [s1.heap.objs.size], _, _, H1, rfl, I1.kept (t' := s1.toks) fun b o e => Heap.get?_push_of_some _ e, turn_tuple a _, ⟨_, Heap.get?_push_size _ rfl, rfl, rfl⟩, fun b hb => ?_, q⟩
    have e : b = s1.heap.objs.size := by simpa using hb
    subst e
    exact I1.fpOk (Nat.le_refl _) (I1.hok.fresh (Nat.le_refl _))
  refine thn (hl.run pins s σ H _ I h) fun v s1 ⟨x, H1, I1, r1, q1⟩ => ?_
  rcases q1 with ⟨a, ex, hx, q⟩ | ⟨a, ex, hx, q⟩ | ⟨z, ex, q⟩
  · subst ex; cases r1; exact k1 a s1 H1 I1 hx q
  · subst ex; cases r1; exact k2 a s1 H1 I1 hx q
  · subst ex
    obtain ⟨t, rfl⟩ := r1
    cases ha : z.cps.all (· < 128)
    · exact wpAny_pyIter_wide ha (pi_one (tk := s1.toks) I1 _ (turn_str _ z t "str_iterator" (.inr rfl)) ⟨_, Heap.get?_push_size _ rfl, rfl, rfl⟩ q)
    · exact wpAny_pyIter_ascii ha (pi_one (tk := s1.toks) I1 _ (turn_str _ z t "str_ascii_iterator" (.inl rfl)) ⟨_, Heap.get?_push_size _ rfl, rfl, rfl⟩ q)
end
theorem it_tup {K : Fg} {Hs : Hp} {a : Addr} {xs : List V} {l : List D} (h : SqT K Hs a xs) (r : RpL K Hs l xs) : ItD K (Itt K a) Hs l := fun i Hs' H' g s => by
  have h' : SqT K H' a xs := SqT.mono s (SqT.mono g h)
  refine ⟨fun d e => ?_, fun hl => ⟨xs, h', by rw [← r.length]; exact hl⟩⟩
  obtain ⟨v, v1, v2⟩ := r.get e
  refine ⟨⟨xs, v, h', v1⟩, fun x H'' y => ?_⟩
  obtain ⟨rfl, y⟩ := y
  have := y xs h'
  rw [v1] at this
  cases this
  exact ⟨Hs', .refl s, v2.mono g⟩
theorem it_str {K : Fg} {Hs : Hp} (z : Str) : ItD K (Its z) Hs (z.cps.toList.map fun c => .str ⟨#[c]⟩) := fun i Hs' H' g s => by
  refine ⟨fun d e => ?_, fun hl => by rw [List.length_map, Array.length_toList] at hl; exact hl⟩
  rw [List.getElem?_map] at e
  obtain ⟨c, e1, rfl⟩ := Option.map_eq_some_iff.mp e
  have e2 : z.cps[i]? = some c := by rw [← Array.getElem?_toList]; exact e1
  refine ⟨(Array.getElem?_eq_some_iff.mp e2).1, fun x H'' y => ?_⟩
  obtain ⟨rfl, c', e3, rfl⟩ := y
  rw [e2] at e3
  cases e3
  exact ⟨Hs', .refl s, .str _⟩
/-- lo, lo + c, .. (n of them) -/
def rngL (lo c : Int) (n : Nat) : List D := (List.range n).map fun i => .int (lo + (i : Nat) * c)
theorem rngL_length (lo c : Int) (n : Nat) : (rngL lo c n).length = n := by simp [rngL]
theorem rngL_get {lo c : Int} {n i : Nat} {d : D} (h : (rngL lo c n)[i]? = some d) : i < n ∧ d = .int (lo + (i : Nat) * c) := by
  unfold rngL at h
  rw [List.getElem?_map] at h
  obtain ⟨j, e1, rfl⟩ := Option.map_eq_some_iff.mp h
  obtain ⟨h1, h2⟩ := List.getElem?_eq_some_iff.mp e1
  rw [List.getElem_range] at h2
  subst h2
  exact ⟨by simpa using h1, rfl⟩
theorem it_rng {K : Fg} {Hs : Hp} {lo : Int} {n : Nat} : ItD K (Itr lo n) Hs (rngL lo 1 n) := fun i Hs' H' g s => by
  refine ⟨fun d e => ?_, fun hl => by rw [rngL_length] at hl; exact hl⟩
  obtain ⟨h1, rfl⟩ := rngL_get e
  refine ⟨h1, fun x H'' y => ?_⟩
  obtain ⟨rfl, rfl⟩ := y
  rw [Int.mul_one]
  exact ⟨Hs', .refl s, .int _⟩
theorem it_rngC {K : Fg} {Hs : Hp} {lo c : Int} {n : Nat} : ItD K (Itc lo c n) Hs (rngL lo c n) := fun i Hs' H' g s => by
  refine ⟨fun d e => ?_, fun hl => by rw [rngL_length] at hl; exact hl⟩
  obtain ⟨h1, rfl⟩ := rngL_get e
  refine ⟨h1, fun x H'' y => ?_⟩
  obtain ⟨rfl, rfl⟩ := y
  exact ⟨Hs', .refl s, .int _⟩
def in62 (i : Int) : Bool := decide (-(2 ^ 62) ≤ i ∧ i < 2 ^ 62)
def range1D : List D → Option (List D)
  | [.int j] => if in62 j then some (rngL 0 1 j.toNat) else none
  | _ => none
def range2D : List D → Option (List D)
  | [.int i, .int j] => if in62 i && in62 j then some (rngL i 1 (j - i).toNat) else none
  | _ => none
def range3D : List D → Option (List D)
  | [.int i, .int j, .int c] => if decide (c ≠ 0) && decide (c.natAbs < 1073741824) && Builtin.Range.small i j c && decide (Builtin.Range.rangeSize i j c = ((Builtin.Range.rangeSize i j c).toNat : Int)) then some (rngL i c (Builtin.Range.rangeSize i j c).toNat) else none
  | _ => none
theorem PkL.three {K : Fg} {Hs H : Hp} {d e f : D} {vs : List V} (h : PkL K Hs H [d, e, f] vs) : ∃ v w u, vs = [v, w, u] ∧ Pk K Hs H d v ∧ Pk K Hs H e w ∧ Pk K Hs H f u := by
  cases vs with
  | nil => exact h.elim
  | cons v r =>
    cases r with
    | nil => exact h.2.elim
    | cons w r =>
      cases r with
      | nil => exact h.2.2.elim
      | cons u r =>
        cases r with
        | nil => exact ⟨v, w, u, rfl, h.1, h.2.1, h.2.2.1⟩
        | cons _ r => exact h.2.2.2.elim
section
variable {X : Cx} {W : WX} {tg e a b c : Expr} {pos p : Pos} {f : Ev → R D} {fl : Ev → R (List D)}
theorem vi_seq (h : VE X W e f) : VI X W tg e (e1 seqD f) := PI.imp (pi_seq h) fun σ H Rr ⟨S, G, Hs, ρ, r, p⟩ => by
  refine ⟨S, G, Hs, ρ, r, (Post.bind p).imp fun d Hs1 H1 e q v hv => ?_⟩
  cases z : seqD d with
  | none => rw [z] at q; exact q.elim
  | some l =>
    rw [z] at q
    have q' := q.now e.sub
    unfold seqD at z
    split at z
    · cases z
      cases hv with
      | lst h1 h2 => exact .inl ⟨_, rfl, ⟨_, Same.seq e.sub h1⟩, q' _ (it_list h1 h2)⟩
    · cases z
      cases hv with
      | tup h1 h2 => exact .inr (.inl ⟨_, rfl, ⟨_, SqT.mono e.sub h1⟩, q' _ (it_tup h1 h2)⟩)
    · cases z
      cases hv
      exact .inr (.inr ⟨_, rfl, q' _ (it_str _)⟩)
    · cases z
theorem vi_range1 (hg : Gl X "range") (hm : X.mg "range" = none) (ha : VAp X W [a] fl) (hs : starEach [a] X.env = [(false, eval a X.env)] := by rfl) : VI X W tg (.Call (.Name "range" p) [a] [] pos) (e1 range1D fl) := PI.imp (pi_range1 hg hm ha hs) fun σ H Rr ⟨S, G, Hs, ρ, r, p⟩ => by
  refine ⟨S, G, Hs, ρ, r, (Post.bind p).imp fun ds Hs1 H1 e q vs hv => ?_⟩
  cases z : range1D ds with
  | none => rw [z] at q; exact q.elim
  | some l =>
    rw [z] at q
    have q' := q.now e.sub
    unfold range1D at z
    split at z
    · split at z
      · rename_i hz
        cases z
        unfold in62 at hz
        have hz' := of_decide_eq_true hz
        obtain ⟨v, rfl, h⟩ := hv.one
        exact ⟨_, by rw [h.int], hz'.1, hz'.2, q' _ it_rng⟩
      · cases z
    · cases z
theorem vi_range2 (hg : Gl X "range") (hm : X.mg "range" = none) (ha : VAp X W [a, b] fl) (hs : starEach [a, b] X.env = [(false, eval a X.env), (false, eval b X.env)] := by rfl) (hs2 : starEach [b] X.env = [(false, eval b X.env)] := by rfl) : VI X W tg (.Call (.Name "range" p) [a, b] [] pos) (e1 range2D fl) := PI.imp (pi_range2 hg hm ha hs hs2) fun σ H Rr ⟨S, G, Hs, ρ, r, p⟩ => by
  refine ⟨S, G, Hs, ρ, r, (Post.bind p).imp fun ds Hs1 H1 e q vs hv => ?_⟩
  cases z : range2D ds with
  | none => rw [z] at q; exact q.elim
  | some l =>
    rw [z] at q
    have q' := q.now e.sub
    unfold range2D at z
    split at z
    · split at z
      · rename_i hz
        cases z
        unfold in62 at hz
        rw [Bool.and_eq_true] at hz
        have hz1 := of_decide_eq_true hz.1
        have hz2 := of_decide_eq_true hz.2
        obtain ⟨v, w, rfl, h, h'⟩ := hv.two
        exact ⟨_, _, by rw [h.int, h'.int], ⟨hz1.1, hz1.2, hz2.1, hz2.2⟩, q' _ it_rng⟩
      · cases z
    · cases z
theorem vi_range3 (hg : Gl X "range") (hm : X.mg "range" = none) (ha : VAp X W [a, b, c] fl)
    (h1 : starEach [a, b, c] X.env = (false, eval a X.env) :: starEach [b, c] X.env := by rfl) (h2 : (backTo pos (starEach [b, c] X.env)).any (·.1) = false := by rfl) : VI X W tg (.Call (.Name "range" p) [a, b, c] [] pos) (e1 range3D fl) := PI.imp (pi_range3 hg hm ha h1 h2) fun σ H Rr ⟨S, G, Hs, ρ, r, p⟩ => by
  refine ⟨S, G, Hs, ρ, r, (Post.bind p).imp fun ds Hs1 H1 e q vs hv => ?_⟩
  cases z : range3D ds with
  | none => rw [z] at q; exact q.elim
  | some l =>
    rw [z] at q
    have q' := q.now e.sub
    unfold range3D at z
    split at z
    · split at z
      · rename_i hz
        cases z
        rw [Bool.and_eq_true, Bool.and_eq_true, Bool.and_eq_true] at hz
        have hz1 := of_decide_eq_true hz.1.1.1
        have hz2 := of_decide_eq_true hz.1.1.2
        have hz3 := of_decide_eq_true hz.2
        obtain ⟨v, w, u, rfl, h, h', h''⟩ := hv.three
        exact ⟨_, _, _, _, by rw [h.int, h'.int, h''.int], ⟨hz1, hz2, hz.1.2, hz3⟩, q' _ it_rngC⟩
      · cases z
    · cases z
/-- enumerate, zip of lists -/
def enuL (l : List D) : List D := (List.range l.length).zipWith (fun i d => .tuple [.int (i : Nat), d]) l
def zipL (l m : List D) : List D := l.zipWith (fun d e => .tuple [d, e]) m
def enuD : List D → Option (List D)
  | [.list l] => some (enuL l)
  | _ => none
def zipD : List D → Option (List D)
  | [.list l, .list m] => some (zipL l m)
  | _ => none
theorem it_enu {K : Fg} {Hs : Hp} {a : Addr} {xs : List V} {l : List D} (h : SqL K Hs a xs) (r : RpL K Hs l xs) : ItD K (Ite K a) Hs (enuL l) := fun i Hs' H' g s => by
  have h' : SqL K H' a xs := Same.seq s (Same.seq g h)
  refine ⟨fun d e => ?_, fun hl => ⟨xs, h', by rw [← r.length]; simpa [enuL] using hl⟩⟩
  unfold enuL at e
  rw [List.getElem?_zipWith] at e
  cases e1 : (List.range l.length)[i]? with
  | none => rw [e1] at e; cases e
  | some j =>
    cases e2 : l[i]? with
    | none => rw [e1, e2] at e; cases e
    | some d' =>
      rw [e1, e2] at e
      cases e
      have hj : j = i := by
        obtain ⟨h1, h2⟩ := List.getElem?_eq_some_iff.mp e1
        rw [List.getElem_range] at h2
        exact h2.symm
      subst hj
      obtain ⟨v, v1, v2⟩ := r.get e2
      refine ⟨⟨xs, v, h', v1⟩, fun x H'' y => ?_⟩
      obtain ⟨T, x', rfl, hT, rfl, y⟩ := y
      have := y xs h'
      rw [v1] at this
      cases this
      have x := Ext.new (o := .tup [.int (j : Nat), v]) s hT
      exact ⟨_, x, .tup (.inl (.inl upd_same)) (.cons (.int _) (.cons ((v2.mono g).mono x.grow) .nil))⟩
theorem it_zip {K : Fg} {Hs : Hp} {a b : Addr} {xs ys : List V} {l m : List D} (h : SqL K Hs a xs) (r : RpL K Hs l xs) (h2 : SqL K Hs b ys) (r2 : RpL K Hs m ys) : ItD K (Itz K a b) Hs (zipL l m) := fun i Hs' H' g s => by
  have h' : SqL K H' a xs := Same.seq s (Same.seq g h)
  have h2' : SqL K H' b ys := Same.seq s (Same.seq g h2)
  refine ⟨fun d e => ?_, fun hl => ⟨xs, ys, h', h2', by rw [← r.length, ← r2.length]; simp [zipL] at hl; omega⟩⟩
  unfold zipL at e
  rw [List.getElem?_zipWith] at e
  cases e1 : l[i]? with
  | none => rw [e1] at e; cases e
  | some d1 =>
    cases e2 : m[i]? with
    | none => rw [e1, e2] at e; cases e
    | some d2 =>
      rw [e1, e2] at e
      cases e
      obtain ⟨v, v1, v2⟩ := r.get e1
      obtain ⟨u, u1, u2⟩ := r2.get e2
      refine ⟨⟨xs, ys, v, u, h', h2', v1, u1⟩, fun x H'' y => ?_⟩
      obtain ⟨T, x', y', rfl, hT, rfl, y1, y2⟩ := y
      have := y1 xs h'
      rw [v1] at this
      cases this
      have := y2 ys h2'
      rw [u1] at this
      cases this
      have x := Ext.new (o := .tup [v, u]) s hT
      exact ⟨_, x, .tup (.inl (.inl upd_same)) (.cons ((v2.mono g).mono x.grow) (.cons ((u2.mono g).mono x.grow) .nil))⟩
theorem va_one {f : Ev → R D} {e : Expr} (ha : VE X W e f) (hs : starEach (e :: []) X.env = (false, eval e X.env) :: starEach [] X.env := by rfl) : VA X W [e] (eCons f (cst [])) := va_cons ha va_nil hs
theorem RpL.one {K : Fg} {H : Hp} {d : D} {vs : List V} (h : RpL K H [d] vs) : ∃ v, vs = [v] ∧ Rp K H d v := by
  cases h with
  | cons h r => cases r; exact ⟨_, rfl, h⟩
theorem RpL.two {K : Fg} {H : Hp} {d e : D} {vs : List V} (h : RpL K H [d, e] vs) : ∃ v w, vs = [v, w] ∧ Rp K H d v ∧ Rp K H e w := by
  cases h with
  | cons h r => cases r with
    | cons h' r => cases r; exact ⟨_, _, rfl, h, h'⟩
theorem vi_enum {tpos : Pos} {elts : List Expr} {kk : Nat} (hg : Gl X "enumerate") (hm : X.mg "enumerate" = none) (ha : VA X W [e] fl) (hs : starEach [e] X.env = [(false, eval e X.env)] := by rfl) :
    VI X W (.Tuple elts kk tpos) (.Call (.Name "enumerate" p) [e] [] pos) (e1 enuD fl) := PI.imp (pi_enum hg hm ha hs) fun σ H Rr ⟨S, G, Hs, ρ, r, p⟩ => by
  refine ⟨S, G, Hs, ρ, r, (Post.bind p).imp fun ds Hs1 H1 e q vs hv => ?_⟩
  cases z : enuD ds with
  | none => rw [z] at q; exact q.elim
  | some l =>
    rw [z] at q
    have q' := q.now e.sub
    unfold enuD at z
    split at z
    · cases z
      obtain ⟨v, rfl, h⟩ := hv.one
      cases h with
      | lst h1 h2 => exact ⟨_, _, rfl, Same.seq e.sub h1, q' _ (it_enu h1 h2)⟩
    · cases z
theorem vi_zip {e2 : Expr} {tpos : Pos} {elts : List Expr} {kk : Nat} (hg : Gl X "zip") (hm : X.mg "zip" = none) (ha : VA X W [e, e2] fl) (hs : starEach [e, e2] X.env = (false, eval e X.env) :: starEach [e2] X.env := by rfl) (hpl : (backTo pos (starEach [e2] X.env)).any (·.1) = false := by rfl) :
    VI X W (.Tuple elts kk tpos) (.Call (.Name "zip" p) [e, e2] [] pos) (e1 zipD fl) := PI.imp (pi_zip hg hm ha hs hpl) fun σ H Rr ⟨S, G, Hs, ρ, r, p⟩ => by
  refine ⟨S, G, Hs, ρ, r, (Post.bind p).imp fun ds Hs1 H1 e q vs hv => ?_⟩
  cases z : zipD ds with
  | none => rw [z] at q; exact q.elim
  | some l =>
    rw [z] at q
    have q' := q.now e.sub
    unfold zipD at z
    split at z
    · cases z
      obtain ⟨v, w, rfl, h, h'⟩ := hv.two
      cases h with
      | lst h1 h2 =>
        cases h' with
        | lst h3 h4 => exact ⟨_, _, _, _, rfl, Same.seq e.sub h1, Same.seq e.sub h3, q' _ (it_zip h1 h2 h3 h4)⟩
    · cases z
end

/-! ### for, while -/
def forO (body : D → Ev → Out) : List D → Ev → Out
  | [], ρ => .nx ρ
  | d :: ds, ρ => match body d ρ with
    | .nx ρ' => forO body ds ρ'
    | .ct ρ' => forO body ds ρ'
    | .bk ρ' => .nx ρ'
    | .rt r => .rt r
    | .rtB r ρ' => .rtB r ρ'
    | .ex x ρ' => .ex x ρ'
    | .bad => .bad
def gTo (g : D → Ev → Option Ev) (F : Ev → Out) : D → Ev → Out := fun d ρ => match g d ρ with
  | some ρ' => F ρ'
  | none => .bad
def sFor (fi : Ev → R (List D)) (g : D → Ev → Option Ev) (F : Ev → Out) : Ev → Out := fun ρ => liftE (fi ρ) ρ fun l => forO (gTo g F) l ρ
def whileO (c : Ev → R Bool) (F : Ev → Out) : Nat → Ev → Out
  | 0, _ => .bad
  | n + 1, ρ => liftE (c ρ) ρ fun b => if b then (match F ρ with
    | .nx ρ' => whileO c F n ρ'
    | .ct ρ' => whileO c F n ρ'
    | .bk ρ' => .nx ρ'
    | .rt r => .rt r
    | .rtB r ρ' => .rtB r ρ'
    | .ex x ρ' => .ex x ρ'
    | .bad => .bad) else .nx ρ
open Classical in
noncomputable def sWhile (c : Ev → R Bool) (F : Ev → Out) : Ev → Out := fun ρ => if h : ∃ n, whileO c F n ρ ≠ .bad then whileO c F (Classical.choose h) ρ else .bad
theorem whileO_mono {c : Ev → R Bool} {F : Ev → Out} : ∀ (n m : Nat) (ρ : Ev), n ≤ m → whileO c F n ρ ≠ .bad → whileO c F m ρ = whileO c F n ρ
  | 0, _, _, _, h => (h rfl).elim
  | n + 1, 0, _, h, _ => by omega
  | n + 1, m + 1, ρ, h, hb => by
    show liftE (c ρ) ρ _ = liftE (c ρ) ρ _
    have hb' : liftE (c ρ) ρ (fun b => if b then (match F ρ with
      | .nx ρ' => whileO c F n ρ'
      | .ct ρ' => whileO c F n ρ'
      | .bk ρ' => .nx ρ'
      | .rt r => .rt r
      | .rtB r ρ' => .rtB r ρ'
      | .ex x ρ' => .ex x ρ'
      | .bad => .bad) else .nx ρ) ≠ .bad := hb
    cases e : c ρ with
    | ex x => rfl
    | bad => rfl
    | ok b =>
      rw [e] at hb'
      cases b with
      | false => rfl
      | true =>
        show (match F ρ with
          | .nx ρ' => whileO c F m ρ'
          | .ct ρ' => whileO c F m ρ'
          | .bk ρ' => .nx ρ'
          | .rt r => .rt r
          | .rtB r ρ' => .rtB r ρ'
          | .ex x ρ' => .ex x ρ'
          | .bad => .bad) = (match F ρ with
          | .nx ρ' => whileO c F n ρ'
          | .ct ρ' => whileO c F n ρ'
          | .bk ρ' => .nx ρ'
          | .rt r => .rt r
          | .rtB r ρ' => .rtB r ρ'
          | .ex x ρ' => .ex x ρ'
          | .bad => .bad)
        have hb2 : (match F ρ with
          | .nx ρ' => whileO c F n ρ'
          | .ct ρ' => whileO c F n ρ'
          | .bk ρ' => .nx ρ'
          | .rt r => .rt r
          | .rtB r ρ' => .rtB r ρ'
          | .ex x ρ' => .ex x ρ'
          | .bad => .bad) ≠ .bad := hb'
        cases e2 : F ρ with
        | nx ρ' => rw [e2] at hb2; exact whileO_mono n m ρ' (by omega) hb2
        | ct ρ' => rw [e2] at hb2; exact whileO_mono n m ρ' (by omega) hb2
        | bk ρ' => rfl
        | rt r => rfl
        | rtB r ρ' => rfl
        | ex x ρ' => rfl
        | bad => rfl
theorem sWhile_eq {c : Ev → R Bool} {F : Ev → Out} {n : Nat} {ρ : Ev} {o : Out} (h : whileO c F n ρ = o) (ho : o ≠ .bad) : sWhile c F ρ = o := by
  have hex : ∃ n, whileO c F n ρ ≠ .bad := ⟨n, by rw [h]; exact ho⟩
  have e1 : sWhile c F ρ = whileO c F (Classical.choose hex) ρ := by unfold sWhile; rw [dif_pos hex]
  have e2 := Classical.choose_spec hex
  rw [e1]
  rcases Nat.le_total n (Classical.choose hex) with l | l
  · rw [whileO_mono _ _ _ l (by rw [h]; exact ho), h]
  · rw [← whileO_mono _ _ _ l e2, h]
theorem sWhile_ok {K : Fg} {mg : Str → Option Value} {W : WX} {S Hs : Hp} {G : Gx} {En : Ends} {c : Ev → R Bool} {F : Ev → Out} {ρ : Ev} (h : OutOk K mg W S G Hs En (sWhile c F ρ)) : ∃ n, OutOk K mg W S G Hs En (whileO c F n ρ) := by
  unfold sWhile at h
  split at h
  · exact ⟨_, h⟩
  · exact h.elim
section
variable {X : Cx} {W : WX} {tg iter c : Expr} {body : List Stmt} {pos : Pos} {fi : Ev → R (List D)} {ts : List Nat} {g : D → Ev → Option Ev} {F : Ev → Out} {fb : Ev → R Bool}
theorem vs_for (hp : PassesOwn (model X.prog X.w) X.A X.env X.xe) (hc : X.calm = true) (hi : VI X W tg iter fi) (hg : VG X tg ts g) (hb : VSs X W body F)
    (hs : ∀ x, foldedSetIterable iter X.env x = pure x := by intro _; rfl) : VS X W (.For tg iter body [] pos) (sFor fi g F) := by
  refine PS.imp (ps_for hp hc hi hg hb hs) fun En σ H ⟨S, G, Hs, ρ, r, h⟩ => ?_
  refine ⟨S, G, Hs, ρ, r, (lift_post r h).imp fun l Hs1 H1 e q J hJ => ?_⟩
  refine ⟨fun i m σ' H' => m = l.length - i ∧ i ≤ l.length ∧ ∃ Hs2 ρ2, Same Hs1 Hs2 ∧ RelE X.K S G Hs2 H' σ' ρ2 ∧ OutOk X.K X.mg W S G Hs2 En (forO (gTo g F) (l.drop i) ρ2),
    ⟨l.length, by simp, Nat.zero_le _, Hs1, ρ, .refl _, r.step e, q⟩, ?_⟩
  rintro i m σ' H' ⟨rfl, hi, Hs2, ρ2, g2, r2, q2⟩
  obtain ⟨j1, j2⟩ := hJ i Hs2 H' g2 r2.sub
  by_cases hl : i < l.length
  · obtain ⟨j1, j3⟩ := j1 l[i] (List.getElem?_eq_getElem hl)
    rw [List.drop_eq_getElem_cons hl] at q2
    refine .inr ⟨j1, fun σ3 H3 => ∃ Hs3 ρ3, Same Hs1 Hs3 ∧ RelE X.K S G Hs3 H3 σ3 ρ3 ∧ OutOk X.K X.mg W S G Hs3 En (forO (gTo g F) (l.drop (i + 1)) ρ3), fun σ3 H3 ⟨Hs3, ρ3, a1, a2, a3⟩ => ⟨_, (by omega : l.length - (i + 1) < l.length - i), rfl, hl, Hs3, ρ3, a1, a2, a3⟩, fun x H3 y => ?_⟩
    obtain ⟨Hs3, e3, d3⟩ := j3 x H3 y
    unfold forO gTo at q2
    cases z : g l[i] ρ2 with
    | none => rw [z] at q2; exact q2.elim
    | some ρ3 =>
      rw [z] at q2
      refine ⟨S, G, Hs3, ρ2, l[i], ρ3, r2.step e3, d3, z, fun σ4 _ _ r4 => ⟨S, G, Hs3, ρ3, r4, ?_⟩⟩
      have g3 := g2.trans e3.grow
      cases z2 : F ρ3 with
      | nx ρ' => simp only [z2] at q2; exact fun Hs' H' σ' a b => ⟨Hs', ρ', g3.trans a, b, q2.up (e3.grow.trans a)⟩
      | ct ρ' => simp only [z2] at q2; exact fun Hs' H' σ' a b => ⟨Hs', ρ', g3.trans a, b, q2.up (e3.grow.trans a)⟩
      | bk ρ' => simp only [z2] at q2; exact fun Hs' H' σ' a b => q2 Hs' H' σ' (e3.grow.trans a) b
      | rt r => simp only [z2] at q2; exact q2
      | rtB r ρ' => simp only [z2] at q2; exact OutOk.up (o := .rtB r ρ') q2 e3.grow
      | ex x ρ' => simp only [z2] at q2; exact fun Hs' H' σ' cls dd a => q2 Hs' H' σ' cls dd (e3.grow.trans a)
      | bad => simp only [z2] at q2; exact q2.elim
  · have e0 : i = l.length := by omega
    subst e0
    rw [List.drop_length] at q2
    exact .inl ⟨j2 (Nat.le_refl _), q2 Hs2 H' σ' (.refl _) r2⟩
theorem vs_while (hp : PassesOwn (model X.prog X.w) X.A X.env X.xe) (hc : VT X W c fb) (hb : VSs X W body F) : VS X W (.While c body [] pos) (sWhile fb F) := by
  refine PS.imp (ps_while hp hc hb) fun En σ H ⟨S, G, Hs, ρ, r, h⟩ => ?_
  obtain ⟨n, h⟩ := sWhile_ok h
  refine ⟨fun m σ' H' => ∃ Hs2 ρ2, RelE X.K S G Hs2 H' σ' ρ2 ∧ OutOk X.K X.mg W S G Hs2 En (whileO fb F m ρ2), ⟨n, Hs, ρ, r, h⟩, ?_⟩
  rintro m σ' H' ⟨Hs2, ρ2, r2, q2⟩
  cases m with
  | zero => exact q2.elim
  | succ m =>
    refine ⟨S, G, Hs2, ρ2, r2, (lift_post r2 q2).imp fun b Hs3 H3 e q => ?_⟩
    cases b with
    | false => exact q Hs3 H3 σ' (.refl _) (r2.step e)
    | true =>
      simp only [if_true] at q ⊢
      refine ⟨fun σ4 H4 => ∃ Hs4 ρ4, RelE X.K S G Hs4 H4 σ4 ρ4 ∧ OutOk X.K X.mg W S G Hs4 En (whileO fb F m ρ4), fun σ4 H4 a => ⟨m, Nat.lt_succ_self m, a⟩, S, G, Hs3, ρ2, r2.step e, ?_⟩
      cases z2 : F ρ2 with
      | nx ρ' => simp only [z2] at q; exact fun Hs' H' σ' a b => ⟨Hs', ρ', b, q.up a⟩
      | ct ρ' => simp only [z2] at q; exact fun Hs' H' σ' a b => ⟨Hs', ρ', b, q.up a⟩
      | bk ρ' => simp only [z2] at q; exact q
      | rt r => simp only [z2] at q; exact q
      | rtB r ρ' => simp only [z2] at q; exact q
      | ex x ρ' => simp only [z2] at q; exact q
      | bad => simp only [z2] at q; exact q.elim
end
end VL

set_option Elab.async false
set_option linter.all false
set_option maxRecDepth 100000
set_option autoImplicit false
namespace VL
open PySem PySem.Spec PyProof.Rows L2

/-! ### list comprehensions -/
abbrev WF : WX := fun _ _ _ _ => False
def wipeE (ρ : Ev) : List Nat → Ev
  | [] => ρ
  | v :: vs => (wipeE ρ vs).set v .no
theorem RelE.wipe {K : Fg} {S Hs H : Hp} {G : Gx} {σ : Sg} {ρ : Ev} (r : RelE K S G Hs H σ ρ) : ∀ vs : List Nat, RelE K S G Hs H (wipe σ vs) (wipeE ρ vs)
  | [] => r
  | v :: vs => (RelE.wipe r vs).setNo
theorem wipe_get {σ : Sg} {j : Nat} : ∀ {vs : List Nat}, j < σ.length → (wipe σ vs)[j]? = if j ∈ vs then some none else σ[j]?
  | [], h => by simp [L2.wipe]
  | v :: vs, h => by
    unfold L2.wipe
    by_cases e : v = j
    · subst e
      rw [List.getElem?_set_self (by rw [wipe_length]; exact h), if_pos List.mem_cons_self]
    · rw [List.getElem?_set_ne e, wipe_get h]
      by_cases m : j ∈ vs
      · rw [if_pos m, if_pos (List.mem_cons_of_mem _ m)]
      · rw [if_neg m, if_neg (by simp only [List.mem_cons, not_or]; exact ⟨fun z => e z.symm, m⟩)]
theorem wipe_same {σ σ' : Sg} {vs ts : List Nat} (hl : σ'.length = (wipe σ vs).length) (hj : ∀ j, j ∉ ts → σ'[j]? = (wipe σ vs)[j]?) (ht : ∀ t ∈ ts, t ∈ vs) : wipe σ' vs = wipe σ vs := by
  rw [wipe_length] at hl
  apply List.ext_getElem?
  intro j
  by_cases h : j < σ.length
  · rw [wipe_get h, wipe_get (by omega)]
    by_cases m : j ∈ vs
    · rw [if_pos m, if_pos m]
    · rw [if_neg m, if_neg m, hj j (fun z => m (ht j z)), wipe_get h, if_neg m]
  · rw [List.getElem?_eq_none (by rw [wipe_length]; omega), List.getElem?_eq_none (by rw [wipe_length]; omega)]

theorem Ext.updNew {Hs H Hs' H' : Hp} {p : Addr} {o : HO} (e : Ext Hs H Hs' H') (h0 : H p = none) (h1 : Hs' p = none) : Ext Hs H Hs' (upd H' p o) where
  sub := fun b u q => by rw [upd_ne (ne_of_none q h1)]; exact e.sub b u q
  same := fun b u q => by rw [upd_ne (ne_of_none q h0)]; exact e.same b u q
  grow := e.grow
  fresh := e.fresh
theorem Ext.hidden {Hs H Hs' H' : Hp} {p : Addr} {o : HO} (e : Ext Hs H Hs' H') (h0 : Hs p = none) (h1 : H p = some o) : Hs' p = none := by
  cases q : Hs' p with
  | none => rfl
  | some u =>
    have := e.fresh p u q h0
    rw [h1] at this; cases this

def compR (step : D → R (Option D)) : List D → R (List D)
  | [] => .ok []
  | d :: ds => (step d).bind fun o => (compR step ds).bind fun r => .ok (match o with | some y => y :: r | none => r)
def compS (vs : List Nat) (g : D → Ev → Option Ev) (ft : Ev → R Bool) (fe : Ev → R D) (ρ : Ev) : D → R (Option D) := fun d => match g d (wipeE ρ vs) with
  | some ρ' => (noex (ft ρ')).bind fun b => if b then (noex (fe ρ')).bind fun y => .ok (some y) else .ok none
  | none => .bad
def eComp (vs : List Nat) (fi : Ev → R (List D)) (g : D → Ev → Option Ev) (ft : Ev → R Bool) (fe : Ev → R D) : Ev → R (List D) := fun ρ => (fi ρ).bind fun l => if l.length ≤ sizeLine then compR (compS vs g ft fe ρ) l else .bad
def VTs (X : Cx) (W : WX) (ifs : List Expr) (f : Ev → R Bool) : Prop := PTs X ifs (tT X.K X.mg W f)
theorem PTs.imp {X : Cx} {ifs : List Expr} {t t' : TT} (h : PTs X ifs t) (i : ∀ σ H Q, t' σ H Q → t σ H Q) : PTs X ifs t' := ⟨fun pins s σ H Q I q => h.run pins s σ H Q I (i σ H Q q)⟩
section
variable {X : Cx} {W : WX} {c : Expr} {fb : Ev → R Bool}
theorem vts_nil : VTs X W [] (cst true) := PTs.imp pts_nil fun σ H Q ⟨S, G, Hs, ρ, r, p⟩ => p.now r.sub
theorem vts_one (h : VT X W c fb) : VTs X W [c] fb := pts_one h
end
theorem noex_ok {α : Type} (a : α) : noex (.ok a : R α) = .ok a := rfl
theorem noex_cases {α β : Type} {r : R α} {k : α → R β} {K : Fg} {mg : Str → Option Value} {W : WX} {Hs H : Hp} {σ : Sg} {P : β → Hp → Hp → Prop} (h : Post K mg W Hs H σ ((noex r).bind k) P) : ∃ a, r = .ok a := by
  cases r with
  | ok a => exact ⟨a, rfl⟩
  | ex x => exact h.elim
  | bad => exact h.elim
theorem bind_assoc {α β γ : Type} (r : R α) (f : α → R β) (g : β → R γ) : (r.bind f).bind g = r.bind fun a => (f a).bind g := by cases r <;> rfl

theorem sim_comp {K : Fg} {mg : Str → Option Value} {W : WX} {vs ts : List Nat} {fi : Ev → R (List D)} {g : D → Ev → Option Ev} {ft : Ev → R Bool} {fe : Ev → R D} (ht : ∀ t ∈ ts, t ∈ vs) :
    ∀ σ H Q, tO K mg W (eComp vs fi g ft fe) σ H Q → tLc (tIt K mg W fi) (tGt K ts g) (tT K mg WF ft) (tE K mg WF fe) vs σ H Q := fun σ H Q ⟨S, G, Hs, ρ, r, p⟩ => by
  refine ⟨S, G, Hs, ρ, r, (Post.bind p).imp fun l Hs1 H1 e1 q J hJ Dd hD => ?_⟩
  by_cases hz : l.length ≤ sizeLine
  case neg => rw [if_neg hz] at q; exact q.elim
  rw [if_pos hz] at q
  refine ⟨fun i m H' => m = l.length - i ∧ i ≤ l.length ∧ ∃ Hs2 acc ws, Ext Hs1 H1 Hs2 H' ∧ Hs2 Dd = none ∧ H' Dd = some (.lst ws) ∧ RpL K Hs2 acc ws ∧ acc.length ≤ i ∧
      Post K mg W Hs1 H1 σ ((compR (compS vs g ft fe ρ) (l.drop i)).bind fun r => .ok (acc ++ r)) (fun l Hs' H' => ∀ p vs, H p = none → Hs' p = none → H' p = some (.lst vs) → RpL K Hs' l vs → Q (.ref p) H'),
    ⟨l.length, by simp, Nat.zero_le _, Hs1, [], [], Ext.hid e1.sub hD, e1.sub.free hD, upd_same, .nil, Nat.le_refl _, ?_⟩, ?_⟩
  · rw [List.drop_zero]
    cases z : compR (compS vs g ft fe ρ) l with
    | ok a => rw [z] at q; exact q
    | ex x => rw [z] at q; exact q
    | bad => rw [z] at q; exact q
  · rintro i m H' ⟨rfl, hi, Hs2, acc, ws, e2, d1, d2, d3, d4, q2⟩
    obtain ⟨j1, j2⟩ := hJ i Hs2 H' e2.grow e2.sub
    by_cases hl : i < l.length
    · obtain ⟨j1, j3⟩ := j1 l[i] (List.getElem?_eq_getElem hl)
      rw [List.drop_eq_getElem_cons hl] at q2
      refine .inr ⟨j1, fun H3 => ∃ Hs2 acc ws, Ext Hs1 H1 Hs2 H3 ∧ Hs2 Dd = none ∧ H3 Dd = some (.lst ws) ∧ RpL K Hs2 acc ws ∧ acc.length ≤ i + 1 ∧
        Post K mg W Hs1 H1 σ ((compR (compS vs g ft fe ρ) (l.drop (i + 1))).bind fun r => .ok (acc ++ r)) (fun l Hs' H' => ∀ p vs, H p = none → Hs' p = none → H' p = some (.lst vs) → RpL K Hs' l vs → Q (.ref p) H'),
        fun H3 ⟨Hs3, acc', ws', a⟩ => ⟨_, (by omega : l.length - (i + 1) < l.length - i), rfl, hl, Hs3, acc', ws', a⟩, fun x H3 y => ?_⟩
      obtain ⟨Hs3, e3, h3⟩ := j3 x H3 y
      unfold compR at q2
      rw [bind_assoc] at q2
      unfold compS at q2
      cases z : g l[i] (wipeE ρ vs) with
      | none => simp only [z] at q2; exact q2.elim
      | some ρ' =>
        simp only [z] at q2
        rw [bind_assoc] at q2
        have r3 : RelE K S G Hs3 H3 (wipe σ vs) (wipeE ρ vs) := (((r.step e1).step e2).step e3).wipe vs
        refine ⟨S, G, Hs3, wipeE ρ vs, l[i], ρ', r3, h3, z, fun σ' s1 s2 r4 => ⟨wipe_same s1 s2 ht, S, G, Hs3, ρ', r4, ?_⟩⟩
        obtain ⟨b, z1⟩ := noex_cases q2
        rw [z1] at q2 ⊢
        intro Hs5 H5 e5
        cases b with
        | false =>
          simp only [Bool.false_eq_true, if_false]
          have e6 := (e2.trans e3).trans e5
          have k1 := (e3.trans e5).hidden d1 d2
          refine ⟨Hs5, acc, ws, e6, k1, e5.same _ _ (e3.same _ _ d2), (d3.mono e3.grow).mono e5.grow, by omega, ?_⟩
          simp only [noex, bind_ok, Bool.false_eq_true, if_false, bind_assoc] at q2
          exact q2
        | true =>
          simp only [if_true]
          have q3 := q2
          simp only [noex_ok, bind_ok, if_true, bind_assoc] at q3
          obtain ⟨y, z2⟩ := noex_cases q3
          refine ⟨S, G, Hs5, ρ', r4.step e5, ?_⟩
          rw [z2] at q3 ⊢
          intro Hs6 H6 e6 v hv
          have e7 := (e3.trans e5).trans e6
          have k1 := e7.hidden d1 d2
          have k2 := e7.same _ _ d2
          have k3 := d3.mono e7.grow
          refine ⟨ws, k2, by rw [← d3.length]; omega, Hs6, acc ++ [y], ws ++ [v], (e2.trans e7).updNew hD k1, k1, upd_same, k3.append (.cons hv .nil), by rw [List.length_append, List.length_singleton]; omega, ?_⟩
          simp only [noex_ok, bind_ok] at q3
          simp only [List.append_assoc, List.singleton_append]
          exact q3
    · have e0 : i = l.length := by omega
      subst e0
      rw [List.drop_length] at q2
      unfold compR at q2
      simp only [bind_ok, List.append_nil] at q2
      exact .inl ⟨j2 (Nat.le_refl _), q2 Hs2 H' e2 Dd ws (e1.same.free hD) d1 d2 d3⟩

section
variable {X : Cx} {W : WX} {elt tg iter : Expr} {ifs : List Expr} {scope : Scope} {own : List (Str × Nat)} {pos : Pos} {ts : List Nat} {fi : Ev → R (List D)} {g : D → Ev → Option Ev} {ft : Ev → R Bool} {fe : Ev → R D}
theorem vo_comp (hc : X.calm = true) (hN : X.N.Nodup) (hi : VI X W tg iter fi) (ok : BlkOk X.N X.env.scope scope own)
    (hg : ∀ (s : Shared) (H : Hp) (C : Addr) (cl : List (Str × Addr)) (fp : List Addr), VG (X.blk s H scope (compEnvC scope cl C X.env) fp) tg ts g)
    (ht : ∀ (s : Shared) (H : Hp) (C : Addr) (cl : List (Str × Addr)) (fp : List Addr), VTs (X.blk s H scope (compEnvC scope cl C X.env) fp) WF ifs ft)
    (he : ∀ (s : Shared) (H : Hp) (C : Addr) (cl : List (Str × Addr)) (fp : List Addr), VE (X.blk s H scope (compEnvC scope cl C X.env) fp) WF elt fe)
    (hts : ∀ t ∈ ts, t ∈ own.map (·.2) := by decide) (hs : ∀ x, foldedSetIterable iter X.env x = pure x := by intro _; rfl) :
    VO X W (.ListComp elt [⟨tg, iter, ifs, 0⟩] scope pos) (eComp (own.map (·.2)) fi g ft fe) := PE.imp (pe_lc (g := tGt X.K ts g) (tt := tT X.K X.mg WF ft) (te := tE X.K X.mg WF fe) hc hN hi ok hg ht he hs) (sim_comp hts)
theorem sim_asgO {f : Ev → R (List D)} {K : Fg} {mg : Str → Option Value} {i : Nat} {t : TE} (h : ∀ σ H Q, tO K mg W f σ H Q → t σ H Q) : ∀ En σ H, tS K mg W (sSetO i f) En σ H → tAsg t (gName i) En σ H := fun En σ H q => h σ H _ (sim_setO En σ H q)
theorem vs_compO {i : Nat} {y : Str} {py spos : Pos} (hc : X.calm = true) (hN : X.N.Nodup) (hy : X.N[i]? = some y) (hyl : X.env.scope.names.lookup y = some .local)
    (hsw : swapsWith (.ListComp elt [⟨tg, iter, ifs, 0⟩] scope pos) (some (.Name y py)) spos.line X.env = pure true) (hi : VI X W tg iter fi) (ok : BlkOk X.N X.env.scope scope own)
    (hg : ∀ (s : Shared) (H : Hp) (C : Addr) (cl : List (Str × Addr)) (fp : List Addr), VG (X.blk s H scope (compEnvC scope cl C X.env) fp) tg ts g)
    (ht : ∀ (s : Shared) (H : Hp) (C : Addr) (cl : List (Str × Addr)) (fp : List Addr), VTs (X.blk s H scope (compEnvC scope cl C X.env) fp) WF ifs ft)
    (he : ∀ (s : Shared) (H : Hp) (C : Addr) (cl : List (Str × Addr)) (fp : List Addr), VE (X.blk s H scope (compEnvC scope cl C X.env) fp) WF elt fe)
    (hts : ∀ t ∈ ts, t ∈ own.map (·.2) := by decide) (hs : ∀ x, foldedSetIterable iter X.env x = pure x := by intro _; rfl) :
    VS X W (.Assign [.Name y py] (.ListComp elt [⟨tg, iter, ifs, 0⟩] scope pos) spos) (sSetO i (eComp (own.map (·.2)) fi g ft fe)) := PS.imp (ps_setLc (g := tGt X.K ts g) (tt := tT X.K X.mg WF ft) (te := tE X.K X.mg WF fe) hc hN hy hyl hsw hi ok hg ht he hs) (sim_asgO (sim_comp hts))
end

/-! ### defs, calls -/
/-- the promise of a def that computes f -/
def spD (K : Fg) (mg : Str → Option Value) (n : Nat) (f : List D → R SD) : Sp := fun vs H Q E => vs.length = n ∧ ∃ Hs ds, Same Hs H ∧ RpL K Hs ds vs ∧ (match f ds with
  | .ok r => ∀ Hs' H' v, Ext Hs H Hs' H' → RpO K H Hs' H' r v → Q v H'
  | .ex x => ∀ Hs' H' cls dd, Ext Hs H Hs' H' → XRp K mg H' x cls dd → E cls dd H'
  | .bad => False)
def startE (n : Nat) (ds : List D) : Ev := ds.map .sh ++ List.replicate (n - ds.length) .no
def runD (np n : Nat) (F : Ev → Out) : List D → R SD := fun ds => if ds.length = np then match F (startE n ds) with
  | .nx _ => .ok (.sh .none)
  | .rt r => .ok r
  | .ex x _ => .ex x
  | _ => .bad
  else .bad
theorem startE_rel {K : Fg} {N : List Str} {Hs H : Hp} {ds : List D} {vs : List V} (hl : vs.length ≤ N.length) (hs : Same Hs H) (r : RpL K Hs ds vs) : RelE K Hs ⟨H, fun _ => none⟩ Hs H (L2.start N vs) (startE N.length ds) where
  sub := hs
  old := .refl _
  ext := .refl _
  new := fun p o a b => by rw [a] at b; cases b
  len := by
    have := r.length
    simp [L2.start, startE, this]
  slot := fun i s hi => by
    unfold startE at hi
    have hl2 := r.length
    by_cases h : i < ds.length
    · rw [List.getElem?_append_left (by simpa using h), List.getElem?_map] at hi
      obtain ⟨d, e1, rfl⟩ := Option.map_eq_some_iff.mp hi
      obtain ⟨v, e2, e3⟩ := r.get e1
      refine ⟨v, ?_, e3⟩
      unfold L2.start
      rw [List.getElem?_append_left (by simp; omega), List.getElem?_map, e2]
      rfl
    · rw [List.getElem?_append_right (by simpa using h), List.getElem?_replicate] at hi
      split at hi
      · cases hi; trivial
      · cases hi
  dis := fun i j l m p a b _ _ => by
    exfalso
    unfold startE at a
    by_cases h : i < ds.length
    · rw [List.getElem?_append_left (by simpa using h), List.getElem?_map] at a
      obtain ⟨d, e1, e2⟩ := Option.map_eq_some_iff.mp a
      cases e2
    · rw [List.getElem?_append_right (by simpa using h), List.getElem?_replicate] at a
      split at a <;> cases a
  bor := fun _ p hp => by cases hp
  one := fun _ _ _ hp => by cases hp
section
variable {P : Program} {w : World} {K : Fg} {mg : Str → Option Value} {base : Heap}
theorem FnScope.le {N ps : List Str} {sc : Scope} (S : FnScope N ps sc) : ps.length ≤ N.length := by
  have h := congrArg List.length S.pre
  rw [List.length_take] at h
  omega
/-- a promise kept where no guard stands around -/
structure FnG (P : Program) (w : World) (K : Fg) (mg : Str → Option Value) (base : Heap) (k : Nat) (f : Addr) (fd : FuncData) (ps : List Str) (sp : Sp) : Prop where
  len : ∀ vs H Q E, sp vs H Q E → vs.length = ps.length
  run : ∀ (A : Around) (outer : List Env) (s : Shared) (H : Hp) (args : Args) (us : List Value) (vs : List V) (Q : VK) (E : XK), Room k A → A.guards = some [] → Env0 P w K mg base A outer s H → BindsTo s fd args (ps.zip us) → Vals vs us → sp vs H Q E →
    codeAny (model P w) A (.call (.ref f) args) (CR (L2.CX P w) outer P w H s Q E) s
theorem fn_ofG {k : Nat} {f : Addr} {name qual : Str} {params : Arguments} {body : List Stmt} {scope : Scope} {dV kV doc pm cdv ct oc : Value} {an od : Option Addr}
    {osl : Array (Option Value)} {N ps : List Str} {sp : Sp} (lk : K.lookup f = some ⟨oc, od, .func (PySem.W.fnOf name qual params body scope dV kV doc pm an cdv ct), osl⟩) (hcd : PySem.W.codeIn K cdv qual = true) (S : FnScope N ps scope)
    (len : ∀ vs H Q E, sp vs H Q E → vs.length = ps.length)
    (hbody : ∀ (A : Around) (outer : List Env) (s : Shared) (H : Hp) (vs : List V) (Q : VK) (E : XK), Room k (A.deeper (envOfC qual scope s.heap.objs.size f cdv)) → A.guards = some [] → sp vs H Q E →
      ∃ t, PSs (cxOf (L2.CX P w) P w K mg base N qual scope f cdv A outer s H E) body t ∧ t { nx := fun _ H' => Q .non H', rt := Q } (L2.start N vs) H) :
    FnG P w K mg base (k + 1) f (PySem.W.fnOf name qual params body scope dV kV doc pm an cdv ct) ps sp := by
  refine ⟨len, fun A outer s H args us vs Q E hr hgd e0 hb r hsp => ?_⟩
  have hl := len _ _ _ _ hsp
  have KX : K.In s.heap := e0.mod.kin.keeps fun b o e => (e0.bs b o e).1
  have lim : s.heap.NoLimit := e0.mod.nolimit.keeps fun b o e => (e0.bs b o e).1
  have hkind : ∀ y ∈ ps.zip us, scope.names.lookup y.1 = some .local ∨ (scope.names.lookup y.1 = some .cell ∧ ((cellsFrom (s.heap.objs.size + 1) scope.names []).lookup y.1).isSome = true) := fun ⟨n, v⟩ hy => by
    rcases S.par n (List.of_mem_zip hy).1 with q | q
    · exact .inl q
    · exact .inr ⟨q, PySem.W.cellsFrom_some _ _ _ (.inl q)⟩
  refine codeAny_call_function hr.depth (KX _ _ lk) rfl S.co S.gen rfl (PySem.W.codeRec_of KX hcd) (hb _ _ _ _ ?_)
  refine wpAny_newFunctionEnv_cells S.kind hkind fun env he s1 x => ?_
  subst he
  refine ⟨lim.keeps x.toInCall.keep, codeAny_func ?_⟩
  obtain ⟨t, ht, hq⟩ := hbody A outer s H vs Q E (hr.deeper _) hgd hsp
  have I : Inv (cxOf (L2.CX P w) P w K mg base N qual scope f cdv A outer s H E) [] (L2.start N vs) H s1 := inv_start S hr.hd e0 hl r x
  refine wpAny_mono (ht.run [] s1 (L2.start N vs) H _ I hq) (fun fl s' hs => ?_) fun e s' hs => hs
  have fin : ∀ {σ' : Sg} {H' : Hp} {v : V} {u : Value}, Inv (cxOf (L2.CX P w) P w K mg base N qual scope f cdv A outer s H E) [] σ' H' s' → RelV v u → Q v H' → CE outer P w H s Q u s' :=
    fun {σ' H' v u} J rv q => ⟨v, H', J.os, J.bare, J.base, J.hok, rv, q⟩
  cases fl with
  | ret u =>
    obtain ⟨v, σ', H', J, rv, q⟩ := hs
    exact fin J rv q
  | next =>
    obtain ⟨σ', H', J, q⟩ := hs
    exact fin (v := V.non) (u := Value.none) J rfl q
  | brk =>
    obtain ⟨_, _, _, q⟩ := hs
    exact False.elim q
  | cont =>
    obtain ⟨_, _, _, q⟩ := hs
    exact False.elim q
theorem FnG.imp {k : Nat} {f : Addr} {fd : FuncData} {ps : List Str} {sp sp' : Sp} (F : FnG P w K mg base k f fd ps sp) (h : ∀ vs H Q E, sp' vs H Q E → sp vs H Q E) : FnG P w K mg base k f fd ps sp' :=
  ⟨fun vs H Q E q => F.len vs H Q E (h _ _ _ _ q), fun A outer s H args us vs Q E hr hg he hb hv hs => F.run A outer s H args us vs Q E hr hg he hb hv (h _ _ _ _ hs)⟩
theorem FnG.mono {j k : Nat} {f : Addr} {fd : FuncData} {ps : List Str} {sp : Sp} (F : FnG P w K mg base j f fd ps sp) (h : j ≤ k) : FnG P w K mg base k f fd ps sp :=
  ⟨F.len, fun A outer s H args us vs Q E hr => F.run A outer s H args us vs Q E (hr.mono h)⟩
/-- a def that computes m on data -/
structure DOk (P : Program) (w : World) (K : Fg) (mg : Str → Option Value) (base : Heap) (k : Nat) (f : Addr) (fd : FuncData) (ps : List Str) (m : List D → R SD) : Prop where
  fn : FnG P w K mg base k f fd ps (spD K mg ps.length m)
  ar : ∀ ds, m ds ≠ .bad → ds.length = ps.length
/-- the room, the guards, what takes an exception, what passes -/
structure Inn (X : Cx) (W : WX) (k : Nat) : Prop where
  hr : Room k X.A
  gd : X.A.guards = some []
  tk : Takes X W
  hp : PassesOwn (model X.prog X.w) X.A X.env X.xe
/-- THE RULE for a def -/
theorem def_ok {x qual : Str} {st : Stmt} {f : Addr} {fd : FuncData} {N ps : List Str} {k : Nat} {F : Ev → Out} (Fn : Fun K x qual st f fd) (S : FnScope N ps (defScope st))
    (body : ∀ (cdv : Value) (A : Around) (outer : List Env) (s : Shared) (H : Hp) (E : XK), Inn (cxOf (L2.CX P w) P w K mg base N qual (defScope st) f cdv A outer s H E) (fun cls d _ H => E cls d H) k →
      VSs (cxOf (L2.CX P w) P w K mg base N qual (defScope st) f cdv A outer s H E) (fun cls d _ H => E cls d H) (defBody st) F) :
    DOk P w K mg base (k + 1) f fd ps (runD ps.length N.length F) := by
  refine ⟨?_, fun ds h => ?_⟩
  · obtain ⟨oc, od, kV, doc, pm, an, cdv, ct, osl, rfl, lk, hcd⟩ := Fn.ex
    refine fn_ofG lk hcd S (fun vs H Q E h => h.1) fun A outer s H vs Q E hr hgd h => ⟨_, body cdv A outer s H E ⟨hr, hgd, takes_of rfl rfl rfl rfl, passes_of rfl⟩, ?_⟩
    obtain ⟨hl, Hs, ds, hs, hds, h⟩ := h
    refine ⟨Hs, ⟨H, fun _ => none⟩, Hs, _, startE_rel (by rw [hl]; exact VL.FnScope.le S) hs hds, ?_⟩
    unfold runD at h
    rw [if_pos (hds.length.trans hl)] at h
    show OutOk K mg (fun cls d _ H => E cls d H) Hs ⟨H, fun _ => none⟩ Hs _ (F (startE N.length ds))
    cases z : F (startE N.length ds) with
    | nx ρ =>
      rw [z] at h
      exact fun Hs' H' σ' g r => h Hs' H' .non r.ext' .non
    | rt r =>
      rw [z] at h
      exact fun Hs' H' v e hv => h Hs' H' v e hv
    | ex x ρ =>
      rw [z] at h
      exact fun Hs' H' σ' cls dd g r hx => h Hs' H' cls dd r.ext' hx
    | rtB r ρ => rw [z] at h; exact h.elim
    | bk ρ => rw [z] at h; exact h.elim
    | ct ρ => rw [z] at h; exact h.elim
    | bad => rw [z] at h; exact h.elim
  · unfold runD at h
    split at h
    · assumption
    · exact (h rfl).elim
/-- a promise by another name of the function -/
theorem DOk.by' {k : Nat} {f : Addr} {fd : FuncData} {ps : List Str} {m m' : List D → R SD} (F : DOk P w K mg base k f fd ps m) (e : ∀ ds, m' ds ≠ .bad → m ds = m' ds) : DOk P w K mg base k f fd ps m' :=
  ⟨F.fn.imp fun vs H Q E ⟨hl, Hs, ds, hs, hds, h⟩ => ⟨hl, Hs, ds, hs, hds, by
    have nb : m' ds ≠ .bad := fun z => by rw [z] at h; exact h
    rw [e ds nb]
    exact h⟩, fun ds h => F.ar ds (by rw [e ds h]; exact h)⟩
theorem DOk.mono {j k : Nat} {f : Addr} {fd : FuncData} {ps : List Str} {m : List D → R SD} (F : DOk P w K mg base j f fd ps m) (h : j ≤ k) : DOk P w K mg base k f fd ps m := ⟨F.fn.mono h, F.ar⟩
end
section
variable {X : Cx} {k : Nat} {f : Addr} {fd : FuncData} {ps : List Str} {sp : Sp} {E : Sg → XK} {x : Str} {p pos : Pos} {e : Expr} {es : List Expr} {t : TA}
theorem run_fnG {pins : List (Addr × Obj)} {σ : Sg} {H : Hp} {s : Shared} {Q : VK} {us : List Value} {vs : List V} (F : FnG X.prog X.w X.K X.mg X.base k f fd ps sp) (hr : Room k X.A) (hgd : X.A.guards = some []) (hb : Binds X.K fd ps []) (hx : PassesAt (L2.CX X.prog X.w) X σ (E σ))
    (I : Inv X pins σ H s) (r : Vals vs us) (h : sp vs H Q (E σ)) : wpAny (model X.prog X.w) X.A (call (.ref f) us) (EP X pins σ Q) X.xe s := by
  have hl : us.length = ps.length := by rw [← r.length]; exact F.len _ _ _ _ h
  have b := hb s us I.kIn (by rw [List.append_nil]; exact hl)
  rw [List.append_nil] at b
  refine wpAny_call (codeAny_mono (F.run X.A X.stack s H ⟨us, []⟩ us vs Q (E σ) hr hgd I.env0 b r h) fun r s' hq => ?_)
  cases r with
  | error e => exact hx pins H s e s' I hq
  | ok fl =>
    cases fl with
    | ret u => exact I.after hq
    | next => exact False.elim hq
    | brk => exact False.elim hq
    | cont => exact False.elim hq
theorem pe_callG (F : FnG X.prog X.w X.K X.mg X.base k f fd ps sp) (hr : Room k X.A) (hgd : X.A.guards = some []) (hg : Gl X x) (hm : X.mg x = some (.ref f)) (hk : PySem.W.keepIn X.K (.ref f) = true) (hb : Binds X.K fd ps []) (hx : ∀ σ, PassesAt (L2.CX X.prog X.w) X σ (E σ))
    (ha : PA X (e :: es) t) (hdb : (x == ("__debug__" : Str)) = false := by decide) (he : starEach (e :: es) X.env = (false, eval e X.env) :: starEach es X.env := by rfl) (hpl : (backTo pos (starEach es X.env)).any (·.1) = false := by rfl) :
    PE X (.Call (.Name x p) (e :: es) [] pos) (tCallS sp E t) := by
  refine ⟨fun pins s σ H Q I h => ?_⟩
  refine wpAny_Call_Name_kw (ld_glob I hg hm ?_ hdb)
  refine PySem.W.callWith_K (h₀ := X.base) I.ok.mod.kin hk (thn (ha.run pos pins s σ H _ I h) fun us s1 ⟨vs, H1, I1, r, q⟩ => ⟨I1.kIn, ?_⟩) he hpl
  exact run_fnG F hr hgd hb (hx σ) I1 r q
end
/-- what a call gives: shared data -/
def toD : SD → Option D
  | .sh d => some d
  | .ow l => some (.list l)
  | _ => none
def toL : SD → Option (List D)
  | .ow l => some l
  | _ => none
def eCall (m : List D → R SD) (fl : Ev → R (List D)) : Ev → R D := fun ρ => (fl ρ).bind fun ds => (m ds).bind fun s => ofO (toD s)
def eCallO (m : List D → R SD) (fl : Ev → R (List D)) : Ev → R (List D) := fun ρ => (fl ρ).bind fun ds => (m ds).bind fun s => ofO (toL s)
section
variable {X : Cx} {W : WX} {e : Expr} {es : List Expr} {pos p : Pos} {x : Str} {fl : Ev → R (List D)} {k n : Nat} {f : Addr} {fd : FuncData} {ps : List Str} {m : List D → R SD}
theorem sim_call {K : Fg} {mg : Str → Option Value} {n : Nat} (vn : ∀ (ds : List D), m ds ≠ .bad → ds.length = n) : ∀ σ H Q, tE K mg W (eCall m fl) σ H Q → tCallS (spD K mg n m) (WE W) (tA K mg W fl) σ H Q := fun σ H Q ⟨S, G, Hs, ρ, r, p⟩ => by
  refine ⟨S, G, Hs, ρ, r, (Post.bind p).imp fun ds Hs1 H1 e q vs hv => ?_⟩
  have nb : m ds ≠ .bad := fun z => by rw [z] at q; exact q
  refine ⟨by rw [← hv.length]; exact vn ds nb, Hs1, ds, e.sub, hv, ?_⟩
  cases z : m ds with
  | bad => exact nb z
  | ex x => rw [z] at q; exact q
  | ok s =>
    rw [z] at q
    intro Hs' H' v e' hr
    cases s with
    | no => exact q.elim
    | bo l => exact q.elim
    | sh d => exact q Hs' H' e' v hr
    | ow l =>
      obtain ⟨p, us, rfl, h0, h1, h2, h3⟩ := hr
      have g : Same Hs' (upd Hs' p (.lst us)) := fun b u z => by rw [upd_ne (ne_of_none z h1)]; exact z
      exact q _ _ (e'.frz h0 h2 h1) _ (.lst (.inl (.inl upd_same)) (h3.mono g))
theorem sim_callO {K : Fg} {mg : Str → Option Value} {n : Nat} (vn : ∀ (ds : List D), m ds ≠ .bad → ds.length = n) : ∀ σ H Q, tO K mg W (eCallO m fl) σ H Q → tCallS (spD K mg n m) (WE W) (tA K mg W fl) σ H Q := fun σ H Q ⟨S, G, Hs, ρ, r, p⟩ => by
  refine ⟨S, G, Hs, ρ, r, (Post.bind p).imp fun ds Hs1 H1 e q vs hv => ?_⟩
  have nb : m ds ≠ .bad := fun z => by rw [z] at q; exact q
  refine ⟨by rw [← hv.length]; exact vn ds nb, Hs1, ds, e.sub, hv, ?_⟩
  cases z : m ds with
  | bad => exact nb z
  | ex x => rw [z] at q; exact q
  | ok s =>
    rw [z] at q
    intro Hs' H' v e' hr
    cases s with
    | no => exact q.elim
    | bo l => exact q.elim
    | sh d => exact q.elim
    | ow l =>
      obtain ⟨p, us, rfl, h0, h1, h2, h3⟩ := hr
      exact q _ _ e' p us (e.same.free h0) h1 h2 h3
theorem v_call (F : DOk X.prog X.w X.K X.mg X.base k f fd ps m) (hr : Room k X.A) (hgd : X.A.guards = some []) (hg : Gl X x) (hm : X.mg x = some (.ref f)) (hk : PySem.W.keepIn X.K (.ref f) = true) (hb : Binds X.K fd ps []) (tk : Takes X W)
    (ha : VA X W (e :: es) fl) (hdb : (x == ("__debug__" : Str)) = false := by decide) (he : starEach (e :: es) X.env = (false, eval e X.env) :: starEach es X.env := by rfl) (hpl : (backTo pos (starEach es X.env)).any (·.1) = false := by rfl) :
    VE X W (.Call (.Name x p) (e :: es) [] pos) (eCall m fl) := PE.imp (pe_callG F.fn hr hgd hg hm hk hb (passAt tk) ha hdb he hpl) (sim_call F.ar)
theorem v_callO (F : DOk X.prog X.w X.K X.mg X.base k f fd ps m) (hr : Room k X.A) (hgd : X.A.guards = some []) (hg : Gl X x) (hm : X.mg x = some (.ref f)) (hk : PySem.W.keepIn X.K (.ref f) = true) (hb : Binds X.K fd ps []) (tk : Takes X W)
    (ha : VA X W (e :: es) fl) (hdb : (x == ("__debug__" : Str)) = false := by decide) (he : starEach (e :: es) X.env = (false, eval e X.env) :: starEach es X.env := by rfl) (hpl : (backTo pos (starEach es X.env)).any (·.1) = false := by rfl) :
    VO X W (.Call (.Name x p) (e :: es) [] pos) (eCallO m fl) := PE.imp (pe_callG F.fn hr hgd hg hm hk hb (passAt tk) ha hdb he hpl) (sim_callO F.ar)
/-- a constant of the module's top -/
theorem v_glob {u : Value} {d : D} (hg : Gl X x) (hm : X.mg x = some u) (v : V) (r : RelV v u) (hd : ∀ H, Rp X.K H d v) (hdb : (x == ("__debug__" : Str)) = false := by decide) : VE X W (.Name x pos) (cst d) :=
  PE.imp (pe_glob hg hm r hdb) fun σ H Q ⟨S, G, Hs, ρ, r, p⟩ => p.now r.sub v (hd _)
end
end VL

set_option Elab.async false
set_option linter.all false
set_option maxRecDepth 100000
set_option autoImplicit false
namespace VL
open PySem PySem.Spec PyProof.Rows L2

/-! ### and, or, not as values; chains -/
def eAndV (f g : Ev → R D) : Ev → R D := fun ρ => (f ρ).bind fun x => (ofO (truD x)).bind fun k => if k then g ρ else .ok x
def eOrV (f g : Ev → R D) : Ev → R D := fun ρ => (f ρ).bind fun x => (ofO (truD x)).bind fun k => if k then .ok x else g ρ
def notD (x : D) : Option D := (truD x).map fun k => .bool (!k)
def eChain (F F' : D → D → Option D) (f g h : Ev → R D) : Ev → R D := fun ρ => (f ρ).bind fun x => (g ρ).bind fun y => (ofO (F x y)).bind fun r => (ofO (bOf r)).bind fun b => if b then (h ρ).bind fun z => ofO (F' y z) else .ok (.bool false)
section
variable {X : Cx} {W : WX} {a b c e : Expr} {rest : List Expr} {pos : Pos} {f g h : Ev → R D} {F F' : D → D → Option D}
theorem v_and1 (ha : VE X W a f) : VE X W (.BoolOp .And [a] pos) f := pe_one ha
theorem v_or1 (ha : VE X W a f) : VE X W (.BoolOp .Or [a] pos) f := pe_one ha
theorem v_and (ha : VE X W a f) (hb : VE X W (.BoolOp .And (b :: rest) pos) g) : VE X W (.BoolOp .And (a :: b :: rest) pos) (eAndV f g) := PE.imp (pe_andT ha hb) fun σ H Q ⟨S, G, Hs, ρ, r, p⟩ => by
  refine ⟨S, G, Hs, ρ, r, (Post.bind p).imp fun x Hs1 H1 e q v hv => ?_⟩
  cases z : truD x with
  | none => rw [z] at q; exact q.elim
  | some k =>
    rw [z] at q
    refine ⟨k, truV_of e.sub (.inl hv) z, ?_⟩
    cases k with
    | true => exact ⟨S, G, Hs1, ρ, r.step e, q⟩
    | false => exact q.now e.sub v hv
theorem v_or (ha : VE X W a f) (hb : VE X W (.BoolOp .Or (b :: rest) pos) g) : VE X W (.BoolOp .Or (a :: b :: rest) pos) (eOrV f g) := PE.imp (pe_orT ha hb) fun σ H Q ⟨S, G, Hs, ρ, r, p⟩ => by
  refine ⟨S, G, Hs, ρ, r, (Post.bind p).imp fun x Hs1 H1 e q v hv => ?_⟩
  cases z : truD x with
  | none => rw [z] at q; exact q.elim
  | some k =>
    rw [z] at q
    refine ⟨k, truV_of e.sub (.inl hv) z, ?_⟩
    cases k with
    | false => exact ⟨S, G, Hs1, ρ, r.step e, q⟩
    | true => exact q.now e.sub v hv
theorem v_not (ha : VP X W a f) : VE X W (.UnaryOp .Not a pos) (e1 notD f) := PE.imp (pe_notT ha) fun σ H Q ⟨S, G, Hs, ρ, r, p⟩ => by
  refine ⟨S, G, Hs, ρ, r, (Post.bind p).imp fun x Hs1 H1 e q v hv => ?_⟩
  unfold notD at q
  cases z : truD x with
  | none => rw [z] at q; exact q.elim
  | some k =>
    rw [z] at q
    exact ⟨k, truV_of e.sub hv z, q.now e.sub _ (.bl _)⟩
theorem sim_chain {K : Fg} {mg : Str → Option Value} {r r' : R2} (hd : OpD K r F) (hd' : OpD K r' F') : ∀ σ H Q, tE K mg W (eChain F F' f g h) σ H Q → tChain r r' (tPk K mg W f) (tPk K mg W g) (tPk K mg W h) σ H Q := fun σ H Q ⟨S, G, Hs, ρ, r, p⟩ => by
  refine ⟨S, G, Hs, ρ, r, (Post.bind p).imp fun x Hs1 H1 e q u hu => ?_⟩
  refine ⟨S, G, Hs1, ρ, r.step e, (Post.bind q).imp fun y Hs2 H2 e' q' v hv => ?_⟩
  cases z : F x y with
  | none => rw [z] at q'; exact q'.elim
  | some d =>
    rw [z] at q'
    cases d with
    | bool k =>
      refine hd Hs2 H2 x y u v _ _ e'.sub z (hu.up e') hv fun Hs3 H3 w e3 hw => ?_
      cases hw
      refine ⟨k, rfl, ?_⟩
      have r3 := ((r.step e).step e').step e3
      have q3 := Post.up e3 q'
      cases k with
      | false => exact q3.now e3.sub _ (.bl _)
      | true =>
        have q5 : Post K mg W Hs3 H3 σ ((h ρ).bind fun z => ofO (F' y z)) (fun d Hs' H' => ∀ v, Rp K Hs' d v → Q v H') := q3
        refine ⟨S, G, Hs3, ρ, r3, (Post.bind q5).imp fun t Hs4 H4 e4 q4 w hw => ?_⟩
        cases z2 : F' y t with
        | none => rw [z2] at q4; exact q4.elim
        | some d =>
          rw [z2] at q4
          exact hd' Hs4 H4 y t v w Q d e4.sub z2 ((hv.up e3).up e4) hw fun Hs' H' w e'' hw => q4 Hs' H' e'' w hw
    | none => exact q'.elim
    | int _ => exact q'.elim
    | str _ => exact q'.elim
    | list _ => exact q'.elim
    | tuple _ => exact q'.elim
    | dict _ => exact q'.elim
theorem v_chain {op op' : CmpOp} (ho : DOp X (compareOp op) F) (ho' : DOp X (compareOp op') F') (ha : VP X W a f) (hb : VP X W b g) (hc : VP X W c h) (hm : lastMarks [op, op'] [b, c] = false := by with_unfolding_all rfl) :
    VE X W (.Compare a [op, op'] [b, c] pos) (eChain F F' f g h) := by
  obtain ⟨_, h1, h2⟩ := ho
  obtain ⟨_, h3, h4⟩ := ho'
  exact PE.imp (pe_chain h1 h3 ha hb hc hm) (sim_chain h2 h4)
theorem t_chain {op op' : CmpOp} (ho : DOp X (compareOp op) F) (ho' : DOp X (compareOp op') F') (ha : VP X W a f) (hb : VP X W b g) (hc : VP X W c h) (hm : lastMarks [op, op'] [b, c] = false := by with_unfolding_all rfl) :
    VT X W (.Compare a [op, op'] [b, c] pos) (e1 bOf (eChain F F' f g h)) := by
  obtain ⟨_, h1, h2⟩ := ho
  obtain ⟨_, h3, h4⟩ := ho'
  refine PT.imp (pt_chain h1 h3 ha hb hc hm) fun σ H Q ⟨S, G, Hs, ρ, r, p⟩ => ?_
  refine sim_chain h2 h4 σ H _ ⟨S, G, Hs, ρ, r, (Post.bind p).imp fun x Hs1 H1 e q v hv => ?_⟩
  cases x with
  | bool k => cases hv; exact ⟨k, rfl, q.now e.sub⟩
  | none => exact q.elim
  | int _ => exact q.elim
  | str _ => exact q.elim
  | list _ => exact q.elim
  | tuple _ => exact q.elim
  | dict _ => exact q.elim
end

/-! ### a def of the text, as a callee sees it -/
structure Cl (P : Program) (w : World) (K : Fg) (mg : Str → Option Value) (base : Heap) (k : Nat) (x : Str) (ps : List Str) (m : List D → R SD) : Prop where
  ex : ∃ f fd, DOk P w K mg base k f fd ps m ∧ mg x = some (.ref f) ∧ PySem.W.keepIn K (.ref f) = true ∧ Binds K fd ps []
/-- where it stands -/
structure Df (K : Fg) (mg : Str → Option Value) (x : Str) (st : Stmt) (ps : List Str) : Prop where
  ex : ∃ f fd, Fun K x x st f fd ∧ mg x = some (.ref f) ∧ Binds K fd ps []
section
variable {P : Program} {w : World} {K : Fg} {mg : Str → Option Value} {base : Heap}
theorem Cl.by' {k : Nat} {x : Str} {ps : List Str} {m m' : List D → R SD} (F : Cl P w K mg base k x ps m) (e : ∀ ds, m' ds ≠ .bad → m ds = m' ds) : Cl P w K mg base k x ps m' :=
  let ⟨f, fd, h, r⟩ := F.ex; ⟨f, fd, h.by' e, r⟩
theorem Cl.mono {j k : Nat} {x : Str} {ps : List Str} {m : List D → R SD} (F : Cl P w K mg base j x ps m) (h : j ≤ k) : Cl P w K mg base k x ps m :=
  let ⟨f, fd, d, r⟩ := F.ex; ⟨f, fd, d.mono h, r⟩
theorem cl_ok {x : Str} {st : Stmt} {N ps : List Str} {k : Nat} {F : Ev → Out} (Fn : Df K mg x st ps) (S : FnScope N ps (defScope st))
    (body : ∀ (f : Addr) (cdv : Value) (A : Around) (outer : List Env) (s : Shared) (H : Hp) (E : XK), Inn (cxOf (L2.CX P w) P w K mg base N x (defScope st) f cdv A outer s H E) (fun cls d _ H => E cls d H) k →
      VSs (cxOf (L2.CX P w) P w K mg base N x (defScope st) f cdv A outer s H E) (fun cls d _ H => E cls d H) (defBody st) F) :
    Cl P w K mg base (k + 1) x ps (runD ps.length N.length F) := by
  obtain ⟨f, fd, h1, h2, h3⟩ := Fn.ex
  exact ⟨f, fd, def_ok h1 S fun cdv A outer s H E I => body f cdv A outer s H E I, h2, h1.kp, h3⟩
end
section
variable {X : Cx} {W : WX} {e : Expr} {es : List Expr} {pos p : Pos} {x : Str} {fl : Ev → R (List D)} {k j : Nat} {ps : List Str} {m : List D → R SD}
theorem v_calC (C : Cl X.prog X.w X.K X.mg X.base k x ps m) (hr : Room j X.A) (hgd : X.A.guards = some []) (tk : Takes X W) (ha : VA X W (e :: es) fl) (hg : Gl X x := by rfl) (hj : k ≤ j := by decide)
    (hdb : (x == ("__debug__" : Str)) = false := by decide) (he : starEach (e :: es) X.env = (false, eval e X.env) :: starEach es X.env := by rfl) (hpl : (backTo pos (starEach es X.env)).any (·.1) = false := by rfl) :
    VE X W (.Call (.Name x p) (e :: es) [] pos) (eCall m fl) := by
  obtain ⟨f, fd, h1, h2, h3, h4⟩ := C.ex
  exact v_call h1 (hr.mono hj) hgd hg h2 h3 h4 tk ha hdb he hpl
theorem v_calCO (C : Cl X.prog X.w X.K X.mg X.base k x ps m) (hr : Room j X.A) (hgd : X.A.guards = some []) (tk : Takes X W) (ha : VA X W (e :: es) fl) (hg : Gl X x := by rfl) (hj : k ≤ j := by decide)
    (hdb : (x == ("__debug__" : Str)) = false := by decide) (he : starEach (e :: es) X.env = (false, eval e X.env) :: starEach es X.env := by rfl) (hpl : (backTo pos (starEach es X.env)).any (·.1) = false := by rfl) :
    VO X W (.Call (.Name x p) (e :: es) [] pos) (eCallO m fl) := by
  obtain ⟨f, fd, h1, h2, h3, h4⟩ := C.ex
  exact v_callO h1 (hr.mono hj) hgd hg h2 h3 h4 tk ha hdb he hpl
end
end VL

set_option Elab.async false
set_option linter.all false
set_option maxRecDepth 100000
set_option autoImplicit false
namespace VL
open PySem PySem.Spec PyProof.Rows L2

theorem b_len : bootBuiltins "len" = some (.builtin "len") := by decide +kernel
theorem b_abs : bootBuiltins "abs" = some (.builtin "abs") := by decide +kernel
theorem b_max : bootBuiltins "max" = some (.builtin "max") := by decide +kernel
theorem b_min : bootBuiltins "min" = some (.builtin "min") := by decide +kernel
theorem b_sum : bootBuiltins "sum" = some (.builtin "sum") := by decide +kernel
theorem b_all : bootBuiltins "all" = some (.builtin "all") := by decide +kernel
theorem b_any : bootBuiltins "any" = some (.builtin "any") := by decide +kernel
theorem b_repr : bootBuiltins "repr" = some (.builtin "repr") := by decide +kernel
theorem b_sorted : bootBuiltins "sorted" = some (.builtin "sorted") := by decide +kernel
theorem b_isinstance : bootBuiltins "isinstance" = some (.builtin "isinstance") := by decide +kernel
theorem b_int : bootBuiltins "int" = some (.type "int") := by decide +kernel
theorem b_bool : bootBuiltins "bool" = some (.type "bool") := by decide +kernel
theorem b_str : bootBuiltins "str" = some (.type "str") := by decide +kernel
theorem b_list : bootBuiltins "list" = some (.type "list") := by decide +kernel
theorem b_tuple : bootBuiltins "tuple" = some (.type "tuple") := by decide +kernel
theorem b_set : bootBuiltins "set" = some (.type "set") := by decide +kernel

theorem u65 {k : Nat} {A : Around} (r : Room k A) : A.units + 65 < cLine := by have := r.un; omega
theorem blkOk_rfl {N : List Str} {sc scope : Scope} {own : List (Str × Nat)} (h : blkC N sc scope own = true) : BlkOk N sc scope own := blkOk_by h

/-! ### constants of the top -/
structure Gc (K : Fg) (mg : Str → Option Value) (x : Str) (d : D) : Prop where
  ex : ∃ u v, mg x = some u ∧ RelV v u ∧ ∀ H, Rp K H d v
section
variable {X : Cx} {W : WX} {x : Str} {d : D} {pos : Pos}
theorem v_gl (G : Gc X.K X.mg x d) (hg : Gl X x := by rfl) (hdb : (x == ("__debug__" : Str)) = false := by decide) : VE X W (.Name x pos) (cst d) := by
  obtain ⟨u, v, h1, h2, h3⟩ := G.ex
  exact v_glob hg h1 v h2 h3 hdb
end
section
variable {K : Fg} {mg : Str → Option Value} {x : Str}
theorem gc_int {i : Int} {t : Tok} (h : mg x = some (.int i t)) : Gc K mg x (.int i) := ⟨_, .int i, h, ⟨_, rfl⟩, fun _ => .int i⟩
theorem gc_str {i : Str} {t : Tok} (h : mg x = some (.str i t)) : Gc K mg x (.str i) := ⟨_, .str i, h, ⟨_, rfl⟩, fun _ => .str i⟩
/-- flat data of a written value -/
def absD' : Value → Option (D × V)
  | .none => some (.none, .non)
  | .bool b => some (.bool b, .bl b)
  | .int i _ => some (.int i, .int i)
  | .str s _ => some (.str s, .str s)
  | _ => none
theorem absD'_ok {u : Value} {d : D} {v : V} (h : absD' u = some (d, v)) : RelV v u ∧ ∀ H, Rp K H d v := by
  cases u <;> simp only [absD', Option.some.injEq, Prod.mk.injEq, reduceCtorEq] at h
  · obtain ⟨rfl, rfl⟩ := h; exact ⟨rfl, fun _ => .non⟩
  · obtain ⟨rfl, rfl⟩ := h; exact ⟨rfl, fun _ => .bl _⟩
  · obtain ⟨rfl, rfl⟩ := h; exact ⟨⟨_, rfl⟩, fun _ => .int _⟩
  · obtain ⟨rfl, rfl⟩ := h; exact ⟨⟨_, rfl⟩, fun _ => .str _⟩
def absL : List Value → Option (List (D × V))
  | [] => some []
  | u :: us => (absD' u).bind fun d => (absL us).map (d :: ·)
theorem absL_ok : ∀ {us : List Value} {ds : List (D × V)}, absL us = some ds → Vals (ds.map (·.2)) us ∧ ∀ H, RpL K H (ds.map (·.1)) (ds.map (·.2))
  | [], ds, h => by cases h; exact ⟨.nil, fun _ => .nil⟩
  | u :: us, ds, h => by
    obtain ⟨⟨d, v⟩, h1, h2⟩ := Option.bind_eq_some_iff.mp h
    obtain ⟨ds', h3, rfl⟩ := Option.map_eq_some_iff.mp h2
    obtain ⟨a1, a2⟩ := absD'_ok (K := K) h1
    obtain ⟨b1, b2⟩ := absL_ok h3
    exact ⟨.cons a1 b1, fun H => .cons (a2 H) (b2 H)⟩
/-- a written tuple of flat things -/
structure TupO (o : Obj) (d : D) : Prop where
  cls : o.cls = .type "tuple"
  dat : ∃ ds its n ps, d = .tuple ds ∧ o.data = .seq its n ∧ its.size ≤ sizeLine ∧ absL its.toList = some ps ∧ ps.map (·.1) = ds
theorem tupO_mk {d : D} {cl : Value} {od : Option Addr} {its : Array Value} {n : Nat} {sl : Array (Option Value)} {ps : List (D × V)} (h1 : cl = .type "tuple") (h3 : absL its.toList = some ps) (h4 : d = .tuple (ps.map (·.1))) (h5 : its.size ≤ sizeLine) : TupO ⟨cl, od, .seq its n, sl⟩ d := ⟨h1, _, its, n, ps, h4, rfl, h5, h3, rfl⟩
theorem gc_tup {a : Addr} {o : Obj} {d : D} (h : mg x = some (.ref a)) (hk : K.lookup a = some o) (t : TupO o d) : Gc K mg x d := by
  obtain ⟨h1, ds, its, n, ps, rfl, h2, h3, h4, rfl⟩ := t
  obtain ⟨v, r⟩ := absL_ok (K := K) h4
  exact ⟨_, .ref a, h, rfl, fun H => .tup (.inr ⟨o, its, n, hk, h1, h2, h3, v⟩) (r H)⟩
end

/-! ### repr -/
def reprD : List D → Option D
  | [d] => if SeqAt.shaped d && d.showable && decide (d.shown.length ≤ sizeLine) then some (.str d.shown) else none
  | _ => none
section
variable {X : Cx}
theorem call_repr (hgd : X.A.guards = some []) (hu : X.A.units + 65 < cLine) : CallR X (.builtin "repr") (fun xs H Q => ∃ v d, xs = [v] ∧ Dp X.K H v d ∧ (∃ a, v = .ref a) ∧ SeqAt.shaped d = true ∧ d.showable = true ∧ d.shown.length ≤ sizeLine ∧ Q (.str d.shown) H) := by
  intro pins s σ H xs us Q I r h
  obtain ⟨v, d, rfl, hd, ⟨a, rfl⟩, h1, h2, h3, q⟩ := h
  obtain ⟨u, rfl, ru⟩ := vals1 r
  cases ru
  obtain ⟨as, rd⟩ := Dp.reads I d _ _ hd rfl
  refine repr_of_reads' rd h2 (PyData.noDict_hsm (nodict_of h1)) hgd ?_ (fun _ _ e => e) (fun h' u tk hk => ?_) h3
  · have := SeqAt.depth_of_shaped h1
    omega
  · exact ⟨.str d.shown, H, I.kept (t' := tk) hk, ⟨u, rfl⟩, q⟩
/-- lists and tuples (and ints) -/
def reprL : List D → Option D
  | [.list l] => reprD [.list l]
  | [.tuple l] => reprD [.tuple l]
  | _ => none
theorem c_repr (hgd : X.A.guards = some []) (hu : X.A.units + 65 < cLine) : CalD X (.builtin "repr") reprL := ⟨_, call_repr hgd hu, fun Hs H ds vs Q d hs e hv k => by
  unfold reprL at e
  split at e
  · obtain ⟨v, rfl, h⟩ := hv.one
    obtain ⟨a, xs, rfl, h1, h2⟩ := h.list hs
    unfold reprD at e
    simp only at e
    split at e
    · rename_i hz
      cases e
      rw [Bool.and_eq_true, Bool.and_eq_true] at hz
      exact ⟨_, _, rfl, (h.rp hs).dp (nodict_of hz.1.1), ⟨a, rfl⟩, hz.1.1, hz.1.2, of_decide_eq_true hz.2, k _ _ _ (.refl hs) (.str _)⟩
    · cases e
  · obtain ⟨v, rfl, h⟩ := hv.one
    obtain ⟨a, xs, rfl, h1, h2⟩ := h.tup hs
    unfold reprD at e
    simp only at e
    split at e
    · rename_i hz
      cases e
      rw [Bool.and_eq_true, Bool.and_eq_true] at hz
      exact ⟨_, _, rfl, (h.rp hs).dp (nodict_of hz.1.1), ⟨a, rfl⟩, hz.1.1, hz.1.2, of_decide_eq_true hz.2, k _ _ _ (.refl hs) (.str _)⟩
    · cases e
  · cases e⟩
end

/-! ### the end -/
theorem law_callG {P : Program} {w : World} {K : Fg} {mg mb : Str → Option Value} {k : Nat} {fa a : Addr} {fd : FuncData} {x : Str} {sp : Sp} {s₁ : Shared} {vs : List Value} {ns : List Int}
    (KX : K.In s₁.heap) (hns : s₁.heap.Ns mainGlobals mg) (hb : s₁.heap.Ns builtinsNs mb) (hbb : ∀ x : Str, x ≠ "__name__" → mb x = bootBuiltins x) (hlim : s₁.heap.NoLimit) (hg : s₁.gens = #[])
    (ha : s₁.heap.get? a = some { cls := .type "list", data := .seq vs.toArray }) (hi : IntsAre vs ns) (hl : ns.length ≤ sizeLine) (hr : Room k callerA)
    (F : ∀ base : Heap, FnG P w K mg base k fa fd [x] sp) (hbind : ∀ (s : Shared) (u : Value), BindsTo s fd ⟨[u], []⟩ [(x, u)])
    (hsp : ∀ H : Hp, Only H → SqL K H a (ns.map V.int) → sp [.ref a] H (fun v _ => v = .bl true) fun _ _ _ => False) :
    codeAny (model P w) callerA (.call (.ref fa) ⟨[.ref a], []⟩) (fun r s' => r = .ok (.ret (.bool true)) ∧ OldK s₁.heap s'.heap ∧ s'.os = s₁.os ∧ AllBare s'.gens) s₁ := by
  -- the promise where guards are not asked: at the caller's own place alone
  let sp' : Sp := fun vs H Q E => sp vs H Q E
  have rv := L2.vals_ints hi
  have lenV := hi.length
  have core : ∀ H : Hp, Only H → SqL K H a (ns.map V.int) → HOk P w H s₁.heap → (∀ b, H b ≠ none → b = a) → (H a ≠ none → K.lookup a = none) →
      codeAny (model P w) callerA (.call (.ref fa) ⟨[.ref a], []⟩) (fun r s' => r = .ok (.ret (.bool true)) ∧ OldK s₁.heap s'.heap ∧ s'.os = s₁.os ∧ AllBare s'.gens) s₁ := by
    intro H hO hS hok hA hK
    have base_of : ∀ {b : Addr} {o : Obj}, s₁.heap.get? b = some o → H b = none → (hidT s₁.heap H).get? b = some o := fun e n => hidT_get e n
    have noA : ∀ {b : Addr} {o : Obj} {es : Array DictEntry} {ep : Nat}, s₁.heap.get? b = some o → o.data = .dict es ep → H b = none := fun {b o es ep} e d => by
      cases q : H b with
      | none => rfl
      | some u =>
        have e' : b = a := hA b (by rw [q]; simp)
        subst e'
        rw [ha] at e; cases e
        have d' : Data.seq vs.toArray _ = Data.dict es ep := d
        cases d'
    have nsK : ∀ {b : Addr} {m : Str → Option Value}, s₁.heap.Ns b m → (hidT s₁.heap H).Ns b m := fun {b m} ⟨o, es, ep, e, d, r⟩ => ⟨o, es, ep, base_of e (noA e d), d, r⟩
    have hKb : K.In (hidT s₁.heap H) := fun b o e => base_of (KX b o e) (by
      cases q : H b with
      | none => rfl
      | some u =>
        have e' : b = a := hA b (by rw [q]; simp)
        subst e'
        rw [hK (by rw [q]; simp)] at e; cases e)
    have hM : Mod K mg (hidT s₁.heap H) := ⟨hKb, nsK hns, ⟨mb, nsK hb, hbb⟩, let ⟨mc, h1, h2⟩ := hlim; ⟨mc, nsK h1, h2⟩⟩
    have e0 : Env0 P w K mg (hidT s₁.heap H) callerA [] s₁ H := ⟨rfl, hM, fun b o e => of_hidT e, Nat.le_of_eq (hidT_size _ _), trivial, fun b hb => absurd (show b ∈ ([] : List Addr) from hb) (by simp), hok, .of_eq hg⟩
    refine codeAny_mono ((F _).run callerA [] s₁ H ⟨[.ref a], []⟩ [.ref a] [.ref a] _ _ hr rfl e0 (hbind s₁ (.ref a)) (.cons rfl .nil) (hsp H hO hS)) fun r s' h => ?_
    cases r with
    | error e =>
      obtain ⟨_, _, _, _, _, _, _, _, _, _, _, _, z⟩ := h
      exact z.elim
    | ok fl =>
      cases fl with
      | next => exact False.elim h
      | brk => exact False.elim h
      | cont => exact False.elim h
      | ret u =>
        obtain ⟨v, H', os, bare, un, hok', r', q⟩ := h
        have q' : v = .bl true := q
        subst q'
        obtain rfl : u = Value.bool true := r'
        refine ⟨rfl, OldK.of_keep fun b o e => ?_, os, bare⟩
        cases q : H b with
        | none => exact un.keep b o e q (by intro z; exact absurd (show b ∈ ([] : List Addr) from z) (by simp)) (by simp)
        | some u =>
          rcases hO b with z | ⟨ob, xs, z⟩
          · rw [q] at z; cases z
          · have z2 := un.frzs b ob _ z
            obtain ⟨e1, _⟩ := hok b _ z
            obtain ⟨e2, _⟩ := hok' b _ z2
            rw [e] at e1; cases e1
            exact e2
  cases hk : K.lookup a with
  | some o =>
    have e := KX a o hk
    rw [ha] at e
    cases e
    refine core (fun _ => none) (fun _ => .inl rfl) (.inr ⟨_, vs.toArray, _, hk, rfl, rfl, rfl, by rw [List.size_toArray, lenV]; exact hl, by simpa using rv⟩) (fun b u z => by have z' : (none : Option HO) = some u := z; cases z') (fun b z => absurd rfl z) fun z => absurd rfl z
  | none =>
    refine core (fun b => if b = a then some (.frz { cls := .type "list", data := .seq vs.toArray } (.lst (ns.map V.int))) else none) (fun b => ?_) (.inl (.inr ⟨{ cls := .type "list", data := .seq vs.toArray }, if_pos rfl⟩)) (fun b u z => ?_) (fun b z => ?_) fun _ => hk
    · by_cases hb : b = a
      · exact .inr ⟨_, _, if_pos hb⟩
      · exact .inl (if_neg hb)
    · by_cases hb : b = a
      · have z' := (if_pos hb).symm.trans z
        cases z'
        subst hb
        exact ⟨ha, by rw [List.length_map]; exact hl, vs, _, rv, ha⟩
      · have z' := (if_neg hb).symm.trans z
        cases z'
    · by_cases hb : b = a
      · exact hb
      · exact absurd (if_neg hb) z
/-- the goal that k_head leaves -/
theorem law_end {l : PySem.W.OpenLaw} {k : Nat} {q : Program} {loose : List Str} {XP : (Str → Option Value) → Heap → Prop} {YP : World → Heap → Prop} {d : DefRec} {K : Params → Fg} {x : Str} {m : List D → R SD}
    (hn : l.most = some 63) (hdf : d.params.defaults = []) (hr : Room k callerA)
    (hY : ∀ (w : World) (h : Heap), YP w h → (K w.params).In h)
    (true_ : ∀ ns : List Int, ns.length ≤ 63 → (∀ z ∈ ns, Builtin.Int.intBits z ≤ 1048576) → m [.list (ns.map .int)] = .ok (.sh (.bool true)))
    (F : ∀ (w : World) (mg : Str → Option Value) (fa : Addr) (h : Heap), (K w.params).In h → h.Ns mainGlobals mg → mg d.name = some (.ref fa) →
      ∃ fd : FuncData, (∀ (s : Shared) (u : Value), BindsTo s fd ⟨[u], []⟩ [(x, u)]) ∧ ∀ base : Heap, DOk l.prog w (K w.params) mg base k fa fd [x] m) :
    PySem.W.WalkO q loose XP YP l.row.toRowW d [] (fun f vs => PySem.call f vs) := by
  refine Att.attach_callB hn hdf fun w s₀ s₁ mg mb fa o pm cd doc a vs ns G Y ho hd hcd hmg hobj hints hlen hbits hg => ?_
  have KX := hY w _ Y
  obtain ⟨fd, hb, hF⟩ := F w mg fa _ KX G.T.g hmg
  refine law_callG KX G.T.g G.T.b G.T.builtins G.T.nolimit hg hobj hints (Nat.le_trans hlen (by decide)) hr (fun base => (hF base).fn) hb fun H hO hS => ?_
  refine ⟨rfl, H, [.list (ns.map .int)], .refl _, .cons (.lst hS (RpL.of_ints ns)) .nil, ?_⟩
  rw [true_ ns hlen hbits]
  intro Hs' H' v e hv
  have hv' : Rp (K w.params) Hs' (.bool true) v := hv
  cases hv'
  rfl
end VL

set_option Elab.async false
set_option linter.all false
set_option maxRecDepth 100000
set_option autoImplicit false
namespace VL
open PySem PySem.Spec PyProof.Rows L2

section
variable {X : Cx} {W : WX} {e o : Expr} {pos : Pos} {f g : Ev → R D}
/-! ### str(int), str(str) -/
def strD : List D → Option D
  | [.int i] => if i.natAbs.log2 < 1920 then some (.str (toString i)) else none
  | [.str x] => some (.str x)
  | _ => none
theorem c_str : CalD X (.type "str") strD := ⟨_, call_str_int.or SkE.call_str_str, fun Hs H ds vs Q d hs e hv k => by
  unfold strD at e
  split at e
  · split at e
    · rename_i hz
      cases e
      obtain ⟨v, rfl, h⟩ := hv.one
      exact .inl ⟨_, by rw [h.int], hz, k _ _ _ (.refl hs) (.str _)⟩
    · cases e
  · cases e
    obtain ⟨v, rfl, h⟩ := hv.one
    exact .inr ⟨_, by rw [h.str], k _ _ _ (.refl hs) (.str _)⟩
  · cases e⟩
/-! ### x.pop() as a statement -/
def sPopX (j : Nat) : Ev → Out := fun ρ => onOw j ρ fun l => match l.getLast? with
  | some _ => .nx (ρ.set j (.ow l.dropLast))
  | none => .bad
theorem vs_popX (j : Nat) {x : Str} {p apos cpos : Pos} (ho : PE X (.Name x p) (tVar j))
    (hbase : attributeBase (.Name x p) "pop" X.env (eval (.Name x p) X.env) = eval (.Name x p) X.env := by rfl) (hline : (apos.endLine == cpos.line) = true := by rfl)
    (hs : swapsWith (.Call (.Attribute (.Name x p) "pop" apos) [] [] cpos) none pos.line X.env = pure false := by rfl) : VS X W (.Expr (.Call (.Attribute (.Name x p) "pop" apos) [] [] cpos) pos) (sPopX j) := by
  refine PS.imp (ps_expr (pe_bm0 PySem.F.plainAttrs_list PySem.F.slot_list_pop PySem.F.type_list_pop mt_pop ho hbase hline) hs) fun D σ H ⟨S, G, Hs, ρ, r, h⟩ => ?_
  obtain ⟨l, hl, h⟩ := on_own h
  obtain ⟨b, vs, o1, o2, o3, o4, o5⟩ := r.own hl
  cases z : l.getLast? with
  | none => rw [z] at h; exact h.elim
  | some d =>
    rw [z] at h
    obtain ⟨v, v1, v2⟩ := pop_at o5 z
    exact ⟨_, o1, .inl ⟨rfl, vs, .inl (.inl o4)⟩, b, vs, v, rfl, rfl, o4, v1, h Hs _ _ (.refl _) (r.wr hl o1 o5.dropLast)⟩
/-! ### {"k": e, ..}[e] -/
def selD (ks : List Str) (ds : List D) (k : D) : Option D := match k with
  | .str x => (ks.zip ds).foldl (fun acc p => if x = p.1 then some p.2 else acc) none
  | _ => none
def eDSel (ks : List Str) (fs : Ev → R (List D)) (fk : Ev → R D) : Ev → R D := fun ρ => (fs ρ).bind fun ds => (fk ρ).bind fun k => ofO (selD ks ds k)
/-- the values of a display -/
structure VPs (X : Cx) (W : WX) (dpos : Pos) (ks : List Str) (keys : List (Option Expr)) (vals : List Expr) (fs : Ev → R (List D)) : Prop where
  ex : ∃ trs, PPs X dpos keys vals trs ∧ ∀ σ H (Q : List (V × V) → Hp → Prop), tA X.K X.mg W fs σ H (fun vs H' => vs.length = ks.length → Q ((ks.map V.str).zip vs) H') → tPairs trs σ H Q
  n1 : keys.length = ks.length
  n2 : vals.length = ks.length
  n3 : keys.all (·.isSome) = true
theorem vps_nil {dpos : Pos} : VPs X W dpos [] [] [] (cst []) := ⟨⟨[], pps_nil, fun σ H Q ⟨S, G, Hs, ρ, r, p⟩ => by
  exact (p.now r.sub) [] .nil rfl⟩, rfl, rfl, rfl⟩
theorem vps_cons {dpos kp : Pos} {x : Str} {ks : List Str} {keys : List (Option Expr)} {vals : List Expr} {jj} {v : Expr} {fv : Ev → R D} {fs : Ev → R (List D)} (hv : VE X W v fv) (h : VPs X W dpos ks keys vals fs) :
    VPs X W dpos (x :: ks) (some (.Constant (.str x) jj kp) :: keys) (v :: vals) (eCons fv fs) := by
  obtain ⟨⟨trs, h1, h2⟩, n1, n2, n3⟩ := h
  refine ⟨⟨_, pps_cons pe_str hv h1, fun σ H Q ⟨S, G, Hs, ρ, r, p⟩ => ?_⟩, by simp [n1], by simp [n2], by simp [n3]⟩
  refine ⟨S, G, Hs, ρ, r, (Post.bind p).imp fun d Hs1 H1 e1 q w hw => ?_⟩
  refine h2 σ H1 _ ⟨S, G, Hs1, ρ, r.step e1, (Post.bind q).imp fun ds Hs2 H2 e2 q2 ws hws hl => ?_⟩
  exact q2.now e2.sub (w :: ws) (.cons (hw.mono e2.grow) hws) (by simp [hl])
theorem valV_merge (k : Key) : ∀ (more kvs : List (Key × V)), valV (mergeK kvs more) k = more.foldl (fun acc p => if k = p.1 then some p.2 else acc) (valV kvs k)
  | [], kvs => rfl
  | p :: r, kvs => by
    have := valV_merge k r (putK kvs p.1 p.2)
    rw [valV_put] at this
    exact this
theorem sel_rp {K : Fg} {H : Hp} {x : Str} : ∀ {ks : List Str} {ds : List VL.D} {vs : List V} {acc : Option VL.D} {av : Option V} {d : VL.D}, RpL K H ds vs → vs.length = ks.length → (∀ d, acc = some d → ∃ v, av = some v ∧ Rp K H d v) →
    (ks.zip ds).foldl (fun acc p => if x = p.1 then some p.2 else acc) acc = some d →
    ∃ v, ((ks.zip vs).map fun p => ((Sum.inr p.1 : Key), p.2)).foldl (fun acc p => if (Sum.inr x : Key) = p.1 then some p.2 else acc) av = some v ∧ Rp K H d v
  | [], _, _, acc, av, d, r, hl, ha, e => by
    cases r with
    | nil => exact ha d e
    | cons _ _ => simp at hl
  | k :: ks, _, _, acc, av, d, r, hl, ha, e => by
    cases r with
    | nil => simp at hl
    | cons h r =>
      refine sel_rp (ks := ks) (x := x) r (by simpa using hl) (fun d' e' => ?_) e
      by_cases hx : x = k
      · subst hx
        simp at e' ⊢
        subst e'
        exact h
      · have hx' : ¬ ((Sum.inr x : Key) = Sum.inr k) := fun z => hx (Sum.inr.inj z)
        simp only [if_neg hx, if_neg hx'] at e' ⊢
        exact ha d' e'
theorem v_dsel {dpos : Pos} {ks : List Str} {keys : List (Option Expr)} {vals : List Expr} {i : Expr} {fs : Ev → R (List D)} (hu : X.A.units + 1 < cLine) (h : VPs X W dpos ks keys vals fs) (hi : VE X W i g) (hs : NoSl i) (h0 : keys ≠ [])
    (h15 : ks.length ≤ 15) : VE X W (.Subscript (.Dict keys vals dpos) i pos) (eDSel ks fs g) := by
  obtain ⟨⟨trs, h1, h2⟩, n1, n2, n3⟩ := h
  refine PE.imp (pe_dget hu (pe_disp h1 n3 (n1.trans n2.symm) h0 (by omega)) hi hs) fun σ H Q ⟨S, G, Hs, ρ, r, p⟩ => ?_
  intro a ha
  have x0 := Ext.hid (o := .dK []) r.sub ha
  refine h2 σ _ _ ⟨S, G, Hs, ρ, r.step x0, ?_⟩
  unfold eDSel at p
  cases hf : fs ρ with
  | bad => rw [hf] at p; exact p
  | ex x => rw [hf] at p; exact fun Hs' H' cls dd e' hx => p Hs' H' cls dd (((Ext.hid (o := .dK []) r.sub ha)).trans e') hx
  | ok ds =>
    rw [hf] at p
    have p : Post X.K X.mg W Hs H σ ((g ρ).bind fun k => ofO (selD ks ds k)) _ := p
    intro Hs1 H1 e1 vs hvs hl
    have e0 : H1 a = some (.dK []) := e1.same _ _ upd_same
    have nH : Hs1 a = none := by
      cases z : Hs1 a with
      | none => rfl
      | some o =>
        have := e1.fresh a o z (r.sub.free ha)
        rw [upd_same] at this; cases this
    have x1 : Ext Hs H Hs1 (upd H1 a (.dK (mergeK [] ((ks.zip vs).map fun p => ((Sum.inr p.1 : Key), p.2))))) := by
      refine ⟨fun b u z => ?_, fun b u z => ?_, e1.grow, fun b o h3 h4 => ?_⟩
      · rw [upd_ne (ne_of_none z nH)]; exact e1.sub b u z
      · rw [upd_ne (ne_of_none z ha)]; exact e1.same b u (by rw [upd_ne (ne_of_none z ha)]; exact z)
      · have := e1.fresh b o h3 h4
        by_cases hb : b = a
        · subst hb; exact ha
        · rw [upd_ne hb] at this; exact this
    refine ⟨e0, (ks.zip vs).map fun p => ((Sum.inr p.1 : Key), p.2), ?_, ?_, ?_⟩
    · rw [List.map_map]
      have : ∀ (ks : List Str) (vs : List V), (ks.map V.str).zip vs = (ks.zip vs).map ((fun kv : Key × V => (kV kv.1, kv.2)) ∘ fun p => ((Sum.inr p.1 : Key), p.2)) := fun ks => by
        induction ks with
        | nil => intro vs; rfl
        | cons k ks ih =>
          intro vs
          cases vs with
          | nil => rfl
          | cons v vs => simp only [List.map_cons, List.zip_cons_cons, ih]; rfl
      exact this ks vs
    · rw [List.length_map, List.length_zip]; omega
    · refine ⟨S, G, Hs1, ρ, r.step x1, (Post.bind (p.up x1)).imp fun k Hs2 H2 e2 q w hw => ?_⟩
      cases z : selD ks ds k with
      | none => rw [z] at q; exact q.elim
      | some d =>
        rw [z] at q
        cases k with
        | str x =>
          cases hw
          obtain ⟨v, v1, v2⟩ := sel_rp (x := x) (acc := none) (av := none) hvs hl (fun d e => by cases e) z
          refine ⟨a, v, rfl, .inl ⟨_, Sum.inr x, .inl (e2.same _ _ upd_same), rfl, ?_⟩, q.now e2.sub v (v2.mono e2.grow)⟩
          rw [valV_merge]
          exact v1.symm
        | none => cases z
        | bool _ => cases z
        | int _ => cases z
        | list _ => cases z
        | tuple _ => cases z
        | dict _ => cases z
end
end VL

set_option Elab.async false
set_option linter.all false
set_option maxRecDepth 100000
set_option autoImplicit false
namespace VL
open PySem PySem.Spec PyProof.Rows L2

/-! ### evaluations that change a list of one's own, or the lent one -/
inductive RX (α : Type) where
  | ok (a : α) (ρ : Ev)
  | bad
def RX.bind {α β : Type} (r : RX α) (f : α → Ev → RX β) : RX β := match r with
  | .ok a ρ => f a ρ
  | .bad => .bad
def PostX {α : Type} (K : Fg) (S : Hp) (G : Gx) (σ : Sg) (Hs : Hp) : RX α → (α → Ev → Hp → Hp → Prop) → Prop
  | .ok a ρ, P => ∀ Hs' H', Same Hs Hs' → RelE K S G Hs' H' σ ρ → P a ρ Hs' H'
  | .bad, _ => False
section
variable {α β : Type} {K : Fg} {S Hs H Hs1 : Hp} {G : Gx} {σ : Sg}
theorem PostX.up {r : RX α} {P : α → Ev → Hp → Hp → Prop} (h : PostX K S G σ Hs r P) (g : Same Hs Hs1) : PostX K S G σ Hs1 r P := by
  cases r with
  | ok a ρ => exact fun Hs' H' e => h Hs' H' (g.trans e)
  | bad => exact h
theorem PostX.imp {r : RX α} {P P' : α → Ev → Hp → Hp → Prop} (h : PostX K S G σ Hs r P) (hp : ∀ a ρ Hs' H', Same Hs Hs' → RelE K S G Hs' H' σ ρ → P a ρ Hs' H' → P' a ρ Hs' H') : PostX K S G σ Hs r P' := by
  cases r with
  | ok a ρ => exact fun Hs' H' g r' => hp _ _ _ _ g r' (h Hs' H' g r')
  | bad => exact h
theorem PostX.bind {r : RX α} {f : α → Ev → RX β} {P : β → Ev → Hp → Hp → Prop} (h : PostX K S G σ Hs (r.bind f) P) : PostX K S G σ Hs r (fun a ρ Hs' H' => PostX K S G σ Hs' (f a ρ) P) := by
  cases r with
  | ok a ρ => exact fun Hs' H' g r' => PostX.up h g
  | bad => exact h
theorem PostX.now {a : α} {ρ : Ev} {P : α → Ev → Hp → Hp → Prop} (h : PostX K S G σ Hs (.ok a ρ) P) (r : RelE K S G Hs H σ ρ) : P a ρ Hs H := h Hs H (.refl _) r
end
def tX (K : Fg) (f : Ev → RX D) : TE := fun σ H Q => ∃ S G Hs ρ, RelE K S G Hs H σ ρ ∧ PostX K S G σ Hs (f ρ) (fun d _ Hs' H' => ∀ v, Rp K Hs' d v → Q v H')
def tXO (K : Fg) (f : Ev → RX (List D)) : TE := fun σ H Q => ∃ S G Hs ρ, RelE K S G Hs H σ ρ ∧
  PostX K S G σ Hs (f ρ) (fun l _ Hs' H' => ∀ Hs2 H2 p vs, Ext Hs' H' Hs2 H2 → H' p = none → Hs2 p = none → H2 p = some (.lst vs) → RpL K Hs2 l vs → Q (.ref p) H2)
def tXT (K : Fg) (f : Ev → RX Bool) : TT := fun σ H Q => ∃ S G Hs ρ, RelE K S G Hs H σ ρ ∧ PostX K S G σ Hs (f ρ) (fun b _ _ H' => Q b H')
def tXA (K : Fg) (f : Ev → RX (List D)) : TA := fun σ H Q => ∃ S G Hs ρ, RelE K S G Hs H σ ρ ∧ PostX K S G σ Hs (f ρ) (fun ds _ Hs' H' => ∀ vs, RpL K Hs' ds vs → Q vs H')
def tXI (K : Fg) (f : Ev → RX (List D)) : TI := fun σ H Rr => ∃ S G Hs ρ, RelE K S G Hs H σ ρ ∧ PostX K S G σ Hs (f ρ) (fun l _ Hs' H' => ∀ J, ItD K J Hs' l → Rr J H')
def XE (X : Cx) (e : Expr) (f : Ev → RX D) : Prop := PE X e (tX X.K f)
def XO (X : Cx) (e : Expr) (f : Ev → RX (List D)) : Prop := PE X e (tXO X.K f)
def XT (X : Cx) (e : Expr) (f : Ev → RX Bool) : Prop := PT X e (tXT X.K f)
def XW (X : Cx) (e : Expr) (f : Ev → RX Bool) : Prop := PW X e (tXT X.K f)
def XA (X : Cx) (es : List Expr) (f : Ev → RX (List D)) : Prop := PA X es (tXA X.K f)
def XI (X : Cx) (tg iter : Expr) (f : Ev → RX (List D)) : Prop := PI X tg iter (tXI X.K f)
/-- without a change -/
def xl {α : Type} (f : Ev → R α) : Ev → RX α := fun ρ => match f ρ with
  | .ok a => .ok a ρ
  | _ => .bad
def ofX {α : Type} (o : Option α) (ρ : Ev) : RX α := match o with
  | some a => .ok a ρ
  | none => .bad
def x1 {α β : Type} (F : α → Option β) (f : Ev → RX α) : Ev → RX β := fun ρ => (f ρ).bind fun x ρ => ofX (F x) ρ
def x2 {α β γ : Type} (F : α → β → Option γ) (f : Ev → RX α) (g : Ev → RX β) : Ev → RX γ := fun ρ => (f ρ).bind fun x ρ => (g ρ).bind fun y ρ => ofX (F x y) ρ
def xCons (f : Ev → RX D) (g : Ev → RX (List D)) : Ev → RX (List D) := fun ρ => (f ρ).bind fun x ρ => (g ρ).bind fun xs ρ => .ok (x :: xs) ρ
def xLst (f : Ev → RX (List D)) : Ev → RX D := fun ρ => (f ρ).bind fun l ρ => .ok (.list l) ρ
def xIf {α : Type} (c : Ev → RX Bool) (f g : Ev → RX α) : Ev → RX α := fun ρ => (c ρ).bind fun b ρ => if b then f ρ else g ρ
def xAnd (f g : Ev → RX Bool) : Ev → RX Bool := fun ρ => (f ρ).bind fun b ρ => if b then g ρ else .ok false ρ
def xOr (f g : Ev → RX Bool) : Ev → RX Bool := fun ρ => (f ρ).bind fun b ρ => if b then .ok true ρ else g ρ
def xNot (f : Ev → RX Bool) : Ev → RX Bool := fun ρ => (f ρ).bind fun b ρ => .ok (!b) ρ
def xCall (m : List D → R SD) (fl : Ev → RX (List D)) : Ev → RX D := fun ρ => (fl ρ).bind fun ds ρ => match m ds with
  | .ok s => ofX (toD s) ρ
  | _ => .bad
def xCallO (m : List D → R SD) (fl : Ev → RX (List D)) : Ev → RX (List D) := fun ρ => (fl ρ).bind fun ds ρ => match m ds with
  | .ok s => ofX (toL s) ρ
  | _ => .bad

section
variable {X : Cx} {W : WX} {e a b c : Expr} {es : List Expr} {pos p : Pos} {f g : Ev → RX D} {fl : Ev → RX (List D)} {fb gb : Ev → RX Bool}
theorem xl_post {α : Type} {K : Fg} {mg : Str → Option Value} {W : WX} {S G Hs H σ} {f : Ev → R α} {ρ : Ev} {P : α → Ev → Hp → Hp → Prop} (r : RelE K S G Hs H σ ρ) (h : PostX K S G σ Hs (xl f ρ) P) : Post K mg W Hs H σ (f ρ) (fun a Hs' H' => P a ρ Hs' H') := by
  unfold xl at h
  cases z : f ρ with
  | ok a => rw [z] at h; exact fun Hs' H' e => h Hs' H' e.grow (r.step e)
  | ex x => rw [z] at h; exact h.elim
  | bad => rw [z] at h; exact h.elim
theorem x_e {f : Ev → R D} (h : VE X W e f) : XE X e (xl f) := PE.imp h fun σ H Q ⟨S, G, Hs, ρ, r, p⟩ => ⟨S, G, Hs, ρ, r, xl_post r p⟩
theorem x_o {f : Ev → R (List D)} (h : VO X W e f) : XO X e (xl f) := PE.imp h fun σ H Q ⟨S, G, Hs, ρ, r, p⟩ => by
  refine ⟨S, G, Hs, ρ, r, ?_⟩
  unfold xl at p
  cases z : f ρ with
  | ok l =>
    rw [z] at p
    exact fun Hs' H' e p' vs h0 h1 h2 h3 => p Hs H (.refl _) r Hs' H' p' vs e h0 h1 h2 h3
  | ex x => rw [z] at p; exact p.elim
  | bad => rw [z] at p; exact p.elim
theorem x_t {f : Ev → R Bool} (h : VT X W e f) : XT X e (xl f) := PT.imp h fun σ H Q ⟨S, G, Hs, ρ, r, p⟩ => ⟨S, G, Hs, ρ, r, xl_post r p⟩
theorem x_i {tg : Expr} {f : Ev → R (List D)} (h : VI X W tg e f) : XI X tg e (xl f) := PI.imp h fun σ H Q ⟨S, G, Hs, ρ, r, p⟩ => ⟨S, G, Hs, ρ, r, xl_post r p⟩
theorem XO.xe (h : XO X e fl) : XE X e (xLst fl) := PE.imp h fun σ H Q ⟨S, G, Hs, ρ, r, p⟩ => by
  refine ⟨S, G, Hs, ρ, r, (PostX.bind p).imp fun l ρ1 Hs1 H1 g1 r1 q Hs2 H2 p' vs e h0 h1 h2 h3 => ?_⟩
  exact q _ _ ((e.frz h0 h2 h1).grow) (r1.step (e.frz h0 h2 h1)) _ (.lst (.inl (.inl upd_same)) (h3.mono fun b u z => by rw [upd_ne (ne_of_none z h1)]; exact z))
theorem ofX_post {α : Type} {K : Fg} {S G σ Hs} {o : Option α} {ρ : Ev} {P : α → Ev → Hp → Hp → Prop} (h : PostX K S G σ Hs (ofX o ρ) P) : ∃ d, o = some d ∧ PostX K S G σ Hs (.ok d ρ) P := by
  cases o with
  | none => exact h.elim
  | some d => exact ⟨d, rfl, h⟩
theorem simX_op {K : Fg} {r : R2} {F : D → D → Option D} (hd : OpD K r F) : ∀ σ H Q, tX K (x2 F f g) σ H Q → tOp r (tX K f) (tX K g) σ H Q := fun σ H Q ⟨S, G, Hs, ρ, rl, p⟩ => by
  refine ⟨S, G, Hs, ρ, rl, (PostX.bind p).imp fun x ρ1 Hs1 H1 g1 r1 q u hu => ?_⟩
  refine ⟨S, G, Hs1, ρ1, r1, (PostX.bind q).imp fun y ρ2 Hs2 H2 g2 r2 q2 v hv => ?_⟩
  obtain ⟨d, z, q3⟩ := ofX_post q2
  exact hd Hs2 H2 x y u v Q d r2.sub z (.inl (hu.mono g2)) (.inl hv) fun Hs' H' w e hw => q3 Hs' H' e.grow (r2.step e) w hw
theorem simX_opO {K : Fg} {r : R2} {F : D → D → Option (List D)} (hd : OpO K r F) : ∀ σ H Q, tXO K (x2 F f g) σ H Q → tOp r (tX K f) (tX K g) σ H Q := fun σ H Q ⟨S, G, Hs, ρ, rl, p⟩ => by
  refine ⟨S, G, Hs, ρ, rl, (PostX.bind p).imp fun x ρ1 Hs1 H1 g1 r1 q u hu => ?_⟩
  refine ⟨S, G, Hs1, ρ1, r1, (PostX.bind q).imp fun y ρ2 Hs2 H2 g2 r2 q2 v hv => ?_⟩
  obtain ⟨d, z, q3⟩ := ofX_post q2
  exact hd Hs2 H2 x y u v Q d r2.sub z (.inl (hu.mono g2)) (.inl hv) fun Hs' H' p vs e h0 h1 h2 h3 => q3 Hs2 H2 (.refl _) r2 Hs' H' p vs e h0 h1 h2 h3
theorem x_op {op : Operator} {F : D → D → Option D} (ho : DOp X (binaryOp op) F) (ha : XE X a f) (hb : XE X b g) : XE X (.BinOp a op b pos) (x2 F f g) := let ⟨_, h1, h2⟩ := ho; PE.imp (pe_op h1 ha hb) (simX_op h2)
theorem x_opO {op : Operator} {F : D → D → Option (List D)} (ho : DOpO X (binaryOp op) F) (ha : XE X a f) (hb : XE X b g) : XO X (.BinOp a op b pos) (x2 F f g) := let ⟨_, h1, h2⟩ := ho; PE.imp (pe_op h1 ha hb) (simX_opO h2)
theorem x_cmp {op : CmpOp} {F : D → D → Option D} (ho : DOp X (compareOp op) F) (ha : XE X a f) (hb : XE X b g) (hm : behindInMarks op b = false := by first | exact nomark _ | rfl) : XE X (.Compare a [op] [b] pos) (x2 F f g) := let ⟨_, h1, h2⟩ := ho; PE.imp (pe_cmpR h1 ha hb hm) (simX_op h2)
theorem x_ix {F : D → D → Option D} (ho : DIx X F) (ha : XE X a f) (hb : XE X b g) (hs : PlainIx b := by exact fun _ _ => rfl) : XE X (.Subscript a b pos) (x2 F f g) := let ⟨_, h1, h2⟩ := ho; PE.imp (pe_ix h1 ha hb hs) (simX_op h2)
theorem x_un {op : UnaryOp} {F : D → Option D} (ho : DUn X (unaryOp op) F) (ha : XE X a f) : XE X (.UnaryOp op a pos) (x1 F f) := let ⟨_, h1, h2⟩ := ho; PE.imp (pe_un h1 ha) fun σ H Q ⟨S, G, Hs, ρ, rl, p⟩ => by
  refine ⟨S, G, Hs, ρ, rl, (PostX.bind p).imp fun x ρ1 Hs1 H1 g1 r1 q u hu => ?_⟩
  obtain ⟨d, z, q3⟩ := ofX_post q
  exact h2 Hs1 H1 x u Q d r1.sub z (.inl hu) fun Hs' H' w e hw => q3 Hs' H' e.grow (r1.step e) w hw
theorem xt_cmp {op : CmpOp} {F : D → D → Option D} (ho : DOp X (compareOp op) F) (ha : XE X a f) (hb : XE X b g) (hm : behindInMarks op b = false := by first | exact nomark _ | rfl) : XT X (.Compare a [op] [b] pos) (x1 bOf (x2 F f g)) := by
  obtain ⟨_, h1, h2⟩ := ho
  refine PT.imp (pt_cmpR h1 ha hb hm) fun σ H Q ⟨S, G, Hs, ρ, r, p⟩ => ?_
  refine simX_op h2 σ H _ ⟨S, G, Hs, ρ, r, (PostX.bind p).imp fun x ρ1 Hs1 H1 g1 r1 q v hv => ?_⟩
  obtain ⟨k, z, q3⟩ := ofX_post q
  cases x with
  | bool k' => cases z; cases hv; exact ⟨k, rfl, q3.now r1⟩
  | none => cases z
  | int _ => cases z
  | str _ => cases z
  | list _ => cases z
  | tuple _ => cases z
  | dict _ => cases z
theorem xt_tru (ha : XE X a f) (he : ∀ whole, isTrue a X.env whole = (do let v ← whole; standAt a.pos; holding [v] (truthy v)) := by intro _; rfl) : XT X a (x1 truD f) := PT.imp (pt_truth ha he) fun σ H Q ⟨S, G, Hs, ρ, r, p⟩ => by
  refine ⟨S, G, Hs, ρ, r, (PostX.bind p).imp fun x ρ1 Hs1 H1 g1 r1 q u hu => ?_⟩
  obtain ⟨k, z, q3⟩ := ofX_post q
  exact ⟨k, truV_of r1.sub (.inl hu) z, q3.now r1⟩
theorem simX_and {K : Fg} : ∀ σ H Q, tXT K (xAnd fb gb) σ H Q → tAnd (tXT K fb) (tXT K gb) σ H Q := fun σ H Q ⟨S, G, Hs, ρ, r, p⟩ => by
  refine ⟨S, G, Hs, ρ, r, (PostX.bind p).imp fun k ρ1 Hs1 H1 g1 r1 q => ?_⟩
  cases k with
  | true => exact ⟨S, G, Hs1, ρ1, r1, q⟩
  | false => exact q.now r1
theorem simX_or {K : Fg} : ∀ σ H Q, tXT K (xOr fb gb) σ H Q → tOr (tXT K fb) (tXT K gb) σ H Q := fun σ H Q ⟨S, G, Hs, ρ, r, p⟩ => by
  refine ⟨S, G, Hs, ρ, r, (PostX.bind p).imp fun k ρ1 Hs1 H1 g1 r1 q => ?_⟩
  cases k with
  | false => exact ⟨S, G, Hs1, ρ1, r1, q⟩
  | true => exact q.now r1
theorem XW.xt (h : XW X e fb) : XT X e fb := PW.pt h
theorem xw_and1 (ha : XT X a fb) : XW X (.BoolOp .And [a] pos) fb := pw_and1 ha
theorem xw_or1 (ha : XT X a fb) : XW X (.BoolOp .Or [a] pos) fb := pw_or1 ha
theorem xw_and {rest : List Expr} (ha : XT X a fb) (hb : XW X (.BoolOp .And (b :: rest) pos) gb) : XW X (.BoolOp .And (a :: b :: rest) pos) (xAnd fb gb) := PW.imp (pw_and ha hb) simX_and
theorem xw_or {rest : List Expr} (ha : XT X a fb) (hb : XW X (.BoolOp .Or (b :: rest) pos) gb) : XW X (.BoolOp .Or (a :: b :: rest) pos) (xOr fb gb) := PW.imp (pw_or ha hb) simX_or
theorem xt_not (ha : XT X a fb) : XT X (.UnaryOp .Not a pos) (xNot fb) := PT.imp (pt_not ha) fun σ H Q ⟨S, G, Hs, ρ, r, p⟩ =>
  ⟨S, G, Hs, ρ, r, (PostX.bind p).imp fun k ρ1 Hs1 H1 g1 r1 q => q.now r1⟩
theorem x_ifExp (hc : XT X c fb) (ha : XE X a f) (hb : XE X b g) : XE X (.IfExp c a b pos) (xIf fb f g) := PE.imp (pe_ifExp hc ha hb) fun σ H Q ⟨S, G, Hs, ρ, r, p⟩ => by
  refine ⟨S, G, Hs, ρ, r, (PostX.bind p).imp fun k ρ1 Hs1 H1 g1 r1 q => ?_⟩
  cases k with
  | true => exact ⟨S, G, Hs1, ρ1, r1, q⟩
  | false => exact ⟨S, G, Hs1, ρ1, r1, q⟩
theorem xa_nil : XA X [] (xl (cst [])) := PA.imp pa_nil fun σ H Q ⟨S, G, Hs, ρ, r, p⟩ => p.now r [] .nil
theorem xa_cons (ha : XE X e f) (hr : XA X es fl) (hs : starEach (e :: es) X.env = (false, eval e X.env) :: starEach es X.env := by rfl) : XA X (e :: es) (xCons f fl) := PA.imp (pa_cons ha hr hs) fun σ H Q ⟨S, G, Hs, ρ, r, p⟩ => by
  refine ⟨S, G, Hs, ρ, r, (PostX.bind p).imp fun x ρ1 Hs1 H1 g1 r1 q u hu => ?_⟩
  refine ⟨S, G, Hs1, ρ1, r1, (PostX.bind q).imp fun xs ρ2 Hs2 H2 g2 r2 q2 us hus => ?_⟩
  exact q2.now r2 (u :: us) (.cons (hu.mono g2) hus)
theorem x_tup {x1' : Nat} (h : XA X es fl) : XE X (.Tuple es x1' pos) (x1 tupD fl) := PE.imp (pe_tup h) fun σ H Q ⟨S, G, Hs, ρ, r, p⟩ => by
  refine ⟨S, G, Hs, ρ, r, (PostX.bind p).imp fun l ρ1 Hs1 H1 g1 r1 q us hus => ?_⟩
  obtain ⟨d, z, q3⟩ := ofX_post q
  unfold tupD at z
  obtain ⟨l', z1, rfl⟩ := Option.map_eq_some_iff.mp z
  obtain ⟨rfl, hz⟩ := lim_some z1
  refine ⟨by rw [← hus.length]; exact hz, fun p hp => ?_⟩
  have x := Ext.new (o := .tup us) r1.sub hp
  exact q3 _ _ x.grow (r1.step x) _ (.tup (.inl (.inl upd_same)) (hus.mono x.grow))
theorem x_lst (h : XA X es fl) : XO X (.List es pos) (x1 lim fl) := PE.imp (pe_lst h) fun σ H Q ⟨S, G, Hs, ρ, r, p⟩ => by
  refine ⟨S, G, Hs, ρ, r, (PostX.bind p).imp fun l ρ1 Hs1 H1 g1 r1 q us hus => ?_⟩
  obtain ⟨l', z, q3⟩ := ofX_post q
  obtain ⟨rfl, hz⟩ := lim_some z
  refine ⟨by rw [← hus.length]; exact hz, fun p hp => ?_⟩
  refine q3 Hs1 H1 (.refl _) r1 _ _ p us (Ext.hid (o := .lst us) r1.sub hp) hp ?_ upd_same hus
  cases y : Hs1 p with
  | none => rfl
  | some o => rw [r1.sub _ _ y] at hp; cases hp
theorem PkL.of_rp {K : Fg} {Hs H : Hp} : ∀ {ds : List D} {vs : List V}, RpL K Hs ds vs → PkL K Hs H ds vs
  | _, _, .nil => trivial
  | _, _, .cons h r => ⟨.inl h, PkL.of_rp r⟩
theorem simX_cal {K : Fg} {r : List V → Hp → VK → Prop} {F : List D → Option D} (h : ∀ (Hs H : Hp) (ds : List D) (vs : List V) (Q : VK) (d : D), Same Hs H → F ds = some d → PkL K Hs H ds vs →
    (∀ Hs' H' w, Ext Hs H Hs' H' → Rp K Hs' d w → Q w H') → r vs H Q) : ∀ σ H Q, tX K (x1 F fl) σ H Q → tCB r (tXA K fl) σ H Q := fun σ H Q ⟨S, G, Hs, ρ, rl, p⟩ => by
  refine ⟨S, G, Hs, ρ, rl, (PostX.bind p).imp fun ds ρ1 Hs1 H1 g1 r1 q vs hv => ?_⟩
  obtain ⟨d, z, q3⟩ := ofX_post q
  exact h Hs1 H1 ds vs Q d r1.sub z (PkL.of_rp hv) fun Hs' H' w e hw => q3 Hs' H' e.grow (r1.step e) w hw
theorem simX_calO {K : Fg} {r : List V → Hp → VK → Prop} {F : List D → Option (List D)} (h : ∀ (Hs H : Hp) (ds : List D) (vs : List V) (Q : VK) (d : List D), Same Hs H → F ds = some d → PkL K Hs H ds vs →
    (∀ Hs' H' p vs, Ext Hs H Hs' H' → H p = none → Hs' p = none → H' p = some (.lst vs) → RpL K Hs' d vs → Q (.ref p) H') → r vs H Q) : ∀ σ H Q, tXO K (x1 F fl) σ H Q → tCB r (tXA K fl) σ H Q := fun σ H Q ⟨S, G, Hs, ρ, rl, p⟩ => by
  refine ⟨S, G, Hs, ρ, rl, (PostX.bind p).imp fun ds ρ1 Hs1 H1 g1 r1 q vs hv => ?_⟩
  obtain ⟨d, z, q3⟩ := ofX_post q
  exact h Hs1 H1 ds vs Q d r1.sub z (PkL.of_rp hv) fun Hs' H' p vs e h0 h1 h2 h3 => q3 Hs1 H1 (.refl _) r1 Hs' H' p vs e h0 h1 h2 h3
variable {x : Str} {bid T : String} {F : List D → Option D} {FO : List D → Option (List D)}
theorem x_blt (hc : CalD X (.builtin bid) F) (hg : Gl X x) (hm : X.mg x = none) (hv : bootBuiltins x = some (.builtin bid)) (ha : XA X (e :: es) fl) (hn : x ≠ "__name__" := by decide) (hdb : (x == ("__debug__" : Str)) = false := by decide)
    (he : starEach (e :: es) X.env = (false, eval e X.env) :: starEach es X.env := by rfl) (hpl : (backTo pos (starEach es X.env)).any (·.1) = false := by rfl) : XE X (.Call (.Name x p) (e :: es) [] pos) (x1 F fl) :=
  let ⟨_, h1, h2⟩ := hc; PE.imp (pe_callB h1 hg hm hv ha hn hdb he hpl) (simX_cal h2)
theorem x_typ (hc : CalD X (.type T) F) (hg : Gl X x) (hm : X.mg x = none) (hv : bootBuiltins x = some (.type T)) (ha : XA X (e :: es) fl) (hn : x ≠ "__name__" := by decide) (hdb : (x == ("__debug__" : Str)) = false := by decide)
    (he : starEach (e :: es) X.env = (false, eval e X.env) :: starEach es X.env := by rfl) (hpl : (backTo pos (starEach es X.env)).any (·.1) = false := by rfl) : XE X (.Call (.Name x p) (e :: es) [] pos) (x1 F fl) :=
  let ⟨_, h1, h2⟩ := hc; PE.imp (pe_callTy h1 hg hm hv ha hn hdb he hpl) (simX_cal h2)
theorem x_typO (hc : CalO X (.type T) FO) (hg : Gl X x) (hm : X.mg x = none) (hv : bootBuiltins x = some (.type T)) (ha : XA X (e :: es) fl) (hn : x ≠ "__name__" := by decide) (hdb : (x == ("__debug__" : Str)) = false := by decide)
    (he : starEach (e :: es) X.env = (false, eval e X.env) :: starEach es X.env := by rfl) (hpl : (backTo pos (starEach es X.env)).any (·.1) = false := by rfl) : XO X (.Call (.Name x p) (e :: es) [] pos) (x1 FO fl) :=
  let ⟨_, h1, h2⟩ := hc; PE.imp (pe_callTy h1 hg hm hv ha hn hdb he hpl) (simX_calO h2)
/-! sources of loops -/
theorem xi_seq {tg : Expr} (h : XE X e f) : XI X tg e (x1 seqD f) := PI.imp (pi_seq h) fun σ H Rr ⟨S, G, Hs, ρ, r, p⟩ => by
  refine ⟨S, G, Hs, ρ, r, (PostX.bind p).imp fun d ρ1 Hs1 H1 g1 r1 q v hv => ?_⟩
  obtain ⟨l, z, q3⟩ := ofX_post q
  have q' := q3.now r1
  unfold seqD at z
  split at z
  · cases z
    cases hv with
    | lst h1 h2 => exact .inl ⟨_, rfl, ⟨_, Same.seq r1.sub h1⟩, q' _ (it_list h1 h2)⟩
  · cases z
    cases hv with
    | tup h1 h2 => exact .inr (.inl ⟨_, rfl, ⟨_, SqT.mono r1.sub h1⟩, q' _ (it_tup h1 h2)⟩)
  · cases z
    cases hv
    exact .inr (.inr ⟨_, rfl, q' _ (it_str _)⟩)
  · cases z
theorem xi_range1 {tg : Expr} (hg : Gl X "range") (hm : X.mg "range" = none) (ha : XA X [a] fl) (hs : starEach [a] X.env = [(false, eval a X.env)] := by rfl) : XI X tg (.Call (.Name "range" p) [a] [] pos) (x1 range1D fl) := PI.imp (pi_range1 hg hm ha hs) fun σ H Rr ⟨S, G, Hs, ρ, r, p⟩ => by
  refine ⟨S, G, Hs, ρ, r, (PostX.bind p).imp fun ds ρ1 Hs1 H1 g1 r1 q vs hv => ?_⟩
  obtain ⟨l, z, q3⟩ := ofX_post q
  have q' := q3.now r1
  unfold range1D at z
  split at z
  · split at z
    · rename_i hz
      cases z
      unfold in62 at hz
      have hz' := of_decide_eq_true hz
      obtain ⟨v, rfl, h⟩ := (PkL.of_rp (H := H1) hv).one
      exact ⟨_, by rw [h.int], hz'.1, hz'.2, q' _ it_rng⟩
    · cases z
  · cases z
theorem xi_range2 {tg : Expr} (hg : Gl X "range") (hm : X.mg "range" = none) (ha : XA X [a, b] fl) (hs : starEach [a, b] X.env = [(false, eval a X.env), (false, eval b X.env)] := by rfl) (hs2 : starEach [b] X.env = [(false, eval b X.env)] := by rfl) : XI X tg (.Call (.Name "range" p) [a, b] [] pos) (x1 range2D fl) := PI.imp (pi_range2 hg hm ha hs hs2) fun σ H Rr ⟨S, G, Hs, ρ, r, p⟩ => by
  refine ⟨S, G, Hs, ρ, r, (PostX.bind p).imp fun ds ρ1 Hs1 H1 g1 r1 q vs hv => ?_⟩
  obtain ⟨l, z, q3⟩ := ofX_post q
  have q' := q3.now r1
  unfold range2D at z
  split at z
  · split at z
    · rename_i hz
      cases z
      unfold in62 at hz
      rw [Bool.and_eq_true] at hz
      have hz1 := of_decide_eq_true hz.1
      have hz2 := of_decide_eq_true hz.2
      obtain ⟨v, w, rfl, h, h'⟩ := (PkL.of_rp (H := H1) hv).two
      exact ⟨_, _, by rw [h.int, h'.int], ⟨hz1.1, hz1.2, hz2.1, hz2.2⟩, q' _ it_rng⟩
    · cases z
  · cases z
end
end VL

set_option Elab.async false
set_option linter.all false
set_option maxRecDepth 100000
set_option autoImplicit false
namespace VL
open PySem PySem.Spec PyProof.Rows L2

/-! ### a list of one's own or the lent one -/
def lstAt (ρ : Ev) (i : Nat) : Option (List D × Bool) := match ρ[i]? with
  | some (.ow l) => some (l, false)
  | some (.bo l) => some (l, true)
  | _ => none
def mkL (b : Bool) (l : List D) : SD := if b then .bo l else .ow l
section
variable {K : Fg} {S Hs H : Hp} {G : Gx} {σ : Sg} {ρ : Ev}
theorem lstAt_cases {i : Nat} {l : List D} {b : Bool} (h : lstAt ρ i = some (l, b)) : (b = false ∧ ρ[i]? = some (.ow l)) ∨ (b = true ∧ ρ[i]? = some (.bo l)) := by
  unfold lstAt at h
  split at h
  · cases h; exact .inl ⟨rfl, by assumption⟩
  · cases h; exact .inr ⟨rfl, by assumption⟩
  · cases h
theorem RelE.lst {i : Nat} {l : List D} {b : Bool} (r : RelE K S G Hs H σ ρ) (h : lstAt ρ i = some (l, b)) : ∃ p vs, σ[i]? = some (some (.ref p)) ∧ Hs p = none ∧ H p = some (.lst vs) ∧ RpL K Hs l vs := by
  rcases lstAt_cases h with ⟨_, h⟩ | ⟨_, h⟩
  · obtain ⟨p, vs, e1, e2, e3, e4, e5⟩ := r.own h
    exact ⟨p, vs, e1, e3, e4, e5⟩
  · obtain ⟨p, vs, e1, e2, e3, e4⟩ := r.lent h
    exact ⟨p, vs, e1, (r.bor _ p e2).2.1, e3, e4⟩
theorem RelE.wrL {i : Nat} {l l' : List D} {b : Bool} {p : Addr} {ws : List V} (r : RelE K S G Hs H σ ρ) (h : lstAt ρ i = some (l, b)) (hs : σ[i]? = some (some (.ref p))) (hl : RpL K Hs l' ws) :
    RelE K S G Hs (upd H p (.lst ws)) σ (ρ.set i (mkL b l')) := by
  rcases lstAt_cases h with ⟨rfl, h'⟩ | ⟨rfl, h'⟩
  · exact r.wr h' hs hl
  · exact r.wrB h' hs hl
end
/-! ### statements over them -/
def liftX {α : Type} (r : RX α) (k : α → Ev → Out) : Out := match r with
  | .ok a ρ => k a ρ
  | .bad => .bad
theorem liftX_post {α : Type} {K : Fg} {mg : Str → Option Value} {W : WX} {S Hs : Hp} {G : Gx} {σ : Sg} {D : Ends} {r : RX α} {k : α → Ev → Out} (h : OutOk K mg W S G Hs D (liftX r k)) :
    PostX K S G σ Hs r (fun a ρ Hs' H' => OutOk K mg W S G Hs' D (k a ρ)) := by
  cases r with
  | ok a ρ => exact fun Hs' H' g _ => OutOk.up h g
  | bad => exact h
def ySet (i : Nat) (f : Ev → RX D) : Ev → Out := fun ρ => liftX (f ρ) fun d ρ => .nx (ρ.set i (.sh d))
def ySetO (i : Nat) (f : Ev → RX (List D)) : Ev → Out := fun ρ => liftX (f ρ) fun d ρ => .nx (ρ.set i (.ow d))
def yAsg (f : Ev → RX D) (g : D → Ev → Option Ev) : Ev → Out := fun ρ => liftX (f ρ) fun d ρ => match g d ρ with
  | some ρ' => .nx ρ'
  | none => .bad
def yIf (c : Ev → RX Bool) (F F' : Ev → Out) : Ev → Out := fun ρ => liftX (c ρ) fun b ρ => if b then F ρ else F' ρ
def yDrop (f : Ev → RX D) : Ev → Out := fun ρ => liftX (f ρ) fun _ ρ => .nx ρ
def yRet (f : Ev → RX D) : Ev → Out := fun ρ => liftX (f ρ) fun d ρ => .rt (.sh d)
def yRetO (f : Ev → RX (List D)) : Ev → Out := fun ρ => liftX (f ρ) fun d ρ => .rt (.ow d)
def yRetB (f : Ev → RX D) : Ev → Out := fun ρ => liftX (f ρ) fun d ρ => .rtB (.sh d) ρ
def yRetOB (f : Ev → RX (List D)) : Ev → Out := fun ρ => liftX (f ρ) fun d ρ => .rtB (.ow d) ρ
/-- return x, x a list of one's own, in a def with a lent list -/
def yRetVB (i : Nat) : Ev → Out := fun ρ => match ρ[i]? with
  | some (.ow l) => .rtB (.ow l) ρ
  | some (.sh d) => .rtB (.sh d) ρ
  | _ => .bad
def yRetNB : Ev → Out := fun ρ => .rtB (.sh .none) ρ
def yFor (fi : Ev → RX (List D)) (g : D → Ev → Option Ev) (F : Ev → Out) : Ev → Out := fun ρ => liftX (fi ρ) fun l ρ => forO (gTo g F) l ρ
def yApp (i : Nat) (f : Ev → RX D) : Ev → Out := fun ρ => match lstAt ρ i with
  | none => .bad
  | some _ => liftX (f ρ) fun d ρ => match lstAt ρ i with
    | some (l, b) => if l.length < sizeLine then .nx (ρ.set i (mkL b (l ++ [d]))) else .bad
    | none => .bad
def yStore (i : Nat) (fi fv : Ev → RX D) : Ev → Out := fun ρ => liftX (fv ρ) fun d ρ => match lstAt ρ i with
  | none => .bad
  | some _ => liftX (fi ρ) fun k ρ => match lstAt ρ i with
    | some (l, b) => match k with
      | .int z => match ixN l.length z with
        | some j => .nx (ρ.set i (mkL b (l.set j d)))
        | none => .bad
      | _ => .bad
    | none => .bad
def xPop (i : Nat) : Ev → RX D := fun ρ => match lstAt ρ i with
  | some (l, b) => match l.getLast? with
    | some d => .ok d (ρ.set i (mkL b l.dropLast))
    | none => .bad
  | none => .bad
section
variable {X : Cx} {W : WX} {e a b c : Expr} {es : List Expr} {pos : Pos} {f g : Ev → RX D} {fl : Ev → RX (List D)} {fb : Ev → RX Bool} {F F' : Ev → Out}
theorem y_set {i : Nat} {x : Str} {pos' : Pos} (hN : X.N.Nodup) (hi : X.N[i]? = some x) (hx : Loc X.env.scope x) (he : XE X e f) (hs : swapsWith e (some (.Name x pos')) pos.line X.env = pure false := by rfl) (hf : X.fn x = true ∨ X.env.scope.names.lookup x = some .local := by first | exact .inl rfl | exact .inr rfl | assumption) :
    VS X W (.Assign [.Name x pos'] e pos) (ySet i f) := PS.imp (ps_set hN hi hx he hs hf) fun D σ H ⟨S, G, Hs, ρ, r, h⟩ =>
  ⟨S, G, Hs, ρ, r, (liftX_post h).imp fun d ρ1 Hs1 H1 g1 r1 q v hv => q Hs1 H1 _ (.refl _) (r1.set hv)⟩
theorem y_setO {i : Nat} {x : Str} {pos' : Pos} (hN : X.N.Nodup) (hi : X.N[i]? = some x) (hx : Loc X.env.scope x) (he : XO X e fl) (hs : swapsWith e (some (.Name x pos')) pos.line X.env = pure false := by rfl) (hf : X.fn x = true ∨ X.env.scope.names.lookup x = some .local := by first | exact .inl rfl | exact .inr rfl | assumption) :
    VS X W (.Assign [.Name x pos'] e pos) (ySetO i fl) := PS.imp (ps_set hN hi hx he hs hf) fun D σ H ⟨S, G, Hs, ρ, r, h⟩ =>
  ⟨S, G, Hs, ρ, r, (liftX_post h).imp fun d ρ1 Hs1 H1 g1 r1 q Hs2 H2 p vs e h0 h1 h2 h3 => q Hs2 H2 _ e.grow (r1.setOw e h0 h1 h2 h3)⟩
theorem y_asg {tg : Expr} {ts : List Nat} {k : D → Ev → Option Ev} (he : XE X e f) (hg : VG X tg ts k) (hs : swapsWithSole [tg] e pos.line X.env = pure false := by rfl) (hw : swappedStores [tg] e X.env = pure none := by rfl)
    (h1 : (assignEach [tg] X.env).map (·.2) = [assign tg X.env] := by rfl) : VS X W (.Assign [tg] e pos) (yAsg f k) := PS.imp (ps_asg he hg hs hw h1) fun D σ H ⟨S, G, Hs, ρ, r, h⟩ => by
  refine ⟨S, G, Hs, ρ, r, (liftX_post h).imp fun d ρ1 Hs1 H1 g1 r1 q v hv => ?_⟩
  cases z : k d ρ1 with
  | none => simp only [z] at q; exact q.elim
  | some ρ' =>
    simp only [z] at q
    exact ⟨S, G, Hs1, ρ1, d, ρ', r1, hv, z, fun σ' _ _ r' => q Hs1 H1 σ' (.refl _) r'⟩
theorem y_if {p q : List Stmt} (hc : XT X c fb) (ha : VSs X W p F) (hb : VSs X W q F') : VS X W (.If c p q pos) (yIf fb F F') := PS.imp (ps_if hc ha hb) fun D σ H ⟨S, G, Hs, ρ, r, h⟩ => by
  refine ⟨S, G, Hs, ρ, r, (liftX_post h).imp fun k ρ1 Hs1 H1 g1 r1 q => ?_⟩
  cases k with
  | true => exact ⟨S, G, Hs1, ρ1, r1, q⟩
  | false => exact ⟨S, G, Hs1, ρ1, r1, q⟩
theorem y_expr (he : XE X e f) (hs : swapsWith e none pos.line X.env = pure false := by rfl) : VS X W (.Expr e pos) (yDrop f) := PS.imp (ps_expr he hs) fun D σ H ⟨S, G, Hs, ρ, r, h⟩ =>
  ⟨S, G, Hs, ρ, r, (liftX_post h).imp fun d ρ1 Hs1 H1 g1 r1 q v hv => q Hs1 H1 σ (.refl _) r1⟩
theorem y_ret (he : XE X e f) : VS X W (.Return (some e) pos) (yRet f) := PS.imp (ps_ret he) fun D σ H ⟨S, G, Hs, ρ, r, h⟩ =>
  ⟨S, G, Hs, ρ, r, (liftX_post h).imp fun d ρ1 Hs1 H1 g1 r1 q v hv => q Hs1 H1 v r1.ext' hv⟩
theorem y_retO (he : XO X e fl) : VS X W (.Return (some e) pos) (yRetO fl) := PS.imp (ps_ret he) fun D σ H ⟨S, G, Hs, ρ, r, h⟩ =>
  ⟨S, G, Hs, ρ, r, (liftX_post h).imp fun d ρ1 Hs1 H1 g1 r1 q Hs2 H2 p vs e h0 h1 h2 h3 => q Hs2 H2 _ (r1.step e).ext' ⟨p, vs, rfl, r1.old.free h0, h1, h2, h3⟩⟩
theorem y_retB (he : XE X e f) : VS X W (.Return (some e) pos) (yRetB f) := PS.imp (ps_ret he) fun D σ H ⟨S, G, Hs, ρ, r, h⟩ =>
  ⟨S, G, Hs, ρ, r, (liftX_post h).imp fun d ρ1 Hs1 H1 g1 r1 q v hv => q Hs1 H1 v σ (.refl _) r1 hv fun l z => by cases z⟩
theorem y_retOB (he : XO X e fl) : VS X W (.Return (some e) pos) (yRetOB fl) := PS.imp (ps_ret he) fun D σ H ⟨S, G, Hs, ρ, r, h⟩ =>
  ⟨S, G, Hs, ρ, r, (liftX_post h).imp fun d ρ1 Hs1 H1 g1 r1 q Hs2 H2 p vs e h0 h1 h2 h3 => q Hs2 H2 _ σ e.grow (r1.step e) ⟨p, vs, rfl, r1.old.free h0, h1, h2, h3⟩ fun l _ i' p' hp' z => by
    cases z
    exact (r1.bor i' p hp').2.2 h0⟩
theorem y_retVB (i : Nat) {x : Str} {p : Pos} (h : PE X (.Name x p) (tVar i)) : VS X W (.Return (some (.Name x p)) pos) (yRetVB i) := PS.imp (ps_ret h) fun D σ H ⟨S, G, Hs, ρ, r, h⟩ => by
  unfold yRetVB at h
  cases q : ρ[i]? with
  | none => rw [q] at h; exact h.elim
  | some s =>
    rw [q] at h
    cases s with
    | no => exact h.elim
    | bo l => exact h.elim
    | sh d =>
      obtain ⟨v, e1, e2⟩ := r.get q
      exact ⟨v, e1, h Hs H v σ (.refl _) r e2 fun l z => by cases z⟩
    | ow l =>
      obtain ⟨p, vs, e1, e2, e3, e4, e5, e6⟩ := r.own' q
      exact ⟨_, e1, h Hs H _ σ (.refl _) r ⟨p, vs, rfl, e2, e3, e4, e5⟩ fun l _ i' p' hp' z => by
        cases z
        exact e6 i' hp'⟩
theorem y_retNB : VS X W (.Return none pos) yRetNB := PS.imp ps_retN fun D σ H ⟨S, G, Hs, ρ, r, h⟩ => h Hs H _ σ (.refl _) r .non fun l z => by cases z
theorem y_for {tg iter : Expr} {body : List Stmt} {ts : List Nat} {fi : Ev → RX (List D)} {k : D → Ev → Option Ev} (hp : PassesOwn (model X.prog X.w) X.A X.env X.xe) (hc : X.calm = true) (hi : XI X tg iter fi) (hg : VG X tg ts k) (hb : VSs X W body F)
    (hs : ∀ x, foldedSetIterable iter X.env x = pure x := by intro _; rfl) : VS X W (.For tg iter body [] pos) (yFor fi k F) := by
  refine PS.imp (ps_for hp hc hi hg hb hs) fun En σ H ⟨S, G, Hs, ρ, r, h⟩ => ?_
  refine ⟨S, G, Hs, ρ, r, (liftX_post h).imp fun l ρ1 Hs1 H1 g1 r1 q J hJ => ?_⟩
  refine ⟨fun i m σ' H' => m = l.length - i ∧ i ≤ l.length ∧ ∃ Hs2 ρ2, Same Hs1 Hs2 ∧ RelE X.K S G Hs2 H' σ' ρ2 ∧ OutOk X.K X.mg W S G Hs2 En (forO (gTo k F) (l.drop i) ρ2),
    ⟨l.length, by simp, Nat.zero_le _, Hs1, ρ1, .refl _, r1, q⟩, ?_⟩
  rintro i m σ' H' ⟨rfl, hi, Hs2, ρ2, g2, r2, q2⟩
  obtain ⟨j1, j2⟩ := hJ i Hs2 H' g2 r2.sub
  by_cases hl : i < l.length
  · obtain ⟨j1, j3⟩ := j1 l[i] (List.getElem?_eq_getElem hl)
    rw [List.drop_eq_getElem_cons hl] at q2
    refine .inr ⟨j1, fun σ3 H3 => ∃ Hs3 ρ3, Same Hs1 Hs3 ∧ RelE X.K S G Hs3 H3 σ3 ρ3 ∧ OutOk X.K X.mg W S G Hs3 En (forO (gTo k F) (l.drop (i + 1)) ρ3), fun σ3 H3 ⟨Hs3, ρ3, a1, a2, a3⟩ => ⟨_, (by omega : l.length - (i + 1) < l.length - i), rfl, hl, Hs3, ρ3, a1, a2, a3⟩, fun x H3 y => ?_⟩
    obtain ⟨Hs3, e3, d3⟩ := j3 x H3 y
    unfold forO gTo at q2
    cases z : k l[i] ρ2 with
    | none => rw [z] at q2; exact q2.elim
    | some ρ3 =>
      rw [z] at q2
      refine ⟨S, G, Hs3, ρ2, l[i], ρ3, r2.step e3, d3, z, fun σ4 _ _ r4 => ⟨S, G, Hs3, ρ3, r4, ?_⟩⟩
      have g3 := g2.trans e3.grow
      cases z2 : F ρ3 with
      | nx ρ' => simp only [z2] at q2; exact fun Hs' H' σ' a b => ⟨Hs', ρ', g3.trans a, b, q2.up (e3.grow.trans a)⟩
      | ct ρ' => simp only [z2] at q2; exact fun Hs' H' σ' a b => ⟨Hs', ρ', g3.trans a, b, q2.up (e3.grow.trans a)⟩
      | bk ρ' => simp only [z2] at q2; exact fun Hs' H' σ' a b => q2 Hs' H' σ' (e3.grow.trans a) b
      | rt r => simp only [z2] at q2; exact q2
      | rtB r ρ' => simp only [z2] at q2; exact OutOk.up (o := .rtB r ρ') q2 e3.grow
      | ex x ρ' => simp only [z2] at q2; exact fun Hs' H' σ' cls dd a => q2 Hs' H' σ' cls dd (e3.grow.trans a)
      | bad => simp only [z2] at q2; exact q2.elim
  · have e0 : i = l.length := by omega
    subst e0
    rw [List.drop_length] at q2
    exact .inl ⟨j2 (Nat.le_refl _), q2 Hs2 H' σ' (.refl _) r2⟩

theorem y_app (i : Nat) {x : Str} {p apos cpos : Pos} (ho : PE X (.Name x p) (tVar i)) (he : XE X e f)
    (hbase : attributeBase (.Name x p) "append" X.env (eval (.Name x p) X.env) = eval (.Name x p) X.env := by rfl)
    (hfew : ((backTo cpos (starEach [e] X.env)).all (fun x => !x.1) && (backToKw cpos (keywordEach [] X.env)).all (fun x => x.1.isSome)
      && decide ([e].length + ([] : List Keyword).length + (if ([] : List Keyword).isEmpty then 0 else 1) < 30)) = true := by rfl)
    (hline : (apos.endLine == cpos.line) = true := by rfl) (hs : starEach [e] X.env = (false, eval e X.env) :: starEach [] X.env := by rfl) (hplain : (backTo cpos (starEach [] X.env)).any (·.1) = false := by rfl)
    (hsw : swapsWith (.Call (.Attribute (.Name x p) "append" apos) [e] [] cpos) none pos.line X.env = pure false := by rfl) :
    VS X W (.Expr (.Call (.Attribute (.Name x p) "append" apos) [e] [] cpos) pos) (yApp i f) := by
  refine PS.imp (ps_expr (pe_bm PySem.F.plainAttrs_list PySem.F.slot_list_append PySem.F.type_list_append mt_append ho (pa_cons he pa_nil hs) hbase hfew hline hs hplain) hsw) fun D σ H ⟨S, G, Hs, ρ, r, h⟩ => ?_
  unfold yApp at h
  cases z0 : lstAt ρ i with
  | none => simp only [z0] at h; exact h.elim
  | some lb =>
    simp only [z0] at h
    obtain ⟨l0, b0⟩ := lb
    obtain ⟨a, vs0, o1, _, o4, _⟩ := r.lst z0
    refine ⟨_, o1, .inl ⟨rfl, vs0, .inl (.inl o4)⟩, S, G, Hs, ρ, r, (liftX_post h).imp fun d ρ1 Hs1 H1 g1 r1 q v hv => ?_⟩
    cases z : lstAt ρ1 i with
    | none => simp only [z] at q; exact q.elim
    | some lb =>
      obtain ⟨l, b⟩ := lb
      simp only [z] at q
      obtain ⟨a', vs, p1, _, p4, p5⟩ := r1.lst z
      rw [o1] at p1; cases p1
      split at q
      · rename_i hz
        refine ⟨a, vs, v, rfl, rfl, p4, by rw [← p5.length]; exact hz, ?_⟩
        exact q Hs1 _ σ (.refl _) (r1.wrL z o1 (p5.append (.cons hv .nil)))
      · exact q.elim
theorem y_store (i : Nat) {x : Str} {p spos : Pos} (ho : PE X (.Name x p) (tVar i)) (hi : XE X a g) (he : XE X e f)
    (hs : swapsWithSole [.Subscript (.Name x p) a spos] e pos.line X.env = pure false := by rfl) (hw : swappedStores [.Subscript (.Name x p) a spos] e X.env = pure none := by rfl)
    (h1 : (assignEach [.Subscript (.Name x p) a spos] X.env).map (·.2) = [assign (.Subscript (.Name x p) a spos) X.env] := by rfl)
    (ha : ∀ v, assign (.Subscript (.Name x p) a spos) X.env v = (do
      let ov ← holding [v] (eval (.Name x p) X.env)
      let iv ← holding [v, ov] (eval a X.env)
      standAt spos
      holding [v, ov, iv] (setItem ov iv v)
      release [v, ov, iv] []) := by intro _; rfl) : VS X W (.Assign [.Subscript (.Name x p) a spos] e pos) (yStore i g f) := by
  refine PS.imp (ps_asg he (pg_sub ho hi set_list ha) hs hw h1) fun D σ H ⟨S, G, Hs, ρ, r, h⟩ => ?_
  refine ⟨S, G, Hs, ρ, r, (liftX_post h).imp fun d ρ1 Hs1 H1 g1 r1 q v hv => ?_⟩
  cases z0 : lstAt ρ1 i with
  | none => simp only [z0] at q; exact q.elim
  | some lb =>
    simp only [z0] at q
    obtain ⟨l0, b0⟩ := lb
    obtain ⟨a0, vs0, o1, _, _, _⟩ := r1.lst z0
    refine ⟨_, o1, S, G, Hs1, ρ1, r1, (liftX_post q).imp fun k ρ2 Hs2 H2 g2 r2 q2 w hw => ?_⟩
    cases z : lstAt ρ2 i with
    | none => simp only [z] at q2; exact q2.elim
    | some lb =>
      obtain ⟨l, b⟩ := lb
      simp only [z] at q2
      obtain ⟨a', vs, p1, _, p4, p5⟩ := r2.lst z
      rw [o1] at p1; cases p1
      cases k with
      | int zz =>
        cases hw
        cases y : ixN l.length zz with
        | none => simp only [y] at q2; exact q2.elim
        | some j =>
          simp only [y] at q2
          refine ⟨a0, vs, zz, j, rfl, rfl, p4, by rw [← p5.length]; exact y, ?_⟩
          exact q2 Hs2 _ σ (.refl _) (r2.wrL z o1 (p5.set (hv.mono g2) j))
      | none => exact q2.elim
      | bool _ => exact q2.elim
      | str _ => exact q2.elim
      | list _ => exact q2.elim
      | tuple _ => exact q2.elim
      | dict _ => exact q2.elim
theorem x_pop (j : Nat) {x : Str} {p apos cpos : Pos} (ho : PE X (.Name x p) (tVar j))
    (hbase : attributeBase (.Name x p) "pop" X.env (eval (.Name x p) X.env) = eval (.Name x p) X.env := by rfl) (hline : (apos.endLine == cpos.line) = true := by rfl) :
    XE X (.Call (.Attribute (.Name x p) "pop" apos) [] [] cpos) (xPop j) := by
  refine PE.imp (pe_bm0 PySem.F.plainAttrs_list PySem.F.slot_list_pop PySem.F.type_list_pop mt_pop ho hbase hline) fun σ H Q ⟨S, G, Hs, ρ, r, h⟩ => ?_
  unfold xPop at h
  cases z0 : lstAt ρ j with
  | none => simp only [z0] at h; exact h.elim
  | some lb =>
    simp only [z0] at h
    obtain ⟨l, b⟩ := lb
    obtain ⟨a, vs, o1, _, o4, o5⟩ := r.lst z0
    cases z : l.getLast? with
    | none => simp only [z] at h; exact h.elim
    | some d =>
      simp only [z] at h
      obtain ⟨v, v1, v2⟩ := pop_at o5 z
      exact ⟨_, o1, .inl ⟨rfl, vs, .inl (.inl o4)⟩, a, vs, v, rfl, rfl, o4, v1, h.now (r.wrL z0 o1 o5.dropLast) v v2⟩
end

/-! ### defs with a list that is lent -/
inductive RB where
  | ok (r : SD) (l : List D)
  | bad
/-- arguments, the lent list at place b -/
inductive RpB (K : Fg) (H : Hp) (p : Addr) : Nat → List D → List V → Prop
  | here {ds : List D} {vs : List V} : RpL K H ds vs → RpB K H p 0 (.none :: ds) (.ref p :: vs)
  | there {b : Nat} {d : D} {v : V} {ds : List D} {vs : List V} : Rp K H d v → RpB K H p b ds vs → RpB K H p (b + 1) (d :: ds) (v :: vs)
theorem RpB.mono {K : Fg} {H H' : Hp} {p : Addr} (e : Same H H') : ∀ {b : Nat} {ds : List D} {vs : List V}, RpB K H p b ds vs → RpB K H' p b ds vs
  | _, _, _, .here r => .here (r.mono e)
  | _, _, _, .there h r => .there (h.mono e) (RpB.mono e r)
theorem RpB.length {K : Fg} {H : Hp} {p : Addr} : ∀ {b : Nat} {ds : List D} {vs : List V}, RpB K H p b ds vs → ds.length = vs.length
  | _, _, _, .here r => congrArg (· + 1) r.length
  | _, _, _, .there _ r => congrArg (· + 1) (RpB.length r)
theorem RpB.lt {K : Fg} {H : Hp} {p : Addr} : ∀ {b : Nat} {ds : List D} {vs : List V}, RpB K H p b ds vs → b < ds.length
  | _, _, _, .here r => Nat.succ_pos _
  | _, _, _, .there _ r => Nat.succ_lt_succ (RpB.lt r)
theorem RpB.get {K : Fg} {H : Hp} {p : Addr} : ∀ {b : Nat} {ds : List D} {vs : List V} {i : Nat} {d : D}, RpB K H p b ds vs → ds[i]? = some d → (i = b ∧ vs[i]? = some (.ref p)) ∨ (i ≠ b ∧ ∃ v, vs[i]? = some v ∧ Rp K H d v)
  | _, _, _, 0, d, .here r, e => .inl ⟨rfl, rfl⟩
  | _, _, _, i + 1, d, .here r, e => .inr ⟨by omega, by
    obtain ⟨v, h1, h2⟩ := r.get (i := i) (by simpa using e)
    exact ⟨v, by simpa using h1, h2⟩⟩
  | _, _, _, 0, d, .there h r, e => by
    simp at e; subst e
    exact .inr ⟨by omega, _, rfl, h⟩
  | _, _, _, i + 1, d, .there h r, e => by
    rcases RpB.get r (i := i) (by simpa using e) with ⟨rfl, h1⟩ | ⟨h0, v, h1, h2⟩
    · exact .inl ⟨rfl, by simpa using h1⟩
    · exact .inr ⟨by omega, v, by simpa using h1, h2⟩
theorem RpB.at_ {K : Fg} {H : Hp} {p : Addr} : ∀ {b : Nat} {ds : List D} {vs : List V}, RpB K H p b ds vs → vs[b]? = some (.ref p)
  | _, _, _, .here r => rfl
  | _, _, _, .there h r => by simpa using RpB.at_ r
def startB (n b : Nat) (l : List D) (ds : List D) : Ev := (startE n ds).set b (.bo l)
def finB (b : Nat) : Out → RB
  | .rtB r ρ => match ρ[b]? with
    | some (.bo l) => .ok r l
    | _ => .bad
  | .nx ρ => match ρ[b]? with
    | some (.bo l) => .ok (.sh .none) l
    | _ => .bad
  | _ => .bad
def runB (np n b : Nat) (F : Ev → Out) : List D → List D → RB := fun l ds => if ds.length = np ∧ b < np then finB b (F (startB n b l ds)) else .bad
def spB (K : Fg) (n b : Nat) (m : List D → List D → RB) : Sp := fun vs H Q _ => vs.length = n ∧ ∃ Hs l us p ds, Same Hs H ∧ Hs p = none ∧ H p = some (.lst us) ∧ RpL K Hs l us ∧ RpB K Hs p b ds vs ∧ (match m l ds with
  | .ok r l' => ∀ Hs' H' v us', Same Hs Hs' → Same Hs' H' → (∀ a o, a ≠ p → H a = some o → H' a = some o) → (∀ a o, Hs' a = some o → Hs a = none → H a = none) → Hs' p = none → H' p = some (.lst us') → RpL K Hs' l' us' → RpO K H Hs' H' r v → Q v H'
  | .bad => False)
theorem startB_rel {K : Fg} {N : List Str} {Hs H : Hp} {l : List D} {us : List V} {p : Addr} {b : Nat} {ds : List D} {vs : List V} (hl : vs.length ≤ N.length) (hs : Same Hs H) (h0 : Hs p = none) (h1 : H p = some (.lst us)) (hl2 : RpL K Hs l us) (r : RpB K Hs p b ds vs) :
    RelE K Hs ⟨fun a => if a = p then none else H a, fun j => if j = b then some p else none⟩ Hs H (L2.start N vs) (startB N.length b l ds) := by
  have hlen := r.length
  have hb := r.lt
  have sl : ∀ (i : Nat) (s : SD), (startB N.length b l ds)[i]? = some s → (i = b ∧ s = .bo l) ∨ (i ≠ b ∧ i < ds.length ∧ ∃ d, s = .sh d ∧ ds[i]? = some d) ∨ (i ≠ b ∧ s = .no) := fun i s hi => by
    unfold startB at hi
    rcases set_get hi with ⟨rfl, _, rfl⟩ | ⟨hne, hi⟩
    · exact .inl ⟨rfl, rfl⟩
    · right
      unfold startE at hi
      by_cases h : i < ds.length
      · rw [List.getElem?_append_left (by simpa using h), List.getElem?_map] at hi
        obtain ⟨d, e1, rfl⟩ := Option.map_eq_some_iff.mp hi
        exact .inl ⟨hne, h, d, rfl, e1⟩
      · rw [List.getElem?_append_right (by simpa using h), List.getElem?_replicate] at hi
        split at hi
        · cases hi; exact .inr ⟨hne, rfl⟩
        · cases hi
  have vsat : ∀ i v, vs[i]? = some v → (L2.start N vs)[i]? = some (some v) := fun i v h => by
    unfold L2.start
    have : i < vs.length := (List.getElem?_eq_some_iff.mp h).1
    rw [List.getElem?_append_left (by simpa using this), List.getElem?_map, h]; rfl
  refine ⟨hs, fun a u e => ?_, .refl _, fun a o e n => (by rw [e] at n; cases n), ?_, fun i s hi => ?_, fun j a ha => ?_, fun i j p' ha hb' => ?_, fun i j l m q a _ _ _ => ?_⟩
  · by_cases h : a = p
    · have e' : (if a = p then none else H a) = some u := e
      rw [if_pos h] at e'; cases e'
    · have e' : (if a = p then none else H a) = some u := e
      rw [if_neg h] at e'; exact e'
  · unfold startB
    simp [L2.start, startE, hlen]
  · rcases sl i s hi with ⟨rfl, rfl⟩ | ⟨hne, hlt, d, rfl, hd⟩ | ⟨_, rfl⟩
    · exact ⟨p, us, vsat _ _ r.at_, if_pos rfl, h1, hl2⟩
    · rcases r.get hd with ⟨e, _⟩ | ⟨_, v, h2, h3⟩
      · exact (hne e).elim
      · exact ⟨v, vsat _ _ h2, h3⟩
    · trivial
  · have ha : (if j = b then some p else none) = some a := ha
    split at ha
    · cases ha
      exact ⟨if_pos rfl, h0, by rw [h1]; simp⟩
    · cases ha
  · have ha : (if i = b then some p else none) = some p' := ha
    have hb' : (if j = b then some p else none) = some p' := hb'
    split at ha
    · split at hb'
      · omega
      · cases hb'
    · cases ha
  · rcases sl i _ a with ⟨_, e⟩ | ⟨_, _, d, e, _⟩ | ⟨_, e⟩ <;> cases e
section
variable {P : Program} {w : World} {K : Fg} {mg : Str → Option Value} {base : Heap}
structure BOk (P : Program) (w : World) (K : Fg) (mg : Str → Option Value) (base : Heap) (k : Nat) (f : Addr) (fd : FuncData) (ps : List Str) (b : Nat) (m : List D → List D → RB) : Prop where
  fn : FnG P w K mg base k f fd ps (spB K ps.length b m)
  ar : ∀ l ds, m l ds ≠ .bad → ds.length = ps.length ∧ b < ps.length
theorem RelE.endB {S Hs' H' : Hp} {G : Gx} {σ : Sg} {ρ : Ev} {b : Nat} {l : List D} (r : RelE K S G Hs' H' σ ρ) (h : ρ[b]? = some (.bo l)) : ∃ p us, G.b b = some p ∧ Hs' p = none ∧ H' p = some (.lst us) ∧ RpL K Hs' l us := by
  obtain ⟨p, us, e1, e2, e3, e4⟩ := r.lent h
  exact ⟨p, us, e2, (r.bor _ p e2).2.1, e3, e4⟩
theorem defB_ok {x qual : Str} {st : Stmt} {f : Addr} {fd : FuncData} {N ps : List Str} {k b : Nat} {F : Ev → Out} (Fn : Fun K x qual st f fd) (S : FnScope N ps (defScope st))
    (body : ∀ (cdv : Value) (A : Around) (outer : List Env) (s : Shared) (H : Hp) (E : XK), Inn (cxOf (L2.CX P w) P w K mg base N qual (defScope st) f cdv A outer s H E) (fun cls d _ H => E cls d H) k →
      VSs (cxOf (L2.CX P w) P w K mg base N qual (defScope st) f cdv A outer s H E) (fun cls d _ H => E cls d H) (defBody st) F) :
    BOk P w K mg base (k + 1) f fd ps b (runB ps.length N.length b F) := by
  refine ⟨?_, fun l ds h => ?_⟩
  · obtain ⟨oc, od, kV, doc, pm, an, cdv, ct, osl, rfl, lk, hcd⟩ := Fn.ex
    refine fn_ofG lk hcd S (fun vs H Q E h => h.1) fun A outer s H vs Q E hr hgd h => ⟨_, body cdv A outer s H E ⟨hr, hgd, takes_of rfl rfl rfl rfl, passes_of rfl⟩, ?_⟩
    obtain ⟨hl, Hs, l, us, p, ds, hs, h0, h1, h2, hds, h⟩ := h
    have rel := startB_rel (N := N) (by rw [hl]; exact VL.FnScope.le S) hs h0 h1 h2 hds
    refine ⟨Hs, ⟨fun a => if a = p then none else H a, fun j => if j = b then some p else none⟩, Hs, _, rel, ?_⟩
    unfold runB at h
    rw [if_pos ⟨hds.length.trans hl, by rw [← hl, ← hds.length]; exact hds.lt⟩] at h
    have fin : ∀ (r : SD) (ρ : Ev) (l' : List D) Hs' H' σ' v, ρ[b]? = some (.bo l') → Same Hs Hs' → RelE K Hs ⟨fun a => if a = p then none else H a, fun j => if j = b then some p else none⟩ Hs' H' σ' ρ → RpO K (fun a => if a = p then none else H a) Hs' H' r v → (∀ l, r = .ow l → v ≠ .ref p) →
        (∀ Hs' H' v us', Same Hs Hs' → Same Hs' H' → (∀ a o, a ≠ p → H a = some o → H' a = some o) → (∀ a o, Hs' a = some o → Hs a = none → H a = none) → Hs' p = none → H' p = some (.lst us') → RpL K Hs' l' us' → RpO K H Hs' H' r v → Q v H') → Q v H' := by
      intro r ρ l' Hs' H' σ' v hb g rl hv hne q
      obtain ⟨p', us', e1, e2, e3, e4⟩ := rl.endB hb
      have e1 : (if b = b then some p else none) = some p' := e1
      rw [if_pos rfl] at e1
      cases e1
      refine q Hs' H' v us' g rl.sub (fun a o hn e => rl.old a o ((if_neg hn).trans e)) (fun a o e n => ?_) e2 e3 e4 ?_
      · have := rl.new a o e n
        by_cases z : a = p
        · subst z; rw [e2] at e; cases e
        · exact (if_neg z).symm.trans this
      · cases r with
        | no => exact hv
        | sh d => exact hv
        | bo l => exact hv
        | ow l =>
          obtain ⟨q', ws, rfl, f1, f2, f3, f4⟩ := hv
          refine ⟨q', ws, rfl, ?_, f2, f3, f4⟩
          have hn : q' ≠ p := fun z => hne l rfl (by rw [z])
          exact (if_neg hn).symm.trans f1
    show OutOk K mg (fun cls d _ H => E cls d H) Hs _ Hs _ (F (startB N.length b l ds))
    cases z : F (startB N.length b l ds) with
    | nx ρ =>
      rw [z] at h
      unfold finB at h
      simp only at h
      cases y : ρ[b]? with
      | none => rw [y] at h; exact h.elim
      | some s =>
        rw [y] at h
        cases s with
        | bo l' => exact fun Hs' H' σ' g r => fin (.sh .none) ρ l' Hs' H' σ' .non y g r .non (fun l z => by cases z) h
        | no => exact h.elim
        | sh _ => exact h.elim
        | ow _ => exact h.elim
    | rtB r0 ρ =>
      rw [z] at h
      unfold finB at h
      simp only at h
      cases y : ρ[b]? with
      | none => rw [y] at h; exact h.elim
      | some s =>
        rw [y] at h
        cases s with
        | bo l' => exact fun Hs' H' v σ' g r hv hne => fin r0 ρ l' Hs' H' σ' v y g r hv (fun l z => hne l z b p (if_pos rfl)) h
        | no => exact h.elim
        | sh _ => exact h.elim
        | ow _ => exact h.elim
    | rt r => rw [z] at h; exact h.elim
    | ex x ρ => rw [z] at h; exact h.elim
    | bk ρ => rw [z] at h; exact h.elim
    | ct ρ => rw [z] at h; exact h.elim
    | bad => rw [z] at h; exact h.elim
  · unfold runB at h
    split at h
    · assumption
    · exact (h rfl).elim
structure ClB (P : Program) (w : World) (K : Fg) (mg : Str → Option Value) (base : Heap) (k : Nat) (x : Str) (ps : List Str) (b : Nat) (m : List D → List D → RB) : Prop where
  ex : ∃ f fd, BOk P w K mg base k f fd ps b m ∧ mg x = some (.ref f) ∧ PySem.W.keepIn K (.ref f) = true ∧ Binds K fd ps []
theorem clB_ok {x : Str} {st : Stmt} {N ps : List Str} {k b : Nat} {F : Ev → Out} (Fn : Df K mg x st ps) (S : FnScope N ps (defScope st))
    (body : ∀ (f : Addr) (cdv : Value) (A : Around) (outer : List Env) (s : Shared) (H : Hp) (E : XK), Inn (cxOf (L2.CX P w) P w K mg base N x (defScope st) f cdv A outer s H E) (fun cls d _ H => E cls d H) k →
      VSs (cxOf (L2.CX P w) P w K mg base N x (defScope st) f cdv A outer s H E) (fun cls d _ H => E cls d H) (defBody st) F) :
    ClB P w K mg base (k + 1) x ps b (runB ps.length N.length b F) := by
  obtain ⟨f, fd, h1, h2, h3⟩ := Fn.ex
  exact ⟨f, fd, defB_ok h1 S fun cdv A outer s H E I => body f cdv A outer s H E I, h2, h1.kp, h3⟩
end
/-! ### calls that lend a list -/
def tXB (K : Fg) (b i : Nat) (f : Ev → RX (List D)) : TA := fun σ H Q => ∃ S G Hs ρ, RelE K S G Hs H σ ρ ∧ PostX K S G σ Hs (f ρ) (fun ds _ Hs' H' => ∀ vs p, σ[i]? = some (some (.ref p)) → RpB K Hs' p b ds vs → Q vs H')
def XB (X : Cx) (b i : Nat) (es : List Expr) (f : Ev → RX (List D)) : Prop := PA X es (tXB X.K b i f)
def xHere (i : Nat) (f : Ev → RX (List D)) : Ev → RX (List D) := fun ρ => match lstAt ρ i with
  | some _ => (f ρ).bind fun ds ρ => .ok (.none :: ds) ρ
  | none => .bad
def xCallB (m : List D → List D → RB) (i : Nat) (f : Ev → RX (List D)) : Ev → RX D := fun ρ => (f ρ).bind fun ds ρ => match lstAt ρ i with
  | some (l, k) => match m l ds with
    | .ok r l' => ofX (toD r) (ρ.set i (mkL k l'))
    | .bad => .bad
  | none => .bad
def xCallBO (m : List D → List D → RB) (i : Nat) (f : Ev → RX (List D)) : Ev → RX (List D) := fun ρ => (f ρ).bind fun ds ρ => match lstAt ρ i with
  | some (l, k) => match m l ds with
    | .ok r l' => ofX (toL r) (ρ.set i (mkL k l'))
    | .bad => .bad
  | none => .bad
section
variable {X : Cx} {W : WX} {e a b c : Expr} {es : List Expr} {pos p : Pos} {f g : Ev → RX D} {fl : Ev → RX (List D)} {x : Str}
theorem xb_here {i : Nat} {y : Str} {py : Pos} (h : PE X (.Name y py) (tVar i)) (hr : XA X es fl) (hs : starEach (.Name y py :: es) X.env = (false, eval (.Name y py) X.env) :: starEach es X.env := by rfl) : XB X 0 i (.Name y py :: es) (xHere i fl) := PA.imp (pa_cons h hr hs) fun σ H Q ⟨S, G, Hs, ρ, r, p⟩ => by
  unfold xHere at p
  cases z : lstAt ρ i with
  | none => rw [z] at p; exact p.elim
  | some lb =>
    rw [z] at p
    obtain ⟨l, k⟩ := lb
    obtain ⟨q, vs, o1, _, _, _⟩ := r.lst z
    refine ⟨_, o1, S, G, Hs, ρ, r, (PostX.bind (show PostX X.K S G σ Hs ((fl ρ).bind _) _ from p)).imp fun ds ρ1 Hs1 H1 g1 r1 q1 vs hv => ?_⟩
    exact q1.now r1 _ q o1 (.here hv)
theorem xb_there {n i : Nat} (ha : XE X e f) (hr : XB X n i es fl) (hs : starEach (e :: es) X.env = (false, eval e X.env) :: starEach es X.env := by rfl) : XB X (n + 1) i (e :: es) (xCons f fl) := PA.imp (pa_cons ha hr hs) fun σ H Q ⟨S, G, Hs, ρ, r, p⟩ => by
  refine ⟨S, G, Hs, ρ, r, (PostX.bind p).imp fun x ρ1 Hs1 H1 g1 r1 q u hu => ?_⟩
  refine ⟨S, G, Hs1, ρ1, r1, (PostX.bind q).imp fun xs ρ2 Hs2 H2 g2 r2 q2 us p hp hus => ?_⟩
  exact q2.now r2 (u :: us) p hp (.there (hu.mono g2) hus)
theorem RelE.called {K : Fg} {S Hs H Hs' H' : Hp} {G : Gx} {σ : Sg} {ρ : Ev} {i : Nat} {l l' : List D} {k : Bool} {a : Addr} {us' : List V} (r : RelE K S G Hs H σ ρ) (z : lstAt ρ i = some (l, k)) (ha : σ[i]? = some (some (.ref a)))
    (c1 : Same Hs Hs') (c2 : Same Hs' H') (c3 : ∀ b o, b ≠ a → H b = some o → H' b = some o) (c4 : ∀ b o, Hs' b = some o → Hs b = none → H b = none) (c5 : Hs' a = none) (c6 : H' a = some (.lst us')) (c7 : RpL K Hs' l' us') :
    RelE K S G Hs' H' σ (ρ.set i (mkL k l')) := by
  have r1 := r.wrL z ha (l' := []) (ws := []) .nil
  have e : Ext Hs (upd H a (.lst [])) Hs' (upd H' a (.lst [])) := by
    refine ⟨fun b u q => ?_, fun b u q => ?_, c1, fun b o q n => ?_⟩
    · rw [upd_ne (ne_of_none q c5)]; exact c2 b u q
    · by_cases hb : b = a
      · subst hb; rw [upd_same] at q ⊢; exact q
      · rw [upd_ne hb] at q ⊢; exact c3 b u hb q
    · rw [upd_ne (ne_of_none q c5)]; exact c4 b o q n
  have r2 := r1.step e
  have hi : i < ρ.length := by
    rcases lstAt_cases z with ⟨_, h⟩ | ⟨_, h⟩ <;> exact (List.getElem?_eq_some_iff.mp h).1
  have z2 : lstAt (ρ.set i (mkL k [])) i = some ([], k) := by
    unfold lstAt
    rw [List.getElem?_set_self hi]
    cases k <;> rfl
  have r3 := r2.wrL z2 ha c7
  rw [List.set_set] at r3
  have : upd (upd H' a (.lst [])) a (.lst us') = H' := by
    funext b
    by_cases hb : b = a
    · subst hb; rw [upd_same, c6]
    · rw [upd_ne hb, upd_ne hb]
  rwa [this] at r3
theorem simX_callB {K : Fg} {m : List D → List D → RB} {n bb i : Nat} {E : Sg → XK} (vn : ∀ l ds, m l ds ≠ .bad → ds.length = n ∧ bb < n) : ∀ σ H Q, tX K (xCallB m i fl) σ H Q → tCallS (spB K n bb m) E (tXB K bb i fl) σ H Q := fun σ H Q ⟨S, G, Hs, ρ, r, p⟩ => by
  refine ⟨S, G, Hs, ρ, r, (PostX.bind p).imp fun ds ρ1 Hs1 H1 g1 r1 q vs a ha hv => ?_⟩
  cases z : lstAt ρ1 i with
  | none => simp only [z] at q; exact q.elim
  | some lb =>
    obtain ⟨l, k⟩ := lb
    simp only [z] at q
    obtain ⟨a', us, o1, o2, o3, o4⟩ := r1.lst z
    rw [ha] at o1; cases o1
    have nb : m l ds ≠ .bad := fun y => by simp only [y] at q; exact q
    refine ⟨by rw [← hv.length]; exact (vn l ds nb).1, Hs1, l, us, a, ds, r1.sub, o2, o3, o4, hv, ?_⟩
    cases y : m l ds with
    | bad => exact nb y
    | ok s l' =>
      simp only [y] at q ⊢
      intro Hs' H' v us' c1 c2 c3 c4 c5 c6 c7 c8
      obtain ⟨d, w, q3⟩ := ofX_post q
      cases s with
      | no => cases w
      | bo _ => cases w
      | sh d' =>
        cases w
        exact q3 Hs' H' c1 (r1.called z ha c1 c2 c3 c4 c5 c6 c7) v c8
      | ow l2 =>
        cases w
        obtain ⟨q0, ws, rfl, f1, f2, f3, f4⟩ := c8
        have hn : a ≠ q0 := fun z => by subst z; rw [o3] at f1; cases f1
        have g : Same Hs' (upd Hs' q0 (.lst ws)) := fun b u e => by rw [upd_ne (ne_of_none e f2)]; exact e
        refine q3 (upd Hs' q0 (.lst ws)) H' (c1.trans g) (r1.called z ha (c1.trans g) (fun b u e => ?_) c3 (fun b o e nn => ?_) ?_ c6 (c7.mono g)) _ (.lst (.inl (.inl upd_same)) (f4.mono g))
        · by_cases hb : b = q0
          · subst hb; rw [upd_same] at e; cases e; exact f3
          · rw [upd_ne hb] at e; exact c2 b u e
        · by_cases hb : b = q0
          · subst hb; exact f1
          · rw [upd_ne hb] at e; exact c4 b o e nn
        · rw [upd_ne hn]; exact c5
theorem simX_callBO {K : Fg} {m : List D → List D → RB} {n bb i : Nat} {E : Sg → XK} (vn : ∀ l ds, m l ds ≠ .bad → ds.length = n ∧ bb < n) : ∀ σ H Q, tXO K (xCallBO m i fl) σ H Q → tCallS (spB K n bb m) E (tXB K bb i fl) σ H Q := fun σ H Q ⟨S, G, Hs, ρ, r, p⟩ => by
  refine ⟨S, G, Hs, ρ, r, (PostX.bind p).imp fun ds ρ1 Hs1 H1 g1 r1 q vs a ha hv => ?_⟩
  cases z : lstAt ρ1 i with
  | none => simp only [z] at q; exact q.elim
  | some lb =>
    obtain ⟨l, k⟩ := lb
    simp only [z] at q
    obtain ⟨a', us, o1, o2, o3, o4⟩ := r1.lst z
    rw [ha] at o1; cases o1
    have nb : m l ds ≠ .bad := fun y => by simp only [y] at q; exact q
    refine ⟨by rw [← hv.length]; exact (vn l ds nb).1, Hs1, l, us, a, ds, r1.sub, o2, o3, o4, hv, ?_⟩
    cases y : m l ds with
    | bad => exact nb y
    | ok s l' =>
      simp only [y] at q ⊢
      intro Hs' H' v us' c1 c2 c3 c4 c5 c6 c7 c8
      obtain ⟨d, w, q3⟩ := ofX_post q
      cases s with
      | no => cases w
      | bo _ => cases w
      | sh d' => cases w
      | ow l2 =>
        cases w
        obtain ⟨q0, ws, rfl, f1, f2, f3, f4⟩ := c8
        have hn : a ≠ q0 := fun z => by subst z; rw [o3] at f1; cases f1
        refine q3 Hs' (fun b => if b = q0 then none else H' b) c1 (r1.called z ha c1 (fun b u e => ?_) (fun b o hb e => ?_) c4 c5 ((if_neg hn).trans c6) c7) Hs' H' q0 ws ⟨c2, fun b u e => ?_, .refl _, fun b o e nn => by rw [e] at nn; cases nn⟩ (if_pos rfl) f2 f3 f4
        · exact (if_neg (ne_of_none e f2)).trans (c2 b u e)
        · exact (if_neg (ne_of_none e f1)).trans (c3 b o hb e)
        · by_cases hb : b = q0
          · have e' : (if b = q0 then none else H' b) = some u := e
            rw [if_pos hb] at e'; cases e'
          · have e' : (if b = q0 then none else H' b) = some u := e
            rw [if_neg hb] at e'; exact e'
theorem x_callB {k j n i : Nat} {ps : List Str} {m : List D → List D → RB} (C : ClB X.prog X.w X.K X.mg X.base k x ps n m) (hr : Room j X.A) (hgd : X.A.guards = some []) (tk : Takes X W) (ha : XB X n i (e :: es) fl) (hg : Gl X x := by rfl) (hj : k ≤ j := by decide)
    (hdb : (x == ("__debug__" : Str)) = false := by decide) (he : starEach (e :: es) X.env = (false, eval e X.env) :: starEach es X.env := by rfl) (hpl : (backTo pos (starEach es X.env)).any (·.1) = false := by rfl) :
    XE X (.Call (.Name x p) (e :: es) [] pos) (xCallB m i fl) := by
  obtain ⟨f, fd, h1, h2, h3, h4⟩ := C.ex
  exact PE.imp (pe_callG h1.fn (hr.mono hj) hgd hg h2 h3 h4 (passAt tk) ha hdb he hpl) (simX_callB h1.ar)
theorem x_callBO {k j n i : Nat} {ps : List Str} {m : List D → List D → RB} (C : ClB X.prog X.w X.K X.mg X.base k x ps n m) (hr : Room j X.A) (hgd : X.A.guards = some []) (tk : Takes X W) (ha : XB X n i (e :: es) fl) (hg : Gl X x := by rfl) (hj : k ≤ j := by decide)
    (hdb : (x == ("__debug__" : Str)) = false := by decide) (he : starEach (e :: es) X.env = (false, eval e X.env) :: starEach es X.env := by rfl) (hpl : (backTo pos (starEach es X.env)).any (·.1) = false := by rfl) :
    XO X (.Call (.Name x p) (e :: es) [] pos) (xCallBO m i fl) := by
  obtain ⟨f, fd, h1, h2, h3, h4⟩ := C.ex
  exact PE.imp (pe_callG h1.fn (hr.mono hj) hgd hg h2 h3 h4 (passAt tk) ha hdb he hpl) (simX_callBO h1.ar)
/-! calls of other defs -/
theorem simX_call {K : Fg} {mg : Str → Option Value} {m : List D → R SD} {n : Nat} {E : Sg → XK} (vn : ∀ (ds : List D), m ds ≠ .bad → ds.length = n) : ∀ σ H Q, tX K (xCall m fl) σ H Q → tCallS (spD K mg n m) E (tXA K fl) σ H Q := fun σ H Q ⟨S, G, Hs, ρ, r, p⟩ => by
  refine ⟨S, G, Hs, ρ, r, (PostX.bind p).imp fun ds ρ1 Hs1 H1 g1 r1 q vs hv => ?_⟩
  have nb : m ds ≠ .bad := fun y => by simp only [y] at q; exact q
  refine ⟨by rw [← hv.length]; exact vn ds nb, Hs1, ds, r1.sub, hv, ?_⟩
  cases y : m ds with
  | bad => exact nb y
  | ex x => simp only [y] at q; exact q.elim
  | ok s =>
    simp only [y] at q ⊢
    intro Hs' H' v e' hr
    obtain ⟨d, w, q3⟩ := ofX_post q
    cases s with
    | no => cases w
    | bo l => cases w
    | sh d => cases w; exact q3 Hs' H' e'.grow (r1.step e') v hr
    | ow l =>
      cases w
      obtain ⟨p, us, rfl, h0, h1, h2, h3⟩ := hr
      have g : Same Hs' (upd Hs' p (.lst us)) := fun b u z => by rw [upd_ne (ne_of_none z h1)]; exact z
      have e2 := e'.frz h0 h2 h1
      exact q3 _ _ e2.grow (r1.step e2) _ (.lst (.inl (.inl upd_same)) (h3.mono g))
theorem simX_callO {K : Fg} {mg : Str → Option Value} {m : List D → R SD} {n : Nat} {E : Sg → XK} (vn : ∀ (ds : List D), m ds ≠ .bad → ds.length = n) : ∀ σ H Q, tXO K (xCallO m fl) σ H Q → tCallS (spD K mg n m) E (tXA K fl) σ H Q := fun σ H Q ⟨S, G, Hs, ρ, r, p⟩ => by
  refine ⟨S, G, Hs, ρ, r, (PostX.bind p).imp fun ds ρ1 Hs1 H1 g1 r1 q vs hv => ?_⟩
  have nb : m ds ≠ .bad := fun y => by simp only [y] at q; exact q
  refine ⟨by rw [← hv.length]; exact vn ds nb, Hs1, ds, r1.sub, hv, ?_⟩
  cases y : m ds with
  | bad => exact nb y
  | ex x => simp only [y] at q; exact q.elim
  | ok s =>
    simp only [y] at q ⊢
    intro Hs' H' v e' hr
    obtain ⟨d, w, q3⟩ := ofX_post q
    cases s with
    | no => cases w
    | bo l => cases w
    | sh d => cases w
    | ow l =>
      cases w
      obtain ⟨p, us, rfl, h0, h1, h2, h3⟩ := hr
      exact q3 Hs1 H1 (.refl _) r1 Hs' H' p us e' h0 h1 h2 h3
theorem x_calC {k j : Nat} {ps : List Str} {m : List D → R SD} (C : Cl X.prog X.w X.K X.mg X.base k x ps m) (hr : Room j X.A) (hgd : X.A.guards = some []) (tk : Takes X W) (ha : XA X (e :: es) fl) (hg : Gl X x := by rfl) (hj : k ≤ j := by decide)
    (hdb : (x == ("__debug__" : Str)) = false := by decide) (he : starEach (e :: es) X.env = (false, eval e X.env) :: starEach es X.env := by rfl) (hpl : (backTo pos (starEach es X.env)).any (·.1) = false := by rfl) :
    XE X (.Call (.Name x p) (e :: es) [] pos) (xCall m fl) := by
  obtain ⟨f, fd, h1, h2, h3, h4⟩ := C.ex
  exact PE.imp (pe_callG h1.fn (hr.mono hj) hgd hg h2 h3 h4 (passAt tk) ha hdb he hpl) (simX_call h1.ar)
theorem x_calCO {k j : Nat} {ps : List Str} {m : List D → R SD} (C : Cl X.prog X.w X.K X.mg X.base k x ps m) (hr : Room j X.A) (hgd : X.A.guards = some []) (tk : Takes X W) (ha : XA X (e :: es) fl) (hg : Gl X x := by rfl) (hj : k ≤ j := by decide)
    (hdb : (x == ("__debug__" : Str)) = false := by decide) (he : starEach (e :: es) X.env = (false, eval e X.env) :: starEach es X.env := by rfl) (hpl : (backTo pos (starEach es X.env)).any (·.1) = false := by rfl) :
    XO X (.Call (.Name x p) (e :: es) [] pos) (xCallO m fl) := by
  obtain ⟨f, fd, h1, h2, h3, h4⟩ := C.ex
  exact PE.imp (pe_callG h1.fn (hr.mono hj) hgd hg h2 h3 h4 (passAt tk) ha hdb he hpl) (simX_callO h1.ar)
end
end VL

set_option Elab.async false
set_option linter.all false
set_option maxRecDepth 100000
set_option autoImplicit false
namespace VL
open PySem PySem.Spec PyProof.Rows L2

/-! ### comprehensions whose items change a list -/
def Gx.plus (G : Gx) (D : Addr) (o : HO) : Gx := ⟨upd G.h D o, G.b⟩
section
variable {K : Fg} {S Hs H : Hp} {G : Gx} {σ : Sg} {ρ : Ev} {D : Addr} {o : HO}
theorem RelE.plus (r : RelE K S G Hs H σ ρ) (h : H D = none) (o : HO) : RelE K S (G.plus D o) Hs (upd H D o) σ ρ := by
  have hs : Hs D = none := r.sub.free h
  refine ⟨fun b u e => ?_, fun b u e => ?_, r.ext, fun p u e n => ?_, r.len, fun i s hi => ?_, fun j p hp => ?_, r.one, r.dis⟩
  · rw [upd_ne (ne_of_none e hs)]; exact r.sub b u e
  · have e' : upd G.h D o b = some u := e
    by_cases hb : b = D
    · subst hb; rw [upd_same] at e' ⊢; exact e'
    · rw [upd_ne hb] at e' ⊢; exact r.old b u e'
  · show upd G.h D o p = none
    rw [upd_ne (ne_of_none e hs)]; exact r.new p u e n
  · have q := r.slot i s hi
    cases s with
    | no => trivial
    | sh d => exact q
    | ow l =>
      obtain ⟨p, vs, e1, e2, e3, e4, e5, e6⟩ := q
      have hn : p ≠ D := fun z => by subst z; rw [h] at e4; cases e4
      exact ⟨p, vs, e1, by show upd G.h D o p = none; rw [upd_ne hn]; exact e2, e3, by rw [upd_ne hn]; exact e4, e5, e6⟩
    | bo l =>
      obtain ⟨p, vs, e1, e2, e3, e4⟩ := q
      have hn : p ≠ D := fun z => by subst z; rw [h] at e3; cases e3
      exact ⟨p, vs, e1, e2, by rw [upd_ne hn]; exact e3, e4⟩
  · obtain ⟨h1, h2, h3⟩ := r.bor j p hp
    have hn : p ≠ D := fun z => by subst z; exact h3 h
    exact ⟨by show upd G.h D o p = none; rw [upd_ne hn]; exact h1, h2, by rw [upd_ne hn]; exact h3⟩
theorem RelE.replus (r : RelE K S (G.plus D o) Hs H σ ρ) (hs : Hs D = none) (o' : HO) : RelE K S (G.plus D o') Hs (upd H D o') σ ρ := by
  have hG : ∀ {p : Addr}, (G.plus D o).h p = none → p ≠ D ∧ (G.plus D o').h p = none := fun {p} e => by
    have e' : upd G.h D o p = none := e
    by_cases hp : p = D
    · subst hp; rw [upd_same] at e'; cases e'
    · rw [upd_ne hp] at e'
      exact ⟨hp, by show upd G.h D o' p = none; rw [upd_ne hp]; exact e'⟩
  refine ⟨fun b u e => ?_, fun b u e => ?_, r.ext, fun p u e n => (hG (r.new p u e n)).2, r.len, fun i s hi => ?_, fun j p hp => ?_, r.one, r.dis⟩
  · rw [upd_ne (ne_of_none e hs)]; exact r.sub b u e
  · have e' : upd G.h D o' b = some u := e
    by_cases hb : b = D
    · subst hb; rw [upd_same] at e' ⊢; exact e'
    · rw [upd_ne hb] at e' ⊢
      exact r.old b u (by show upd G.h D o b = some u; rw [upd_ne hb]; exact e')
  · have q := r.slot i s hi
    cases s with
    | no => trivial
    | sh d => exact q
    | ow l =>
      obtain ⟨p, vs, e1, e2, e3, e4, e5, e6⟩ := q
      obtain ⟨hn, h2⟩ := hG e2
      exact ⟨p, vs, e1, h2, e3, by rw [upd_ne hn]; exact e4, e5, e6⟩
    | bo l =>
      obtain ⟨p, vs, e1, e2, e3, e4⟩ := q
      obtain ⟨hn, _⟩ := hG (r.bor _ p e2).1
      exact ⟨p, vs, e1, e2, by rw [upd_ne hn]; exact e3, e4⟩
  · obtain ⟨h1, h2, h3⟩ := r.bor j p hp
    obtain ⟨hn, h4⟩ := hG h1
    exact ⟨h4, h2, by rw [upd_ne hn]; exact h3⟩
theorem RelE.minus (r : RelE K S (G.plus D o) Hs H σ ρ) (hg : G.h D = none) (hs : Hs D = none) : RelE K S G Hs (fun b => if b = D then none else H b) σ ρ := by
  have hG : ∀ {p : Addr}, (G.plus D o).h p = none → p ≠ D ∧ G.h p = none := fun {p} e => by
    have e' : upd G.h D o p = none := e
    by_cases hp : p = D
    · subst hp; rw [upd_same] at e'; cases e'
    · rw [upd_ne hp] at e'
      exact ⟨hp, e'⟩
  refine ⟨fun b u e => ?_, fun b u e => ?_, r.ext, fun p u e n => (hG (r.new p u e n)).2, r.len, fun i s hi => ?_, fun j p hp => ?_, r.one, r.dis⟩
  · exact (if_neg (ne_of_none e hs)).trans (r.sub b u e)
  · have hb := ne_of_none e hg
    exact (if_neg hb).trans (r.old b u (by show upd G.h D o b = some u; rw [upd_ne hb]; exact e))
  · have q := r.slot i s hi
    cases s with
    | no => trivial
    | sh d => exact q
    | ow l =>
      obtain ⟨p, vs, e1, e2, e3, e4, e5, e6⟩ := q
      obtain ⟨hn, h2⟩ := hG e2
      exact ⟨p, vs, e1, h2, e3, (if_neg hn).trans e4, e5, e6⟩
    | bo l =>
      obtain ⟨p, vs, e1, e2, e3, e4⟩ := q
      obtain ⟨hn, _⟩ := hG (r.bor _ p e2).1
      exact ⟨p, vs, e1, e2, (if_neg hn).trans e3, e4⟩
  · obtain ⟨h1, h2, h3⟩ := r.bor j p hp
    obtain ⟨hn, h4⟩ := hG h1
    exact ⟨h4, h2, fun z => h3 ((if_neg hn).symm.trans z)⟩
theorem wipeE_get {j : Nat} {r : SD} : ∀ {vs : List Nat}, (wipeE ρ vs)[j]? = some r → r = .no ∨ (j ∉ vs ∧ ρ[j]? = some r)
  | [], h => .inr ⟨by simp, h⟩
  | v :: vs, h => by
    unfold wipeE at h
    rcases set_get h with ⟨rfl, _, rfl⟩ | ⟨hj, h⟩
    · exact .inl rfl
    · rcases wipeE_get h with h | ⟨h1, h2⟩
      · exact .inl h
      · exact .inr ⟨by simp [hj, h1], h2⟩
theorem wipeE_length : ∀ {vs : List Nat}, (wipeE ρ vs).length = ρ.length
  | [] => rfl
  | v :: vs => by unfold wipeE; rw [List.length_set]; exact wipeE_length
theorem RelE.unwipe {vs : List Nat} (r : RelE K S G Hs H (L2.wipe σ vs) (wipeE ρ vs)) : RelE K S G Hs H σ (wipeE ρ vs) := by
  have hlen : ρ.length = σ.length := by
    have := r.len
    rwa [wipeE_length, wipe_length] at this
  have key : ∀ i s, (wipeE ρ vs)[i]? = some s → s = SD.no ∨ (L2.wipe σ vs)[i]? = σ[i]? := fun i s h => by
    rcases wipeE_get h with h1 | ⟨h1, h2⟩
    · exact .inl h1
    · right
      rw [wipe_get (by rw [← hlen]; exact (List.getElem?_eq_some_iff.mp h2).1), if_neg h1]
  refine ⟨r.sub, r.old, r.ext, r.new, by rw [wipeE_length, hlen], fun i s hi => ?_, r.bor, r.one, fun i j l m p a b c d => ?_⟩
  · have q := r.slot i s hi
    rcases key i s hi with rfl | e
    · trivial
    · rwa [e] at q
  · rcases key i _ a with e | e
    · cases e
    · rcases key j _ b with e' | e'
      · cases e'
      · exact r.dis i j l m p a b (e ▸ c) (e' ▸ d)
end
def compX (step : D → Ev → RX (Option D)) : List D → Ev → RX (List D)
  | [], ρ => .ok [] ρ
  | d :: ds, ρ => (step d ρ).bind fun o ρ1 => (compX step ds ρ1).bind fun r ρ2 => .ok (match o with | some y => y :: r | none => r) ρ2
def compXS (vs : List Nat) (g : D → Ev → Option Ev) (ft : Ev → RX Bool) (fe : Ev → RX D) : D → Ev → RX (Option D) := fun d ρ => match g d (wipeE ρ vs) with
  | some ρ' => (ft ρ').bind fun b ρ2 => if b then (fe ρ2).bind fun y ρ3 => .ok (some y) (wipeE ρ3 vs) else .ok none (wipeE ρ2 vs)
  | none => .bad
def xComp (vs : List Nat) (fi : Ev → RX (List D)) (g : D → Ev → Option Ev) (ft : Ev → RX Bool) (fe : Ev → RX D) : Ev → RX (List D) := fun ρ => (fi ρ).bind fun l ρ1 => if l.length ≤ sizeLine then compX (compXS vs g ft fe) l (wipeE ρ1 vs) else .bad
theorem RX.bind_assoc {α β γ : Type} (r : RX α) (f : α → Ev → RX β) (g : β → Ev → RX γ) : (r.bind f).bind g = r.bind fun a ρ => (f a ρ).bind g := by cases r <;> rfl
theorem wipeE_idem {ρ : Ev} {vs : List Nat} : ∃ ρ', wipeE ρ vs = wipeE ρ' vs := ⟨ρ, rfl⟩
theorem simX_comp {K : Fg} {vs ts : List Nat} {fi : Ev → RX (List D)} {g : D → Ev → Option Ev} {ft : Ev → RX Bool} {fe : Ev → RX D} (ht : ∀ t ∈ ts, t ∈ vs) :
    ∀ σ H Q, tXO K (xComp vs fi g ft fe) σ H Q → tLc (tXI K fi) (tGt K ts g) (tXT K ft) (tX K fe) vs σ H Q := fun σ H Q ⟨S, G, Hs, ρ, r, p⟩ => by
  refine ⟨S, G, Hs, ρ, r, (PostX.bind p).imp fun l ρ1 Hs1 H1 g1 r1 q J hJ Dd hD => ?_⟩
  by_cases hz : l.length ≤ sizeLine
  case neg => rw [if_neg hz] at q; exact q.elim
  rw [if_pos hz] at q
  have hS : S Dd = none := r1.ext.free (r1.sub.free hD)
  have hG : G.h Dd = none := r1.old.free hD
  have hsD : ∀ {Hs2 H2 : Hp} {ρ2 : Ev} {σ2 : Sg} {o : HO}, RelE K S (G.plus Dd o) Hs2 H2 σ2 ρ2 → Hs2 Dd = none := fun {Hs2 H2 ρ2 σ2 o} r => by
    cases e : Hs2 Dd with
    | none => rfl
    | some u =>
      have := r.new Dd u e hS
      have z : upd G.h Dd o Dd = none := this
      rw [upd_same] at z; cases z
  have hat : ∀ {Hs2 H2 : Hp} {ρ2 : Ev} {σ2 : Sg} {o : HO}, RelE K S (G.plus Dd o) Hs2 H2 σ2 ρ2 → H2 Dd = some o := fun {Hs2 H2 ρ2 σ2 o} r => r.old Dd o (by show upd G.h Dd o Dd = some o; rw [upd_same])
  let P : List D → Ev → Hp → Hp → Prop := fun l _ Hs' H' => ∀ Hs2 H2 p vs, Ext Hs' H' Hs2 H2 → H' p = none → Hs2 p = none → H2 p = some (.lst vs) → RpL K Hs2 l vs → Q (.ref p) H2
  refine ⟨fun i m H' => m = l.length - i ∧ i ≤ l.length ∧ ∃ Hs2 ρ2 acc ws, Same Hs1 Hs2 ∧ RelE K S (G.plus Dd (.lst ws)) Hs2 H' (wipe σ vs) (wipeE ρ2 vs) ∧ RpL K Hs2 acc ws ∧ acc.length ≤ i ∧
      PostX K S G σ Hs2 ((compX (compXS vs g ft fe) (l.drop i) (wipeE ρ2 vs)).bind fun r ρ => .ok (acc ++ r) ρ) P,
    ⟨l.length, by simp, Nat.zero_le _, Hs1, ρ1, [], [], .refl _, (r1.plus hD _).wipe vs, .nil, Nat.le_refl _, ?_⟩, ?_⟩
  · rw [List.drop_zero]
    cases z : compX (compXS vs g ft fe) l (wipeE ρ1 vs) with
    | ok a ρ' => rw [z] at q; exact q
    | bad => rw [z] at q; exact q
  · rintro i m H' ⟨rfl, hi, Hs2, ρ2, acc, ws, g2, r2, d3, d4, q2⟩
    obtain ⟨j1, j2⟩ := hJ i Hs2 H' g2 r2.sub
    by_cases hl : i < l.length
    · obtain ⟨j1, j3⟩ := j1 l[i] (List.getElem?_eq_getElem hl)
      rw [List.drop_eq_getElem_cons hl] at q2
      refine .inr ⟨j1, fun H3 => ∃ Hs2 ρ2 acc ws, Same Hs1 Hs2 ∧ RelE K S (G.plus Dd (.lst ws)) Hs2 H3 (wipe σ vs) (wipeE ρ2 vs) ∧ RpL K Hs2 acc ws ∧ acc.length ≤ i + 1 ∧
        PostX K S G σ Hs2 ((compX (compXS vs g ft fe) (l.drop (i + 1)) (wipeE ρ2 vs)).bind fun r ρ => .ok (acc ++ r) ρ) P,
        fun H3 ⟨Hs3, ρ3, acc', ws', a⟩ => ⟨_, (by omega : l.length - (i + 1) < l.length - i), rfl, hl, Hs3, ρ3, acc', ws', a⟩, fun x H3 y => ?_⟩
      obtain ⟨Hs3, e3, h3⟩ := j3 x H3 y
      unfold compX at q2
      rw [RX.bind_assoc] at q2
      unfold compXS at q2
      have ww : wipeE (wipeE ρ2 vs) vs = wipeE ρ2 vs := by
        apply List.ext_getElem?
        intro j
        cases z : (wipeE (wipeE ρ2 vs) vs)[j]? with
        | none =>
          have := List.getElem?_eq_none_iff.mp z
          rw [wipeE_length] at this
          exact (List.getElem?_eq_none this).symm
        | some s =>
          rcases wipeE_get z with rfl | ⟨h1, h2⟩
          · by_cases m : j ∈ vs
            · have hj : j < (wipeE ρ2 vs).length := by
                have := (List.getElem?_eq_some_iff.mp z).1
                rwa [wipeE_length] at this
              have : ∀ (us : List Nat), j ∈ us → (wipeE ρ2 us)[j]? = some .no := fun us => by
                induction us with
                | nil => intro h; cases h
                | cons u us ih =>
                  intro h
                  unfold wipeE
                  by_cases e : u = j
                  · subst e; rw [List.getElem?_set_self (by rw [wipeE_length]; rwa [wipeE_length] at hj)]
                  · rw [List.getElem?_set_ne e]
                    rcases List.mem_cons.mp h with h | h
                    · exact (e h.symm).elim
                    · exact ih h
              exact (this vs m).symm
            · have : ∀ (ρ0 : Ev) (us : List Nat), j ∉ us → (wipeE ρ0 us)[j]? = ρ0[j]? := fun ρ0 us => by
                induction us with
                | nil => intro _; rfl
                | cons u us ih =>
                  intro h
                  rw [List.mem_cons, not_or] at h
                  unfold wipeE
                  rw [List.getElem?_set_ne (Ne.symm h.1), ih h.2]
              rw [← z, this _ vs m]
          · exact h2.symm
      rw [ww] at q2
      cases z : g l[i] (wipeE ρ2 vs) with
      | none => simp only [z] at q2; exact q2.elim
      | some ρ' =>
        simp only [z] at q2
        rw [RX.bind_assoc] at q2
        refine ⟨S, G.plus Dd (.lst ws), Hs3, wipeE ρ2 vs, l[i], ρ', r2.step e3, h3, z, fun σ' s1 s2 r4 => ?_⟩
        have hw := wipe_same s1 s2 ht
        refine ⟨hw, S, G.plus Dd (.lst ws), Hs3, ρ', r4, ?_⟩
        cases zt : ft ρ' with
        | bad => rw [zt] at q2; exact q2
        | ok b ρ5 =>
          rw [zt] at q2
          intro Hs5 H5 e5 r5
          cases b with
          | false =>
            simp only [Bool.false_eq_true, if_false]
            refine ⟨Hs5, ρ5, acc, ws, (g2.trans e3.grow).trans e5, ?_, (d3.mono e3.grow).mono e5, by omega, ?_⟩
            · have := r5.wipe vs
              rwa [hw] at this
            · have q3 : PostX K S G σ Hs2 _ P := q2
              simp only [RX.bind, Bool.false_eq_true, if_false] at q3
              have q4 := PostX.up q3 (e3.grow.trans e5)
              cases zc : compX (compXS vs g ft fe) (l.drop (i + 1)) (wipeE ρ5 vs) with
              | bad => unfold compXS at zc; simp only [RX.bind] at zc; rw [zc] at q4; exact q4
              | ok rr ρ7 => unfold compXS at zc; simp only [RX.bind] at zc; rw [zc] at q4; exact q4
          | true =>
            simp only [if_true]
            have q3 : PostX K S G σ Hs2 _ P := q2
            simp only [RX.bind, if_true] at q3
            refine ⟨S, G.plus Dd (.lst ws), Hs5, ρ5, r5, ?_⟩
            cases ze : fe ρ5 with
            | bad => simp only [ze] at q3; exact q3
            | ok y ρ6 =>
              simp only [ze] at q3
              intro Hs6 H6 e6 r6 v hv
              have k2 := hat r6
              have gg := (e3.grow.trans e5).trans e6
              have k3 := d3.mono gg
              refine ⟨ws, k2, by rw [← d3.length]; omega, Hs6, ρ6, acc ++ [y], ws ++ [v], g2.trans gg, ?_, k3.append (.cons hv .nil), by rw [List.length_append, List.length_singleton]; omega, ?_⟩
              · have := (r6.replus (hsD r6) (.lst (ws ++ [v]))).wipe vs
                rwa [hw] at this
              · have q4 := PostX.up q3 gg
                simp only [List.append_assoc, List.singleton_append]
                cases zc : compX (compXS vs g ft fe) (l.drop (i + 1)) (wipeE ρ6 vs) with
                | bad => unfold compXS at zc; simp only [RX.bind] at zc; rw [zc] at q4; exact q4
                | ok rr ρ7 => unfold compXS at zc; simp only [RX.bind] at zc; rw [zc] at q4; exact q4
    · have e0 : i = l.length := by omega
      subst e0
      rw [List.drop_length] at q2
      unfold compX at q2
      have q3 : PostX K S G σ Hs2 (.ok (acc ++ []) (wipeE ρ2 vs)) P := q2
      rw [List.append_nil] at q3
      have hs2 := hsD r2
      have rm := (r2.minus hG hs2).unwipe
      refine .inl ⟨j2 (Nat.le_refl _), q3 Hs2 _ (.refl _) rm Hs2 H' Dd ws ⟨r2.sub, fun b u e => ?_, .refl _, fun b o e nn => by rw [e] at nn; cases nn⟩ (if_pos rfl) hs2 (hat r2) d3⟩
      by_cases hb : b = Dd
      · have e' : (if b = Dd then none else H' b) = some u := e
        rw [if_pos hb] at e'; cases e'
      · have e' : (if b = Dd then none else H' b) = some u := e
        rw [if_neg hb] at e'; exact e'
def XTs (X : Cx) (ifs : List Expr) (f : Ev → RX Bool) : Prop := PTs X ifs (tXT X.K f)
section
variable {X : Cx} {W : WX} {elt tg iter c : Expr} {ifs : List Expr} {scope : Scope} {own : List (Str × Nat)} {pos : Pos} {ts : List Nat} {fi : Ev → RX (List D)} {g : D → Ev → Option Ev} {ft : Ev → RX Bool} {fe : Ev → RX D}
theorem xts_nil : XTs X [] (xl (cst true)) := PTs.imp pts_nil fun σ H Q ⟨S, G, Hs, ρ, r, p⟩ => p.now r
theorem xts_one (h : XT X c ft) : XTs X [c] ft := pts_one h
theorem x_comp (hc : X.calm = true) (hN : X.N.Nodup) (hi : XI X tg iter fi) (ok : BlkOk X.N X.env.scope scope own)
    (hg : ∀ (s : Shared) (H : Hp) (C : Addr) (cl : List (Str × Addr)) (fp : List Addr), VG (X.blk s H scope (compEnvC scope cl C X.env) fp) tg ts g)
    (ht : ∀ (s : Shared) (H : Hp) (C : Addr) (cl : List (Str × Addr)) (fp : List Addr), XTs (X.blk s H scope (compEnvC scope cl C X.env) fp) ifs ft)
    (he : ∀ (s : Shared) (H : Hp) (C : Addr) (cl : List (Str × Addr)) (fp : List Addr), XE (X.blk s H scope (compEnvC scope cl C X.env) fp) elt fe)
    (hts : ∀ t ∈ ts, t ∈ own.map (·.2) := by decide) (hs : ∀ x, foldedSetIterable iter X.env x = pure x := by intro _; rfl) :
    XO X (.ListComp elt [⟨tg, iter, ifs, 0⟩] scope pos) (xComp (own.map (·.2)) fi g ft fe) := PE.imp (pe_lc (g := tGt X.K ts g) (tt := tXT X.K ft) (te := tX X.K fe) hc hN hi ok hg ht he hs) (simX_comp hts)
theorem y_compO {i : Nat} {y : Str} {py spos : Pos} (hc : X.calm = true) (hN : X.N.Nodup) (hy : X.N[i]? = some y) (hyl : X.env.scope.names.lookup y = some .local)
    (hsw : swapsWith (.ListComp elt [⟨tg, iter, ifs, 0⟩] scope pos) (some (.Name y py)) spos.line X.env = pure true) (hi : XI X tg iter fi) (ok : BlkOk X.N X.env.scope scope own)
    (hg : ∀ (s : Shared) (H : Hp) (C : Addr) (cl : List (Str × Addr)) (fp : List Addr), VG (X.blk s H scope (compEnvC scope cl C X.env) fp) tg ts g)
    (ht : ∀ (s : Shared) (H : Hp) (C : Addr) (cl : List (Str × Addr)) (fp : List Addr), XTs (X.blk s H scope (compEnvC scope cl C X.env) fp) ifs ft)
    (he : ∀ (s : Shared) (H : Hp) (C : Addr) (cl : List (Str × Addr)) (fp : List Addr), XE (X.blk s H scope (compEnvC scope cl C X.env) fp) elt fe)
    (hts : ∀ t ∈ ts, t ∈ own.map (·.2) := by decide) (hs : ∀ x, foldedSetIterable iter X.env x = pure x := by intro _; rfl) :
    VS X W (.Assign [.Name y py] (.ListComp elt [⟨tg, iter, ifs, 0⟩] scope pos) spos) (ySetO i (xComp (own.map (·.2)) fi g ft fe)) := PS.imp (ps_setLc (g := tGt X.K ts g) (tt := tXT X.K ft) (te := tX X.K fe) hc hN hy hyl hsw hi ok hg ht he hs) fun D σ H ⟨S, G, Hs, ρ, r, h⟩ =>
  simX_comp hts σ H _ ⟨S, G, Hs, ρ, r, (liftX_post h).imp fun d ρ1 Hs1 H1 g1 r1 q Hs2 H2 p vs e h0 h1 h2 h3 => q Hs2 H2 _ e.grow (r1.setOw e h0 h1 h2 h3)⟩
end
end VL

set_option Elab.async false
set_option linter.all false
set_option maxRecDepth 100000
set_option autoImplicit false
namespace VL
open PySem PySem.Spec PyProof.Rows L2
/-! ### calls without arguments -/
section
variable {X : Cx} {W : WX} {k : Nat} {f : Addr} {fd : FuncData} {ps : List Str} {sp : Sp} {E : Sg → XK} {x : Str} {p pos : Pos}
theorem pe_callG0 (F : FnG X.prog X.w X.K X.mg X.base k f fd ps sp) (hr : Room k X.A) (hgd : X.A.guards = some []) (hg : Gl X x) (hm : X.mg x = some (.ref f)) (hk : PySem.W.keepIn X.K (.ref f) = true) (hb : Binds X.K fd ps []) (hx : ∀ σ, PassesAt (L2.CX X.prog X.w) X σ (E σ))
    (hdb : (x == ("__debug__" : Str)) = false := by decide) :
    PE X (.Call (.Name x p) [] [] pos) (tCallS sp E tNil) := by
  refine ⟨fun pins s σ H Q I h => ?_⟩
  refine wpAny_Call_Name_kw (ld_glob I hg hm ?_ hdb)
  exact PySem.W.callWith_K0 I.kIn hk (run_fnG (us := []) (vs := []) F hr hgd hb (hx σ) I .nil h)
theorem v_calC0 {j : Nat} {m : List D → R SD} (C : Cl X.prog X.w X.K X.mg X.base k x ps m) (hr : Room j X.A) (hgd : X.A.guards = some []) (tk : Takes X W) (hg : Gl X x := by rfl) (hj : k ≤ j := by decide)
    (hdb : (x == ("__debug__" : Str)) = false := by decide) : VE X W (.Call (.Name x p) [] [] pos) (eCall m (cst [])) := by
  obtain ⟨f, fd, h1, h2, h3, h4⟩ := C.ex
  refine PE.imp (pe_callG0 h1.fn (hr.mono hj) hgd hg h2 h3 h4 (passAt tk) hdb) fun σ H Q ⟨S, G, Hs, ρ, r, p⟩ => ?_
  have q : Post X.K X.mg W Hs H σ ((m []).bind fun s => ofO (toD s)) _ := p
  have nb : m [] ≠ .bad := fun z => by rw [z] at q; exact q
  refine ⟨h1.ar [] nb, Hs, [], r.sub, .nil, ?_⟩
  cases z : m [] with
  | bad => exact nb z
  | ex x => rw [z] at q; exact q
  | ok s =>
    rw [z] at q
    intro Hs' H' v e' hr
    cases s with
    | no => exact q.elim
    | bo l => exact q.elim
    | sh d => exact q Hs' H' e' v hr
    | ow l =>
      obtain ⟨p, us, rfl, h0, h1, h2, h3⟩ := hr
      have g : Same Hs' (upd Hs' p (.lst us)) := fun b u z => by rw [upd_ne (ne_of_none z h1)]; exact z
      exact q _ _ (e'.frz h0 h2 h1) _ (.lst (.inl (.inl upd_same)) (h3.mono g))
theorem v_calCO0 {j : Nat} {m : List D → R SD} (C : Cl X.prog X.w X.K X.mg X.base k x ps m) (hr : Room j X.A) (hgd : X.A.guards = some []) (tk : Takes X W) (hg : Gl X x := by rfl) (hj : k ≤ j := by decide)
    (hdb : (x == ("__debug__" : Str)) = false := by decide) : VO X W (.Call (.Name x p) [] [] pos) (eCallO m (cst [])) := by
  obtain ⟨f, fd, h1, h2, h3, h4⟩ := C.ex
  refine PE.imp (pe_callG0 h1.fn (hr.mono hj) hgd hg h2 h3 h4 (passAt tk) hdb) fun σ H Q ⟨S, G, Hs, ρ, r, p⟩ => ?_
  have q : Post X.K X.mg W Hs H σ ((m []).bind fun s => ofO (toL s)) _ := p
  have nb : m [] ≠ .bad := fun z => by rw [z] at q; exact q
  refine ⟨h1.ar [] nb, Hs, [], r.sub, .nil, ?_⟩
  cases z : m [] with
  | bad => exact nb z
  | ex x => rw [z] at q; exact q
  | ok s =>
    rw [z] at q
    intro Hs' H' v e' hr
    cases s with
    | no => exact q.elim
    | bo l => exact q.elim
    | sh d => exact q.elim
    | ow l =>
      obtain ⟨p, us, rfl, h0, h1, h2, h3⟩ := hr
      exact q _ _ e' p us h0 h1 h2 h3
end
end VL

set_option Elab.async false
set_option linter.all false
set_option maxRecDepth 100000
set_option maxHeartbeats 4000000
namespace VL
open PySem PySem.Spec PyProof.Rows L2

/-- how a call with n values and the keywords ks binds -/
structure KB (K : Fg) (fd : FuncData) (ps ks : List Str) (n : Nat) : Prop where
  to : ∀ (s : Shared) (us ws : List Value), K.In s.heap → us.length = n → ws.length = ks.length → BindsTo s fd ⟨us, ks.zip ws⟩ (ps.zip (us ++ ws))
section
variable {X : Cx} {n k : Nat} {f : Addr} {fd : FuncData} {ps ks : List Str} {sp : Sp} {E : Sg → XK} {x : Str} {p pos : Pos} {e : Expr} {es : List Expr} {kws : List Keyword} {t tk : TA}
theorem run_fnkG {pins : List (Addr × Obj)} {σ : Sg} {H : Hp} {s : Shared} {Q : VK} {us ws : List Value} {vs zs : List V} (F : FnG X.prog X.w X.K X.mg X.base k f fd ps sp) (hr : Room k X.A) (hgd : X.A.guards = some []) (hb : KB X.K fd ps ks n) (hx : PassesAt (L2.CX X.prog X.w) X σ (E σ))
    (I : Inv X pins σ H s) (r : Vals vs us) (rz : Vals zs ws) (l1 : vs.length = n) (l2 : zs.length = ks.length) (h : sp (vs ++ zs) H Q (E σ)) : wpAny (model X.prog X.w) X.A (call (.ref f) us (ks.zip ws)) (EP X pins σ Q) X.xe s := by
  have r2 : Vals (vs ++ zs) (us ++ ws) := r.append rz
  refine wpAny_call (codeAny_mono (F.run X.A X.stack s H ⟨us, ks.zip ws⟩ (us ++ ws) (vs ++ zs) Q (E σ) hr hgd I.env0 (hb.to s us ws I.kIn (r.length.symm.trans l1) (rz.length.symm.trans l2)) r2 h) fun r s' hq => ?_)
  cases r with
  | error e => exact hx pins H s e s' I hq
  | ok fl =>
    cases fl with
    | ret u => exact I.after hq
    | next => exact False.elim hq
    | brk => exact False.elim hq
    | cont => exact False.elim hq
def tCallKS (n : Nat) (ks : List Str) (sp : Sp) (E : Sg → XK) (t tk : TA) : TE := fun σ H Q => t σ H fun vs H1 => tk σ H1 fun zs H2 => vs.length = n ∧ zs.length = ks.length ∧ sp (vs ++ zs) H2 Q (E σ)
theorem pe_callKG (F : FnG X.prog X.w X.K X.mg X.base k f fd ps sp) (hr : Room k X.A) (hgd : X.A.guards = some []) (hg : Gl X x) (hm : X.mg x = some (.ref f)) (hk : PySem.W.keepIn X.K (.ref f) = true) (hb : KB X.K fd ps ks n) (hx : ∀ σ, PassesAt (L2.CX X.prog X.w) X σ (E σ))
    (ha : PA X (e :: es) t) (hkw : PK X kws tk) (hall : (backToKw pos (keywordEach kws X.env)).all (·.1.isSome) = true := by rfl) (hks : (backToKw pos (keywordEach kws X.env)).filterMap (·.1) = ks := by rfl)
    (hdb : (x == ("__debug__" : Str)) = false := by decide) (he : starEach (e :: es) X.env = (false, eval e X.env) :: starEach es X.env := by rfl)
    (hpl : ((backTo pos (starEach (e :: es) X.env)).any (·.1) || (backToKw pos (keywordEach kws X.env)).any (·.1.isNone)) = false := by rfl) :
    PE X (.Call (.Name x p) (e :: es) kws pos) (tCallKS n ks sp E t tk) := by
  refine ⟨fun pins s σ H Q I h => ?_⟩
  refine wpAny_Call_Name_kw (ld_glob I hg hm ?_ hdb)
  refine PySem.W.callWith_KW (h₀ := X.base) I.ok.mod.kin hk hall (thn (ha.run pos pins s σ H _ I h) fun us s1 ⟨vs, H1, I1, r, q⟩ => ?_) hpl he
  refine thn (hkw.run pos pins s1 σ H1 _ I1 q) fun ws s2 ⟨zs, H2, I2, rz, q2⟩ => ⟨I2.kIn, ?_⟩
  rw [hks]
  exact run_fnkG F hr hgd hb (hx σ) I2 r rz q2.1 q2.2.1 q2.2.2
end
/-- the keywords' values -/
def VKw (X : Cx) (W : WX) (kws : List Keyword) (f : Ev → R (List D)) : Prop := PK X kws (tA X.K X.mg W f)
def eApp (n k : Nat) (f g : Ev → R (List D)) : Ev → R (List D) := fun ρ => (f ρ).bind fun a => (g ρ).bind fun b => if a.length = n ∧ b.length = k then .ok (a ++ b) else .bad
section
variable {X : Cx} {W : WX} {e : Expr} {es : List Expr} {kws : List Keyword} {nm : Option Str} {f : Ev → R D} {fl fk : Ev → R (List D)} {kpos : Pos}
theorem PK.imp {t t' : TA} (h : PK X kws t) (g : ∀ σ H Q, t' σ H Q → t σ H Q) : PK X kws t' := ⟨fun pos pins s σ H Q I q => h.run pos pins s σ H Q I (g σ H Q q)⟩
theorem vk_nil : VKw X W [] (cst []) := PK.imp pk_nil fun σ H Q ⟨S, G, Hs, ρ, r, p⟩ => p.now r.sub [] .nil
theorem vk_cons (ha : VE X W e f) (hr : VKw X W kws fl) : VKw X W (⟨nm, e, kpos⟩ :: kws) (eCons f fl) := PK.imp (pk_cons ha hr) fun σ H Q ⟨S, G, Hs, ρ, r, p⟩ => by
  refine ⟨S, G, Hs, ρ, r, (Post.bind p).imp fun x Hs1 H1 e q u hu => ?_⟩
  refine ⟨S, G, Hs1, ρ, r.step e, (Post.bind q).imp fun xs Hs2 H2 e' q' us hus => ?_⟩
  exact q'.now e'.sub (u :: us) (.cons (hu.mono e'.grow) hus)
end
section
variable {X : Cx} {W : WX} {e : Expr} {es : List Expr} {pos p : Pos} {x : Str} {fl fk : Ev → R (List D)} {k j n : Nat} {f : Addr} {fd : FuncData} {ps ks : List Str} {m : List D → R SD} {kws : List Keyword}
/-- as VL's rule of a call, with the keywords' values behind -/
theorem sim_appK {K : Fg} {mg : Str → Option Value} {sp : Sp} {E : Sg → XK} : ∀ σ H Q, tCallS sp E (tA K mg W (eApp n ks.length fl fk)) σ H Q → tCallKS n ks sp E (tA K mg W fl) (tA K mg W fk) σ H Q := fun σ H Q ⟨S, G, Hs, ρ, r, p⟩ => by
  refine ⟨S, G, Hs, ρ, r, (Post.bind p).imp fun xs Hs1 H1 e q us hus => ?_⟩
  refine ⟨S, G, Hs1, ρ, r.step e, (Post.bind q).imp fun ys Hs2 H2 e' q' vs hvs => ?_⟩
  by_cases z : xs.length = n ∧ ys.length = ks.length
  · rw [if_pos z] at q'
    exact ⟨hus.length.symm.trans z.1, hvs.length.symm.trans z.2, q'.now e'.sub (us ++ vs) ((hus.mono e'.grow).append hvs)⟩
  · rw [if_neg z] at q'
    exact q'.elim
end
structure ClK (P : Program) (w : World) (K : Fg) (mg : Str → Option Value) (base : Heap) (k : Nat) (x : Str) (ps ks : List Str) (n : Nat) (m : List D → R SD) : Prop where
  ex : ∃ f fd, DOk P w K mg base k f fd ps m ∧ mg x = some (.ref f) ∧ PySem.W.keepIn K (.ref f) = true ∧ KB K fd ps ks n
structure DfK (K : Fg) (mg : Str → Option Value) (x : Str) (st : Stmt) (ps ks : List Str) (n : Nat) : Prop where
  ex : ∃ f fd, Fun K x x st f fd ∧ mg x = some (.ref f) ∧ KB K fd ps ks n
theorem clK_ok {P : Program} {w : World} {K : Fg} {mg : Str → Option Value} {base : Heap} {x : Str} {st : Stmt} {N ps ks : List Str} {n k : Nat} {F : Ev → Out} (Fn : DfK K mg x st ps ks n) (S : FnScope N ps (defScope st))
    (body : ∀ (f : Addr) (cdv : Value) (A : Around) (outer : List Env) (s : Shared) (H : Hp) (E : XK), Inn (cxOf (L2.CX P w) P w K mg base N x (defScope st) f cdv A outer s H E) (fun cls d _ H => E cls d H) k →
      VSs (cxOf (L2.CX P w) P w K mg base N x (defScope st) f cdv A outer s H E) (fun cls d _ H => E cls d H) (defBody st) F) :
    ClK P w K mg base (k + 1) x ps ks n (runD ps.length N.length F) := by
  obtain ⟨f, fd, h1, h2, h3⟩ := Fn.ex
  exact ⟨f, fd, def_ok h1 S fun cdv A outer s H E I => body f cdv A outer s H E I, h2, h1.kp, h3⟩
section
variable {X : Cx} {W : WX} {e : Expr} {es : List Expr} {pos p : Pos} {x : Str} {fl fk : Ev → R (List D)} {k j n : Nat} {ps ks : List Str} {m : List D → R SD} {kws : List Keyword}
theorem v_calK (C : ClK X.prog X.w X.K X.mg X.base k x ps ks n m) (hr : Room j X.A) (hgd : X.A.guards = some []) (tk : Takes X W) (ha : VA X W (e :: es) fl) (hkw : VKw X W kws fk) (hg : Gl X x := by rfl) (hj : k ≤ j := by decide)
    (hall : (backToKw pos (keywordEach kws X.env)).all (·.1.isSome) = true := by rfl) (hks : (backToKw pos (keywordEach kws X.env)).filterMap (·.1) = ks := by rfl)
    (hdb : (x == ("__debug__" : Str)) = false := by decide) (he : starEach (e :: es) X.env = (false, eval e X.env) :: starEach es X.env := by rfl)
    (hpl : ((backTo pos (starEach (e :: es) X.env)).any (·.1) || (backToKw pos (keywordEach kws X.env)).any (·.1.isNone)) = false := by rfl) :
    VE X W (.Call (.Name x p) (e :: es) kws pos) (eCall m (eApp n ks.length fl fk)) := by
  obtain ⟨f, fd, h1, h2, h3, h4⟩ := C.ex
  exact PE.imp (pe_callKG h1.fn (hr.mono hj) hgd hg h2 h3 h4 (passAt tk) ha hkw hall hks hdb he hpl) fun σ H Q q => sim_appK σ H Q (sim_call h1.ar σ H Q q)
theorem v_calKO (C : ClK X.prog X.w X.K X.mg X.base k x ps ks n m) (hr : Room j X.A) (hgd : X.A.guards = some []) (tk : Takes X W) (ha : VA X W (e :: es) fl) (hkw : VKw X W kws fk) (hg : Gl X x := by rfl) (hj : k ≤ j := by decide)
    (hall : (backToKw pos (keywordEach kws X.env)).all (·.1.isSome) = true := by rfl) (hks : (backToKw pos (keywordEach kws X.env)).filterMap (·.1) = ks := by rfl)
    (hdb : (x == ("__debug__" : Str)) = false := by decide) (he : starEach (e :: es) X.env = (false, eval e X.env) :: starEach es X.env := by rfl)
    (hpl : ((backTo pos (starEach (e :: es) X.env)).any (·.1) || (backToKw pos (keywordEach kws X.env)).any (·.1.isNone)) = false := by rfl) :
    VO X W (.Call (.Name x p) (e :: es) kws pos) (eCallO m (eApp n ks.length fl fk)) := by
  obtain ⟨f, fd, h1, h2, h3, h4⟩ := C.ex
  exact PE.imp (pe_callKG h1.fn (hr.mono hj) hgd hg h2 h3 h4 (passAt tk) ha hkw hall hks hdb he hpl) fun σ H Q q => sim_appK σ H Q (sim_callO h1.ar σ H Q q)
end
theorem kb_of {K : Fg} {x qual : Str} {st : Stmt} {f : Addr} {fd : FuncData} {ps ks : List Str} {n : Nat} (F : Fun K x qual st f fd)
    (h : ∀ (kV doc pm : Value) (an : Option Addr) (cdv ct : Value) (us ws : List Value), us.length = n → ws.length = ks.length → bindArgs (PySem.W.fnOf x qual (defArgs st) (defBody st) (defScope st) .none kV doc pm an cdv ct) ⟨us, ks.zip ws⟩ = pure (ps.zip (us ++ ws))) : KB K fd ps ks n := by
  obtain ⟨oc, od, kV, doc, pm, an, cdv, ct, osl, rfl, lk, hcd⟩ := F.ex
  exact ⟨fun s us ws _ l1 l2 => BindsTo.of_eq (h kV doc pm an cdv ct us ws l1 l2)⟩
/-! ### a list of one's own that is only read while an expression is evaluated -/
mutual
def noLst : D → Bool
  | .list _ => false
  | .tuple l => noLsts l
  | .dict _ => false
  | _ => true
def noLsts : List D → Bool
  | [] => true
  | d :: l => noLst d && noLsts l
end
def cutH (H : Hp) (p : Addr) : Hp := fun a => if a = p then none else H a
theorem sqT_cut {K : Fg} {H : Hp} {p a : Addr} {us xs : List V} (hp : H p = some (.lst us)) (h : SqT K H a xs) : SqT K (cutH H p) a xs := by
  rcases h with h | h
  · left
    have hne : a ≠ p := by
      rintro rfl
      rcases h with h | ⟨o, h⟩
      · rw [hp] at h; cases h
      · rw [hp] at h; cases h
    rcases h with h | ⟨o, h⟩
    · exact .inl (by unfold cutH; rw [if_neg hne]; exact h)
    · exact .inr ⟨o, by unfold cutH; rw [if_neg hne]; exact h⟩
  · exact .inr h
mutual
theorem Rp.cut {K : Fg} {H : Hp} {p : Addr} {us : List V} (hp : H p = some (.lst us)) : ∀ {d : D} {v : V}, Rp K H d v → noLst d = true → Rp K (cutH H p) d v
  | _, _, .non, _ => .non
  | _, _, .bl b, _ => .bl b
  | _, _, .int i, _ => .int i
  | _, _, .str x, _ => .str x
  | _, _, .lst _ _, h => by simp [noLst] at h
  | _, _, .tup h r, hd => .tup (sqT_cut hp h) (RpL.cut hp r (by simpa [noLst] using hd))
  | _, _, .nl h r, hd => by simp [tg, noLst] at hd
  | _, _, .fl h r, hd => by simp [tf, noLst] at hd
  | _, _, .dk h l r, hd => by simp [dkD, noLst] at hd
theorem RpL.cut {K : Fg} {H : Hp} {p : Addr} {us : List V} (hp : H p = some (.lst us)) : ∀ {d : List D} {v : List V}, RpL K H d v → noLsts d = true → RpL K (cutH H p) d v
  | _, _, .nil, _ => .nil
  | _, _, .cons h r, hd => by
    simp only [noLsts, Bool.and_eq_true] at hd
    exact .cons (Rp.cut hp h hd.1) (RpL.cut hp r hd.2)
end
def thawR : R D → R D
  | .ok d => if noLst d then .ok d else .bad
  | _ => .bad
def eThaw (i : Nat) (f : Ev → R D) : Ev → R D := fun ρ => match ρ[i]? with
  | some (.ow l) => thawR (f (ρ.set i (.sh (.list l))))
  | _ => f ρ
theorem RelE.fzAt {K : Fg} {S Hs H : Hp} {G : Gx} {σ : Sg} {ρ : Ev} {i : Nat} {l : List D} (r : RelE K S G Hs H σ ρ) (hi : ρ[i]? = some (.ow l)) : ∃ p vs, Hs p = none ∧ H p = some (.lst vs) ∧ RelE K S G (upd Hs p (.lst vs)) H σ (ρ.set i (.sh (.list l))) := by
  obtain ⟨p, vs, e1, e2, e3, e4, e5, e6⟩ := r.own' hi
  have g : Same Hs (upd Hs p (.lst vs)) := fun b u q => by rw [upd_ne (ne_of_none q e3)]; exact q
  refine ⟨p, vs, e3, e4, ?_⟩
  refine ⟨fun b u q => ?_, r.old, r.ext.trans g, fun b u q n => ?_, by simpa using r.len, fun j s hj => ?_, fun jj a ha => ?_, r.one, fun j k m n q a b c d' => ?_⟩
  · by_cases hb : b = p
    · subst hb; rw [upd_same] at q; cases q; exact e4
    · rw [upd_ne hb] at q; exact r.sub b u q
  · by_cases hb : b = p
    · subst hb; exact e2
    · rw [upd_ne hb] at q; exact r.new b u q n
  · rcases set_get hj with ⟨rfl, hl, rfl⟩ | ⟨hj', hj⟩
    · exact ⟨_, e1, .lst (.inl (.inl upd_same)) (e5.mono g)⟩
    · have q := r.slot j s hj
      cases s with
      | no => trivial
      | sh d =>
        obtain ⟨v, q1, q2⟩ := q
        exact ⟨v, q1, q2.mono g⟩
      | ow m =>
        obtain ⟨q, xs, f1, f2, f3, f4, f5, f6⟩ := q
        refine ⟨q, xs, f1, f2, ?_, f4, f5.mono g, f6⟩
        rw [upd_ne]
        · exact f3
        · rintro rfl
          exact hj' (r.dis j i m l q hj hi f1 e1)
      | bo m =>
        obtain ⟨q, xs, f1, f2, f3, f4⟩ := q
        exact ⟨q, xs, f1, f2, f3, f4.mono g⟩
  · obtain ⟨h1, h2, h3⟩ := r.bor jj a ha
    refine ⟨h1, ?_, h3⟩
    rw [upd_ne]
    · exact h2
    · rintro rfl
      exact e6 jj ha
  · rcases set_get a with ⟨_, _, e⟩ | ⟨hj, a⟩
    · cases e
    · rcases set_get b with ⟨_, _, e⟩ | ⟨hk, b⟩
      · cases e
      · exact r.dis j k m n q a b c d'
theorem v_thaw {X : Cx} {W : WX} {e : Expr} {f : Ev → R D} (i : Nat) (h : VE X W e f) : VE X W e (eThaw i f) := PE.imp h fun σ H Q ⟨S, G, Hs, ρ, r, p⟩ => by
  unfold eThaw at p
  cases q : ρ[i]? with
  | none => rw [q] at p; exact ⟨S, G, Hs, ρ, r, p⟩
  | some s =>
    rw [q] at p
    cases s with
    | no => exact ⟨S, G, Hs, ρ, r, p⟩
    | bo l => exact ⟨S, G, Hs, ρ, r, p⟩
    | sh d => exact ⟨S, G, Hs, ρ, r, p⟩
    | ow l =>
      obtain ⟨a, vs, h1, h2, r'⟩ := r.fzAt q
      refine ⟨S, G, upd Hs a (.lst vs), _, r', ?_⟩
      simp only at p
      cases z : f (ρ.set i (.sh (.list l))) with
      | ex x => rw [z] at p; exact p.elim
      | bad => rw [z] at p; exact p.elim
      | ok d =>
        rw [z] at p
        simp only [thawR] at p
        split at p
        · rename_i nl
          intro Hs1 H1 ex v hv
          have ha : Hs1 a = some (.lst vs) := ex.grow _ _ upd_same
          refine p (cutH Hs1 a) H1 ⟨fun b u g => ?_, ex.same, fun b u g => ?_, fun b u g n => ?_⟩ v (Rp.cut ha hv nl)
          · unfold cutH at g
            split at g
            · cases g
            · exact ex.sub _ _ g
          · have hb : b ≠ a := ne_of_none g h1
            unfold cutH
            rw [if_neg hb]
            exact ex.grow _ _ (by rw [upd_ne hb]; exact g)
          · unfold cutH at g
            split at g
            · cases g
            · rename_i hb
              exact ex.fresh b u g (by rw [upd_ne hb]; exact n)
        · exact p.elim
end VL

set_option Elab.async false
set_option linter.all false
set_option maxRecDepth 100000
set_option autoImplicit false
namespace VL
open PySem PySem.Spec PyProof.Rows L2

/-! ### evaluation: rows for simp -/
def fin : Out → R SD
  | .nx _ => .ok (.sh .none)
  | .rt r => .ok r
  | .ex x _ => .ex x
  | _ => .bad
section
variable {α β γ δ : Type} {ρ : Ev} {f : Ev → R α} {g : Ev → R β} {h : Ev → R γ} {a : α} {d e : D} {l m : List D} {i j k : Nat} {s t : SD} {b : Bool} {x y z : Int}
@[simp] theorem r_get0 (u : α) (us : List α) : (u :: us)[0]? = some u := id rfl
@[simp] theorem r_getS (u : α) (us : List α) (n : Nat) : (u :: us)[n + 1]? = us[n]? := id rfl
@[simp] theorem r_bind_ok (F : α → R β) : (R.ok a).bind F = F a := id rfl
@[simp] theorem r_bind_ex (u : Xn) (F : α → R β) : (R.ex u : R α).bind F = .ex u := id rfl
@[simp] theorem r_bind_bad (F : α → R β) : (R.bad : R α).bind F = .bad := id rfl
@[simp] theorem r_ofO_some : ofO (some a) = .ok a := id rfl
@[simp] theorem r_ofO_none : ofO (none : Option α) = .bad := id rfl
@[simp] theorem r_noex_ok : noex (.ok a) = .ok a := id rfl
@[simp] theorem r_cst : cst a ρ = .ok a := id rfl
@[simp] theorem r_eVar : eVar i ρ = (match ρ[i]? with | some (.sh d) => .ok d | _ => .bad) := id rfl
@[simp] theorem r_eOwn : eOwn i ρ = (match ρ[i]? with | some (.sh d) => .ok d | some (.ow l) => .ok (.list l) | some (.bo l) => .ok (.list l) | _ => .bad) := id rfl
@[simp] theorem r_e1 (F : α → Option β) : e1 F f ρ = (f ρ).bind fun x => ofO (F x) := id rfl
@[simp] theorem r_e2 (F : α → β → Option γ) : e2 F f g ρ = (f ρ).bind fun x => (g ρ).bind fun y => ofO (F x y) := id rfl
@[simp] theorem r_e3 (F : α → β → γ → Option δ) : e3 F f g h ρ = (f ρ).bind fun x => (g ρ).bind fun y => (h ρ).bind fun z => ofO (F x y z) := id rfl
@[simp] theorem r_eCons (f : Ev → R D) (g : Ev → R (List D)) : eCons f g ρ = (f ρ).bind fun x => (g ρ).bind fun xs => .ok (x :: xs) := id rfl
@[simp] theorem r_eLst (f : Ev → R (List D)) : eLst f ρ = (f ρ).bind fun l => .ok (.list l) := id rfl
@[simp] theorem r_eIf (c : Ev → R Bool) (f g : Ev → R α) : eIf c f g ρ = (c ρ).bind fun b => if b then f ρ else g ρ := id rfl
@[simp] theorem r_eAnd (f g : Ev → R Bool) : eAnd f g ρ = (f ρ).bind fun b => if b then g ρ else .ok false := id rfl
@[simp] theorem r_eOr (f g : Ev → R Bool) : eOr f g ρ = (f ρ).bind fun b => if b then .ok true else g ρ := id rfl
@[simp] theorem r_eNot (f : Ev → R Bool) : eNot f ρ = (f ρ).bind fun b => .ok (!b) := id rfl
@[simp] theorem r_eAndV (f g : Ev → R D) : eAndV f g ρ = (f ρ).bind fun x => (ofO (truD x)).bind fun k => if k then g ρ else .ok x := id rfl
@[simp] theorem r_eOrV (f g : Ev → R D) : eOrV f g ρ = (f ρ).bind fun x => (ofO (truD x)).bind fun k => if k then .ok x else g ρ := id rfl
@[simp] theorem r_eChain (F F' : D → D → Option D) (f g h : Ev → R D) : eChain F F' f g h ρ = (f ρ).bind fun x => (g ρ).bind fun y => (ofO (F x y)).bind fun r => (ofO (bOf r)).bind fun b => if b then (h ρ).bind fun z => ofO (F' y z) else .ok (.bool false) := id rfl
@[simp] theorem r_eCall (m : List D → R SD) (fl : Ev → R (List D)) : eCall m fl ρ = (fl ρ).bind fun ds => (m ds).bind fun s => ofO (toD s) := id rfl
@[simp] theorem r_eCallO (m : List D → R SD) (fl : Ev → R (List D)) : eCallO m fl ρ = (fl ρ).bind fun ds => (m ds).bind fun s => ofO (toL s) := id rfl
@[simp] theorem r_pNo : pNo ρ = .ok none := id rfl
@[simp] theorem r_toD_sh : toD (.sh d) = some d := id rfl
@[simp] theorem r_toD_ow : toD (.ow l) = some (.list l) := id rfl
@[simp] theorem r_toL_ow : toL (.ow l) = some l := id rfl
/-! statements -/
@[simp] theorem r_liftE_ok (k : α → Out) : liftE (.ok a) ρ k = k a := id rfl
@[simp] theorem r_liftE_ex (u : Xn) (k : α → Out) : liftE (.ex u) ρ k = .ex u ρ := id rfl
@[simp] theorem r_liftE_bad (k : α → Out) : liftE .bad ρ k = .bad := id rfl
@[simp] theorem r_seqO_nx (k : Ev → Out) : seqO (.nx ρ) k = k ρ := id rfl
@[simp] theorem r_seqO_rt (k : Ev → Out) : seqO (.rt s) k = .rt s := id rfl
@[simp] theorem r_seqO_rtB (k : Ev → Out) : seqO (.rtB s ρ) k = .rtB s ρ := id rfl
@[simp] theorem r_seqO_bk (k : Ev → Out) : seqO (.bk ρ) k = .bk ρ := id rfl
@[simp] theorem r_seqO_ct (k : Ev → Out) : seqO (.ct ρ) k = .ct ρ := id rfl
@[simp] theorem r_seqO_ex (u : Xn) (k : Ev → Out) : seqO (.ex u ρ) k = .ex u ρ := id rfl
@[simp] theorem r_seqO_bad (k : Ev → Out) : seqO .bad k = .bad := id rfl
@[simp] theorem r_sNil : sNil ρ = .nx ρ := id rfl
@[simp] theorem r_sSeq (F G : Ev → Out) : sSeq F G ρ = seqO (F ρ) G := id rfl
@[simp] theorem r_sSet (f : Ev → R D) : sSet i f ρ = liftE (f ρ) ρ fun d => .nx (ρ.set i (.sh d)) := id rfl
@[simp] theorem r_sSetO (f : Ev → R (List D)) : sSetO i f ρ = liftE (f ρ) ρ fun d => .nx (ρ.set i (.ow d)) := id rfl
@[simp] theorem r_sAsg (f : Ev → R D) (g : D → Ev → Option Ev) : sAsg f g ρ = liftE (f ρ) ρ fun d => match g d ρ with | some ρ' => .nx ρ' | none => .bad := id rfl
@[simp] theorem r_sPar (f : Ev → R (List D)) : sPar i j f ρ = liftE (f ρ) ρ fun ds => match ds with | [d, d'] => .nx ((ρ.set i (.sh d)).set j (.sh d')) | _ => .bad := id rfl
@[simp] theorem r_sAug (F : D → D → Option D) (f : Ev → R D) : sAug i F f ρ = liftE ((eVar i ρ).bind fun x => (f ρ).bind fun y => ofO (F x y)) ρ fun d => .nx (ρ.set i (.sh d)) := id rfl
@[simp] theorem r_sRet (f : Ev → R D) : sRet f ρ = liftE (f ρ) ρ fun d => .rt (.sh d) := id rfl
@[simp] theorem r_sRetO (f : Ev → R (List D)) : sRetO f ρ = liftE (f ρ) ρ fun d => .rt (.ow d) := id rfl
@[simp] theorem r_sRetV : sRetV i ρ = (match ρ[i]? with | some (.ow l) => .rt (.ow l) | some (.sh d) => .rt (.sh d) | _ => .bad) := id rfl
@[simp] theorem r_sRetN : sRetN ρ = .rt (.sh .none) := id rfl
@[simp] theorem r_sIf (c : Ev → R Bool) (F F' : Ev → Out) : sIf c F F' ρ = liftE (c ρ) ρ fun b => if b then F ρ else F' ρ := id rfl
@[simp] theorem r_sDrop (f : Ev → R D) : sDrop f ρ = liftE (f ρ) ρ fun _ => .nx ρ := id rfl
@[simp] theorem r_sFz (F : Ev → Out) : sFz i F ρ = (match ρ[i]? with | some (.ow l) => F (ρ.set i (.sh (.list l))) | _ => F ρ) := id rfl
@[simp] theorem r_onOw (k : List D → Out) : onOw i ρ k = (match ρ[i]? with | some (.ow l) => k l | _ => .bad) := id rfl
@[simp] theorem r_sApp (f : Ev → R D) : sApp i f ρ = onOw i ρ fun l => liftE (f ρ) ρ fun d => if l.length < sizeLine then .nx (ρ.set i (.ow (l ++ [d]))) else .bad := id rfl
@[simp] theorem r_sExt (f : Ev → R D) : sExt i f ρ = onOw i ρ fun l => liftE (f ρ) ρ fun d => match d with
  | .list l' => if l.length + l'.length ≤ sizeLine then .nx (ρ.set i (.ow (l ++ l'))) else .bad
  | _ => .bad := id rfl
@[simp] theorem r_sStore (fi fv : Ev → R D) : sStore i fi fv ρ = onOw i ρ fun l => liftE ((fv ρ).bind fun d => (fi ρ).bind fun k => .ok (d, k)) ρ fun (d, k) => match k with
  | .int z => match ixN l.length z with
    | some j => .nx (ρ.set i (.ow (l.set j d)))
    | none => .bad
  | _ => .bad := id rfl
@[simp] theorem r_placeD : placeD l (.int z) = if 0 ≤ z ∧ z < 2 ^ 63 then (l[z.toNat]?).map fun y => (z.toNat, y) else none := id rfl
@[simp] theorem r_sAugIx (F : D → D → Option D) (fi fv : Ev → R D) : sAugIx i F fi fv ρ = onOw i ρ fun l => liftE ((fi ρ).bind fun k => ofO (placeD l k)) ρ fun jy => liftE ((fv ρ).bind fun d => ofO (F jy.2 d)) ρ fun d => .nx (ρ.set i (.ow (l.set jy.1 d))) := id rfl
@[simp] theorem r_sPop : sPop i j ρ = onOw j ρ fun l => match l.getLast? with
  | some d => .nx ((ρ.set j (.ow l.dropLast)).set i (.sh d))
  | none => .bad := id rfl
@[simp] theorem r_sFor (fi : Ev → R (List D)) (g : D → Ev → Option Ev) (F : Ev → Out) : sFor fi g F ρ = liftE (fi ρ) ρ fun l => forO (gTo g F) l ρ := id rfl
@[simp] theorem r_gTo (g : D → Ev → Option Ev) (F : Ev → Out) : gTo g F d ρ = match g d ρ with | some ρ' => F ρ' | none => .bad := id rfl
@[simp] theorem r_gSet : gSet i d ρ = some (ρ.set i (.sh d)) := id rfl
@[simp] theorem r_gTupD_t (n : Nat) (k : List D → Ev → Option Ev) : gTupD n k (.tuple l) ρ = (if l.length = n then k l ρ else none) := id rfl
@[simp] theorem r_gTupD_l (n : Nat) (k : List D → Ev → Option Ev) : gTupD n k (.list l) ρ = (if l.length = n then k l ρ else none) := id rfl
@[simp] theorem r_gsNil : gsNil [] ρ = some ρ := id rfl
@[simp] theorem r_gsCons (g : D → Ev → Option Ev) (k : List D → Ev → Option Ev) : gsCons g k (d :: l) ρ = (g d ρ).bind (k l) := id rfl
@[simp] theorem r_wipe_nil : wipeE ρ [] = ρ := id rfl
@[simp] theorem r_wipe_cons (vs : List Nat) : wipeE ρ (i :: vs) = (wipeE ρ vs).set i .no := id rfl
@[simp] theorem r_forO_nil (F : D → Ev → Out) : forO F [] ρ = .nx ρ := id rfl
@[simp] theorem r_eComp (vs : List Nat) (fi : Ev → R (List D)) (g : D → Ev → Option Ev) (ft : Ev → R Bool) (fe : Ev → R D) : eComp vs fi g ft fe ρ = (fi ρ).bind fun l => if l.length ≤ sizeLine then compR (compS vs g ft fe ρ) l else .bad := id rfl
@[simp] theorem r_compR_nil (st : D → R (Option D)) : compR st [] = .ok [] := id rfl
/-! evaluations that change lists -/
@[simp] theorem rx_bind_ok (F : α → Ev → RX β) : (RX.ok a ρ).bind F = F a ρ := id rfl
@[simp] theorem rx_bind_bad (F : α → Ev → RX β) : (RX.bad : RX α).bind F = .bad := id rfl
@[simp] theorem rx_xl (f : Ev → R α) : xl f ρ = (match f ρ with | .ok a => .ok a ρ | _ => .bad) := id rfl
@[simp] theorem rx_of_some : ofX (some a) ρ = .ok a ρ := id rfl
@[simp] theorem rx_of_none : ofX (none : Option α) ρ = .bad := id rfl
@[simp] theorem rx_x1 (F : α → Option β) (f : Ev → RX α) : x1 F f ρ = (f ρ).bind fun x ρ => ofX (F x) ρ := id rfl
@[simp] theorem rx_x2 (F : α → β → Option γ) (f : Ev → RX α) (g : Ev → RX β) : x2 F f g ρ = (f ρ).bind fun x ρ => (g ρ).bind fun y ρ => ofX (F x y) ρ := id rfl
@[simp] theorem rx_xCons (f : Ev → RX D) (g : Ev → RX (List D)) : xCons f g ρ = (f ρ).bind fun x ρ => (g ρ).bind fun xs ρ => .ok (x :: xs) ρ := id rfl
@[simp] theorem rx_xLst (f : Ev → RX (List D)) : xLst f ρ = (f ρ).bind fun l ρ => .ok (.list l) ρ := id rfl
@[simp] theorem rx_xIf (c : Ev → RX Bool) (f g : Ev → RX α) : xIf c f g ρ = (c ρ).bind fun b ρ => if b then f ρ else g ρ := id rfl
@[simp] theorem rx_xAnd (f g : Ev → RX Bool) : xAnd f g ρ = (f ρ).bind fun b ρ => if b then g ρ else .ok false ρ := id rfl
@[simp] theorem rx_xOr (f g : Ev → RX Bool) : xOr f g ρ = (f ρ).bind fun b ρ => if b then .ok true ρ else g ρ := id rfl
@[simp] theorem rx_xNot (f : Ev → RX Bool) : xNot f ρ = (f ρ).bind fun b ρ => .ok (!b) ρ := id rfl
@[simp] theorem rx_xCall (m : List D → R SD) (fl : Ev → RX (List D)) : xCall m fl ρ = (fl ρ).bind fun ds ρ => match m ds with | .ok s => ofX (toD s) ρ | _ => .bad := id rfl
@[simp] theorem rx_xCallO (m : List D → R SD) (fl : Ev → RX (List D)) : xCallO m fl ρ = (fl ρ).bind fun ds ρ => match m ds with | .ok s => ofX (toL s) ρ | _ => .bad := id rfl
@[simp] theorem rx_lstAt : lstAt ρ i = (match ρ[i]? with | some (.ow l) => some (l, false) | some (.bo l) => some (l, true) | _ => none) := id rfl
@[simp] theorem rx_mkT : mkL true l = .bo l := id rfl
@[simp] theorem rx_mkF : mkL false l = .ow l := id rfl
@[simp] theorem rx_xPop : xPop i ρ = (match lstAt ρ i with | some (l, b) => (match l.getLast? with | some d => .ok d (ρ.set i (mkL b l.dropLast)) | none => .bad) | none => .bad) := id rfl
@[simp] theorem rx_xHere (f : Ev → RX (List D)) : xHere i f ρ = (match lstAt ρ i with | some _ => (f ρ).bind fun ds ρ => .ok (.none :: ds) ρ | none => .bad) := id rfl
@[simp] theorem rx_xCallB (m : List D → List D → RB) (f : Ev → RX (List D)) : xCallB m i f ρ = (f ρ).bind fun ds ρ => match lstAt ρ i with | some (l, k) => (match m l ds with | .ok r l' => ofX (toD r) (ρ.set i (mkL k l')) | .bad => .bad) | none => .bad := id rfl
@[simp] theorem rx_xCallBO (m : List D → List D → RB) (f : Ev → RX (List D)) : xCallBO m i f ρ = (f ρ).bind fun ds ρ => match lstAt ρ i with | some (l, k) => (match m l ds with | .ok r l' => ofX (toL r) (ρ.set i (mkL k l')) | .bad => .bad) | none => .bad := id rfl
@[simp] theorem rx_xComp (vs : List Nat) (fi : Ev → RX (List D)) (g : D → Ev → Option Ev) (ft : Ev → RX Bool) (fe : Ev → RX D) : xComp vs fi g ft fe ρ = (fi ρ).bind fun l ρ1 => if l.length ≤ sizeLine then compX (compXS vs g ft fe) l (wipeE ρ1 vs) else .bad := id rfl
@[simp] theorem rx_lift_ok (k : α → Ev → Out) : liftX (.ok a ρ) k = k a ρ := id rfl
@[simp] theorem rx_lift_bad (k : α → Ev → Out) : liftX .bad k = .bad := id rfl
@[simp] theorem ry_set (f : Ev → RX D) : ySet i f ρ = liftX (f ρ) fun d ρ => .nx (ρ.set i (.sh d)) := id rfl
@[simp] theorem ry_setO (f : Ev → RX (List D)) : ySetO i f ρ = liftX (f ρ) fun d ρ => .nx (ρ.set i (.ow d)) := id rfl
@[simp] theorem ry_asg (f : Ev → RX D) (g : D → Ev → Option Ev) : yAsg f g ρ = liftX (f ρ) fun d ρ => match g d ρ with | some ρ' => .nx ρ' | none => .bad := id rfl
@[simp] theorem ry_if (c : Ev → RX Bool) (F F' : Ev → Out) : yIf c F F' ρ = liftX (c ρ) fun b ρ => if b then F ρ else F' ρ := id rfl
@[simp] theorem ry_drop (f : Ev → RX D) : yDrop f ρ = liftX (f ρ) fun _ ρ => .nx ρ := id rfl
@[simp] theorem ry_ret (f : Ev → RX D) : yRet f ρ = liftX (f ρ) fun d ρ => .rt (.sh d) := id rfl
@[simp] theorem ry_retO (f : Ev → RX (List D)) : yRetO f ρ = liftX (f ρ) fun d ρ => .rt (.ow d) := id rfl
@[simp] theorem ry_retB (f : Ev → RX D) : yRetB f ρ = liftX (f ρ) fun d ρ => .rtB (.sh d) ρ := id rfl
@[simp] theorem ry_retOB (f : Ev → RX (List D)) : yRetOB f ρ = liftX (f ρ) fun d ρ => .rtB (.ow d) ρ := id rfl
@[simp] theorem ry_retVB : yRetVB i ρ = (match ρ[i]? with | some (.ow l) => .rtB (.ow l) ρ | some (.sh d) => .rtB (.sh d) ρ | _ => .bad) := id rfl
@[simp] theorem ry_retNB : yRetNB ρ = .rtB (.sh .none) ρ := id rfl
@[simp] theorem ry_for (fi : Ev → RX (List D)) (g : D → Ev → Option Ev) (F : Ev → Out) : yFor fi g F ρ = liftX (fi ρ) fun l ρ => forO (gTo g F) l ρ := id rfl
@[simp] theorem ry_app (f : Ev → RX D) : yApp i f ρ = (match lstAt ρ i with
  | none => .bad
  | some _ => liftX (f ρ) fun d ρ => match lstAt ρ i with
    | some (l, b) => if l.length < sizeLine then .nx (ρ.set i (mkL b (l ++ [d]))) else .bad
    | none => .bad) := id rfl
@[simp] theorem ry_store (fi fv : Ev → RX D) : yStore i fi fv ρ = liftX (fv ρ) fun d ρ => match lstAt ρ i with
  | none => .bad
  | some _ => liftX (fi ρ) fun k ρ => match lstAt ρ i with
    | some (l, b) => match k with
      | .int z => match ixN l.length z with
        | some j => .nx (ρ.set i (mkL b (l.set j d)))
        | none => .bad
      | _ => .bad
    | none => .bad := id rfl
@[simp] theorem rx_fin_rtB (b : Nat) : finB b (.rtB s ρ) = (match ρ[b]? with | some (.bo l) => .ok s l | _ => .bad) := id rfl
@[simp] theorem rx_fin_nx (b : Nat) : finB b (.nx ρ) = (match ρ[b]? with | some (.bo l) => .ok (.sh .none) l | _ => .bad) := id rfl
@[simp] theorem rx_run1 (n b : Nat) (F : Ev → Out) (a : D) (h : b < 1) : runB 1 n b F l [a] = finB b (F ((.sh a :: List.replicate (n - 1) .no).set b (.bo l))) := if_pos ⟨rfl, h⟩
@[simp] theorem rx_run2 (n b : Nat) (F : Ev → Out) (a c : D) (h : b < 2) : runB 2 n b F l [a, c] = finB b (F ((.sh a :: .sh c :: List.replicate (n - 2) .no).set b (.bo l))) := if_pos ⟨rfl, h⟩
@[simp] theorem rx_run3 (n b : Nat) (F : Ev → Out) (a c d : D) (h : b < 3) : runB 3 n b F l [a, c, d] = finB b (F ((.sh a :: .sh c :: .sh d :: List.replicate (n - 3) .no).set b (.bo l))) := if_pos ⟨rfl, h⟩
@[simp] theorem rx_run4 (n b : Nat) (F : Ev → Out) (a c d e : D) (h : b < 4) : runB 4 n b F l [a, c, d, e] = finB b (F ((.sh a :: .sh c :: .sh d :: .sh e :: List.replicate (n - 4) .no).set b (.bo l))) := if_pos ⟨rfl, h⟩
@[simp] theorem r_run0 (n : Nat) (F : Ev → Out) : runD 0 n F [] = fin (F (List.replicate n .no)) := id rfl
/-! defs -/
@[simp] theorem r_fin_nx : fin (.nx ρ) = .ok (.sh .none) := id rfl
@[simp] theorem r_fin_rt : fin (.rt s) = .ok s := id rfl
@[simp] theorem r_fin_ex (u : Xn) : fin (.ex u ρ) = .ex u := id rfl
@[simp] theorem r_run1 (n : Nat) (F : Ev → Out) (a : D) : runD 1 n F [a] = fin (F (.sh a :: List.replicate (n - 1) .no)) := id rfl
@[simp] theorem r_run2 (n : Nat) (F : Ev → Out) (a b : D) : runD 2 n F [a, b] = fin (F (.sh a :: .sh b :: List.replicate (n - 2) .no)) := id rfl
@[simp] theorem r_run3 (n : Nat) (F : Ev → Out) (a b c : D) : runD 3 n F [a, b, c] = fin (F (.sh a :: .sh b :: .sh c :: List.replicate (n - 3) .no)) := id rfl
@[simp] theorem r_run4 (n : Nat) (F : Ev → Out) (a b c d : D) : runD 4 n F [a, b, c, d] = fin (F (.sh a :: .sh b :: .sh c :: .sh d :: List.replicate (n - 4) .no)) := id rfl
/-! data -/
theorem r_lim (l : List D) (h : l.length ≤ sizeLine) : lim l = some l := if_pos h
theorem r_tupD (l : List D) (h : l.length ≤ sizeLine) : tupD l = some (.tuple l) := by unfold tupD; rw [r_lim l h]; rfl
@[simp] theorem r_lim0 : lim [] = some [] := if_pos (show 0 ≤ sizeLine by decide)
@[simp] theorem r_tup0 : tupD [] = some (.tuple []) := r_tupD [] (show 0 ≤ sizeLine by decide)
@[simp] theorem r_lim1 (a0 : D) : lim [a0] = some [a0] := if_pos (show 1 ≤ sizeLine by decide)
@[simp] theorem r_tup1 (a0 : D) : tupD [a0] = some (.tuple [a0]) := r_tupD [a0] (show 1 ≤ sizeLine by decide)
@[simp] theorem r_lim2 (a0 a1 : D) : lim [a0, a1] = some [a0, a1] := if_pos (show 2 ≤ sizeLine by decide)
@[simp] theorem r_tup2 (a0 a1 : D) : tupD [a0, a1] = some (.tuple [a0, a1]) := r_tupD [a0, a1] (show 2 ≤ sizeLine by decide)
@[simp] theorem r_lim3 (a0 a1 a2 : D) : lim [a0, a1, a2] = some [a0, a1, a2] := if_pos (show 3 ≤ sizeLine by decide)
@[simp] theorem r_tup3 (a0 a1 a2 : D) : tupD [a0, a1, a2] = some (.tuple [a0, a1, a2]) := r_tupD [a0, a1, a2] (show 3 ≤ sizeLine by decide)
@[simp] theorem r_lim4 (a0 a1 a2 a3 : D) : lim [a0, a1, a2, a3] = some [a0, a1, a2, a3] := if_pos (show 4 ≤ sizeLine by decide)
@[simp] theorem r_tup4 (a0 a1 a2 a3 : D) : tupD [a0, a1, a2, a3] = some (.tuple [a0, a1, a2, a3]) := r_tupD [a0, a1, a2, a3] (show 4 ≤ sizeLine by decide)
@[simp] theorem r_lim5 (a0 a1 a2 a3 a4 : D) : lim [a0, a1, a2, a3, a4] = some [a0, a1, a2, a3, a4] := if_pos (show 5 ≤ sizeLine by decide)
@[simp] theorem r_tup5 (a0 a1 a2 a3 a4 : D) : tupD [a0, a1, a2, a3, a4] = some (.tuple [a0, a1, a2, a3, a4]) := r_tupD [a0, a1, a2, a3, a4] (show 5 ≤ sizeLine by decide)
@[simp] theorem r_lim6 (a0 a1 a2 a3 a4 a5 : D) : lim [a0, a1, a2, a3, a4, a5] = some [a0, a1, a2, a3, a4, a5] := if_pos (show 6 ≤ sizeLine by decide)
@[simp] theorem r_tup6 (a0 a1 a2 a3 a4 a5 : D) : tupD [a0, a1, a2, a3, a4, a5] = some (.tuple [a0, a1, a2, a3, a4, a5]) := r_tupD [a0, a1, a2, a3, a4, a5] (show 6 ≤ sizeLine by decide)
@[simp] theorem r_lim7 (a0 a1 a2 a3 a4 a5 a6 : D) : lim [a0, a1, a2, a3, a4, a5, a6] = some [a0, a1, a2, a3, a4, a5, a6] := if_pos (show 7 ≤ sizeLine by decide)
@[simp] theorem r_tup7 (a0 a1 a2 a3 a4 a5 a6 : D) : tupD [a0, a1, a2, a3, a4, a5, a6] = some (.tuple [a0, a1, a2, a3, a4, a5, a6]) := r_tupD [a0, a1, a2, a3, a4, a5, a6] (show 7 ≤ sizeLine by decide)
@[simp] theorem r_lim8 (a0 a1 a2 a3 a4 a5 a6 a7 : D) : lim [a0, a1, a2, a3, a4, a5, a6, a7] = some [a0, a1, a2, a3, a4, a5, a6, a7] := if_pos (show 8 ≤ sizeLine by decide)
@[simp] theorem r_tup8 (a0 a1 a2 a3 a4 a5 a6 a7 : D) : tupD [a0, a1, a2, a3, a4, a5, a6, a7] = some (.tuple [a0, a1, a2, a3, a4, a5, a6, a7]) := r_tupD [a0, a1, a2, a3, a4, a5, a6, a7] (show 8 ≤ sizeLine by decide)
@[simp] theorem r_lim9 (a0 a1 a2 a3 a4 a5 a6 a7 a8 : D) : lim [a0, a1, a2, a3, a4, a5, a6, a7, a8] = some [a0, a1, a2, a3, a4, a5, a6, a7, a8] := if_pos (show 9 ≤ sizeLine by decide)
@[simp] theorem r_tup9 (a0 a1 a2 a3 a4 a5 a6 a7 a8 : D) : tupD [a0, a1, a2, a3, a4, a5, a6, a7, a8] = some (.tuple [a0, a1, a2, a3, a4, a5, a6, a7, a8]) := r_tupD [a0, a1, a2, a3, a4, a5, a6, a7, a8] (show 9 ≤ sizeLine by decide)
@[simp] theorem r_lim10 (a0 a1 a2 a3 a4 a5 a6 a7 a8 a9 : D) : lim [a0, a1, a2, a3, a4, a5, a6, a7, a8, a9] = some [a0, a1, a2, a3, a4, a5, a6, a7, a8, a9] := if_pos (show 10 ≤ sizeLine by decide)
@[simp] theorem r_tup10 (a0 a1 a2 a3 a4 a5 a6 a7 a8 a9 : D) : tupD [a0, a1, a2, a3, a4, a5, a6, a7, a8, a9] = some (.tuple [a0, a1, a2, a3, a4, a5, a6, a7, a8, a9]) := r_tupD [a0, a1, a2, a3, a4, a5, a6, a7, a8, a9] (show 10 ≤ sizeLine by decide)
@[simp] theorem r_lim11 (a0 a1 a2 a3 a4 a5 a6 a7 a8 a9 a10 : D) : lim [a0, a1, a2, a3, a4, a5, a6, a7, a8, a9, a10] = some [a0, a1, a2, a3, a4, a5, a6, a7, a8, a9, a10] := if_pos (show 11 ≤ sizeLine by decide)
@[simp] theorem r_tup11 (a0 a1 a2 a3 a4 a5 a6 a7 a8 a9 a10 : D) : tupD [a0, a1, a2, a3, a4, a5, a6, a7, a8, a9, a10] = some (.tuple [a0, a1, a2, a3, a4, a5, a6, a7, a8, a9, a10]) := r_tupD [a0, a1, a2, a3, a4, a5, a6, a7, a8, a9, a10] (show 11 ≤ sizeLine by decide)
@[simp] theorem r_lim12 (a0 a1 a2 a3 a4 a5 a6 a7 a8 a9 a10 a11 : D) : lim [a0, a1, a2, a3, a4, a5, a6, a7, a8, a9, a10, a11] = some [a0, a1, a2, a3, a4, a5, a6, a7, a8, a9, a10, a11] := if_pos (show 12 ≤ sizeLine by decide)
@[simp] theorem r_tup12 (a0 a1 a2 a3 a4 a5 a6 a7 a8 a9 a10 a11 : D) : tupD [a0, a1, a2, a3, a4, a5, a6, a7, a8, a9, a10, a11] = some (.tuple [a0, a1, a2, a3, a4, a5, a6, a7, a8, a9, a10, a11]) := r_tupD [a0, a1, a2, a3, a4, a5, a6, a7, a8, a9, a10, a11] (show 12 ≤ sizeLine by decide)
@[simp] theorem r_lim13 (a0 a1 a2 a3 a4 a5 a6 a7 a8 a9 a10 a11 a12 : D) : lim [a0, a1, a2, a3, a4, a5, a6, a7, a8, a9, a10, a11, a12] = some [a0, a1, a2, a3, a4, a5, a6, a7, a8, a9, a10, a11, a12] := if_pos (show 13 ≤ sizeLine by decide)
@[simp] theorem r_tup13 (a0 a1 a2 a3 a4 a5 a6 a7 a8 a9 a10 a11 a12 : D) : tupD [a0, a1, a2, a3, a4, a5, a6, a7, a8, a9, a10, a11, a12] = some (.tuple [a0, a1, a2, a3, a4, a5, a6, a7, a8, a9, a10, a11, a12]) := r_tupD [a0, a1, a2, a3, a4, a5, a6, a7, a8, a9, a10, a11, a12] (show 13 ≤ sizeLine by decide)
@[simp] theorem r_lim14 (a0 a1 a2 a3 a4 a5 a6 a7 a8 a9 a10 a11 a12 a13 : D) : lim [a0, a1, a2, a3, a4, a5, a6, a7, a8, a9, a10, a11, a12, a13] = some [a0, a1, a2, a3, a4, a5, a6, a7, a8, a9, a10, a11, a12, a13] := if_pos (show 14 ≤ sizeLine by decide)
@[simp] theorem r_tup14 (a0 a1 a2 a3 a4 a5 a6 a7 a8 a9 a10 a11 a12 a13 : D) : tupD [a0, a1, a2, a3, a4, a5, a6, a7, a8, a9, a10, a11, a12, a13] = some (.tuple [a0, a1, a2, a3, a4, a5, a6, a7, a8, a9, a10, a11, a12, a13]) := r_tupD [a0, a1, a2, a3, a4, a5, a6, a7, a8, a9, a10, a11, a12, a13] (show 14 ≤ sizeLine by decide)
@[simp] theorem r_lim15 (a0 a1 a2 a3 a4 a5 a6 a7 a8 a9 a10 a11 a12 a13 a14 : D) : lim [a0, a1, a2, a3, a4, a5, a6, a7, a8, a9, a10, a11, a12, a13, a14] = some [a0, a1, a2, a3, a4, a5, a6, a7, a8, a9, a10, a11, a12, a13, a14] := if_pos (show 15 ≤ sizeLine by decide)
@[simp] theorem r_tup15 (a0 a1 a2 a3 a4 a5 a6 a7 a8 a9 a10 a11 a12 a13 a14 : D) : tupD [a0, a1, a2, a3, a4, a5, a6, a7, a8, a9, a10, a11, a12, a13, a14] = some (.tuple [a0, a1, a2, a3, a4, a5, a6, a7, a8, a9, a10, a11, a12, a13, a14]) := r_tupD [a0, a1, a2, a3, a4, a5, a6, a7, a8, a9, a10, a11, a12, a13, a14] (show 15 ≤ sizeLine by decide)
@[simp] theorem r_lim16 (a0 a1 a2 a3 a4 a5 a6 a7 a8 a9 a10 a11 a12 a13 a14 a15 : D) : lim [a0, a1, a2, a3, a4, a5, a6, a7, a8, a9, a10, a11, a12, a13, a14, a15] = some [a0, a1, a2, a3, a4, a5, a6, a7, a8, a9, a10, a11, a12, a13, a14, a15] := if_pos (show 16 ≤ sizeLine by decide)
@[simp] theorem r_tup16 (a0 a1 a2 a3 a4 a5 a6 a7 a8 a9 a10 a11 a12 a13 a14 a15 : D) : tupD [a0, a1, a2, a3, a4, a5, a6, a7, a8, a9, a10, a11, a12, a13, a14, a15] = some (.tuple [a0, a1, a2, a3, a4, a5, a6, a7, a8, a9, a10, a11, a12, a13, a14, a15]) := r_tupD [a0, a1, a2, a3, a4, a5, a6, a7, a8, a9, a10, a11, a12, a13, a14, a15] (show 16 ≤ sizeLine by decide)
@[simp] theorem r_lim17 (a0 a1 a2 a3 a4 a5 a6 a7 a8 a9 a10 a11 a12 a13 a14 a15 a16 : D) : lim [a0, a1, a2, a3, a4, a5, a6, a7, a8, a9, a10, a11, a12, a13, a14, a15, a16] = some [a0, a1, a2, a3, a4, a5, a6, a7, a8, a9, a10, a11, a12, a13, a14, a15, a16] := if_pos (show 17 ≤ sizeLine by decide)
@[simp] theorem r_tup17 (a0 a1 a2 a3 a4 a5 a6 a7 a8 a9 a10 a11 a12 a13 a14 a15 a16 : D) : tupD [a0, a1, a2, a3, a4, a5, a6, a7, a8, a9, a10, a11, a12, a13, a14, a15, a16] = some (.tuple [a0, a1, a2, a3, a4, a5, a6, a7, a8, a9, a10, a11, a12, a13, a14, a15, a16]) := r_tupD [a0, a1, a2, a3, a4, a5, a6, a7, a8, a9, a10, a11, a12, a13, a14, a15, a16] (show 17 ≤ sizeLine by decide)
@[simp] theorem r_lim18 (a0 a1 a2 a3 a4 a5 a6 a7 a8 a9 a10 a11 a12 a13 a14 a15 a16 a17 : D) : lim [a0, a1, a2, a3, a4, a5, a6, a7, a8, a9, a10, a11, a12, a13, a14, a15, a16, a17] = some [a0, a1, a2, a3, a4, a5, a6, a7, a8, a9, a10, a11, a12, a13, a14, a15, a16, a17] := if_pos (show 18 ≤ sizeLine by decide)
@[simp] theorem r_tup18 (a0 a1 a2 a3 a4 a5 a6 a7 a8 a9 a10 a11 a12 a13 a14 a15 a16 a17 : D) : tupD [a0, a1, a2, a3, a4, a5, a6, a7, a8, a9, a10, a11, a12, a13, a14, a15, a16, a17] = some (.tuple [a0, a1, a2, a3, a4, a5, a6, a7, a8, a9, a10, a11, a12, a13, a14, a15, a16, a17]) := r_tupD [a0, a1, a2, a3, a4, a5, a6, a7, a8, a9, a10, a11, a12, a13, a14, a15, a16, a17] (show 18 ≤ sizeLine by decide)
@[simp] theorem r_lim19 (a0 a1 a2 a3 a4 a5 a6 a7 a8 a9 a10 a11 a12 a13 a14 a15 a16 a17 a18 : D) : lim [a0, a1, a2, a3, a4, a5, a6, a7, a8, a9, a10, a11, a12, a13, a14, a15, a16, a17, a18] = some [a0, a1, a2, a3, a4, a5, a6, a7, a8, a9, a10, a11, a12, a13, a14, a15, a16, a17, a18] := if_pos (show 19 ≤ sizeLine by decide)
@[simp] theorem r_tup19 (a0 a1 a2 a3 a4 a5 a6 a7 a8 a9 a10 a11 a12 a13 a14 a15 a16 a17 a18 : D) : tupD [a0, a1, a2, a3, a4, a5, a6, a7, a8, a9, a10, a11, a12, a13, a14, a15, a16, a17, a18] = some (.tuple [a0, a1, a2, a3, a4, a5, a6, a7, a8, a9, a10, a11, a12, a13, a14, a15, a16, a17, a18]) := r_tupD [a0, a1, a2, a3, a4, a5, a6, a7, a8, a9, a10, a11, a12, a13, a14, a15, a16, a17, a18] (show 19 ≤ sizeLine by decide)
@[simp] theorem r_lim20 (a0 a1 a2 a3 a4 a5 a6 a7 a8 a9 a10 a11 a12 a13 a14 a15 a16 a17 a18 a19 : D) : lim [a0, a1, a2, a3, a4, a5, a6, a7, a8, a9, a10, a11, a12, a13, a14, a15, a16, a17, a18, a19] = some [a0, a1, a2, a3, a4, a5, a6, a7, a8, a9, a10, a11, a12, a13, a14, a15, a16, a17, a18, a19] := if_pos (show 20 ≤ sizeLine by decide)
@[simp] theorem r_tup20 (a0 a1 a2 a3 a4 a5 a6 a7 a8 a9 a10 a11 a12 a13 a14 a15 a16 a17 a18 a19 : D) : tupD [a0, a1, a2, a3, a4, a5, a6, a7, a8, a9, a10, a11, a12, a13, a14, a15, a16, a17, a18, a19] = some (.tuple [a0, a1, a2, a3, a4, a5, a6, a7, a8, a9, a10, a11, a12, a13, a14, a15, a16, a17, a18, a19]) := r_tupD [a0, a1, a2, a3, a4, a5, a6, a7, a8, a9, a10, a11, a12, a13, a14, a15, a16, a17, a18, a19] (show 20 ≤ sizeLine by decide)
@[simp] theorem r_lim21 (a0 a1 a2 a3 a4 a5 a6 a7 a8 a9 a10 a11 a12 a13 a14 a15 a16 a17 a18 a19 a20 : D) : lim [a0, a1, a2, a3, a4, a5, a6, a7, a8, a9, a10, a11, a12, a13, a14, a15, a16, a17, a18, a19, a20] = some [a0, a1, a2, a3, a4, a5, a6, a7, a8, a9, a10, a11, a12, a13, a14, a15, a16, a17, a18, a19, a20] := if_pos (show 21 ≤ sizeLine by decide)
@[simp] theorem r_tup21 (a0 a1 a2 a3 a4 a5 a6 a7 a8 a9 a10 a11 a12 a13 a14 a15 a16 a17 a18 a19 a20 : D) : tupD [a0, a1, a2, a3, a4, a5, a6, a7, a8, a9, a10, a11, a12, a13, a14, a15, a16, a17, a18, a19, a20] = some (.tuple [a0, a1, a2, a3, a4, a5, a6, a7, a8, a9, a10, a11, a12, a13, a14, a15, a16, a17, a18, a19, a20]) := r_tupD [a0, a1, a2, a3, a4, a5, a6, a7, a8, a9, a10, a11, a12, a13, a14, a15, a16, a17, a18, a19, a20] (show 21 ≤ sizeLine by decide)
@[simp] theorem r_lim22 (a0 a1 a2 a3 a4 a5 a6 a7 a8 a9 a10 a11 a12 a13 a14 a15 a16 a17 a18 a19 a20 a21 : D) : lim [a0, a1, a2, a3, a4, a5, a6, a7, a8, a9, a10, a11, a12, a13, a14, a15, a16, a17, a18, a19, a20, a21] = some [a0, a1, a2, a3, a4, a5, a6, a7, a8, a9, a10, a11, a12, a13, a14, a15, a16, a17, a18, a19, a20, a21] := if_pos (show 22 ≤ sizeLine by decide)
@[simp] theorem r_tup22 (a0 a1 a2 a3 a4 a5 a6 a7 a8 a9 a10 a11 a12 a13 a14 a15 a16 a17 a18 a19 a20 a21 : D) : tupD [a0, a1, a2, a3, a4, a5, a6, a7, a8, a9, a10, a11, a12, a13, a14, a15, a16, a17, a18, a19, a20, a21] = some (.tuple [a0, a1, a2, a3, a4, a5, a6, a7, a8, a9, a10, a11, a12, a13, a14, a15, a16, a17, a18, a19, a20, a21]) := r_tupD [a0, a1, a2, a3, a4, a5, a6, a7, a8, a9, a10, a11, a12, a13, a14, a15, a16, a17, a18, a19, a20, a21] (show 22 ≤ sizeLine by decide)
@[simp] theorem r_lim23 (a0 a1 a2 a3 a4 a5 a6 a7 a8 a9 a10 a11 a12 a13 a14 a15 a16 a17 a18 a19 a20 a21 a22 : D) : lim [a0, a1, a2, a3, a4, a5, a6, a7, a8, a9, a10, a11, a12, a13, a14, a15, a16, a17, a18, a19, a20, a21, a22] = some [a0, a1, a2, a3, a4, a5, a6, a7, a8, a9, a10, a11, a12, a13, a14, a15, a16, a17, a18, a19, a20, a21, a22] := if_pos (show 23 ≤ sizeLine by decide)
@[simp] theorem r_tup23 (a0 a1 a2 a3 a4 a5 a6 a7 a8 a9 a10 a11 a12 a13 a14 a15 a16 a17 a18 a19 a20 a21 a22 : D) : tupD [a0, a1, a2, a3, a4, a5, a6, a7, a8, a9, a10, a11, a12, a13, a14, a15, a16, a17, a18, a19, a20, a21, a22] = some (.tuple [a0, a1, a2, a3, a4, a5, a6, a7, a8, a9, a10, a11, a12, a13, a14, a15, a16, a17, a18, a19, a20, a21, a22]) := r_tupD [a0, a1, a2, a3, a4, a5, a6, a7, a8, a9, a10, a11, a12, a13, a14, a15, a16, a17, a18, a19, a20, a21, a22] (show 23 ≤ sizeLine by decide)
@[simp] theorem r_lim24 (a0 a1 a2 a3 a4 a5 a6 a7 a8 a9 a10 a11 a12 a13 a14 a15 a16 a17 a18 a19 a20 a21 a22 a23 : D) : lim [a0, a1, a2, a3, a4, a5, a6, a7, a8, a9, a10, a11, a12, a13, a14, a15, a16, a17, a18, a19, a20, a21, a22, a23] = some [a0, a1, a2, a3, a4, a5, a6, a7, a8, a9, a10, a11, a12, a13, a14, a15, a16, a17, a18, a19, a20, a21, a22, a23] := if_pos (show 24 ≤ sizeLine by decide)
@[simp] theorem r_tup24 (a0 a1 a2 a3 a4 a5 a6 a7 a8 a9 a10 a11 a12 a13 a14 a15 a16 a17 a18 a19 a20 a21 a22 a23 : D) : tupD [a0, a1, a2, a3, a4, a5, a6, a7, a8, a9, a10, a11, a12, a13, a14, a15, a16, a17, a18, a19, a20, a21, a22, a23] = some (.tuple [a0, a1, a2, a3, a4, a5, a6, a7, a8, a9, a10, a11, a12, a13, a14, a15, a16, a17, a18, a19, a20, a21, a22, a23]) := r_tupD [a0, a1, a2, a3, a4, a5, a6, a7, a8, a9, a10, a11, a12, a13, a14, a15, a16, a17, a18, a19, a20, a21, a22, a23] (show 24 ≤ sizeLine by decide)
@[simp] theorem r_tru_b : truD (.bool b) = some b := id rfl
@[simp] theorem r_tru_i : truD (.int x) = some (x != 0) := id rfl
@[simp] theorem r_tru_l : truD (.list l) = some (!l.isEmpty) := id rfl
@[simp] theorem r_tru_t : truD (.tuple l) = some (!l.isEmpty) := id rfl
@[simp] theorem r_tru_n : truD .none = some false := id rfl
@[simp] theorem r_bOf : bOf (.bool b) = some b := id rfl
@[simp] theorem r_add : addD (.int x) (.int y) = some (.int (x + y)) := id rfl
@[simp] theorem r_addL : addD (.list l) (.list m) = (catD l m).map .list := id rfl
@[simp] theorem r_addO : addO (.list l) (.list m) = catD l m := id rfl
@[simp] theorem r_cat (h : l.length + m.length ≤ sizeLine) : catD l m = some (l ++ m) := if_pos h
@[simp] theorem r_sub : subD (.int x) (.int y) = some (.int (x - y)) := id rfl
@[simp] theorem r_mul (h : okMul x y = true) : mulD (.int x) (.int y) = some (.int (x * y)) := if_pos h
@[simp] theorem r_imul (h : okMul x y = true) : imulD (.int x) (.int y) = some (.int (x * y)) := if_pos h
@[simp] theorem r_mulL : mulD (.list l) (.int x) = (repD l x).map .list := id rfl
@[simp] theorem r_mulO : mulO (.list l) (.int x) = repD l x := id rfl
@[simp] theorem r_iadd : iaddD (.int x) (.int y) = some (.int (x + y)) := id rfl
@[simp] theorem r_fdiv (h : okDiv x y = true) : fdivD (.int x) (.int y) = some (.int (x.fdiv y)) := if_pos h
@[simp] theorem r_mod (h : y ≠ 0) : modD (.int x) (.int y) = some (.int (x.fmod y)) := if_pos h
@[simp] theorem r_pow (h : okPow x y = true) : powD (.int x) (.int y) = some (.int (x ^ y.toNat)) := if_pos h
@[simp] theorem r_lt : ltD (.int x) (.int y) = some (.bool (decide (x < y))) := id rfl
@[simp] theorem r_le : leD (.int x) (.int y) = some (.bool (decide (x ≤ y))) := id rfl
@[simp] theorem r_gt : gtD (.int x) (.int y) = some (.bool (decide (y < x))) := id rfl
@[simp] theorem r_ge : geD (.int x) (.int y) = some (.bool (decide (y ≤ x))) := id rfl
@[simp] theorem r_neg : negD (.int x) = some (.int (-x)) := id rfl
@[simp] theorem r_not : notD d = (truD d).map fun k => .bool (!k) := id rfl
@[simp] theorem r_len_l : lenD [.list l] = some (.int l.length) := id rfl
@[simp] theorem r_len_t : lenD [.tuple l] = some (.int l.length) := id rfl
@[simp] theorem r_int_i : intD [.int x] = some (.int x) := id rfl
@[simp] theorem r_int_b : intD [.bool b] = some (.int (if b then 1 else 0)) := id rfl
@[simp] theorem r_abs : absD [.int x] = some (.int (if x < 0 then -x else x)) := id rfl
@[simp] theorem r_gcd : gcdD [.int x, .int y] = some (.int ((Nat.gcd x.natAbs y.natAbs : Nat) : Int)) := id rfl
@[simp] theorem r_all : allD [.list l] = (blsD l).map fun bs => .bool (bs.all id) := id rfl
@[simp] theorem r_any : anyD [.list l] = (blsD l).map fun bs => .bool (bs.any id) := id rfl
@[simp] theorem r_sum : sumD [.list l] = (intsD l).map fun bs => .int bs.sum := id rfl
@[simp] theorem r_bls (bs : List Bool) : blsD (bs.map .bool) = some bs := blsD_map bs
@[simp] theorem r_ints (bs : List Int) : intsD (bs.map .int) = some bs := intsD_map bs
@[simp] theorem r_bls_nil : blsD [] = some [] := id rfl
@[simp] theorem r_bls_cons : blsD (.bool b :: l) = (blsD l).map (b :: ·) := id rfl
@[simp] theorem r_ints_nil : intsD [] = some [] := id rfl
@[simp] theorem r_ints_cons : intsD (.int x :: l) = (intsD l).map (x :: ·) := id rfl
@[simp] theorem r_listO : listO [.list l] = some l := id rfl
@[simp] theorem r_listOt : listO [.tuple l] = some l := id rfl
@[simp] theorem r_tupleD : tupleD [.list l] = some (.tuple l) := id rfl
@[simp] theorem r_tupleDt : tupleD [.tuple l] = some (.tuple l) := id rfl
@[simp] theorem r_sPopX : sPopX j ρ = onOw j ρ fun l => match l.getLast? with
  | some _ => .nx (ρ.set j (.ow l.dropLast))
  | none => .bad := id rfl
@[simp] theorem r_strI (h : x.natAbs.log2 < 1920) : strD [.int x] = some (.str (toString x)) := if_pos h
@[simp] theorem r_strS (u : Str) : strD [.str u] = some (.str u) := id rfl
@[simp] theorem r_eDSel (ks : List Str) (fs : Ev → R (List D)) (fk : Ev → R D) : eDSel ks fs fk ρ = (fs ρ).bind fun ds => (fk ρ).bind fun k => ofO (selD ks ds k) := id rfl
@[simp] theorem r_seq_l : seqD (.list l) = some l := id rfl
@[simp] theorem r_seq_t : seqD (.tuple l) = some l := id rfl
@[simp] theorem r_enu : enuD [.list l] = some (enuL l) := id rfl
@[simp] theorem r_zip : zipD [.list l, .list m] = some (zipL l m) := id rfl
@[simp] theorem r_intOf : intOf (.int x) = some (some x) := id rfl
@[simp] theorem r_slice (o o' : Option Int) : sliceD (.list l) o o' = some (.list (cutL l o o')) := id rfl
@[simp] theorem r_sliceT (o o' : Option Int) : sliceD (.tuple l) o o' = some (.tuple (cutL l o o')) := id rfl
@[simp] theorem r_sliceO (o o' : Option Int) : sliceO (.list l) o o' = some (cutL l o o') := id rfl
@[simp] theorem r_revO : revO (.list l) = some l.reverse := id rfl
@[simp] theorem r_ix_l : ixD (.list l) (.int x) = atI l x := id rfl
@[simp] theorem r_ix_t : ixD (.tuple l) (.int x) = atI l x := id rfl
theorem r_at (n : Nat) : atI l (n : Int) = l[n]? := by
  unfold atI ixN
  by_cases h : n < l.length
  · rw [if_pos (by omega), if_pos (by omega)]; simp
  · rw [if_pos (by omega), if_neg (by omega), List.getElem?_eq_none (by omega)]; rfl
@[simp] theorem r_atI (h0 : 0 ≤ x) : atI l x = l[x.toNat]? := by
  have := r_at (l := l) x.toNat
  rwa [Int.toNat_of_nonneg h0] at this
@[simp] theorem r_at_last : atI (l ++ [d]) (-1 : Int) = some d := by
  unfold atI ixN
  have e : ((-1 : Int) + ((l ++ [d]).length : Nat)).toNat = l.length := by simp; omega
  rw [if_neg (by decide), if_pos (by simp; omega), e]
  simp
theorem range1_ok (h : x < 2 ^ 62) (h0 : -(2 ^ 62) ≤ x) : range1D [.int x] = some (rngL 0 1 x.toNat) := by
  show (if in62 x then _ else _) = _
  rw [if_pos (show in62 x = true from decide_eq_true ⟨h0, h⟩)]
theorem range2_ok (h : x < 2 ^ 62) (h0 : -(2 ^ 62) ≤ x) (h' : y < 2 ^ 62) (h0' : -(2 ^ 62) ≤ y) : range2D [.int x, .int y] = some (rngL x 1 (y - x).toNat) := by
  show (if in62 x && in62 y then _ else _) = _
  have e1 : in62 x = true := decide_eq_true ⟨h0, h⟩
  have e2 : in62 y = true := decide_eq_true ⟨h0', h'⟩
  rw [e1, e2]; rfl
end

/-! ### sizes -/
/-- |i| < 2^k -/
structure Sz (k : Nat) (i : Int) : Prop where
  lt : i.natAbs < 2 ^ k
section
variable {a b k m : Nat} {i j : Int}
theorem Sz.mono (h : Sz a i) (l : a ≤ b) : Sz b i := ⟨Nat.lt_of_lt_of_le h.lt (Nat.pow_le_pow_right (by decide) l)⟩
theorem Sz.neg (h : Sz a i) : Sz a (-i) := ⟨by rw [Int.natAbs_neg]; exact h.lt⟩
theorem Sz.mul (h : Sz a i) (h' : Sz b j) : Sz (a + b) (i * j) := ⟨by
  rw [Int.natAbs_mul, Nat.pow_add]
  exact Nat.mul_lt_mul'' h.lt h'.lt⟩
theorem Sz.add (h : Sz a i) (h' : Sz a j) : Sz (a + 1) (i + j) := ⟨by
  rw [Nat.pow_succ]
  have := Int.natAbs_add_le i j
  have := h.lt
  have := h'.lt
  omega⟩
theorem Sz.sub (h : Sz a i) (h' : Sz a j) : Sz (a + 1) (i - j) := by
  rw [Int.sub_eq_add_neg]; exact h.add h'.neg
theorem Sz.of_le (h : Sz a i) (l : j.natAbs ≤ i.natAbs) : Sz a j := ⟨Nat.lt_of_le_of_lt l h.lt⟩
theorem fdiv_abs (i j : Int) : (i.fdiv j).natAbs ≤ i.natAbs := Int.natAbs_fdiv_le_natAbs i j
theorem Sz.fdiv (h : Sz a i) : Sz a (i.fdiv j) := h.of_le (fdiv_abs i j)
theorem Sz.lit (h : decide (i.natAbs < 2 ^ a) = true) : Sz a i := ⟨(of_decide_eq_true h : i.natAbs < 2 ^ a)⟩
theorem bits_le (h : Sz k i) : Builtin.Int.intBits i ≤ k := by
  unfold Builtin.Int.intBits
  have := h.lt
  split
  · omega
  · rename_i z
    have hz : i.natAbs ≠ 0 := by simpa using z
    have := (Nat.log2_lt hz).mpr this
    omega
theorem sz_bits (h : Builtin.Int.intBits i ≤ k) : Sz k i := by
  unfold Builtin.Int.intBits at h
  split at h
  · rename_i e
    simp at e; subst e
    exact ⟨Nat.two_pow_pos _⟩
  · rename_i e
    exact ⟨(Nat.log2_lt (by simpa using e)).mp (by omega)⟩
theorem okMul_of (h : Sz a i) (h' : Sz b j) (l : a + b ≤ 134217728) : okMul i j = true := by
  have e1 := bits_le h
  have e2 := bits_le h'
  unfold okMul
  exact decide_eq_true (by omega)
theorem okDiv_of (h : Sz 9000 j) (hj : j ≠ 0) : okDiv i j = true := by
  have hz : j.natAbs ≠ 0 := by omega
  have := (Nat.log2_lt hz).mpr h.lt
  unfold okDiv Builtin.divisionGoesByPylong
  have e : ¬ (300 < j.natAbs.log2 / 30 + 1) := by omega
  simp [hj, e]
theorem okDiv_lit (h : decide (j.natAbs < 2 ^ 64) = true) (hj : j ≠ 0) : okDiv i j = true := okDiv_of ((Sz.lit (a := 64) h).mono (by decide)) hj
end

/-- for omega -/
theorem Sz.of {k : Nat} {i : Int} (c : Nat) (h : -(c : Int) < i) (h' : i < c) (hc : decide (c ≤ 2 ^ k) = true) : Sz k i := ⟨Nat.lt_of_lt_of_le (by omega : i.natAbs < c) (of_decide_eq_true hc)⟩
theorem r_mulS {x y : Int} (h1 : -1000000000000000000000000 < x) (h2 : x < 1000000000000000000000000) (h3 : -1000000000000000000000000 < y) (h4 : y < 1000000000000000000000000) : mulD (.int x) (.int y) = some (.int (x * y)) :=
  r_mul (okMul_of (a := 80) (b := 80) (Sz.of 1000000000000000000000000 h1 h2 (by decide)) (Sz.of 1000000000000000000000000 h3 h4 (by decide)) (by decide))
theorem r_fdivS {x y : Int} (h1 : -1000000000000000000000000 < y) (h2 : y < 1000000000000000000000000) (h0 : y ≠ 0) : fdivD (.int x) (.int y) = some (.int (x.fdiv y)) :=
  r_fdiv (okDiv_of ((Sz.of (k := 80) 1000000000000000000000000 h1 h2 (by decide)).mono (by decide)) h0)
/-! ### draws -/
structure IsDraws (c : Nat) (xs : List Int) : Prop where
  len : xs.length = c
  lo : ∀ x ∈ xs, 0 ≤ x
  hi : ∀ x ∈ xs, x < 1000
def gI (xs : List Int) (i : Nat) : Int := xs.getD i 0
section
variable {c : Nat} {xs : List Int}
theorem IsDraws.get (h : IsDraws c xs) (i : Nat) (hi : i < c) : xs[i]? = some (gI xs i) := by
  unfold gI
  rw [List.getD_eq_getElem?_getD, List.getElem?_eq_getElem (by rw [h.len]; exact hi)]; rfl
theorem IsDraws.mem (h : IsDraws c xs) (i : Nat) : gI xs i = 0 ∨ gI xs i ∈ xs := by
  unfold gI
  rw [List.getD_eq_getElem?_getD]
  cases e : xs[i]? with
  | none => left; rfl
  | some x => right; exact List.mem_of_getElem? e
theorem IsDraws.glo (h : IsDraws c xs) (i : Nat) : 0 ≤ gI xs i := by
  rcases h.mem i with e | e
  · rw [e]; decide
  · exact h.lo _ e
theorem IsDraws.ghi (h : IsDraws c xs) (i : Nat) : gI xs i < 1000 := by
  rcases h.mem i with e | e
  · rw [e]; decide
  · exact h.hi _ e
theorem cut_map {α : Type} (F : α → D) (xs : List α) (lo hi : Option Int) : cutL (xs.map F) lo hi = ((xs.drop (HT.sIx xs.length 0 lo)).take (HT.sIx xs.length xs.length hi - HT.sIx xs.length 0 lo)).map F := by
  unfold cutL; rw [List.length_map, List.map_take, List.map_drop]
theorem sIx_in {n d : Nat} {v : Int} (h0 : 0 ≤ v) (h : v ≤ n) : HT.sIx n d (some v) = v.toNat := by
  show (if v < 0 then (v + (n : Int)).toNat else min v.toNat n) = _
  rw [if_neg (by omega)]; omega
theorem IsDraws.sub (h : IsDraws c xs) (a b : Nat) (hb : b ≤ c) (hab : a ≤ b) : IsDraws (b - a) ((xs.drop a).take (b - a)) := ⟨by simp [h.len]; omega, fun x hx => h.lo x (List.mem_of_mem_drop (List.mem_of_mem_take hx)), fun x hx => h.hi x (List.mem_of_mem_drop (List.mem_of_mem_take hx))⟩
theorem IsDraws.cut (h : IsDraws c xs) {a b : Int} (m : Nat) (h0 : 0 ≤ a) (h1 : b ≤ c) (h2 : b = a + m) : ∃ ys, cutL (xs.map .int) (some a) (some b) = ys.map .int ∧ IsDraws m ys := by
  have q := h.sub a.toNat b.toNat (by omega) (by omega)
  rw [show b.toNat - a.toNat = m by omega] at q
  refine ⟨_, ?_, q⟩
  rw [cut_map, h.len, sIx_in h0 (by omega), sIx_in (by omega) h1, show b.toNat - a.toNat = m by omega]
theorem IsDraws.cutTo (h : IsDraws c xs) {b : Int} (m : Nat) (h1 : b ≤ c) (h2 : b = m) : ∃ ys, cutL (xs.map .int) none (some b) = ys.map .int ∧ IsDraws m ys := by
  have q := h.sub 0 b.toNat (by omega) (by omega)
  rw [show b.toNat - 0 = m by omega] at q
  refine ⟨_, ?_, q⟩
  rw [cut_map, h.len, HT.sIx_none, sIx_in (by omega) h1, show b.toNat - 0 = m by omega]
theorem IsDraws.cutFrom (h : IsDraws c xs) {a : Int} (m : Nat) (h0 : 0 ≤ a) (h2 : (c : Int) = a + m) : ∃ ys, cutL (xs.map .int) (some a) none = ys.map .int ∧ IsDraws m ys := by
  have q := h.sub a.toNat c (by omega) (by omega)
  rw [show c - a.toNat = m by omega] at q
  refine ⟨_, ?_, q⟩
  rw [cut_map, h.len, HT.sIx_none, sIx_in h0 (by omega), show c - a.toNat = m by omega]
end
@[simp] theorem kit_bool_bool : kitB "bool" "bool" = some true := by decide +kernel
@[simp] theorem kit_bool_int : kitB "bool" "int" = some true := by decide +kernel
@[simp] theorem kit_bool_str : kitB "bool" "str" = some false := by decide +kernel
@[simp] theorem kit_bool_list : kitB "bool" "list" = some false := by decide +kernel
@[simp] theorem kit_bool_tuple : kitB "bool" "tuple" = some false := by decide +kernel
@[simp] theorem kit_int_bool : kitB "int" "bool" = some false := by decide +kernel
@[simp] theorem kit_int_int : kitB "int" "int" = some true := by decide +kernel
@[simp] theorem kit_int_str : kitB "int" "str" = some false := by decide +kernel
@[simp] theorem kit_int_list : kitB "int" "list" = some false := by decide +kernel
@[simp] theorem kit_int_tuple : kitB "int" "tuple" = some false := by decide +kernel
@[simp] theorem kit_str_bool : kitB "str" "bool" = some false := by decide +kernel
@[simp] theorem kit_str_int : kitB "str" "int" = some false := by decide +kernel
@[simp] theorem kit_str_str : kitB "str" "str" = some true := by decide +kernel
@[simp] theorem kit_str_list : kitB "str" "list" = some false := by decide +kernel
@[simp] theorem kit_str_tuple : kitB "str" "tuple" = some false := by decide +kernel
@[simp] theorem kit_list_bool : kitB "list" "bool" = some false := by decide +kernel
@[simp] theorem kit_list_int : kitB "list" "int" = some false := by decide +kernel
@[simp] theorem kit_list_str : kitB "list" "str" = some false := by decide +kernel
@[simp] theorem kit_list_list : kitB "list" "list" = some true := by decide +kernel
@[simp] theorem kit_list_tuple : kitB "list" "tuple" = some false := by decide +kernel
@[simp] theorem kit_tuple_bool : kitB "tuple" "bool" = some false := by decide +kernel
@[simp] theorem kit_tuple_int : kitB "tuple" "int" = some false := by decide +kernel
@[simp] theorem kit_tuple_str : kitB "tuple" "str" = some false := by decide +kernel
@[simp] theorem kit_tuple_list : kitB "tuple" "list" = some false := by decide +kernel
@[simp] theorem kit_tuple_tuple : kitB "tuple" "tuple" = some true := by decide +kernel
@[simp] theorem kit_NoneType_bool : kitB "NoneType" "bool" = some false := by decide +kernel
@[simp] theorem kit_NoneType_int : kitB "NoneType" "int" = some false := by decide +kernel
@[simp] theorem kit_NoneType_str : kitB "NoneType" "str" = some false := by decide +kernel
@[simp] theorem kit_NoneType_list : kitB "NoneType" "list" = some false := by decide +kernel
@[simp] theorem kit_NoneType_tuple : kitB "NoneType" "tuple" = some false := by decide +kernel
@[simp] theorem isi_bool (n : String) (b : Bool) : isiD n (.bool b) = (kitB "bool" n).map .bool := rfl
@[simp] theorem isi_int (n : String) (b : Int) : isiD n (.int b) = (kitB "int" n).map .bool := rfl
@[simp] theorem isi_str (n : String) (b : Str) : isiD n (.str b) = (kitB "str" n).map .bool := rfl
@[simp] theorem isi_list (n : String) (b : List D) : isiD n (.list b) = (kitB "list" n).map .bool := rfl
@[simp] theorem isi_tup (n : String) (b : List D) : isiD n (.tuple b) = (kitB "tuple" n).map .bool := rfl
@[simp] theorem isi_none (n : String) : isiD n .none = (kitB "NoneType" n).map .bool := rfl

/-! ### loops -/
theorem forO_gen {F : D → Ev → Out} (J : Out → Prop) : ∀ {l : List D} (I : Nat → Ev → Prop) {ρ : Ev}, I 0 ρ →
    (∀ i d ρ, l[i]? = some d → I i ρ → (∃ ρ', (F d ρ = .nx ρ' ∨ F d ρ = .ct ρ') ∧ I (i + 1) ρ') ∨ (∃ ρ', F d ρ = .bk ρ' ∧ J (.nx ρ')) ∨ (∃ r, F d ρ = .rt r ∧ J (.rt r)) ∨ (∃ r ρ', F d ρ = .rtB r ρ' ∧ J (.rtB r ρ')) ∨ (∃ x ρ', F d ρ = .ex x ρ' ∧ J (.ex x ρ'))) →
    (∀ ρ, I l.length ρ → J (.nx ρ)) → J (forO F l ρ)
  | [], I, ρ, h0, _, e => e ρ h0
  | d :: l, I, ρ, h0, st, e => by
    have ih : ∀ ρ', I 1 ρ' → J (forO F l ρ') := fun ρ' h => forO_gen J (fun i => I (i + 1)) h (fun i d ρ hd hi => st (i + 1) d ρ (by simpa using hd) hi) (fun ρ h => e ρ (by simpa using h))
    unfold forO
    rcases st 0 d ρ (by simp) h0 with ⟨ρ', h | h, hi⟩ | ⟨ρ', h, hj⟩ | ⟨r, h, hj⟩ | ⟨r, ρ', h, hj⟩ | ⟨x, ρ', h, hj⟩
    · rw [h]; exact ih ρ' hi
    · rw [h]; exact ih ρ' hi
    · rw [h]; exact hj
    · rw [h]; exact hj
    · rw [h]; exact hj
    · rw [h]; exact hj
theorem forO_inv {F : D → Ev → Out} {l : List D} (I : Nat → Ev → Prop) {ρ : Ev} (h0 : I 0 ρ) (st : ∀ i d ρ, l[i]? = some d → I i ρ → ∃ ρ', (F d ρ = .nx ρ' ∨ F d ρ = .ct ρ') ∧ I (i + 1) ρ') : ∃ ρ', forO F l ρ = .nx ρ' ∧ I l.length ρ' :=
  forO_gen (fun o => ∃ ρ', o = .nx ρ' ∧ I l.length ρ') I h0 (fun i d ρ hd hi => .inl (st i d ρ hd hi)) fun ρ h => ⟨ρ, rfl, h⟩
theorem forO_fold {F : D → Ev → Out} {τ : Type} (R : τ → Ev → Prop) (step : τ → D → τ) : ∀ {l : List D} {s : τ} {ρ : Ev}, R s ρ → (∀ s ρ d, d ∈ l → R s ρ → ∃ ρ', (F d ρ = .nx ρ' ∨ F d ρ = .ct ρ') ∧ R (step s d) ρ') →
    ∃ ρ', forO F l ρ = .nx ρ' ∧ R (l.foldl step s) ρ'
  | [], s, ρ, h0, _ => ⟨ρ, rfl, h0⟩
  | d :: l, s, ρ, h0, st => by
    obtain ⟨ρ1, h, h1⟩ := st s ρ d (by simp) h0
    obtain ⟨ρ', e, h2⟩ := forO_fold R step (l := l) h1 fun s ρ d hd => st s ρ d (by simp [hd])
    refine ⟨ρ', ?_, h2⟩
    unfold forO
    rcases h with h | h <;> rw [h] <;> exact e
theorem rng0_get {n i : Nat} {d : D} (h : (rngL 0 1 n)[i]? = some d) : i < n ∧ d = .int (i : Nat) := by
  obtain ⟨h1, rfl⟩ := rngL_get h
  exact ⟨h1, by simp⟩
theorem mem_rng0 {n : Nat} {d : D} (h : d ∈ rngL 0 1 n) : ∃ i, i < n ∧ d = .int (i : Nat) := by
  obtain ⟨i, h1⟩ := List.mem_iff_getElem?.mp h
  exact ⟨i, rng0_get h1⟩
theorem mem_rng {lo c : Int} {n : Nat} {d : D} (h : d ∈ rngL lo c n) : ∃ i, i < n ∧ d = .int (lo + (i : Nat) * c) := by
  unfold rngL at h
  obtain ⟨i, h1, rfl⟩ := List.mem_map.mp h
  exact ⟨i, by simpa using h1, rfl⟩
theorem compR_map {step : D → R (Option D)} (φ : D → D) : ∀ {l : List D}, (∀ d ∈ l, step d = .ok (some (φ d))) → compR step l = .ok (l.map φ)
  | [], _ => rfl
  | d :: l, h => by
    unfold compR
    rw [h d (by simp), compR_map φ (l := l) fun e he => h e (by simp [he])]
    rfl
theorem compR_map' {α : Type} {step : D → R (Option D)} {F : α → D} {φ : α → D} : ∀ {l : List α}, (∀ a ∈ l, step (F a) = .ok (some (φ a))) → compR step (l.map F) = .ok (l.map φ)
  | [], _ => rfl
  | a :: l, h => by
    rw [List.map_cons]
    unfold compR
    rw [h a (by simp), compR_map' (l := l) fun e he => h e (by simp [he])]
    rfl
theorem compR_filter {step : D → R (Option D)} (φ : D → Option D) : ∀ {l : List D}, (∀ d ∈ l, step d = .ok (φ d)) → compR step l = .ok (l.filterMap φ)
  | [], _ => rfl
  | d :: l, h => by
    unfold compR
    rw [h d (by simp), compR_filter φ (l := l) fun e he => h e (by simp [he]), List.filterMap_cons]
    cases φ d <;> rfl
theorem compX_all {step : D → Ev → RX (Option D)} (I : Ev → Prop) (P : D → Prop) : ∀ {l : List D} {ρ : Ev}, (∀ d ρ, d ∈ l → I ρ → ∃ y ρ', step d ρ = .ok (some y) ρ' ∧ I ρ' ∧ P y) → I ρ →
    ∃ ys ρ', compX step l ρ = .ok ys ρ' ∧ I ρ' ∧ ys.length = l.length ∧ ∀ y ∈ ys, P y
  | [], ρ, _, h0 => ⟨[], ρ, rfl, h0, rfl, by simp⟩
  | d :: l, ρ, h, h0 => by
    obtain ⟨y, ρ1, e1, h1, p1⟩ := h d ρ (by simp) h0
    obtain ⟨ys, ρ2, e2, h2, l2, p2⟩ := compX_all I P (l := l) (fun d ρ hd => h d ρ (by simp [hd])) h1
    refine ⟨y :: ys, ρ2, ?_, h2, by simp [l2], fun z hz => ?_⟩
    · unfold compX
      rw [e1, rx_bind_ok, e2]; rfl
    · rcases List.mem_cons.mp hz with rfl | hz
      · exact p1
      · exact p2 z hz
/-! ### data without dicts, of a small depth -/
mutual
def okD : Nat → D → Bool
  | _, .none => true
  | _, .bool _ => true
  | _, .int _ => true
  | _, .str x => PyData.strOk x
  | 0, _ => false
  | n + 1, .list l => okL n l
  | n + 1, .tuple l => okL n l
  | _, .dict _ => false
def okL : Nat → List D → Bool
  | _, [] => true
  | n, d :: l => okD n d && okL n l
end
mutual
theorem okD_spec : ∀ (n : Nat) (d : D), okD n d = true → d.canLay0 = true ∧ d.depth ≤ n
  | _, .none, _ => ⟨rfl, Nat.zero_le _⟩
  | _, .bool _, _ => ⟨rfl, Nat.zero_le _⟩
  | _, .int _, _ => ⟨rfl, Nat.zero_le _⟩
  | 0, .str x, h => ⟨by simpa [okD, PyData.canLay0] using h, Nat.zero_le _⟩
  | n + 1, .str x, h => ⟨by simpa [okD, PyData.canLay0] using h, Nat.zero_le _⟩
  | 0, .list _, h => by simp [okD] at h
  | 0, .tuple _, h => by simp [okD] at h
  | 0, .dict _, h => by simp [okD] at h
  | n + 1, .dict _, h => by simp [okD] at h
  | n + 1, .list l, h => by
    obtain ⟨h1, h2⟩ := okL_spec n l (by simpa [okD] using h)
    exact ⟨by simpa [PyData.canLay0] using h1, by simpa [PyData.depth] using h2⟩
  | n + 1, .tuple l, h => by
    obtain ⟨h1, h2⟩ := okL_spec n l (by simpa [okD] using h)
    exact ⟨by simpa [PyData.canLay0] using h1, by simpa [PyData.depth] using h2⟩
theorem okL_spec : ∀ (n : Nat) (l : List D), okL n l = true → PyData.canLayAll0 l = true ∧ PyData.depthAll l ≤ n
  | _, [], _ => ⟨rfl, Nat.zero_le _⟩
  | n, d :: l, h => by
    have h' : okD n d = true ∧ okL n l = true := by simpa [okL] using h
    obtain ⟨h1, h2⟩ := okD_spec n d h'.1
    obtain ⟨h3, h4⟩ := okL_spec n l h'.2
    exact ⟨by simp [PyData.canLayAll0, h1, h3], by simp [PyData.depthAll]; omega⟩
end
theorem okL_iff : ∀ {n : Nat} {l : List D}, okL n l = true ↔ ∀ d ∈ l, okD n d = true
  | n, [] => by simp [okL]
  | n, d :: l => by simp [okL, okL_iff (l := l)]
@[simp] theorem okD_int (n : Nat) (i : Int) : okD n (.int i) = true := by cases n <;> rfl
@[simp] theorem okD_bool (n : Nat) (i : Bool) : okD n (.bool i) = true := by cases n <;> rfl
@[simp] theorem okD_none (n : Nat) : okD n .none = true := by cases n <;> rfl
@[simp] theorem okD_list (n : Nat) (l : List D) : okD (n + 1) (.list l) = okL n l := rfl
@[simp] theorem okD_tuple (n : Nat) (l : List D) : okD (n + 1) (.tuple l) = okL n l := rfl
@[simp] theorem okL_nil (n : Nat) : okL n [] = true := rfl
@[simp] theorem okL_cons (n : Nat) (d : D) (l : List D) : okL n (d :: l) = (okD n d && okL n l) := rfl
@[simp] theorem okL_ints (n : Nat) (l : List Int) : okL n (l.map .int) = true := okL_iff.mpr fun d h => by
  obtain ⟨i, _, rfl⟩ := List.mem_map.mp h
  exact okD_int n i
theorem shaped_of {d : D} (h : okD 64 d = true) : SeqAt.shaped d = true := by
  obtain ⟨h1, h2⟩ := okD_spec _ _ h
  unfold SeqAt.shaped
  simp [h1, h2]
theorem r_eqD {a b : D} (h : okD 64 a = true) (h' : okD 64 b = true) : eqD a b = some (.bool (PyData.eqv a b)) := by
  unfold eqD; rw [shaped_of h, shaped_of h']; rfl
@[simp] theorem r_eq_s (x y : Str) : eqD (.str x) (.str y) = some (.bool (decide (x = y))) := by
  unfold eqD
  split
  · show some (PyData.bool (x == y)) = _
    by_cases h : x = y
    · subst h; simp
    · simp [h]
  · rfl
@[simp] theorem r_ne_s (x y : Str) : neD (.str x) (.str y) = some (.bool (!decide (x = y))) := by
  unfold neD
  split
  · show some (PyData.bool (!(x == y))) = _
    by_cases h : x = y
    · subst h; simp
    · simp [h]
  · rfl
theorem r_neD {a b : D} (h : okD 64 a = true) (h' : okD 64 b = true) : neD a b = some (.bool (!PyData.eqv a b)) := by
  unfold neD; rw [shaped_of h, shaped_of h']; rfl
theorem eqv_self {d : D} (h : okD 64 d = true) : PyData.eqv d d = true := SeqAt.eqv_refl d (okD_spec _ _ h).1
theorem r_eq_self {d : D} (h : okD 64 d = true) : eqD d d = some (.bool true) := by rw [r_eqD h h, eqv_self h]
theorem r_ne_self {d : D} (h : okD 64 d = true) : neD d d = some (.bool false) := by rw [r_neD h h, eqv_self h]; rfl
@[simp] theorem r_eq_i (i j : Int) : eqD (.int i) (.int j) = some (.bool (decide (i = j))) := by rw [r_eqD (by simp) (by simp)]; rfl
@[simp] theorem r_ne_i (i j : Int) : neD (.int i) (.int j) = some (.bool (!decide (i = j))) := by rw [r_neD (by simp) (by simp)]; rfl
/-! ### repr: sizes -/
structure Sw (w : Nat) (d : D) : Prop where
  sh : d.showable = true
  le : d.shown.length ≤ w
theorem Sw.mono {w w' : Nat} {d : D} (h : Sw w d) (e : w ≤ w') : Sw w' d := ⟨h.sh, Nat.le_trans h.le e⟩
theorem sw_int {s : Nat} {i : Int} (h : Sz s i) (hs : s ≤ 1920) (h0 : 0 < s) : Sw (s + 1) (.int i) := by
  have hl : i.natAbs.log2 < s := by
    by_cases z : i.natAbs = 0
    · rw [z]; simpa using h0
    · exact (Nat.log2_lt z).mpr h.lt
  refine ⟨decide_eq_true (by omega), ?_⟩
  have := int_text_length_le h0 hl
  show (Str.ofString (toString i)).length ≤ s + 1
  rw [PySem.ofString_length]
  exact this
theorem sw_none : Sw 5 .none := ⟨rfl, by decide +kernel⟩
theorem sw_bool (b : Bool) : Sw 5 (.bool b) := ⟨rfl, by cases b <;> decide +kernel⟩
theorem sw_all {w : Nat} : ∀ {l : List D}, (∀ d ∈ l, Sw w d) → PyData.showableAll l = true ∧ ((PyData.shownAll l).map (·.length)).sum ≤ l.length * w ∧ (PyData.shownAll l).length = l.length
  | [], _ => ⟨rfl, by simp [PyData.shownAll], rfl⟩
  | d :: l, h => by
    obtain ⟨h1, h2, h3⟩ := sw_all (l := l) fun e he => h e (by simp [he])
    obtain ⟨h4, h5⟩ := h d (by simp)
    refine ⟨by simp [PyData.showableAll, h4, h1], ?_, by simp [PyData.shownAll, h3]⟩
    simp only [PyData.shownAll, List.map_cons, List.sum_cons, List.length_cons, Nat.succ_mul]
    omega
theorem sw_list {w : Nat} {l : List D} (h : ∀ d ∈ l, Sw w d) : Sw (l.length * (w + 2) + 3) (.list l) := by
  obtain ⟨h1, h2, h3⟩ := sw_all h
  refine ⟨by simpa [PyData.showable] using h1, ?_⟩
  have := listText_len_le (PyData.shownAll l)
  simp only [PyData.shown]
  rw [Nat.mul_add]
  omega
theorem sw_tup {w : Nat} {l : List D} (h : ∀ d ∈ l, Sw w d) : Sw (l.length * (w + 2) + 3) (.tuple l) := by
  obtain ⟨h1, h2, h3⟩ := sw_all h
  refine ⟨by simpa [PyData.showable] using h1, ?_⟩
  have := tupleText_len_le (PyData.shownAll l)
  simp only [PyData.shown]
  rw [Nat.mul_add]
  omega
theorem r_repr_t {l : List D} {w : Nat} (h : okL 63 l = true) (hs : ∀ d ∈ l, Sw w d) (hw : l.length * (w + 2) + 3 ≤ sizeLine) : reprL [.tuple l] = some (.str (PyData.shown (.tuple l))) := by
  obtain ⟨h1, h2⟩ := sw_tup hs
  unfold reprL reprD
  simp only
  rw [shaped_of (d := .tuple l) h, h1, decide_eq_true (Nat.le_trans h2 hw)]; rfl
theorem r_repr_l {l : List D} {w : Nat} (h : okL 63 l = true) (hs : ∀ d ∈ l, Sw w d) (hw : l.length * (w + 2) + 3 ≤ sizeLine) : reprL [.list l] = some (.str (PyData.shown (.list l))) := by
  obtain ⟨h1, h2⟩ := sw_list hs
  unfold reprL reprD
  simp only
  rw [shaped_of (d := .list l) h, h1, decide_eq_true (Nat.le_trans h2 hw)]; rfl
end VL

set_option Elab.async false
set_option linter.all false
set_option maxRecDepth 100000
set_option autoImplicit false
namespace W
open PySem PySem.Spec PyProof.Rows L2 VL
noncomputable def b__law_draws_1 : Ev → Out := sSeq (sSet 6 (cst (.int 0))) (sSeq (sIf (e1 bOf (e2 gtD (e1 lenD (eCons (eOwn 2) (cst []))) (cst (.int 0)))) (sSeq (sSet 7 (e2 modD (e1 intD (eCons (eOwn 5) (cst []))) (e1 lenD (eCons (eOwn 2) (cst []))))) (sIf (e1 bOf (e2 geD (e2 ixD (eOwn 2) (eOwn 7)) (e2 powD (cst (.int 10)) (cst (.int 18))))) (sSeq (sSet 6 (e2 modD (e1 intD (eCons (e2 ixD (eOwn 2) (eOwn 7)) (cst []))) (cst (.int 1000)))) (sStore 2 (eVar 7) (e2 fdivD (e2 ixD (eOwn 2) (eOwn 7)) (cst (.int 1000))))) (sSeq (sSet 8 (e2 modD (e1 intD (eCons (e2 addD (e2 addD (e2 mulD (e2 ixD (eOwn 2) (eOwn 7)) (cst (.int 48271))) (e2 mulD (eOwn 5) (cst (.int 69621)))) (cst (.int 11))) (cst []))) (cst (.int 2147483647)))) (sSeq (sSet 8 (e2 modD (e1 intD (eCons (e2 addD (e2 mulD (eOwn 8) (cst (.int 16807))) (eOwn 7)) (cst []))) (cst (.int 2147483629)))) (sSet 6 (e2 modD (e1 intD (eCons (e2 fdivD (eOwn 8) (cst (.int 7))) (cst []))) (cst (.int 1000)))))))) (sNil)) (sApp 4 (eVar 6)))
noncomputable def c__law_draws : Ev → Out := sSeq (sSetO 2 (eComp [3] (e1 seqD (eVar 0)) (gSet 3) (cst true) (eVar 3))) (sSeq (sSetO 4 (e1 lim (cst []))) (sSeq (sFor (e1 range1D (eCons (eOwn 1) (cst []))) (gSet 5) b__law_draws_1) (sRetV 4)))
noncomputable def m__law_draws : List D → R SD := runD 2 9 c__law_draws
noncomputable def b__law_gcd_1 : Ev → Out := sSeq (sIf (e1 bOf (e2 eqD (eOwn 1) (cst (.int 0)))) (.bk) (sNil)) (sSeq (sSet 3 (e2 modD (e1 intD (eCons (eOwn 0) (cst []))) (eOwn 1))) (sSeq (sSet 0 (eVar 1)) (sSet 1 (eVar 3))))
noncomputable def c__law_gcd : Ev → Out := sSeq (sSet 0 (e1 absD (eCons (eOwn 0) (cst [])))) (sSeq (sSet 1 (e1 absD (eCons (eOwn 1) (cst [])))) (sSeq (sFor (e1 range1D (eCons (cst (.int 4000)) (cst []))) (gSet 2) b__law_gcd_1) (sRet (eVar 0))))
noncomputable def m__law_gcd : List D → R SD := runD 2 4 c__law_gcd
noncomputable def c__law_number : Ev → Out := sSeq (sIf (e1 bOf (e2 ltD (eOwn 1) (cst (.int 0)))) (sSeq (sSet 0 (e1 negD (eOwn 0))) (sSet 1 (e1 negD (eOwn 1)))) (sNil)) (sSeq (sSet 2 (eCall m__law_gcd (eCons (eVar 0) (eCons (eVar 1) (cst []))))) (sRet (e1 tupD (eCons (e2 fdivD (eOwn 0) (eOwn 2)) (eCons (e2 fdivD (eOwn 1) (eOwn 2)) (cst []))))))
noncomputable def m__law_number : List D → R SD := runD 2 3 c__law_number
noncomputable def c__law_drawn : Ev → Out := sSeq (sSet 1 (e2 modD (e1 intD (eCons (e2 ixD (eOwn 0) (cst (.int 0))) (cst []))) (cst (.int 8)))) (sSeq (sIf (e1 bOf (e2 eqD (eOwn 1) (cst (.int 7)))) (sSeq (sSet 2 (e2 addD (e2 mulD (e2 addD (e2 mulD (e2 addD (e2 mulD (e1 intD (eCons (e2 ixD (eOwn 0) (cst (.int 1))) (cst []))) (cst (.int 1000))) (e1 intD (eCons (e2 ixD (eOwn 0) (cst (.int 2))) (cst [])))) (cst (.int 1000))) (e1 intD (eCons (e2 ixD (eOwn 0) (cst (.int 3))) (cst [])))) (cst (.int 1000))) (e1 intD (eCons (e2 ixD (eOwn 0) (cst (.int 4))) (cst []))))) (sSet 3 (e2 addD (e2 addD (cst (.int 1)) (e2 mulD (e2 addD (e2 mulD (e2 addD (e2 mulD (e1 intD (eCons (e2 ixD (eOwn 0) (cst (.int 5))) (cst []))) (cst (.int 1000))) (e1 intD (eCons (e2 ixD (eOwn 0) (cst (.int 6))) (cst [])))) (cst (.int 1000))) (e1 intD (eCons (e2 ixD (eOwn 0) (cst (.int 7))) (cst [])))) (cst (.int 900)))) (e1 intD (eCons (e2 ixD (eOwn 0) (cst (.int 1))) (cst [])))))) (sSeq (sSet 2 (e2 modD (e1 intD (eCons (e2 ixD (eOwn 0) (cst (.int 1))) (cst []))) (e2 addD (cst (.int 4)) (e2 mulD (cst (.int 20)) (eOwn 1))))) (sSet 3 (e2 addD (cst (.int 1)) (e2 modD (e1 intD (eCons (e2 ixD (eOwn 0) (cst (.int 2))) (cst []))) (e2 addD (cst (.int 1)) (e2 mulD (cst (.int 3)) (e2 modD (e1 intD (eCons (eOwn 1) (cst []))) (cst (.int 3)))))))))) (sSeq (sIf (e1 bOf (e2 eqD (e2 modD (e1 intD (eCons (e2 ixD (eOwn 0) (cst (.int 3))) (cst []))) (cst (.int 2))) (cst (.int 1)))) (sSet 2 (e1 negD (eOwn 2))) (sNil)) (sRet (eCall m__law_number (eCons (eVar 2) (eCons (eVar 3) (cst [])))))))
noncomputable def m__law_drawn : List D → R SD := runD 1 4 c__law_drawn
noncomputable def c__law_times : Ev → Out := sRet (eCall m__law_number (eCons (e2 mulD (e2 ixD (eOwn 0) (cst (.int 0))) (e2 ixD (eOwn 1) (cst (.int 0)))) (eCons (e2 mulD (e2 ixD (eOwn 0) (cst (.int 1))) (e2 ixD (eOwn 1) (cst (.int 1)))) (cst []))))
noncomputable def m__law_times : List D → R SD := runD 2 2 c__law_times
noncomputable def c_number : Ev → Out := sSeq (sIf (e1 bOf (e2 ltD (eOwn 1) (cst (.int 0)))) (sPar 0 1 (eCons (e1 negD (eOwn 0)) (eCons (e1 negD (eOwn 1)) (cst [])))) (sNil)) (sSeq (sSet 2 (e1 gcdD (eCons (eOwn 0) (eCons (eOwn 1) (cst []))))) (sRet (e1 tupD (eCons (e2 fdivD (eOwn 0) (eOwn 2)) (eCons (e2 fdivD (eOwn 1) (eOwn 2)) (cst []))))))
noncomputable def m_number : List D → R SD := runD 2 3 c_number
noncomputable def c_plus : Ev → Out := sRet (eCall m_number (eCons (e2 addD (e2 mulD (e2 ixD (eOwn 0) (cst (.int 0))) (e2 ixD (eOwn 1) (cst (.int 1)))) (e2 mulD (e2 ixD (eOwn 1) (cst (.int 0))) (e2 ixD (eOwn 0) (cst (.int 1))))) (eCons (e2 mulD (e2 ixD (eOwn 0) (cst (.int 1))) (e2 ixD (eOwn 1) (cst (.int 1)))) (cst []))))
noncomputable def m_plus : List D → R SD := runD 2 2 c_plus
noncomputable def c_minus : Ev → Out := sRet (eCall m_number (eCons (e2 subD (e2 mulD (e2 ixD (eOwn 0) (cst (.int 0))) (e2 ixD (eOwn 1) (cst (.int 1)))) (e2 mulD (e2 ixD (eOwn 1) (cst (.int 0))) (e2 ixD (eOwn 0) (cst (.int 1))))) (eCons (e2 mulD (e2 ixD (eOwn 0) (cst (.int 1))) (e2 ixD (eOwn 1) (cst (.int 1)))) (cst []))))
noncomputable def m_minus : List D → R SD := runD 2 2 c_minus
noncomputable def c_times : Ev → Out := sRet (eCall m_number (eCons (e2 mulD (e2 ixD (eOwn 0) (cst (.int 0))) (e2 ixD (eOwn 1) (cst (.int 0)))) (eCons (e2 mulD (e2 ixD (eOwn 0) (cst (.int 1))) (e2 ixD (eOwn 1) (cst (.int 1)))) (cst []))))
noncomputable def m_times : List D → R SD := runD 2 2 c_times
noncomputable def c__law_plus : Ev → Out := sRet (eCall m__law_number (eCons (e2 addD (e2 mulD (e2 ixD (eOwn 0) (cst (.int 0))) (e2 ixD (eOwn 1) (cst (.int 1)))) (e2 mulD (e2 ixD (eOwn 1) (cst (.int 0))) (e2 ixD (eOwn 0) (cst (.int 1))))) (eCons (e2 mulD (e2 ixD (eOwn 0) (cst (.int 1))) (e2 ixD (eOwn 1) (cst (.int 1)))) (cst []))))
noncomputable def m__law_plus : List D → R SD := runD 2 2 c__law_plus
noncomputable def c_compare : Ev → Out := sSeq (sPar 2 3 (eCons (e2 mulD (e2 ixD (eOwn 0) (cst (.int 0))) (e2 ixD (eOwn 1) (cst (.int 1)))) (eCons (e2 mulD (e2 ixD (eOwn 1) (cst (.int 0))) (e2 ixD (eOwn 0) (cst (.int 1)))) (cst [])))) (sSeq (sIf (e1 bOf (e2 ltD (eOwn 2) (eOwn 3))) (sRet (e1 negD (cst (.int 1)))) (sNil)) (sRet (e1 intD (eCons (e2 gtD (eOwn 2) (eOwn 3)) (cst [])))))
noncomputable def m_compare : List D → R SD := runD 2 4 c_compare
noncomputable def b_total_1 : Ev → Out := sSet 1 (eCall m_plus (eCons (eVar 1) (eCons (eVar 2) (cst []))))
noncomputable def c_total : Ev → Out := sSeq (sSet 1 (cst (.tuple [(.int 0), (.int 1)]))) (sSeq (sFor (e1 seqD (eVar 0)) (gSet 2) b_total_1) (sRet (eVar 1)))
noncomputable def m_total : List D → R SD := runD 1 3 c_total
noncomputable def b__law_total_1 : Ev → Out := sSet 1 (eCall m__law_plus (eCons (eVar 1) (eCons (eVar 2) (cst []))))
noncomputable def c__law_total : Ev → Out := sSeq (sSet 1 (e1 tupD (eCons (cst (.int 0)) (eCons (cst (.int 1)) (cst []))))) (sSeq (sFor (e1 seqD (eVar 0)) (gSet 2) b__law_total_1) (sRet (eVar 1)))
noncomputable def m__law_total : List D → R SD := runD 1 3 c__law_total
noncomputable def c_divided : Ev → Out := sRet (eCall m_number (eCons (e2 mulD (e2 ixD (eOwn 0) (cst (.int 0))) (e2 ixD (eOwn 1) (cst (.int 1)))) (eCons (e2 mulD (e2 ixD (eOwn 0) (cst (.int 1))) (e2 ixD (eOwn 1) (cst (.int 0)))) (cst []))))
noncomputable def m_divided : List D → R SD := runD 2 2 c_divided
noncomputable def b__law_is_number_1 : Ev → Out := sIf (eOr (eNot (e1 truD (e1 (isiD "int") (eOwn 1)))) (e1 truD (e1 (isiD "bool") (eOwn 1)))) (sRet (cst (.bool false))) (sNil)
noncomputable def c__law_is_number : Ev → Out := sSeq (sIf (eOr (eNot (e1 truD (e1 (isiD "tuple") (eOwn 0)))) (e1 bOf (e2 neD (e1 lenD (eCons (eOwn 0) (cst []))) (cst (.int 2))))) (sRet (cst (.bool false))) (sNil)) (sSeq (sFor (e1 seqD (eVar 0)) (gSet 1) b__law_is_number_1) (sRet (eAndV (e2 geD (e2 ixD (eOwn 0) (cst (.int 1))) (cst (.int 1))) (e2 eqD (eCall m__law_gcd (eCons (e2 ixD (eOwn 0) (cst (.int 0))) (eCons (e2 ixD (eOwn 0) (cst (.int 1))) (cst [])))) (cst (.int 1))))))
noncomputable def m__law_is_number : List D → R SD := runD 1 2 c__law_is_number
noncomputable def c__law_is_numbers : Ev → Out := sRet (eAndV (e1 (isiD "list") (eOwn 0)) (e1 allD (eCons (eLst (eComp [1] (e1 seqD (eVar 0)) (gSet 1) (cst true) (eCall m__law_is_number (eCons (eVar 1) (cst []))))) (cst []))))
noncomputable def m__law_is_numbers : List D → R SD := runD 1 2 c__law_is_numbers
noncomputable def c__law_less : Ev → Out := sRet (e2 ltD (e2 mulD (e2 ixD (eOwn 0) (cst (.int 0))) (e2 ixD (eOwn 1) (cst (.int 1)))) (e2 mulD (e2 ixD (eOwn 1) (cst (.int 0))) (e2 ixD (eOwn 0) (cst (.int 1)))))
noncomputable def m__law_less : List D → R SD := runD 2 2 c__law_less
noncomputable def c__law_order : Ev → Out := sSeq (sIf (e1 truD (eCall m__law_less (eCons (eVar 0) (eCons (eVar 1) (cst []))))) (sRet (e1 negD (cst (.int 1)))) (sNil)) (sSeq (sIf (e1 truD (eCall m__law_less (eCons (eVar 1) (eCons (eVar 0) (cst []))))) (sRet (cst (.int 1))) (sNil)) (sRet (cst (.int 0))))
noncomputable def m__law_order : List D → R SD := runD 2 2 c__law_order

/-! ### draws -/
theorem slB {n : Nat} (h : n ≤ 100000) : n ≤ sizeLine := Nat.le_trans h (by decide)
theorem idD_ok (l : List D) (ρ : Ev) (k : Nat) (hk : k < ρ.length) : compR (compS [k] (gSet k) (cst true) (eVar k) ρ) l = .ok l := by
  have := compR_map (step := compS [k] (gSet k) (cst true) (eVar k) ρ) (fun d => d) (l := l) fun d _ => by
    simp [compS, hk]
  rw [this, List.map_id']
theorem fmod_rng {a b : Int} (h : 0 < b) : 0 ≤ a.fmod b ∧ a.fmod b < b := ⟨Int.fmod_nonneg_of_pos a h, Int.fmod_lt_of_pos a h⟩
theorem draws_app {c : Nat} {xs : List Int} (hx : IsDraws c xs) (x : Int) (h1 : 0 ≤ x) (h2 : x < 1000) : IsDraws (c + 1) (xs ++ [x]) := ⟨by simp [hx.len], fun y hy => by
  rcases List.mem_append.mp hy with h | h
  · exact hx.lo y h
  · simp at h; subst h; exact h1, fun y hy => by
  rcases List.mem_append.mp hy with h | h
  · exact hx.hi y h
  · simp at h; subst h; exact h2⟩
theorem draws_step {a b : SD} {rs xs : List Int} {j3 j5 j6 j7 j8 : SD} {i : Nat} (hi : i < 100000) (hrl : rs.length ≤ 63) (hrz : ∀ z ∈ rs, Sz 1048577 z) (hx : IsDraws i xs) :
    ∃ (rs' : List Int) (x : Int) (k5 k6 k7 k8 : SD), gTo (gSet 5) b__law_draws_1 (.int (i : Nat)) [a, b, .ow (rs.map .int), j3, .ow (xs.map .int), j5, j6, j7, j8] = .nx [a, b, .ow (rs'.map .int), j3, .ow ((xs ++ [x]).map .int), k5, k6, k7, k8] ∧ rs'.length = rs.length ∧ (∀ z ∈ rs', Sz 1048577 z) ∧ 0 ≤ x ∧ x < 1000 := by
  have hxl : xs.length < sizeLine := by rw [hx.len]; exact Nat.lt_of_lt_of_le hi (by decide)
  by_cases he : 0 < rs.length
  · have hne : (rs.length : Int) ≠ 0 := by omega
    obtain ⟨a1, a2⟩ := fmod_rng (a := ((i : Nat) : Int)) (b := rs.length) (by omega)
    generalize hk : (((i : Nat) : Int).fmod rs.length) = k at a1 a2
    have hm : modD (.int (i : Nat)) (.int rs.length) = some (.int k) := by rw [r_mod hne, hk]
    obtain ⟨v, hv⟩ : ∃ v, rs[k.toNat]? = some v := ⟨_, List.getElem?_eq_getElem (by omega)⟩
    have hvz : Sz 1048577 v := hrz v (List.mem_of_getElem? hv)
    by_cases hbig : 1000000000000000000 ≤ v
    · have hd : okDiv v 1000 = true := okDiv_lit (by decide) (by decide)
      have hix : ixN rs.length k = some k.toNat := by unfold ixN; rw [if_pos a1, if_pos a2]
      refine ⟨rs.set k.toNat (v.fdiv 1000), v.fmod 1000, .sh (.int (i : Nat)), .sh (.int (v.fmod 1000)), .sh (.int k), j8, ?_, by simp, fun z hz => ?_, (fmod_rng (by decide)).1, (fmod_rng (by decide)).2⟩
      · simp [b__law_draws_1, he, hm, a1, hv, hbig, hd, hix, hxl, okPow]
      · rcases List.mem_or_eq_of_mem_set hz with h | h
        · exact hrz z h
        · subst h; exact hvz.fdiv
    · have h1 : okMul v 48271 = true := okMul_of hvz (b := 100) (.lit (by decide)) (by decide)
      have hi2 : Sz 100 (i : Nat) := (Sz.lit (i := 100000) (a := 100) (by decide)).of_le (by omega)
      have h2 : okMul (i : Nat) 69621 = true := okMul_of hi2 (b := 100) (.lit (by decide)) (by decide)
      have h3 : okMul ((v * 48271 + (i : Nat) * 69621 + 11).fmod 2147483647) 16807 = true := by
        obtain ⟨b1, b2⟩ := fmod_rng (a := v * 48271 + (i : Nat) * 69621 + 11) (b := 2147483647) (by decide)
        exact okMul_of (a := 100) (b := 100) ((Sz.lit (i := 2147483647) (a := 100) (by decide)).of_le (by omega)) (.lit (by decide)) (by decide)
      have h4 : ∀ x : Int, okDiv x 7 = true := fun x => okDiv_lit (by decide) (by decide)
      exact ⟨rs, _, _, _, _, _, by simp [b__law_draws_1, he, hm, a1, hv, hbig, h1, h2, h3, h4, hxl, okPow]; exact ⟨rfl, rfl, rfl, rfl, rfl⟩, rfl, hrz, (fmod_rng (by decide)).1, (fmod_rng (by decide)).2⟩
  · have h0 : rs = [] := by cases rs with | nil => rfl | cons _ _ => simp at he
    subst h0
    exact ⟨[], 0, _, _, _, _, by simp [b__law_draws_1, hxl]; exact ⟨rfl, rfl, rfl, rfl⟩, rfl, hrz, by decide, by decide⟩
theorem draws_ok (ns : List Int) (hn : ns.length ≤ 63) (hb : ∀ z ∈ ns, Builtin.Int.intBits z ≤ 1048576) (z : Int) (c : Nat) (hz : z = c) (hc : c ≤ 100000) : ∃ xs : List Int, m__law_draws [.list (ns.map .int), .int z] = .ok (.ow (xs.map .int)) ∧ IsDraws c xs := by
  subst hz
  obtain ⟨ρ', e, hρ⟩ := forO_inv (F := gTo (gSet 5) b__law_draws_1) (l := rngL 0 1 c)
    (fun i ρ => ∃ rs xs : List Int, ∃ j3 j5 j6 j7 j8 : SD, ρ = [.sh (.list (ns.map .int)), .sh (.int c), .ow (rs.map .int), j3, .ow (xs.map .int), j5, j6, j7, j8] ∧ rs.length ≤ 63 ∧ (∀ z ∈ rs, Sz 1048577 z) ∧ IsDraws i xs)
    (ρ := [.sh (.list (ns.map .int)), .sh (.int c), .ow (ns.map .int), .no, .ow [], .no, .no, .no, .no])
    ⟨ns, [], _, _, _, _, _, rfl, hn, fun z hz => sz_bits (Nat.le_trans (hb z hz) (by decide)), ⟨rfl, by simp, by simp⟩⟩
    (fun i d ρ hd hi => by
      obtain ⟨hic, rfl⟩ := rng0_get hd
      obtain ⟨rs, xs, j3, j5, j6, j7, j8, rfl, hrl, hrz, hx⟩ := hi
      obtain ⟨rs', x, k5, k6, k7, k8, e, h1, h2, h3, h4⟩ := draws_step (a := .sh (.list (ns.map .int))) (b := .sh (.int c)) (j3 := j3) (j5 := j5) (j6 := j6) (j7 := j7) (j8 := j8) (Nat.lt_of_lt_of_le hic hc) hrl hrz hx
      exact ⟨_, .inl e, rs', xs ++ [x], _, _, _, _, _, rfl, by omega, h2, draws_app hx x h3 h4⟩)
  rw [rngL_length] at hρ
  obtain ⟨rs, xs, j3, j5, j6, j7, j8, rfl, _, _, hx⟩ := hρ
  refine ⟨xs, ?_, hx⟩
  simp [m__law_draws, c__law_draws, slB (Nat.le_trans hn (by decide)), range1_ok (x := (c : Nat)) (by omega) (by omega), idD_ok, e]
/-! ### gcd -/
theorem gcd_step {a b : Nat} {j2 j3 : SD} {d : D} (hb : b ≠ 0) : ∃ k2 k3, gTo (gSet 2) b__law_gcd_1 d [.sh (.int (a : Nat)), .sh (.int (b : Nat)), j2, j3] = .nx [.sh (.int (b : Nat)), .sh (.int ((a % b : Nat) : Int)), k2, k3] := by
  have hm : modD (.int (a : Nat)) (.int (b : Nat)) = some (.int ((a % b : Nat) : Int)) := by
    rw [r_mod (by omega)]; simp [Int.fmod_eq_emod_of_nonneg]
  have hz : ((b : Int) = 0) = False := by simp; exact hb
  exact ⟨_, _, by simp [b__law_gcd_1, hm, hb]; exact ⟨rfl, rfl⟩⟩
theorem gcd_halves {a b : Nat} (h : b ≤ a) (hb : b ≠ 0) : 2 * (b * (a % b)) ≤ a * b ∧ a % b ≤ b := by
  have h1 : a % b < b := Nat.mod_lt _ (by omega)
  have h2 : a % b + b ≤ a := by
    have e := Nat.div_add_mod a b
    have : 1 ≤ a / b := (Nat.one_le_div_iff (by omega)).mpr h
    have : b * 1 ≤ b * (a / b) := Nat.mul_le_mul_left b this
    omega
  refine ⟨?_, by omega⟩
  calc 2 * (b * (a % b)) = b * (2 * (a % b)) := by grind
    _ ≤ b * a := Nat.mul_le_mul_left b (by omega)
    _ = a * b := Nat.mul_comm _ _
theorem gcd_ok {a b : Int} (ha : Sz 1990 a) (hb : Sz 1990 b) : m__law_gcd [.int a, .int b] = .ok (.sh (.int (Nat.gcd a.natAbs b.natAbs : Nat))) := by
  have L := forO_gen (F := gTo (gSet 2) b__law_gcd_1) (l := rngL 0 1 4000) (fun o => ∃ c j1 j2 j3, o = .nx [.sh (.int (c : Nat)), j1, j2, j3] ∧ c = Nat.gcd a.natAbs b.natAbs)
    (fun i ρ => ∃ (x y : Nat) (j2 j3 : SD), ρ = [.sh (.int (x : Nat)), .sh (.int (y : Nat)), j2, j3] ∧ Nat.gcd x y = Nat.gcd a.natAbs b.natAbs ∧ ((i = 0 ∧ x * y * 2 < 2 ^ 4000) ∨ (x * y * 2 ^ i < 2 ^ 4000 ∧ y ≤ x)))
    (ρ := [.sh (.int (a.natAbs : Nat)), .sh (.int (b.natAbs : Nat)), .no, .no])
    ⟨_, _, _, _, rfl, rfl, .inl ⟨rfl, by
      have h1 := Nat.mul_lt_mul'' ha.lt hb.lt
      rw [← Nat.pow_add] at h1
      have h2 : (2 : Nat) ^ 4000 = 2 ^ (1990 + 1990) * 2 ^ 20 := by rw [← Nat.pow_add]
      rw [h2]
      have : (2 : Nat) ^ 20 = 1048576 := by decide
      rw [this]
      generalize (2 : Nat) ^ (1990 + 1990) = q at *
      omega⟩⟩
    (fun i d ρ hd hi => by
      obtain ⟨x, y, j2, j3, rfl, hg, hp⟩ := hi
      by_cases hy : y = 0
      · subst hy
        right; left
        refine ⟨_, by simp [b__law_gcd_1, -Out.bk.injEq]; rfl, x, _, _, _, rfl, by simpa using hg⟩
      · obtain ⟨k2, k3, e⟩ := gcd_step (a := x) (b := y) (j2 := j2) (j3 := j3) (d := d) hy
        left
        refine ⟨_, .inl e, y, x % y, k2, k3, rfl, by rw [← hg, Nat.gcd_comm x y, Nat.gcd_comm y (x % y), ← Nat.gcd_rec], .inr ?_⟩
        rcases hp with ⟨rfl, hp⟩ | ⟨hp, hl⟩
        · have : x % y < y := Nat.mod_lt _ (by omega)
          have h2 : x % y ≤ x := Nat.mod_le _ _
          refine ⟨Nat.lt_of_le_of_lt ?_ hp, by omega⟩
          calc y * (x % y) * 2 ^ (0 + 1) = y * (x % y) * 2 := by simp
            _ ≤ y * x * 2 := Nat.mul_le_mul_right 2 (Nat.mul_le_mul_left y h2)
            _ = x * y * 2 := by rw [Nat.mul_comm y x]
        · obtain ⟨h1, h2⟩ := gcd_halves hl hy
          refine ⟨Nat.lt_of_le_of_lt ?_ hp, h2⟩
          calc y * (x % y) * 2 ^ (i + 1) = 2 * (y * (x % y)) * 2 ^ i := by rw [Nat.pow_succ]; grind
            _ ≤ x * y * 2 ^ i := Nat.mul_le_mul_right _ h1)
    (fun ρ h => by
      obtain ⟨x, y, j2, j3, rfl, hg, hp⟩ := h
      rw [rngL_length] at hp
      rcases hp with ⟨h, _⟩ | ⟨hp, hl⟩
      · cases h
      · have h0 : x * y = 0 := by
          rcases Nat.eq_zero_or_pos (x * y) with h | h
          · exact h
          · have : 1 * 2 ^ 4000 ≤ x * y * 2 ^ 4000 := Nat.mul_le_mul_right _ h
            rw [Nat.one_mul] at this
            exact absurd hp (Nat.not_lt.mpr this)
        have hy : y = 0 := by
          rcases Nat.mul_eq_zero.mp h0 with h | h
          · omega
          · exact h
        subst hy
        exact ⟨x, _, _, _, rfl, by simpa using hg⟩)
  obtain ⟨c, j1, j2, j3, e, rfl⟩ := L
  have ea : ∀ a : Int, (if a < 0 then -a else a) = (a.natAbs : Int) := fun a => by split <;> omega
  have hr := range1_ok (x := 4000) (by decide) (by decide)
  simp [m__law_gcd, c__law_gcd, ea, hr, e]
/-! ### numbers -/
def qD (q : Int × Int) : D := .tuple [.int q.1, .int q.2]
def mkQ (n d : Int) : Int × Int := if d < 0 then ((-n).fdiv (Nat.gcd n.natAbs d.natAbs : Nat), (-d).fdiv (Nat.gcd n.natAbs d.natAbs : Nat)) else (n.fdiv (Nat.gcd n.natAbs d.natAbs : Nat), d.fdiv (Nat.gcd n.natAbs d.natAbs : Nat))
structure Nm (q : Int × Int) : Prop where
  pos : 1 ≤ q.2
  low : Nat.gcd q.1.natAbs q.2.natAbs = 1
theorem fdiv_of_dvd {a g : Int} (hg : g ∣ a) (h0 : g ≠ 0) : a.fdiv g * g = a := by
  obtain ⟨k, rfl⟩ := hg
  rw [Int.mul_fdiv_cancel_left k h0, Int.mul_comm]
theorem mkQ_key (x y : Int) (hp : 0 < y) : Nm (x.fdiv (Nat.gcd x.natAbs y.natAbs : Nat), y.fdiv (Nat.gcd x.natAbs y.natAbs : Nat)) ∧ x.fdiv (Nat.gcd x.natAbs y.natAbs : Nat) * y = x * y.fdiv (Nat.gcd x.natAbs y.natAbs : Nat) := by
  have hgp := Nat.gcd_pos_of_pos_right x.natAbs (show 0 < y.natAbs by omega)
  have hg0 : (Nat.gcd x.natAbs y.natAbs : Int) ≠ 0 := by omega
  have d1 : (Nat.gcd x.natAbs y.natAbs : Int) ∣ x := Int.ofNat_dvd_left.mpr (Nat.gcd_dvd_left _ _)
  have d2 : (Nat.gcd x.natAbs y.natAbs : Int) ∣ y := Int.ofNat_dvd_left.mpr (Nat.gcd_dvd_right _ _)
  have e1 := fdiv_of_dvd d1 hg0
  have e2 := fdiv_of_dvd d2 hg0
  generalize hu : x.fdiv (Nat.gcd x.natAbs y.natAbs : Nat) = u at *
  generalize hv : y.fdiv (Nat.gcd x.natAbs y.natAbs : Nat) = v at *
  generalize hg : Nat.gcd x.natAbs y.natAbs = g at *
  have hvp : 0 < v := by
    rcases Int.lt_or_le 0 v with h | h
    · exact h
    · have : v * g ≤ 0 := Int.mul_nonpos_of_nonpos_of_nonneg h (by omega)
      omega
  refine ⟨⟨hvp, ?_⟩, ?_⟩
  · have e3 : 1 * g = Nat.gcd u.natAbs v.natAbs * g := by
      rw [← Nat.gcd_mul_right]
      have a1 : u.natAbs * g = x.natAbs := by rw [← e1, Int.natAbs_mul]; rfl
      have a2 : v.natAbs * g = y.natAbs := by rw [← e2, Int.natAbs_mul]; rfl
      rw [a1, a2, hg, Nat.one_mul]
    exact (Nat.eq_of_mul_eq_mul_right hgp e3).symm
  · rw [← e1, ← e2]; grind
theorem mkQ_spec (n d : Int) (hd : d ≠ 0) : Nm (mkQ n d) ∧ (mkQ n d).1 * d = n * (mkQ n d).2 := by
  unfold mkQ
  by_cases h : d < 0
  · rw [if_pos h]
    obtain ⟨k1, k2⟩ := mkQ_key (-n) (-d) (by omega)
    rw [Int.natAbs_neg, Int.natAbs_neg] at k1 k2
    exact ⟨k1, by dsimp only at *; grind⟩
  · rw [if_neg h]
    exact mkQ_key n d (by omega)
theorem mkQ_nm {n d : Int} (hd : d ≠ 0) : Nm (mkQ n d) := (mkQ_spec n d hd).1
theorem mkQ_eq {n d : Int} (hd : d ≠ 0) : (mkQ n d).1 * d = n * (mkQ n d).2 := (mkQ_spec n d hd).2
theorem mkQ_sz1 {n d : Int} {k : Nat} (h : Sz k n) : Sz k (mkQ n d).1 := by
  unfold mkQ; split
  · exact (h.neg).fdiv
  · exact h.fdiv
theorem mkQ_sz2 {n d : Int} {k : Nat} (h : Sz k d) : Sz k (mkQ n d).2 := by
  unfold mkQ; split
  · exact (h.neg).fdiv
  · exact h.fdiv
/-- numbers in lowest terms are the same if they are equal -/
theorem Nm.uniq {p q : Int × Int} (hp : Nm p) (hq : Nm q) (h : p.1 * q.2 = q.1 * p.2) : p = q := by
  have h1 := hp.pos
  have h2 := hq.pos
  have a : p.2.natAbs ∣ q.2.natAbs := by
    have : p.2.natAbs ∣ p.1.natAbs * q.2.natAbs := by
      rw [← Int.natAbs_mul, h, Int.natAbs_mul]; exact ⟨q.1.natAbs, Nat.mul_comm _ _⟩
    exact (Nat.Coprime.dvd_of_dvd_mul_left (Nat.Coprime.symm hp.low) this)
  have b : q.2.natAbs ∣ p.2.natAbs := by
    have : q.2.natAbs ∣ q.1.natAbs * p.2.natAbs := by
      rw [← Int.natAbs_mul, ← h, Int.natAbs_mul]; exact ⟨p.1.natAbs, Nat.mul_comm _ _⟩
    exact (Nat.Coprime.dvd_of_dvd_mul_left (Nat.Coprime.symm hq.low) this)
  have e : p.2 = q.2 := by
    have := Nat.dvd_antisymm a b
    omega
  rw [e] at h
  have e1 : p.1 = q.1 := Int.eq_of_mul_eq_mul_right (by omega) h
  exact Prod.ext e1 e
theorem gcd_neg' (n d : Int) : Nat.gcd (-n).natAbs (-d).natAbs = Nat.gcd n.natAbs d.natAbs := by rw [Int.natAbs_neg, Int.natAbs_neg]
theorem gcd_sz {n d : Int} {k : Nat} (h : Sz k d) (hd : d ≠ 0) : Sz k (Nat.gcd n.natAbs d.natAbs : Nat) := h.of_le (by
  have := Nat.le_of_dvd (by omega) (Nat.gcd_dvd_right n.natAbs d.natAbs)
  omega)
theorem gcd_ne {n d : Int} (hd : d ≠ 0) : (Nat.gcd n.natAbs d.natAbs : Int) ≠ 0 := by
  have := Nat.gcd_pos_of_pos_right n.natAbs (show 0 < d.natAbs by omega)
  omega
theorem okDiv_gcd {n d : Int} (h : Sz 9000 d) (hd : d ≠ 0) (x : Int) : okDiv x (Nat.gcd n.natAbs d.natAbs : Nat) = true := okDiv_of (gcd_sz h hd) (gcd_ne hd)
theorem s2 : (2 : Nat) ≤ sizeLine := by decide
theorem number_ok {n d : Int} (h2 : Sz 9000 d) (hd : d ≠ 0) : m_number [.int n, .int d] = .ok (.sh (qD (mkQ n d))) := by
  have o := okDiv_gcd (n := n) h2 hd
  by_cases h : d < 0
  · simp [m_number, c_number, h, o, s2, qD, mkQ]
  · simp [m_number, c_number, h, o, s2, qD, mkQ]
theorem lnumber_ok {n d : Int} (h1 : Sz 1990 n) (h2 : Sz 1990 d) (hd : d ≠ 0) : m__law_number [.int n, .int d] = .ok (.sh (qD (mkQ n d))) := by
  have o := okDiv_gcd (n := n) (h2.mono (by decide)) hd
  by_cases h : d < 0
  · have e := gcd_ok h1.neg h2.neg
    rw [gcd_neg'] at e
    simp [m__law_number, c__law_number, h, o, s2, qD, mkQ, e]
  · have e := gcd_ok h1 h2
    simp [m__law_number, c__law_number, h, o, s2, qD, mkQ, e]
@[simp] theorem ix_q0 (q : Int × Int) : ixD (qD q) (.int 0) = some (.int q.1) := by simp [qD]
@[simp] theorem ix_q1 (q : Int × Int) : ixD (qD q) (.int 1) = some (.int q.2) := by simp [qD]
@[simp] theorem okD_q (n : Nat) (q : Int × Int) : okD (n + 1) (qD q) = true := by simp [qD]
/-- a number within 2^k -/
structure Nk (k : Nat) (q : Int × Int) : Prop where
  nm : Nm q
  s1 : Sz k q.1
  s2 : Sz k q.2
theorem Nk.mono {k l : Nat} {q : Int × Int} (h : Nk k q) (e : k ≤ l) : Nk l q := ⟨h.nm, h.s1.mono e, h.s2.mono e⟩
theorem Nk.ne {k : Nat} {q : Int × Int} (h : Nk k q) : q.2 ≠ 0 := by have := h.nm.pos; omega
theorem mkQ_nk {n d : Int} {k : Nat} (hd : d ≠ 0) (h1 : Sz k n) (h2 : Sz k d) : Nk k (mkQ n d) := ⟨mkQ_nm hd, mkQ_sz1 h1, mkQ_sz2 h2⟩
def addQ (p q : Int × Int) : Int × Int := mkQ (p.1 * q.2 + q.1 * p.2) (p.2 * q.2)
def mulQ (p q : Int × Int) : Int × Int := mkQ (p.1 * q.1) (p.2 * q.2)
def subQ (p q : Int × Int) : Int × Int := mkQ (p.1 * q.2 - q.1 * p.2) (p.2 * q.2)
def divQ (p q : Int × Int) : Int × Int := mkQ (p.1 * q.2) (p.2 * q.1)
def negQ (p : Int × Int) : Int × Int := (-p.1, p.2)
theorem Nm.neg {p : Int × Int} (h : Nm p) : Nm (negQ p) := ⟨h.pos, by show Nat.gcd (-p.1).natAbs _ = 1; rw [Int.natAbs_neg]; exact h.low⟩
section
variable {p q : Int × Int} {k l : Nat}
theorem Nk.neg (h : Nk k p) : Nk k (negQ p) := ⟨h.nm.neg, h.s1.neg, h.s2⟩
theorem Nk.mulne (hp : Nk k p) (hq : Nk l q) : p.2 * q.2 ≠ 0 := Int.mul_ne_zero hp.ne hq.ne
theorem Nk.add (hp : Nk k p) (hq : Nk l q) : Nk (k + l + 1) (addQ p q) := mkQ_nk (hp.mulne hq) ((hp.s1.mul hq.s2).add (Nat.add_comm l k ▸ hq.s1.mul hp.s2)) ((hp.s2.mul hq.s2).mono (by omega))
theorem Nk.sub (hp : Nk k p) (hq : Nk l q) : Nk (k + l + 1) (subQ p q) := mkQ_nk (hp.mulne hq) ((hp.s1.mul hq.s2).sub (Nat.add_comm l k ▸ hq.s1.mul hp.s2)) ((hp.s2.mul hq.s2).mono (by omega))
theorem Nk.mul (hp : Nk k p) (hq : Nk l q) : Nk (k + l) (mulQ p q) := mkQ_nk (hp.mulne hq) (hp.s1.mul hq.s1) (hp.s2.mul hq.s2)
theorem Nk.div (hp : Nk k p) (hq : Nk l q) (h0 : q.1 ≠ 0) : Nk (k + l) (divQ p q) := mkQ_nk (Int.mul_ne_zero hp.ne h0) (hp.s1.mul hq.s2) (hp.s2.mul hq.s1)
theorem plus_ok (hp : Nk k p) (hq : Nk l q) (e : k + l ≤ 8000) : m_plus [qD p, qD q] = .ok (.sh (qD (addQ p q))) := by
  have o1 := okMul_of hp.s1 hq.s2 (by omega)
  have o2 := okMul_of hq.s1 hp.s2 (by omega)
  have o3 := okMul_of hp.s2 hq.s2 (by omega)
  have n := number_ok (n := p.1 * q.2 + q.1 * p.2) ((hp.s2.mul hq.s2).mono (show _ ≤ 9000 by omega)) (hp.mulne hq)
  simp [m_plus, c_plus, o1, o2, o3, n, addQ]
theorem minus_ok (hp : Nk k p) (hq : Nk l q) (e : k + l ≤ 8000) : m_minus [qD p, qD q] = .ok (.sh (qD (subQ p q))) := by
  have o1 := okMul_of hp.s1 hq.s2 (by omega)
  have o2 := okMul_of hq.s1 hp.s2 (by omega)
  have o3 := okMul_of hp.s2 hq.s2 (by omega)
  have n := number_ok (n := p.1 * q.2 - q.1 * p.2) ((hp.s2.mul hq.s2).mono (show _ ≤ 9000 by omega)) (hp.mulne hq)
  simp [m_minus, c_minus, o1, o2, o3, n, subQ]
theorem times_ok (hp : Nk k p) (hq : Nk l q) (e : k + l ≤ 8000) : m_times [qD p, qD q] = .ok (.sh (qD (mulQ p q))) := by
  have o1 := okMul_of hp.s1 hq.s1 (by omega)
  have o3 := okMul_of hp.s2 hq.s2 (by omega)
  have n := number_ok (n := p.1 * q.1) ((hp.s2.mul hq.s2).mono (show _ ≤ 9000 by omega)) (hp.mulne hq)
  simp [m_times, c_times, o1, o3, n, mulQ]
theorem divided_ok (hp : Nk k p) (hq : Nk l q) (h0 : q.1 ≠ 0) (e : k + l ≤ 8000) : m_divided [qD p, qD q] = .ok (.sh (qD (divQ p q))) := by
  have o1 := okMul_of hp.s1 hq.s2 (by omega)
  have o3 := okMul_of hp.s2 hq.s1 (by omega)
  have n := number_ok (n := p.1 * q.2) ((hp.s2.mul hq.s1).mono (show _ ≤ 9000 by omega)) (Int.mul_ne_zero hp.ne h0)
  simp [m_divided, c_divided, o1, o3, n, divQ]
theorem lplus_ok (hp : Nk k p) (hq : Nk l q) (e : k + l ≤ 1900) : m__law_plus [qD p, qD q] = .ok (.sh (qD (addQ p q))) := by
  have o1 := okMul_of hp.s1 hq.s2 (by omega)
  have o2 := okMul_of hq.s1 hp.s2 (by omega)
  have o3 := okMul_of hp.s2 hq.s2 (by omega)
  have n := lnumber_ok (((hp.s1.mul hq.s2).add (Nat.add_comm l k ▸ hq.s1.mul hp.s2)).mono (by omega)) ((hp.s2.mul hq.s2).mono (by omega)) (hp.mulne hq)
  simp [m__law_plus, c__law_plus, o1, o2, o3, n, addQ]
theorem ltimes_ok (hp : Nk k p) (hq : Nk l q) (e : k + l ≤ 1900) : m__law_times [qD p, qD q] = .ok (.sh (qD (mulQ p q))) := by
  have o1 := okMul_of hp.s1 hq.s1 (by omega)
  have o3 := okMul_of hp.s2 hq.s2 (by omega)
  have n := lnumber_ok ((hp.s1.mul hq.s1).mono (by omega)) ((hp.s2.mul hq.s2).mono (by omega)) (hp.mulne hq)
  simp [m__law_times, c__law_times, o1, o3, n, mulQ]
/-- the sign of the difference -/
def cmpQ (p q : Int × Int) : Int := if p.1 * q.2 < q.1 * p.2 then -1 else if q.1 * p.2 < p.1 * q.2 then 1 else 0
theorem compare_ok (hp : Nk k p) (hq : Nk l q) (e : k + l ≤ 8000) : m_compare [qD p, qD q] = .ok (.sh (.int (cmpQ p q))) := by
  have o1 := okMul_of hp.s1 hq.s2 (by omega)
  have o2 := okMul_of hq.s1 hp.s2 (by omega)
  unfold cmpQ
  by_cases h : p.1 * q.2 < q.1 * p.2
  · simp [m_compare, c_compare, o1, o2, h]
  · by_cases h' : q.1 * p.2 < p.1 * q.2
    · simp [m_compare, c_compare, o1, o2, h, h']
    · simp [m_compare, c_compare, o1, o2, h, h']
theorem lless_ok (hp : Nk k p) (hq : Nk l q) (e : k + l ≤ 8000) : m__law_less [qD p, qD q] = .ok (.sh (.bool (decide (p.1 * q.2 < q.1 * p.2)))) := by
  have o1 := okMul_of hp.s1 hq.s2 (by omega)
  have o2 := okMul_of hq.s1 hp.s2 (by omega)
  simp [m__law_less, c__law_less, o1, o2]
theorem lorder_ok (hp : Nk k p) (hq : Nk l q) (e : k + l ≤ 8000) : m__law_order [qD p, qD q] = .ok (.sh (.int (cmpQ p q))) := by
  have o1 := lless_ok hp hq e
  have o2 := lless_ok hq hp (by omega)
  unfold cmpQ
  by_cases h : p.1 * q.2 < q.1 * p.2
  · simp [m__law_order, c__law_order, o1, o2, h]
  · by_cases h' : q.1 * p.2 < p.1 * q.2
    · simp [m__law_order, c__law_order, o1, o2, h, h']
    · simp [m__law_order, c__law_order, o1, o2, h, h']
end

/-! ### looks at numbers -/
theorem is_number_ok {q : Int × Int} (h : Nk 1990 q) : m__law_is_number [qD q] = .ok (.sh (.bool true)) := by
  have g := gcd_ok h.s1 h.s2
  rw [h.nm.low] at g
  have hp : 1 ≤ q.2 := h.nm.pos
  have e : forO (gTo (gSet 1) b__law_is_number_1) [.int q.1, .int q.2] [.sh (qD q), .no] = .nx [.sh (qD q), .sh (.int q.2)] := by
    simp [forO, b__law_is_number_1]
  unfold qD at e ⊢
  simp [m__law_is_number, c__law_is_number, e, g, hp]
theorem is_numbers_ok {qs : List (Int × Int)} (hl : qs.length ≤ 100000) (h : ∀ q ∈ qs, Nk 1990 q) : m__law_is_numbers [.list (qs.map qD)] = .ok (.sh (.bool true)) := by
  have e : compR (compS [1] (gSet 1) (cst true) (eCall m__law_is_number (eCons (eVar 1) (cst []))) [.sh (.list (qs.map qD)), .no]) (qs.map qD) = .ok ((qs.map qD).map fun _ => .bool true) :=
    compR_map _ fun d hd => by
      obtain ⟨q, hq, rfl⟩ := List.mem_map.mp hd
      simp [compS, is_number_ok (h q hq)]
  have e2 : blsD ((qs.map qD).map fun _ => .bool true) = some (qs.map fun _ => true) := by
    have := blsD_map (qs.map fun _ => true)
    rw [List.map_map] at this ⊢
    exact this
  simp only [List.map_map] at e e2
  simp [m__law_is_numbers, c__law_is_numbers, e, e2, slB hl]
def sumQ (qs : List (Int × Int)) : Int × Int := qs.foldl addQ (0, 1)
theorem nk01 : Nk 1 (0, 1) := ⟨⟨by decide, by decide⟩, .lit (by decide), .lit (by decide)⟩
theorem fold_map {α τ : Type} (F : α → D) (g : τ → α → τ) (step : τ → D → τ) (h : ∀ s a, step s (F a) = g s a) : ∀ (l : List α) (s : τ), (l.map F).foldl step s = l.foldl g s
  | [], _ => rfl
  | a :: l, s => by simp [h, fold_map F g step h l]
theorem total_loop {qs : List (Int × Int)} {K : Nat} (hq : ∀ q ∈ qs, Nk K q) (hl : (K + 1) * qs.length ≤ 1000) (hk : K ≤ 100) (x : SD) :
    ∃ j, forO (gTo (gSet 2) b_total_1) (qs.map qD) [x, .sh (qD (0, 1)), .no] = .nx [x, .sh (qD (sumQ qs)), j] := by
  have go : ∀ (qs : List (Int × Int)) (s : Int × Int) (n : Nat) (j : SD), (∀ q ∈ qs, Nk K q) → Nk n s → n + (K + 1) * qs.length ≤ 1001 → ∃ j', forO (gTo (gSet 2) b_total_1) (qs.map qD) [x, .sh (qD s), j] = .nx [x, .sh (qD (qs.foldl addQ s)), j'] := by
    intro qs
    induction qs with
    | nil => exact fun s n j _ _ _ => ⟨j, rfl⟩
    | cons q qs ih =>
      intro s n j hq hs hn
      rw [List.length_cons, Nat.mul_add] at hn
      have e : gTo (gSet 2) b_total_1 (qD q) [x, .sh (qD s), j] = .nx [x, .sh (qD (addQ s q)), .sh (qD q)] := by
        simp [b_total_1, plus_ok hs (hq q (by simp)) (by omega)]
      obtain ⟨j', ih'⟩ := ih (addQ s q) (n + K + 1) (.sh (qD q)) (fun q h => hq q (by simp [h])) (hs.add (hq q (by simp))) (by omega)
      refine ⟨j', ?_⟩
      rw [List.map_cons]
      unfold forO
      rw [e]
      exact ih'
  exact go qs (0, 1) 1 .no hq nk01 (by omega)
theorem ltotal_loop {qs : List (Int × Int)} {K : Nat} (hq : ∀ q ∈ qs, Nk K q) (hl : (K + 1) * qs.length ≤ 1000) (hk : K ≤ 100) (x : SD) :
    ∃ j, forO (gTo (gSet 2) b__law_total_1) (qs.map qD) [x, .sh (qD (0, 1)), .no] = .nx [x, .sh (qD (sumQ qs)), j] := by
  have go : ∀ (qs : List (Int × Int)) (s : Int × Int) (n : Nat) (j : SD), (∀ q ∈ qs, Nk K q) → Nk n s → n + (K + 1) * qs.length ≤ 1001 → ∃ j', forO (gTo (gSet 2) b__law_total_1) (qs.map qD) [x, .sh (qD s), j] = .nx [x, .sh (qD (qs.foldl addQ s)), j'] := by
    intro qs
    induction qs with
    | nil => exact fun s n j _ _ _ => ⟨j, rfl⟩
    | cons q qs ih =>
      intro s n j hq hs hn
      rw [List.length_cons, Nat.mul_add] at hn
      have e : gTo (gSet 2) b__law_total_1 (qD q) [x, .sh (qD s), j] = .nx [x, .sh (qD (addQ s q)), .sh (qD q)] := by
        simp [b__law_total_1, lplus_ok hs (hq q (by simp)) (by omega)]
      obtain ⟨j', ih'⟩ := ih (addQ s q) (n + K + 1) (.sh (qD q)) (fun q h => hq q (by simp [h])) (hs.add (hq q (by simp))) (by omega)
      refine ⟨j', ?_⟩
      rw [List.map_cons]
      unfold forO
      rw [e]
      exact ih'
  exact go qs (0, 1) 1 .no hq nk01 (by omega)
theorem q01 : (.tuple [.int 0, .int 1] : D) = qD (0, 1) := rfl
theorem total_ok {qs : List (Int × Int)} {K : Nat} (hq : ∀ q ∈ qs, Nk K q) (hl : (K + 1) * qs.length ≤ 1000) (hk : K ≤ 100) : m_total [.list (qs.map qD)] = .ok (.sh (qD (sumQ qs))) := by
  obtain ⟨j, e⟩ := total_loop hq hl hk (.sh (.list (qs.map qD)))
  simp [m_total, c_total, e, q01]
theorem ltotal_ok {qs : List (Int × Int)} {K : Nat} (hq : ∀ q ∈ qs, Nk K q) (hl : (K + 1) * qs.length ≤ 1000) (hk : K ≤ 100) : m__law_total [.list (qs.map qD)] = .ok (.sh (qD (sumQ qs))) := by
  obtain ⟨j, e⟩ := ltotal_loop hq hl hk (.sh (.list (qs.map qD)))
  simp [m__law_total, c__law_total, e, q01]
end W

set_option Elab.async false
set_option linter.all false
set_option maxRecDepth 100000
set_option autoImplicit false
namespace W
open PySem PySem.Spec PyProof.Rows L2 VL
noncomputable def b__law_trim_1 : Ev → Out := sSeq (sIf (e1 bOf (e2 neD (e2 ixD (eOwn 0) (e1 negD (cst (.int 1)))) (cst (.int 0)))) (.bk) (sNil)) (sPopX 0)
noncomputable def c__law_trim : Ev → Out := sSeq (sSetO 0 (e1 listO (eCons (eOwn 0) (cst [])))) (sSeq (sFor (e1 range1D (eCons (e1 lenD (eCons (eOwn 0) (cst []))) (cst []))) (gSet 1) b__law_trim_1) (sRetV 0))
noncomputable def m__law_trim : List D → R SD := runD 1 2 c__law_trim
noncomputable def b_trimmed_1 : Ev → Out := sAug 1 subD (cst (.int 1))
noncomputable def c_trimmed : Ev → Out := sSeq (sSet 1 (e1 lenD (eCons (eOwn 0) (cst [])))) (sSeq (sWhile (eAnd (e1 bOf (e2 gtD (eOwn 1) (cst (.int 0)))) (e1 bOf (e2 eqD (e2 ixD (eOwn 0) (e2 subD (eOwn 1) (cst (.int 1)))) (cst (.int 0))))) b_trimmed_1) (sRet (e3 sliceD (eOwn 0) (pNo) (e1 intOf (eVar 1)))))
noncomputable def m_trimmed : List D → R SD := runD 1 2 c_trimmed
noncomputable def c_coefficient_of : Ev → Out := sRet (eIf (e1 bOf (e2 ltD (eOwn 1) (e1 lenD (eCons (eOwn 0) (cst []))))) (e2 ixD (eOwn 0) (eOwn 1)) (cst (.int 0)))
noncomputable def m_coefficient_of : List D → R SD := runD 2 2 c_coefficient_of
noncomputable def c_add : Ev → Out := sSeq (sSet 2 (e1 maxD (eCons (e1 lenD (eCons (eOwn 0) (cst []))) (eCons (e1 lenD (eCons (eOwn 1) (cst []))) (cst []))))) (sRet (eCall m_trimmed (eCons (eLst (eComp [3] (e1 range1D (eCons (eOwn 2) (cst []))) (gSet 3) (cst true) (e2 addD (eCall m_coefficient_of (eCons (eVar 0) (eCons (eVar 3) (cst [])))) (eCall m_coefficient_of (eCons (eVar 1) (eCons (eVar 3) (cst []))))))) (cst []))))
noncomputable def m_add : List D → R SD := runD 2 4 c_add
noncomputable def c_scale : Ev → Out := sRet (eCall m_trimmed (eCons (eLst (eComp [2] (e1 seqD (eVar 0)) (gSet 2) (cst true) (e2 mulD (eOwn 2) (eOwn 1)))) (cst [])))
noncomputable def m_scale : List D → R SD := runD 2 3 c_scale
noncomputable def c_subtract : Ev → Out := sRet (eCall m_add (eCons (eVar 0) (eCons (eCall m_scale (eCons (eVar 1) (eCons (e1 negD (cst (.int 1))) (cst [])))) (cst []))))
noncomputable def m_subtract : List D → R SD := runD 2 2 c_subtract
noncomputable def b_multiply_1 : Ev → Out := sAugIx 2 iaddD (e2 addD (eOwn 3) (eOwn 5)) (e2 mulD (eOwn 4) (eOwn 6))
noncomputable def b_multiply_2 : Ev → Out := sFor (e1 enuD (eCons (eVar 1) (cst []))) (gTupD 2 (gsCons (gSet 5) (gsCons (gSet 6) (gsNil)))) b_multiply_1
noncomputable def c_multiply : Ev → Out := sSeq (sIf (eOr (eNot (e1 truD (eOwn 0))) (eNot (e1 truD (eOwn 1)))) (sRetO (e1 lim (cst []))) (sNil)) (sSeq (sSetO 2 (e2 mulO (eLst (e1 lim (eCons (cst (.int 0)) (cst [])))) (e2 subD (e2 addD (e1 lenD (eCons (eOwn 0) (cst []))) (e1 lenD (eCons (eOwn 1) (cst [])))) (cst (.int 1))))) (sSeq (sFor (e1 enuD (eCons (eVar 0) (cst []))) (gTupD 2 (gsCons (gSet 3) (gsCons (gSet 4) (gsNil)))) b_multiply_2) (sRetV 2)))
noncomputable def m_multiply : List D → R SD := runD 2 7 c_multiply
noncomputable def b_product_1 : Ev → Out := sSet 1 (eCall m_multiply (eCons (eVar 1) (eCons (eVar 2) (cst []))))
noncomputable def c_product : Ev → Out := sSeq (sSet 1 (eLst (e1 lim (eCons (cst (.int 1)) (cst []))))) (sSeq (sFor (e1 seqD (eVar 0)) (gSet 2) b_product_1) (sRet (eVar 1)))
noncomputable def m_product : List D → R SD := runD 1 3 c_product
noncomputable def c_derivative : Ev → Out := sRetO (eComp [1] (e1 range2D (eCons (cst (.int 1)) (eCons (e1 lenD (eCons (eOwn 0) (cst []))) (cst [])))) (gSet 1) (cst true) (e2 mulD (e2 ixD (eOwn 0) (eOwn 1)) (eOwn 1)))
noncomputable def m_derivative : List D → R SD := runD 1 2 c_derivative
noncomputable def b__law_add_1 : Ev → Out := sStore 3 (eVar 4) (e2 addD (e2 ixD (eOwn 3) (eOwn 4)) (e2 ixD (eOwn 0) (eOwn 4)))
noncomputable def b__law_add_2 : Ev → Out := sStore 3 (eVar 4) (e2 addD (e2 ixD (eOwn 3) (eOwn 4)) (e2 ixD (eOwn 1) (eOwn 4)))
noncomputable def c__law_add : Ev → Out := sSeq (sSet 2 (e1 maxD (eCons (e1 lenD (eCons (eOwn 0) (cst []))) (eCons (e1 lenD (eCons (eOwn 1) (cst []))) (cst []))))) (sSeq (sSetO 3 (e2 mulO (eLst (e1 lim (eCons (cst (.int 0)) (cst [])))) (eOwn 2))) (sSeq (sFor (e1 range1D (eCons (e1 lenD (eCons (eOwn 0) (cst []))) (cst []))) (gSet 4) b__law_add_1) (sSeq (sFor (e1 range1D (eCons (e1 lenD (eCons (eOwn 1) (cst []))) (cst []))) (gSet 4) b__law_add_2) (sFz 3 (sRetO (eCallO m__law_trim (eCons (eVar 3) (cst []))))))))
noncomputable def m__law_add : List D → R SD := runD 2 5 c__law_add
noncomputable def b__law_multiply_1 : Ev → Out := sStore 2 (e2 addD (eOwn 3) (eOwn 4)) (e2 addD (e2 ixD (eOwn 2) (e2 addD (eOwn 3) (eOwn 4))) (e2 mulD (e2 ixD (eOwn 0) (eOwn 3)) (e2 ixD (eOwn 1) (eOwn 4))))
noncomputable def b__law_multiply_2 : Ev → Out := sFor (e1 range1D (eCons (e1 lenD (eCons (eOwn 1) (cst []))) (cst []))) (gSet 4) b__law_multiply_1
noncomputable def c__law_multiply : Ev → Out := sSeq (sSetO 2 (e2 mulO (eLst (e1 lim (eCons (cst (.int 0)) (cst [])))) (e2 addD (e2 addD (e1 lenD (eCons (eOwn 0) (cst []))) (e1 lenD (eCons (eOwn 1) (cst [])))) (cst (.int 1))))) (sSeq (sFor (e1 range1D (eCons (e1 lenD (eCons (eOwn 0) (cst []))) (cst []))) (gSet 3) b__law_multiply_2) (sFz 2 (sRetO (eCallO m__law_trim (eCons (eVar 2) (cst []))))))
noncomputable def m__law_multiply : List D → R SD := runD 2 5 c__law_multiply
noncomputable def c__law_times_number : Ev → Out := sRetO (eCallO m__law_trim (eCons (eLst (eComp [2] (e1 seqD (eVar 0)) (gSet 2) (cst true) (e2 mulD (eOwn 2) (eOwn 1)))) (cst [])))
noncomputable def m__law_times_number : List D → R SD := runD 2 3 c__law_times_number
noncomputable def b_value_at_1 : Ev → Out := sSet 2 (eCall m_plus (eCons (eCall m_times (eCons (eVar 2) (eCons (eVar 1) (cst [])))) (eCons (e1 tupD (eCons (eVar 3) (eCons (cst (.int 1)) (cst [])))) (cst []))))
noncomputable def c_value_at : Ev → Out := sSeq (sSet 2 (cst (.tuple [(.int 0), (.int 1)]))) (sSeq (sFor (e1 seqD (eLst (e1 revO (eOwn 0)))) (gSet 3) b_value_at_1) (sRet (eVar 2)))
noncomputable def m_value_at : List D → R SD := runD 2 4 c_value_at
noncomputable def b__law_at_1 : Ev → Out := sSet 2 (eCall m__law_plus (eCons (eCall m__law_times (eCons (eVar 2) (eCons (eVar 1) (cst [])))) (eCons (e1 tupD (eCons (e2 ixD (eOwn 0) (e2 subD (e2 subD (e1 lenD (eCons (eOwn 0) (cst []))) (cst (.int 1))) (eOwn 3))) (eCons (cst (.int 1)) (cst [])))) (cst []))))
noncomputable def c__law_at : Ev → Out := sSeq (sSet 2 (e1 tupD (eCons (cst (.int 0)) (eCons (cst (.int 1)) (cst []))))) (sSeq (sFor (e1 range1D (eCons (e1 lenD (eCons (eOwn 0) (cst []))) (cst []))) (gSet 3) b__law_at_1) (sRet (eVar 2)))
noncomputable def m__law_at : List D → R SD := runD 2 4 c__law_at
noncomputable def b__law_is_polynomial_1 : Ev → Out := sIf (eOr (eNot (e1 truD (e1 (isiD "int") (eOwn 1)))) (e1 truD (e1 (isiD "bool") (eOwn 1)))) (sRet (cst (.bool false))) (sNil)
noncomputable def c__law_is_polynomial : Ev → Out := sSeq (sIf (eNot (e1 truD (e1 (isiD "list") (eOwn 0)))) (sRet (cst (.bool false))) (sNil)) (sSeq (sFor (e1 seqD (eVar 0)) (gSet 1) b__law_is_polynomial_1) (sRet (eOrV (e2 eqD (e1 lenD (eCons (eOwn 0) (cst []))) (cst (.int 0))) (e2 neD (e2 ixD (eOwn 0) (e1 negD (cst (.int 1)))) (cst (.int 0))))))
noncomputable def m__law_is_polynomial : List D → R SD := runD 1 2 c__law_is_polynomial

/-! ### lists of whole numbers as data -/
def pD (l : List Int) : D := .list (l.map .int)
@[simp] theorem pD_fold (l : List Int) : PyData.list (List.map .int l) = pD l := rfl
theorem pD_nil : PyData.list [] = pD [] := rfl
theorem pD_one (a : Int) : PyData.list [.int a] = pD [a] := rfl
@[simp] theorem p_len (l : List Int) : lenD [pD l] = some (.int l.length) := by unfold pD; rw [r_len_l, List.length_map]
@[simp] theorem p_tru (l : List Int) : truD (pD l) = some (!l.isEmpty) := by unfold pD; rw [r_tru_l]; cases l <;> rfl
@[simp] theorem p_seq (l : List Int) : seqD (pD l) = some (l.map .int) := id rfl
@[simp] theorem p_listO (l : List Int) : listO [pD l] = some (l.map .int) := id rfl
@[simp] theorem p_rev (l : List Int) : revO (pD l) = some (l.reverse.map .int) := by unfold pD; rw [r_revO, List.map_reverse]
@[simp] theorem p_isi (n : String) (l : List Int) : isiD n (pD l) = (kitB "list" n).map .bool := id rfl
@[simp] theorem p_okD (n : Nat) (l : List Int) : okD (n + 1) (pD l) = true := okL_ints n l
@[simp] theorem p_enu (l : List Int) : enuD [pD l] = some (enuL (l.map .int)) := id rfl
theorem p_ix {l : List Int} {x : Int} (h : 0 ≤ x) : ixD (pD l) (.int x) = (l[x.toNat]?).map .int := by unfold pD; rw [r_ix_l, r_atI h, List.getElem?_map]
theorem p_ixn (l : List Int) (n : Nat) : ixD (pD l) (.int (n : Int)) = (l[n]?).map .int := by rw [p_ix (by omega)]; simp
theorem p_ne {a b : List Int} : neD (pD a) (pD b) = some (.bool (!decide (a = b))) := by
  rw [r_neD (by simp) (by simp)]
  congr 3
  show PyData.eqvAll (a.map .int) (b.map .int) = _
  induction a generalizing b with
  | nil => cases b <;> simp [PyData.eqvAll]
  | cons x a ih =>
    cases b with
    | nil => simp [PyData.eqvAll]
    | cons y b => simp only [List.map_cons, PyData.eqvAll, PyData.eqv, ih, List.cons.injEq]; by_cases e : x = y <;> by_cases e' : a = b <;> simp [e, e']
theorem p_eq {a b : List Int} : eqD (pD a) (pD b) = some (.bool (decide (a = b))) := by
  have h := p_ne (a := a) (b := b)
  rw [r_neD (by simp) (by simp)] at h
  rw [r_eqD (by simp) (by simp)]
  simp only [Option.some.injEq, PyData.bool.injEq] at h ⊢
  cases h1 : PyData.eqv (pD a) (pD b) <;> cases h2 : decide (a = b) <;> simp_all
def cutI (l : List Int) (lo hi : Option Int) : List Int := (l.drop (HT.sIx l.length 0 lo)).take (HT.sIx l.length l.length hi - HT.sIx l.length 0 lo)
@[simp] theorem p_slice (l : List Int) (o o' : Option Int) : sliceD (pD l) o o' = some (pD (cutI l o o')) := by unfold pD; rw [r_slice, cut_map]; rfl
@[simp] theorem p_sliceO (l : List Int) (o o' : Option Int) : sliceO (pD l) o o' = some ((cutI l o o').map .int) := by unfold pD; rw [r_sliceO, cut_map]; rfl
theorem cutI_to (l : List Int) (n : Nat) (h : n ≤ l.length) : cutI l none (some (n : Int)) = l.take n := by
  unfold cutI; rw [HT.sIx_none, sIx_in (by omega) (by omega)]; simp

/-! ### coefficients -/
def cf (l : List Int) (k : Nat) : Int := l.getD k 0
@[simp] theorem cf_nil (k : Nat) : cf [] k = 0 := by simp [cf]
@[simp] theorem cf_zero (a : Int) (l : List Int) : cf (a :: l) 0 = a := rfl
@[simp] theorem cf_succ (a : Int) (l : List Int) (k : Nat) : cf (a :: l) (k + 1) = cf l k := rfl
theorem cf_get {l : List Int} {k : Nat} (h : k < l.length) : l[k]? = some (cf l k) := by
  unfold cf; rw [List.getD_eq_getElem?_getD, List.getElem?_eq_getElem h]; rfl
@[simp] theorem cf_elem {l : List Int} {k : Nat} (h : k < l.length) : l[k] = cf l k := by
  have := List.getElem?_eq_getElem h
  rw [cf_get h] at this
  exact (Option.some.inj this).symm
theorem cf_out {l : List Int} {k : Nat} (h : l.length ≤ k) : cf l k = 0 := by
  unfold cf; rw [List.getD_eq_getElem?_getD, List.getElem?_eq_none h]; rfl
theorem cf_take (l : List Int) (n k : Nat) : cf (l.take n) k = if k < n then cf l k else 0 := by
  unfold cf
  rw [List.getD_eq_getElem?_getD, List.getD_eq_getElem?_getD, List.getElem?_take]
  split <;> rfl
theorem cf_mem {l : List Int} {k : Nat} (h : k < l.length) : cf l k ∈ l := List.mem_of_getElem? (cf_get h)
theorem cf_all {l : List Int} {Q : Int → Prop} (h : ∀ c ∈ l, Q c) (h0 : Q 0) (k : Nat) : Q (cf l k) := by
  by_cases e : k < l.length
  · exact h _ (cf_mem e)
  · rw [cf_out (by omega)]; exact h0
/-- the first n values -/
def fl (n : Nat) (φ : Nat → Int) : List Int := (List.range n).map φ
@[simp] theorem fl_length (n : Nat) (φ : Nat → Int) : (fl n φ).length = n := by simp [fl]
theorem cf_fl (n : Nat) (φ : Nat → Int) (k : Nat) : cf (fl n φ) k = if k < n then φ k else 0 := by
  split
  · rename_i h
    have := cf_get (l := fl n φ) (k := k) (by simpa using h)
    unfold fl at this
    rw [List.getElem?_map, List.getElem?_range h] at this
    exact (Option.some.inj this).symm
  · rename_i h
    exact cf_out (by simpa using h)
theorem fl_get {n : Nat} {φ : Nat → Int} {k : Nat} (h : k < n) : (fl n φ)[k]? = some (φ k) := by rw [cf_get (by simpa using h), cf_fl, if_pos h]
theorem cf_ext {l m : List Int} (hl : l.length = m.length) (h : ∀ k, k < l.length → cf l k = cf m k) : l = m := by
  apply List.ext_getElem?
  intro i
  by_cases e : i < l.length
  · rw [cf_get e, cf_get (by omega), h i e]
  · rw [List.getElem?_eq_none (by omega), List.getElem?_eq_none (by omega)]
theorem fl_eq {n : Nat} {l : List Int} {φ : Nat → Int} (hl : l.length = n) (h : ∀ k, k < n → cf l k = φ k) : l = fl n φ :=
  cf_ext (by simpa using hl) fun k hk => by rw [h k (by omega), cf_fl, if_pos (by omega)]
theorem fl_set {n : Nat} {φ : Nat → Int} {p : Nat} {v : Int} : (fl n φ).set p v = fl n (fun k => if k = p then v else φ k) := by
  refine fl_eq (by simp) fun k hk => ?_
  have : ((fl n φ).set p v)[k]? = some (if k = p then v else φ k) := by
    rw [List.getElem?_set]
    by_cases e : p = k
    · subst e; simp [hk]
    · rw [if_neg e, fl_get hk, if_neg (Ne.symm e)]
  unfold cf
  rw [List.getD_eq_getElem?_getD, this]; rfl
theorem fl_congr {n : Nat} {φ ψ : Nat → Int} (h : ∀ k, k < n → φ k = ψ k) : fl n φ = fl n ψ := fl_eq (by simp) fun k hk => by rw [cf_fl, if_pos hk, h k hk]

/-! ### trimming -/
/-- no zero at the end -/
def Tr (l : List Int) : Prop := ∀ m, l.length = m + 1 → cf l m ≠ 0
theorem tr_nil : Tr [] := fun m h => by cases h
theorem Tr.uniq {l m : List Int} (hl : Tr l) (hm : Tr m) (h : ∀ k, cf l k = cf m k) : l = m := by
  have : l.length = m.length := by
    rcases Nat.lt_trichotomy l.length m.length with e | e | e
    · exact absurd (by rw [← h, cf_out (by omega)]) (hm (m.length - 1) (by omega))
    · exact e
    · exact absurd (by rw [h, cf_out (by omega)]) (hl (l.length - 1) (by omega))
  exact cf_ext this fun k _ => h k
def tlen (l : List Int) : Nat → Nat
  | 0 => 0
  | m + 1 => if cf l m = 0 then tlen l m else m + 1
theorem tlen_le (l : List Int) : ∀ m, tlen l m ≤ m
  | 0 => Nat.le_refl _
  | m + 1 => by
    unfold tlen
    split
    · exact Nat.le_succ_of_le (tlen_le l m)
    · exact Nat.le_refl _
theorem tlen_zero (l : List Int) : ∀ m k, tlen l m ≤ k → k < m → cf l k = 0
  | 0, k, _, h => by omega
  | m + 1, k, h1, h2 => by
    unfold tlen at h1
    split at h1
    · rename_i z
      by_cases e : k = m
      · subst e; exact z
      · exact tlen_zero l m k h1 (by omega)
    · omega
theorem tlen_last (l : List Int) : ∀ m j, tlen l m = j + 1 → cf l j ≠ 0
  | 0, j, h => by cases h
  | m + 1, j, h => by
    unfold tlen at h
    split at h
    · exact tlen_last l m j h
    · rename_i z
      have : m = j := by omega
      subst this; exact z
def trimP (l : List Int) : List Int := l.take (tlen l l.length)
theorem cf_trim (l : List Int) (k : Nat) : cf (trimP l) k = cf l k := by
  unfold trimP
  rw [cf_take]
  split
  · rfl
  · by_cases e : k < l.length
    · exact (tlen_zero l l.length k (by omega) e).symm
    · exact (cf_out (by omega)).symm
theorem trim_length (l : List Int) : (trimP l).length = tlen l l.length := by
  unfold trimP
  rw [List.length_take]
  have := tlen_le l l.length
  omega
theorem trim_le (l : List Int) : (trimP l).length ≤ l.length := by rw [trim_length]; exact tlen_le l l.length
theorem tr_trim (l : List Int) : Tr (trimP l) := fun m h => by
  rw [cf_trim]
  rw [trim_length] at h
  exact tlen_last l l.length m h
theorem trim_eq {l m : List Int} (hm : Tr m) (h : ∀ k, cf l k = cf m k) : trimP l = m := (tr_trim l).uniq hm fun k => by rw [cf_trim, h]
theorem Tr.trim {l : List Int} (h : Tr l) : trimP l = l := trim_eq h fun _ => rfl
theorem trim_mem {l : List Int} {Q : Int → Prop} (h : ∀ c ∈ l, Q c) : ∀ c ∈ trimP l, Q c := fun c hc => h c (List.mem_of_mem_take hc)
def SzP (s : Nat) (l : List Int) : Prop := ∀ c ∈ l, Sz s c
theorem sz0 (s : Nat) : Sz s 0 := ⟨by simpa using Nat.two_pow_pos s⟩
theorem SzP.cf {s : Nat} {l : List Int} (h : SzP s l) (k : Nat) : Sz s (cf l k) := cf_all h (sz0 s) k
theorem SzP.mono {s t : Nat} {l : List Int} (h : SzP s l) (e : s ≤ t) : SzP t l := fun c hc => (h c hc).mono e
theorem SzP.trim {s : Nat} {l : List Int} (h : SzP s l) : SzP s (trimP l) := trim_mem h
theorem SzP.fl {s n : Nat} {φ : Nat → Int} (h : ∀ k, k < n → Sz s (φ k)) : SzP s (fl n φ) := fun c hc => by
  unfold W.fl at hc
  obtain ⟨k, hk, rfl⟩ := List.mem_map.mp hc
  exact h k (List.mem_range.mp hk)

theorem trimmed_loop (l : List Int) : ∀ m, m ≤ l.length → whileO (eAnd (e1 bOf (e2 gtD (eOwn 1) (cst (.int 0)))) (e1 bOf (e2 eqD (e2 ixD (eOwn 0) (e2 subD (eOwn 1) (cst (.int 1)))) (cst (.int 0))))) b_trimmed_1 (m + 1) [.sh (pD l), .sh (.int (m : Nat))] = .nx [.sh (pD l), .sh (.int (tlen l m : Nat))]
  | 0, _ => by simp [whileO, tlen]
  | m + 1, h => by
    have ix : ixD (pD l) (.int (m : Nat)) = some (.int (cf l m)) := by rw [p_ixn, cf_get (by omega)]; rfl
    have he : ((m + 1 : Nat) : Int) - 1 = (m : Nat) := by omega
    have hh : (0 : Int) < ((m + 1 : Nat) : Int) := by omega
    have ih := trimmed_loop l m (by omega)
    rw [whileO]
    by_cases z : cf l m = 0
    · rw [tlen, if_pos z, ← ih]
      simp [-Int.natCast_add, he, hh, ix, z, b_trimmed_1]
    · rw [tlen, if_neg z]
      simp [-Int.natCast_add, he, hh, ix, z]
theorem trimmed_ok (l : List Int) (h : l.length ≤ 100000) : m_trimmed [pD l] = .ok (.sh (pD (trimP l))) := by
  have e := sWhile_eq (trimmed_loop l l.length (Nat.le_refl _)) (by simp)
  have c := cutI_to l (tlen l l.length) (tlen_le l _)
  simp [m_trimmed, c_trimmed, e, c, trimP]
/-! ### the law's own trimming -/
theorem tr_take {l : List Int} {n : Nat} (hz : ∀ k, n ≤ k → cf l k = 0) (hn : n ≤ l.length) (hl : ∀ m, n = m + 1 → cf l m ≠ 0) : trimP l = l.take n := by
  refine trim_eq (fun m hm => ?_) fun k => ?_
  · rw [List.length_take] at hm
    rw [cf_take, if_pos (by omega)]
    exact hl m (by omega)
  · rw [cf_take]
    split
    · rfl
    · exact hz k (by omega)
theorem take_snoc {l : List Int} {n : Nat} (h : n < l.length) : (l.take (n + 1)).map PyData.int = (l.take n).map .int ++ [.int (cf l n)] := by
  rw [List.take_add_one, cf_get h, List.map_append]; rfl
theorem ltrim_step0 (r : List D) (d : D) (j : SD) : gTo (gSet 1) b__law_trim_1 d [.ow (r ++ [.int 0]), j] = .nx [.ow r, .sh d] := by
  simp [b__law_trim_1]
theorem ltrim_step1 (r : List D) (d : D) (j : SD) {v : Int} (h : v ≠ 0) : gTo (gSet 1) b__law_trim_1 d [.ow (r ++ [.int v]), j] = .bk [.ow (r ++ [.int v]), .sh d] := by
  simp [b__law_trim_1, h]
theorem ltrim_loop (l : List Int) : ∃ j, forO (gTo (gSet 1) b__law_trim_1) (rngL 0 1 l.length) [.ow (l.map .int), .no] = .nx [.ow ((trimP l).map .int), j] := by
  refine forO_gen (F := gTo (gSet 1) b__law_trim_1) (l := rngL 0 1 l.length) (fun o => ∃ j, o = .nx [.ow ((trimP l).map .int), j])
    (fun i ρ => ∃ j, ρ = [.ow ((l.take (l.length - i)).map .int), j] ∧ ∀ k, l.length - i ≤ k → cf l k = 0) (ρ := [.ow (l.map .int), .no])
    ⟨_, by rw [Nat.sub_zero, List.take_length], fun k hk => cf_out (by omega)⟩
    (fun i d ρ hd hi => ?_) (fun ρ h => ?_)
  · obtain ⟨hil, rfl⟩ := rng0_get hd
    obtain ⟨j, rfl, hz⟩ := hi
    obtain ⟨n, hn⟩ : ∃ n, l.length - i = n + 1 := ⟨l.length - i - 1, by omega⟩
    rw [hn, take_snoc (by omega)]
    by_cases z : cf l n = 0
    · left
      refine ⟨_, .inl (by rw [z]; exact ltrim_step0 _ _ _), _, by rw [show l.length - (i + 1) = n by omega], fun k hk => ?_⟩
      by_cases e : k = n
      · subst e; exact z
      · exact hz k (by omega)
    · right; left
      refine ⟨_, ltrim_step1 _ _ _ z, .sh (.int (i : Nat)), ?_⟩
      rw [← take_snoc (by omega), tr_take (n := n + 1) (fun k hk => hz k (by omega)) (by omega) (fun m hm => by
        have : n = m := by omega
        subst this; exact z)]
  · obtain ⟨j, rfl, hz⟩ := h
    rw [rngL_length, Nat.sub_self] at hz
    rw [rngL_length, Nat.sub_self]
    exact ⟨j, by rw [tr_take (n := 0) hz (by omega) (fun m h => by cases h)]⟩
theorem ltrim_ok (l : List Int) (h : l.length ≤ 100000) : m__law_trim [pD l] = .ok (.ow ((trimP l).map .int)) := by
  obtain ⟨j, e⟩ := ltrim_loop l
  have hr := range1_ok (x := (l.length : Nat)) (by omega) (by omega)
  simp [m__law_trim, c__law_trim, hr, e]

/-! ### sums -/
theorem coefficient_ok (a : List Int) (k : Nat) : m_coefficient_of [pD a, .int (k : Nat)] = .ok (.sh (.int (cf a k))) := by
  by_cases h : k < a.length
  · have : ((k : Nat) : Int) < a.length := by omega
    simp [m_coefficient_of, c_coefficient_of, h, p_ixn, cf_get h]
  · simp [m_coefficient_of, c_coefficient_of, h, cf_out (Nat.not_lt.mp h)]
def addP (a b : List Int) : List Int := trimP (fl (max a.length b.length) fun k => cf a k + cf b k)
theorem cf_add (a b : List Int) (k : Nat) : cf (addP a b) k = cf a k + cf b k := by
  unfold addP
  rw [cf_trim, cf_fl]
  split
  · rfl
  · rw [cf_out (l := a) (by omega), cf_out (l := b) (by omega)]; rfl
theorem tr_add (a b : List Int) : Tr (addP a b) := tr_trim _
theorem SzP.add {s : Nat} {a b : List Int} (ha : SzP s a) (hb : SzP s b) : SzP (s + 1) (addP a b) := SzP.trim (SzP.fl fun k _ => (ha.cf k).add (hb.cf k))
theorem add_len (a b : List Int) : (addP a b).length ≤ max a.length b.length := Nat.le_trans (trim_le _) (by simp)
theorem max2 (a b : Nat) : (if (b : Int) > (a : Int) then (b : Int) else (a : Int)) = ((max a b : Nat) : Int) := by split <;> omega
@[simp] theorem r_max2 (a b : Nat) : maxD [.int (a : Int), .int (b : Int)] = some (.int ((max a b : Nat) : Int)) := by
  show some (PyData.int (if (b : Int) > (a : Int) then (b : Int) else (a : Int))) = _
  rw [max2]
theorem rng0 (n : Nat) : rngL 0 1 n = (List.range n).map fun i => .int (i : Nat) := by unfold rngL; simp
theorem add_ok {a b : List Int} (ha : a.length ≤ 50000) (hb : b.length ≤ 50000) : m_add [pD a, pD b] = .ok (.sh (pD (addP a b))) := by
  have hr := range1_ok (x := ((max a.length b.length : Nat) : Int)) (by omega) (by omega)
  have hc : compR (compS [3] (gSet 3) (cst true) (e2 addD (eCall m_coefficient_of (eCons (eVar 0) (eCons (eVar 3) (cst [])))) (eCall m_coefficient_of (eCons (eVar 1) (eCons (eVar 3) (cst []))))) [.sh (pD a), .sh (pD b), .sh (.int ((max a.length b.length : Nat) : Int)), .no]) (rngL 0 1 (max a.length b.length)) = .ok ((fl (max a.length b.length) fun k => cf a k + cf b k).map .int) := by
    rw [rng0, fl, List.map_map]
    exact compR_map' fun k hk => by simp [compS, coefficient_ok]
  have ht := trimmed_ok (fl (max a.length b.length) fun k => cf a k + cf b k) (by simp; omega)
  have hl : max a.length b.length ≤ sizeLine := slB (by omega)
  simp only [Int.toNat_natCast] at hr
  simp [m_add, c_add, hr, rngL_length, hl, hc, ht, addP]
def scaleP (a : List Int) (c : Int) : List Int := trimP (a.map (· * c))
theorem cf_map {a : List Int} {f : Int → Int} (h0 : f 0 = 0) (k : Nat) : cf (a.map f) k = f (cf a k) := by
  by_cases e : k < a.length
  · have := cf_get (l := a.map f) (k := k) (by simpa using e)
    rw [List.getElem?_map, cf_get e] at this
    exact (Option.some.inj this).symm
  · rw [cf_out (by simpa using Nat.not_lt.mp e), cf_out (by omega), h0]
theorem cf_scale (a : List Int) (c : Int) (k : Nat) : cf (scaleP a c) k = cf a k * c := by
  unfold scaleP; rw [cf_trim, cf_map (by simp)]
theorem tr_scale (a : List Int) (c : Int) : Tr (scaleP a c) := tr_trim _
theorem scale_len (a : List Int) (c : Int) : (scaleP a c).length ≤ a.length := Nat.le_trans (trim_le _) (by simp)
theorem SzP.scale {s t : Nat} {a : List Int} {c : Int} (ha : SzP s a) (hc : Sz t c) : SzP (s + t) (scaleP a c) := SzP.trim fun x hx => by
  obtain ⟨y, hy, rfl⟩ := List.mem_map.mp hx
  exact (ha y hy).mul hc
theorem scale_comp {a : List Int} {c : Int} {s t : Nat} (ha : SzP s a) (hc : Sz t c) (hst : s + t ≤ 134217728) (ρ : Ev) (hρ : ρ.length = 3) (h1 : ρ[1]? = some (.sh (.int c))) :
    compR (compS [2] (gSet 2) (cst true) (e2 mulD (eOwn 2) (eOwn 1)) ρ) (a.map .int) = .ok ((a.map (· * c)).map .int) := by
  rw [List.map_map]
  match ρ, hρ with
  | [x, y, z], _ =>
    simp at h1
    subst h1
    exact compR_map' fun k hk => by simp [compS, okMul_of (ha k hk) hc hst]
theorem scale_ok {a : List Int} {c : Int} {s t : Nat} (ha : SzP s a) (hc : Sz t c) (hst : s + t ≤ 134217728) (hl : a.length ≤ 100000) : m_scale [pD a, .int c] = .ok (.sh (pD (scaleP a c))) := by
  have h := scale_comp ha hc hst [.sh (pD a), .sh (.int c), .no] rfl rfl
  have ht := trimmed_ok (a.map (· * c)) (by simpa using hl)
  simp only [List.map_map] at h
  simp [m_scale, c_scale, slB hl, h, scaleP, -List.map_map]
  rw [show (PyData.list (List.map (PyData.int ∘ fun x => x * c) a)) = pD (a.map (· * c)) by unfold pD; rw [List.map_map]]
  simp [ht]
theorem ltimes_number_ok {a : List Int} {c : Int} {s t : Nat} (ha : SzP s a) (hc : Sz t c) (hst : s + t ≤ 134217728) (hl : a.length ≤ 100000) : m__law_times_number [pD a, .int c] = .ok (.ow ((scaleP a c).map .int)) := by
  have h := scale_comp ha hc hst [.sh (pD a), .sh (.int c), .no] rfl rfl
  have ht := ltrim_ok (a.map (· * c)) (by simpa using hl)
  simp only [List.map_map] at h
  simp [m__law_times_number, c__law_times_number, slB hl, h, scaleP, -List.map_map]
  rw [show (PyData.list (List.map (PyData.int ∘ fun x => x * c) a)) = pD (a.map (· * c)) by unfold pD; rw [List.map_map]]
  simp [ht]
def subP (a b : List Int) : List Int := addP a (scaleP b (-1))
theorem cf_sub (a b : List Int) (k : Nat) : cf (subP a b) k = cf a k - cf b k := by unfold subP; rw [cf_add, cf_scale]; omega
theorem sz1 : Sz 1 (-1) := .lit (by decide)
theorem subtract_ok {a b : List Int} {s : Nat} (hb : SzP s b) (hs : s ≤ 100000000) (hla : a.length ≤ 50000) (hlb : b.length ≤ 50000) : m_subtract [pD a, pD b] = .ok (.sh (pD (subP a b))) := by
  have h1 := scale_ok hb sz1 (by omega) (by omega)
  have h2 := add_ok (a := a) (b := scaleP b (-1)) hla (Nat.le_trans (scale_len b _) hlb)
  simp [m_subtract, c_subtract, h1, h2, subP]
end W

set_option Elab.async false
set_option linter.all false
set_option maxRecDepth 100000
set_option autoImplicit false
namespace W
open PySem PySem.Spec PyProof.Rows L2 VL
/-! ### products -/
def sumN : Nat → (Nat → Int) → Int
  | 0, _ => 0
  | n + 1, f => sumN n f + f n
theorem sumN_congr {f g : Nat → Int} : ∀ {n : Nat}, (∀ i, i < n → f i = g i) → sumN n f = sumN n g
  | 0, _ => rfl
  | n + 1, h => by unfold sumN; rw [sumN_congr (n := n) fun i hi => h i (by omega), h n (by omega)]
theorem sumN_zero {f : Nat → Int} : ∀ {n : Nat}, (∀ i, i < n → f i = 0) → sumN n f = 0
  | 0, _ => rfl
  | n + 1, h => by unfold sumN; rw [sumN_zero (n := n) fun i hi => h i (by omega), h n (by omega)]; rfl
theorem sumN_add (f g : Nat → Int) : ∀ n, sumN n (fun i => f i + g i) = sumN n f + sumN n g
  | 0 => rfl
  | n + 1 => by unfold sumN; rw [sumN_add f g n]; dsimp only; omega
theorem sumN_mul (c : Int) (f : Nat → Int) : ∀ n, sumN n (fun i => c * f i) = c * sumN n f
  | 0 => by simp [sumN]
  | n + 1 => by unfold sumN; rw [sumN_mul c f n]; grind
theorem sumN_succ' (f : Nat → Int) : ∀ n, sumN (n + 1) f = f 0 + sumN n (fun i => f (i + 1))
  | 0 => by simp [sumN]
  | n + 1 => by rw [sumN, sumN_succ' f n, sumN]; omega
theorem sumN_ext {f : Nat → Int} {n m : Nat} (h : n ≤ m) (hz : ∀ i, n ≤ i → i < m → f i = 0) : sumN m f = sumN n f := by
  induction m with
  | zero => rw [show n = 0 by omega]
  | succ m ih =>
    by_cases e : n = m + 1
    · rw [e]
    · rw [sumN, ih (by omega) fun i h1 h2 => hz i h1 (by omega), hz m (by omega) (by omega)]; omega
/-- one summand of a coefficient of a product -/
def tm (a b : List Int) (k i : Nat) : Int := if i ≤ k then cf a i * cf b (k - i) else 0
/-- the coefficient of a product -/
def cv (a b : List Int) (k : Nat) : Int := sumN a.length (tm a b k)
theorem cv_all (a b : List Int) (k : Nat) : cv a b k = sumN (k + 1) (tm a b k) := by
  unfold cv
  rcases Nat.le_total a.length (k + 1) with h | h
  · refine (sumN_ext h fun i h1 _ => ?_).symm
    unfold tm; split
    · rw [cf_out h1]; simp
    · rfl
  · exact sumN_ext h fun i h1 _ => by unfold tm; rw [if_neg (by omega)]
theorem cv_nil (b : List Int) (k : Nat) : cv [] b k = 0 := rfl
theorem cv_cons (x : Int) (a b : List Int) : ∀ k, cv (x :: a) b k = x * cf b k + (if k = 0 then 0 else cv a b (k - 1)) := by
  intro k
  unfold cv
  rw [List.length_cons, sumN_succ']
  cases k with
  | zero =>
    rw [if_pos rfl, sumN_zero fun i _ => by unfold tm; rw [if_neg (by omega)]]
    simp [tm]
  | succ k =>
    rw [if_neg (by omega), show tm (x :: a) b (k + 1) 0 = x * cf b (k + 1) by simp [tm]]
    congr 1
    refine sumN_congr fun i _ => ?_
    unfold tm
    by_cases h : i ≤ k
    · rw [if_pos (by omega), if_pos (by omega), cf_succ, show k + 1 - (i + 1) = k + 1 - 1 - i by omega]
    · rw [if_neg (by omega), if_neg (by omega)]
theorem cv_out {a b : List Int} {k : Nat} (h : a.length + b.length ≤ k + 1) : cv a b k = 0 := sumN_zero fun i hi => by
  unfold tm; split
  · rw [cf_out (l := b) (by omega)]; simp
  · rfl
theorem cv_last {a b : List Int} {m n : Nat} (ha : a.length = m + 1) (hb : b.length = n + 1) : cv a b (m + n) = cf a m * cf b n := by
  unfold cv
  rw [ha, sumN, sumN_zero fun i hi => ?_]
  · unfold tm; rw [if_pos (by omega), show m + n - m = n by omega]; omega
  · unfold tm; rw [if_pos (by omega), cf_out (l := b) (by omega)]; simp
def mulP (a b : List Int) : List Int := if a = [] ∨ b = [] then [] else fl (a.length + b.length - 1) (cv a b)
theorem cf_mul (a b : List Int) (k : Nat) : cf (mulP a b) k = cv a b k := by
  unfold mulP
  by_cases h : a = [] ∨ b = []
  · rw [if_pos h]
    rcases h with rfl | rfl
    · simp [cv_nil]
    · rw [cf_nil, eq_comm]
      exact sumN_zero fun i hi => by unfold tm; split <;> simp
  · rw [if_neg h, cf_fl]
    split
    · rfl
    · rw [cv_out]
      have : 0 < a.length := by cases a with | nil => simp at h | cons _ _ => simp
      omega
theorem mul_len (a b : List Int) : (mulP a b).length ≤ a.length + b.length := by
  unfold mulP; split
  · simp
  · rw [fl_length]; omega
theorem tr_mul {a b : List Int} (ha : Tr a) (hb : Tr b) : Tr (mulP a b) := by
  intro m hm
  rw [cf_mul]
  unfold mulP at hm
  split at hm
  · simp at hm
  · rename_i h
    rw [fl_length] at hm
    obtain ⟨i, hi⟩ : ∃ i, a.length = i + 1 := ⟨a.length - 1, by cases a with | nil => simp at h | cons _ _ => simp⟩
    obtain ⟨j, hj⟩ : ∃ j, b.length = j + 1 := ⟨b.length - 1, by cases b with | nil => simp at h | cons _ _ => simp⟩
    rw [show m = i + j by omega, cv_last hi hj]
    exact Int.mul_ne_zero (ha i hi) (hb j hj)
theorem sz_sum {f : Nat → Int} {s : Nat} : ∀ {n : Nat}, (∀ i, i < n → Sz s (f i)) → Sz (s + n) (sumN n f)
  | 0, _ => sz0 _
  | n + 1, h => (sz_sum (n := n) fun i hi => h i (by omega)).add ((h n (by omega)).mono (by omega))
theorem SzP.cv {s t : Nat} {a b : List Int} (ha : SzP s a) (hb : SzP t b) (k : Nat) : Sz (s + t + a.length) (cv a b k) := sz_sum fun i _ => by
  unfold tm; split
  · exact (ha.cf i).mul (hb.cf _)
  · exact sz0 _
theorem SzP.mul {s t : Nat} {a b : List Int} (ha : SzP s a) (hb : SzP t b) : SzP (s + t + a.length) (mulP a b) := by
  unfold mulP; split
  · exact fun c hc => by cases hc
  · exact SzP.fl fun k _ => ha.cv hb k
theorem enu_get {l : List Int} {i : Nat} {d : D} (h : (enuL (l.map .int))[i]? = some d) : i < l.length ∧ d = .tuple [.int (i : Nat), .int (cf l i)] := by
  unfold enuL at h
  rw [List.length_map, List.getElem?_zipWith] at h
  by_cases e : i < l.length
  · rw [List.getElem?_range e, List.getElem?_map, cf_get e] at h
    exact ⟨e, (Option.some.inj h).symm⟩
  · rw [List.getElem?_eq_none (by simpa using e)] at h
    cases h
theorem enu_length (l : List Int) : (enuL (l.map .int)).length = l.length := by simp [enuL]
theorem fl_ix {n : Nat} {φ : Nat → Int} {k : Nat} (h : k < n) : ((fl n φ).map PyData.int)[k]? = some (.int (φ k)) := by rw [List.getElem?_map, fl_get h]; rfl
/-- one step of the inner loop -/
theorem mul_step {a b : List Int} {s t L : Nat} {φ : Nat → Int} {i j : Nat} (ha : SzP s a) (hb : SzP t b) (hst : s + t ≤ 134217728) (hL : i + j < L) (hL2 : L ≤ 100000) (x0 x1 x5 x6 : SD) :
    gTo (gTupD 2 (gsCons (gSet 5) (gsCons (gSet 6) (gsNil)))) b_multiply_1 (.tuple [.int (j : Nat), .int (cf b j)]) [x0, x1, .ow ((fl L φ).map .int), .sh (.int (i : Nat)), .sh (.int (cf a i)), x5, x6]
      = .nx [x0, x1, .ow ((fl L fun k => if k = i + j then φ k + cf a i * cf b j else φ k).map .int), .sh (.int (i : Nat)), .sh (.int (cf a i)), .sh (.int (j : Nat)), .sh (.int (cf b j))] := by
  have m := okMul_of (ha.cf i) (hb.cf j) hst
  have ix := fl_ix (φ := φ) hL
  have e : ((i : Int) + (j : Int)).toNat = i + j := by omega
  have h1 : (0 : Int) ≤ (i : Int) + (j : Int) := by omega
  have h2 : (i : Int) + (j : Int) < 9223372036854775808 := by omega
  have st : ((fl L φ).map PyData.int).set (i + j) (.int (φ (i + j) + cf a i * cf b j)) = (fl L fun k => if k = i + j then φ k + cf a i * cf b j else φ k).map .int := by
    rw [← List.map_set, fl_set]
    congr 2
    funext k
    by_cases z : k = i + j
    · subst z; simp
    · simp [z]
  simp only [List.getElem?_map] at ix
  simp [b_multiply_1, placeD, h1, h2, e, ix, m, st]
theorem mul_inner {a b : List Int} {s t L : Nat} {φ : Nat → Int} {i : Nat} (ha : SzP s a) (hb : SzP t b) (hst : s + t ≤ 134217728) (hL : i + b.length ≤ L) (hL2 : L ≤ 100000) (x0 x1 x5 x6 : SD) :
    ∃ y5 y6, forO (gTo (gTupD 2 (gsCons (gSet 5) (gsCons (gSet 6) (gsNil)))) b_multiply_1) (enuL (b.map .int)) [x0, x1, .ow ((fl L φ).map .int), .sh (.int (i : Nat)), .sh (.int (cf a i)), x5, x6]
      = .nx [x0, x1, .ow ((fl L fun k => φ k + tm a b k i).map .int), .sh (.int (i : Nat)), .sh (.int (cf a i)), y5, y6] := by
  obtain ⟨ρ', e, y5, y6, rfl⟩ := forO_inv (F := gTo (gTupD 2 (gsCons (gSet 5) (gsCons (gSet 6) (gsNil)))) b_multiply_1) (l := enuL (b.map .int))
    (fun j ρ => ∃ y5 y6, ρ = [x0, x1, .ow ((fl L fun k => φ k + if i ≤ k ∧ k < i + j then cf a i * cf b (k - i) else 0).map .int), .sh (.int (i : Nat)), .sh (.int (cf a i)), y5, y6])
    (ρ := [x0, x1, .ow ((fl L φ).map .int), .sh (.int (i : Nat)), .sh (.int (cf a i)), x5, x6])
    ⟨x5, x6, by
      rw [show fl L φ = fl L fun k => φ k + if i ≤ k ∧ k < i + 0 then cf a i * cf b (k - i) else 0 from fl_congr fun k _ => by rw [if_neg (by omega)]; omega]⟩
    (fun j d ρ hd hi => by
      obtain ⟨hj, rfl⟩ := enu_get hd
      obtain ⟨y5, y6, rfl⟩ := hi
      refine ⟨_, .inl (mul_step ha hb hst (by omega) hL2 _ _ _ _), .sh (.int (j : Nat)), .sh (.int (cf b j)), ?_⟩
      refine congrArg (fun l => [x0, x1, SD.ow (List.map PyData.int l), .sh (.int (i : Nat)), .sh (.int (cf a i)), .sh (.int (j : Nat)), .sh (.int (cf b j))]) (fl_congr fun k _ => ?_)
      by_cases z : k = i + j
      · subst z
        rw [if_pos rfl, if_neg (by omega), if_pos (by omega)]
        simp
      · rw [if_neg z]
        by_cases w : i ≤ k ∧ k < i + j
        · rw [if_pos w, if_pos (by omega)]
        · rw [if_neg w, if_neg (by omega)])
  refine ⟨y5, y6, ?_⟩
  rw [e, enu_length]
  refine congrArg (fun l => Out.nx [x0, x1, SD.ow (List.map PyData.int l), .sh (.int (i : Nat)), .sh (.int (cf a i)), y5, y6]) (fl_congr fun k _ => ?_)
  unfold tm
  by_cases w : i ≤ k
  · rw [if_pos w]
    by_cases v : k < i + b.length
    · rw [if_pos ⟨w, v⟩]
    · rw [if_neg (by omega), cf_out (l := b) (by omega)]; simp
  · rw [if_neg w, if_neg (by omega)]
theorem rep_zero (n : Nat) : (List.replicate n [PyData.int 0]).flatten = (fl n fun _ => 0).map .int := by
  induction n with
  | zero => rfl
  | succ n ih => rw [List.replicate_succ, List.flatten_cons, ih]; simp [fl, List.range_succ_eq_map, List.map_map, Function.comp_def]
theorem multiply_ok {a b : List Int} {s t : Nat} (ha : SzP s a) (hb : SzP t b) (hst : s + t ≤ 134217728) (hla : a.length ≤ 50000) (hlb : b.length ≤ 50000) : m_multiply [pD a, pD b] = .ok (.ow ((mulP a b).map .int)) := by
  by_cases h1 : a = []
  · subst h1
    simp [m_multiply, c_multiply, mulP]
  by_cases h2 : b = []
  · subst h2
    cases a with
    | nil => simp at h1
    | cons x a => simp [m_multiply, c_multiply, mulP]
  · have t1 : truD (pD a) = some true := by rw [p_tru]; cases a with | nil => simp at h1 | cons _ _ => rfl
    have t2 : truD (pD b) = some true := by rw [p_tru]; cases b with | nil => simp at h2 | cons _ _ => rfl
    have la : 0 < a.length := by cases a with | nil => simp at h1 | cons _ _ => simp
    obtain ⟨L, hL⟩ : ∃ L, L = a.length + b.length - 1 := ⟨_, rfl⟩
    have rp : repD [.int 0] ((a.length : Int) + (b.length : Int) - 1) = some ((fl L fun _ => 0).map .int) := by
      unfold repD
      have e : ((a.length : Int) + (b.length : Int) - 1).toNat = L := by omega
      rw [if_pos ⟨by omega, by omega, by rw [e]; exact slB (by simp; omega)⟩, e, rep_zero]
    obtain ⟨ρ', e, y3, y4, y5, y6, rfl⟩ := forO_inv (F := gTo (gTupD 2 (gsCons (gSet 3) (gsCons (gSet 4) (gsNil)))) b_multiply_2) (l := enuL (a.map .int))
      (fun i ρ => ∃ y3 y4 y5 y6, ρ = [.sh (pD a), .sh (pD b), .ow ((fl L fun k => sumN i (tm a b k)).map .int), y3, y4, y5, y6])
      (ρ := [.sh (pD a), .sh (pD b), .ow ((fl L fun _ => 0).map .int), .no, .no, .no, .no])
      ⟨_, _, _, _, rfl⟩
      (fun i d ρ hd hi => by
        obtain ⟨hj, rfl⟩ := enu_get hd
        obtain ⟨y3, y4, y5, y6, rfl⟩ := hi
        obtain ⟨z5, z6, e⟩ := mul_inner (φ := fun k => sumN i (tm a b k)) (i := i) (L := L) ha hb hst (by omega) (by omega) (.sh (pD a)) (.sh (pD b)) y5 y6
        exact ⟨_, .inl (by simp [b_multiply_2, e, -Out.nx.injEq]; rfl), _, _, _, _, rfl⟩)
    rw [enu_length] at e
    have : mulP a b = fl L fun k => sumN a.length (tm a b k) := by
      unfold mulP
      rw [if_neg (by simp [h1, h2]), hL]; rfl
    simp [m_multiply, c_multiply, h1, h2, rp, e, this]

/-! ### products of lists, derivative -/
def prodP (ps : List (List Int)) : List Int := ps.foldl mulP [1]
theorem szp1 : SzP 1 [1] := fun c hc => by simp at hc; subst hc; exact .lit (by decide)
theorem product_loop {s LT : Nat} (hLT : LT ≤ 50000) (x : SD) : ∀ (ps : List (List Int)) (acc : List Int) (t : Nat) (j : SD), (∀ p ∈ ps, SzP s p) → SzP t acc → t + ps.length * (s + LT) ≤ 1000000 → acc.length + (ps.map List.length).sum ≤ LT →
    ∃ j', forO (gTo (gSet 2) b_product_1) (ps.map pD) [x, .sh (pD acc), j] = .nx [x, .sh (pD (ps.foldl mulP acc)), j'] ∧ SzP (t + ps.length * (s + LT)) (ps.foldl mulP acc) ∧ (ps.foldl mulP acc).length ≤ LT
  | [], acc, t, j, _, ha, _, h2 => ⟨j, rfl, by simpa using ha, by simpa using h2⟩
  | p :: ps, acc, t, j, hp, ha, h1, h2 => by
    have hp1 := hp p (by simp)
    rw [List.length_cons, Nat.succ_mul] at h1
    rw [List.map_cons, List.sum_cons] at h2
    have e : gTo (gSet 2) b_product_1 (pD p) [x, .sh (pD acc), j] = .nx [x, .sh (pD (mulP acc p)), .sh (pD p)] := by
      have m := multiply_ok ha hp1 (by omega) (by omega) (by omega)
      simp [b_product_1, m]
    have hl := mul_len acc p
    obtain ⟨j', ih, i2, i3⟩ := product_loop (s := s) hLT x ps (mulP acc p) (t + (s + LT)) (.sh (pD p)) (fun q hq => hp q (by simp [hq])) ((ha.mul hp1).mono (by omega)) (by omega) (by omega)
    refine ⟨j', ?_, ?_, i3⟩
    · rw [List.map_cons]
      unfold forO
      rw [e]
      exact ih
    · rw [List.length_cons, Nat.succ_mul]
      exact i2.mono (by omega)
theorem product_ok {s LT : Nat} {ps : List (List Int)} (hp : ∀ p ∈ ps, SzP s p) (hLT : LT ≤ 50000) (h1 : 1 + ps.length * (s + LT) ≤ 1000000) (h2 : 1 + (ps.map List.length).sum ≤ LT) :
    m_product [.list (ps.map pD)] = .ok (.sh (pD (prodP ps))) ∧ SzP (1 + ps.length * (s + LT)) (prodP ps) ∧ (prodP ps).length ≤ LT := by
  obtain ⟨j, e, i2, i3⟩ := product_loop hLT (.sh (.list (ps.map pD))) ps [1] 1 .no hp szp1 h1 h2
  refine ⟨?_, i2, i3⟩
  have one : PyData.list [PyData.int 1] = pD [1] := rfl
  simp [m_product, c_product, one, e, prodP]
theorem tr_foldl : ∀ {ps : List (List Int)} {acc : List Int}, (∀ p ∈ ps, Tr p) → Tr acc → Tr (ps.foldl mulP acc)
  | [], _, _, h => h
  | p :: ps, acc, hp, h => tr_foldl (ps := ps) (fun q hq => hp q (by simp [hq])) (tr_mul h (hp p (by simp)))
theorem tr_one : Tr [1] := fun m h => by
  have : m = 0 := by simpa using h.symm
  subst this; simp
def derP (a : List Int) : List Int := fl (a.length - 1) fun k => cf a (k + 1) * ((k : Int) + 1)
theorem cf_der (a : List Int) (k : Nat) : cf (derP a) k = cf a (k + 1) * ((k : Int) + 1) := by
  unfold derP
  rw [cf_fl]
  split
  · rfl
  · rw [cf_out (by omega)]; simp
theorem tr_der {a : List Int} (h : Tr a) : Tr (derP a) := fun m hm => by
  rw [cf_der]
  unfold derP at hm
  rw [fl_length] at hm
  exact Int.mul_ne_zero (h (m + 1) (by omega)) (by omega)
theorem sz_nat {k : Nat} {n : Nat} (h : n < 2 ^ k) : Sz k (n : Int) := ⟨by simpa using h⟩
theorem nat_sz (n : Nat) (h : n ≤ 100000) : Sz 17 ((n : Nat) : Int) := .of 131072 (by omega) (by omega) (by decide)
theorem SzP.der {s : Nat} {a : List Int} (h : SzP s a) (hl : a.length ≤ 100000) : SzP (s + 17) (derP a) := SzP.fl fun k hk => (h.cf _).mul (nat_sz (k + 1) (by omega))
theorem der_len (a : List Int) : (derP a).length = a.length - 1 := by simp [derP]
theorem rng1 (n : Nat) : rngL 1 1 n = (List.range n).map fun i => .int ((i : Nat) + 1) := by
  unfold rngL
  refine List.map_congr_left fun i _ => ?_
  congr 1; omega
theorem derivative_ok {a : List Int} {s : Nat} (ha : SzP s a) (hs : s ≤ 1000000) (hl : a.length ≤ 100000) : m_derivative [pD a] = .ok (.ow ((derP a).map .int)) := by
  have hr := range2_ok (x := 1) (y := (a.length : Nat)) (by decide) (by decide) (by omega) (by omega)
  have e : ((a.length : Int) - 1).toNat = a.length - 1 := by omega
  rw [e] at hr
  have hc : compR (compS [1] (gSet 1) (cst true) (e2 mulD (e2 ixD (eOwn 0) (eOwn 1)) (eOwn 1)) [.sh (pD a), .no]) (rngL 1 1 (a.length - 1)) = .ok ((derP a).map .int) := by
    rw [rng1, derP, fl, List.map_map]
    refine compR_map' fun k hk => ?_
    have hk' := List.mem_range.mp hk
    have ix : ixD (pD a) (.int ((k : Int) + 1)) = some (.int (cf a (k + 1))) := by
      have := p_ixn a (k + 1)
      rw [cf_get (by omega)] at this
      exact this
    have m := okMul_of (ha.cf (k + 1)) (nat_sz (k + 1) (by omega)) (by omega)
    have m' : okMul (cf a (k + 1)) ((k : Int) + 1) = true := m
    simp [compS, ix, m']
  have hz : a.length - 1 ≤ sizeLine := slB (by omega)
  simp [m_derivative, c_derivative, hr, rngL_length, hz, hc]
end W

set_option Elab.async false
set_option linter.all false
set_option maxRecDepth 100000
set_option autoImplicit false
namespace W
open PySem PySem.Spec PyProof.Rows L2 VL
/-! ### numbers as Rat -/
def tQ (r : Rat) : Int × Int := (r.num, (r.den : Int))
def rD (r : Rat) : D := qD (tQ r)
theorem nm_tQ (r : Rat) : Nm (tQ r) := ⟨by
  have := r.den_pos
  show (1 : Int) ≤ (r.den : Int)
  omega, by
  show Nat.gcd r.num.natAbs (r.den : Int).natAbs = 1
  rw [Int.natAbs_natCast]; exact r.reduced⟩
theorem den_ne (r : Rat) : ((r.den : Int) : Rat) ≠ 0 := by
  have := r.den_nz
  exact_mod_cast this
theorem num_eq (r : Rat) : (r.num : Rat) = r * ((r.den : Int) : Rat) := by
  have h : (r.num : Rat) / ((r.den : Int) : Rat) = r := by rw [← Rat.divInt_eq_div]; exact Rat.num_divInt_den r
  have := den_ne r
  grind
theorem mkQ_rat {n d : Int} (h : d ≠ 0) : mkQ n d = tQ ((n : Rat) / (d : Rat)) := by
  have hd : (d : Rat) ≠ 0 := by exact_mod_cast h
  refine (mkQ_nm h).uniq (nm_tQ _) ?_
  have e := mkQ_eq (n := n) h
  have e2 := num_eq ((n : Rat) / (d : Rat))
  generalize hr : (n : Rat) / (d : Rat) = r at e2 ⊢
  have e3 : (r.num : Rat) * (d : Rat) = (n : Rat) * ((r.den : Int) : Rat) := by rw [e2, ← hr]; grind
  have e4 : r.num * d = n * (r.den : Int) := by exact_mod_cast e3
  show (mkQ n d).1 * (r.den : Int) = r.num * (mkQ n d).2
  have : ((mkQ n d).1 * (r.den : Int)) * d = (r.num * (mkQ n d).2) * d := by grind
  exact Int.eq_of_mul_eq_mul_right h this
theorem tQ_eq {q : Int × Int} (h : Nm q) : q = tQ ((q.1 : Rat) / (q.2 : Rat)) := by
  have hp := h.pos
  rw [← mkQ_rat (by omega)]
  refine h.uniq (mkQ_nm (by omega)) ?_
  exact (mkQ_eq (n := q.1) (d := q.2) (by omega)).symm
theorem addQ_rat (r s : Rat) : addQ (tQ r) (tQ s) = tQ (r + s) := by
  unfold addQ
  have h1 := den_ne r
  have h2 := den_ne s
  have h3 : (tQ r).2 * (tQ s).2 ≠ 0 := by
    show (r.den : Int) * (s.den : Int) ≠ 0
    have := r.den_nz
    have := s.den_nz
    exact Int.mul_ne_zero (by omega) (by omega)
  rw [mkQ_rat h3]
  congr 1
  have e1 := num_eq r
  have e2 := num_eq s
  show ((r.num * (s.den : Int) + s.num * (r.den : Int) : Int) : Rat) / (((r.den : Int) * (s.den : Int) : Int) : Rat) = r + s
  rw [Rat.intCast_add, Rat.intCast_mul, Rat.intCast_mul, Rat.intCast_mul, e1, e2]
  grind
theorem mulQ_rat (r s : Rat) : mulQ (tQ r) (tQ s) = tQ (r * s) := by
  unfold mulQ
  have h1 := den_ne r
  have h2 := den_ne s
  have h3 : (tQ r).2 * (tQ s).2 ≠ 0 := by
    show (r.den : Int) * (s.den : Int) ≠ 0
    have := r.den_nz
    have := s.den_nz
    exact Int.mul_ne_zero (by omega) (by omega)
  rw [mkQ_rat h3]
  congr 1
  have e1 := num_eq r
  have e2 := num_eq s
  show ((r.num * s.num : Int) : Rat) / (((r.den : Int) * (s.den : Int) : Int) : Rat) = r * s
  rw [Rat.intCast_mul, Rat.intCast_mul, e1, e2]
  grind
theorem tQ_int (c : Int) : tQ (c : Rat) = (c, 1) := rfl
/-! ### values -/
def evP (a : List Int) (x : Rat) : Rat := a.foldr (fun (c : Int) (v : Rat) => v * x + (c : Rat)) 0
def Rk (k : Nat) (r : Rat) : Prop := Nk k (tQ r)
theorem Rk.mono {k l : Nat} {r : Rat} (h : Rk k r) (e : k ≤ l) : Rk l r := Nk.mono h e
theorem Rk.add {k l : Nat} {r s : Rat} (h : Rk k r) (h' : Rk l s) : Rk (k + l + 1) (r + s) := by
  have := Nk.add h h'
  rwa [addQ_rat] at this
theorem Rk.mul {k l : Nat} {r s : Rat} (h : Rk k r) (h' : Rk l s) : Rk (k + l) (r * s) := by
  have := Nk.mul h h'
  rwa [mulQ_rat] at this
theorem rk_int {k : Nat} {c : Int} (h : Sz k c) (hk : 1 ≤ k) : Rk k (c : Rat) := ⟨nm_tQ _, h, (Sz.lit (i := 1) (a := 1) (by decide)).mono hk⟩
theorem rD_int (c : Int) : (PyData.tuple [.int c, .int 1]) = rD (c : Rat) := rfl
theorem rD_0 : (PyData.tuple [.int 0, .int 1]) = rD 0 := rfl
theorem rk0 : Rk 1 0 := nk01
theorem plus_r {r s : Rat} {k l : Nat} (h : Rk k r) (h' : Rk l s) (e : k + l ≤ 8000) : m_plus [rD r, rD s] = .ok (.sh (rD (r + s))) := by
  have := plus_ok h h' e
  rwa [addQ_rat] at this
theorem times_r {r s : Rat} {k l : Nat} (h : Rk k r) (h' : Rk l s) (e : k + l ≤ 8000) : m_times [rD r, rD s] = .ok (.sh (rD (r * s))) := by
  have := times_ok h h' e
  rwa [mulQ_rat] at this
theorem lplus_r {r s : Rat} {k l : Nat} (h : Rk k r) (h' : Rk l s) (e : k + l ≤ 1900) : m__law_plus [rD r, rD s] = .ok (.sh (rD (r + s))) := by
  have := lplus_ok h h' e
  rwa [addQ_rat] at this
theorem ltimes_r {r s : Rat} {k l : Nat} (h : Rk k r) (h' : Rk l s) (e : k + l ≤ 1900) : m__law_times [rD r, rD s] = .ok (.sh (rD (r * s))) := by
  have := ltimes_ok h h' e
  rwa [mulQ_rat] at this
theorem number_r {n d : Int} (h2 : Sz 9000 d) (hd : d ≠ 0) : m_number [.int n, .int d] = .ok (.sh (rD ((n : Rat) / (d : Rat)))) := by
  rw [number_ok h2 hd, mkQ_rat hd]; rfl
theorem lnumber_r {n d : Int} (h1 : Sz 1990 n) (h2 : Sz 1990 d) (hd : d ≠ 0) : m__law_number [.int n, .int d] = .ok (.sh (rD ((n : Rat) / (d : Rat)))) := by
  rw [lnumber_ok h1 h2 hd, mkQ_rat hd]; rfl
theorem rk_div {n d : Int} {k : Nat} (hd : d ≠ 0) (h1 : Sz k n) (h2 : Sz k d) : Rk k ((n : Rat) / (d : Rat)) := by
  unfold Rk; rw [← mkQ_rat hd]; exact mkQ_nk hd h1 h2
@[simp] theorem okD_r (n : Nat) (r : Rat) : okD (n + 1) (rD r) = true := okD_q n _
@[simp] theorem ix_r0 (r : Rat) : ixD (rD r) (.int 0) = some (.int r.num) := ix_q0 _
@[simp] theorem ix_r1 (r : Rat) : ixD (rD r) (.int 1) = some (.int (r.den : Int)) := ix_q1 _
theorem rD_inj {r s : Rat} : rD r = rD s ↔ r = s := by
  constructor
  · intro h
    have h1 : r.num = s.num ∧ (r.den : Int) = s.den := by simpa [rD, qD, tQ] using h
    exact Rat.ext h1.1 (by omega)
  · rintro rfl; rfl
theorem r_neR {r s : Rat} : neD (rD r) (rD s) = some (.bool (!decide (r = s))) := by
  rw [r_neD (by simp) (by simp)]
  congr 3
  show (((r.num == s.num)) && (((r.den : Int) == (s.den : Int)) && true)) = decide (r = s)
  by_cases h : r = s
  · subst h; simp
  · simp [h]
    intro h1 h2
    exact h (Rat.ext h1 (by omega))
theorem r_eqR {r s : Rat} : eqD (rD r) (rD s) = some (.bool (decide (r = s))) := by
  have h := r_neR (r := r) (s := s)
  rw [r_neD (by simp) (by simp)] at h
  rw [r_eqD (by simp) (by simp)]
  simp only [Option.some.injEq, PyData.bool.injEq] at h ⊢
  cases h1 : PyData.eqv (rD r) (rD s) <;> cases h2 : decide (r = s) <;> simp_all
theorem value_loop {a0 : SD} {x : Rat} {kx c : Nat} (hx : Rk kx x) (hc : 1 ≤ c) : ∀ (r : List Int) (s : Rat) (k : Nat) (j : SD), (∀ z ∈ r, Sz c z) → Rk k s → k + r.length * (kx + c + 1) + kx + c ≤ 8000 →
    ∃ j', forO (gTo (gSet 3) b_value_at_1) (r.map .int) [a0, .sh (rD x), .sh (rD s), j] = .nx [a0, .sh (rD x), .sh (rD (r.foldl (fun (v : Rat) (c : Int) => v * x + (c : Rat)) s)), j'] ∧ Rk (k + r.length * (kx + c + 1)) (r.foldl (fun (v : Rat) (c : Int) => v * x + (c : Rat)) s)
  | [], s, k, j, _, hs, _ => ⟨j, rfl, by simpa using hs⟩
  | z :: r, s, k, j, hr, hs, h => by
    rw [List.length_cons, Nat.succ_mul] at h
    have hz := rk_int (hr z (by simp)) hc
    have e1 := times_r hs hx (by omega)
    have e2 := plus_r (hs.mul hx) hz (by omega)
    have e : gTo (gSet 3) b_value_at_1 (.int z) [a0, .sh (rD x), .sh (rD s), j] = .nx [a0, .sh (rD x), .sh (rD (s * x + (z : Rat))), .sh (.int z)] := by
      simp [b_value_at_1, e1, rD_int, e2]
    obtain ⟨j', i1, i2⟩ := value_loop (a0 := a0) hx hc r (s * x + (z : Rat)) (k + (kx + c + 1)) (.int z |> .sh) (fun y hy => hr y (by simp [hy])) (((hs.mul hx).add hz).mono (by omega)) (by omega)
    refine ⟨j', ?_, ?_⟩
    · rw [List.map_cons]
      unfold forO
      rw [e]
      exact i1
    · rw [List.length_cons, Nat.succ_mul]
      exact i2.mono (by omega)
theorem evP_rev (a : List Int) (x : Rat) : a.reverse.foldl (fun (v : Rat) (c : Int) => v * x + (c : Rat)) 0 = evP a x := by rw [List.foldl_reverse]; rfl
theorem value_at_ok {a : List Int} {x : Rat} {kx c : Nat} (ha : SzP c a) (hx : Rk kx x) (hc : 1 ≤ c) (h : 1 + a.length * (kx + c + 1) + kx + c ≤ 8000) :
    m_value_at [pD a, rD x] = .ok (.sh (rD (evP a x))) ∧ Rk (1 + a.length * (kx + c + 1)) (evP a x) := by
  obtain ⟨j', e, i2⟩ := value_loop (a0 := .sh (pD a)) hx hc a.reverse 0 1 .no (fun z hz => ha z (by simpa using hz)) rk0 (by simpa using h)
  rw [evP_rev] at e i2
  refine ⟨?_, by simpa using i2⟩
  rw [List.map_reverse] at e
  simp [m_value_at, c_value_at, rD_0, e]
theorem lat_loop {a : List Int} {x : Rat} {kx c : Nat} (ha : SzP c a) (hx : Rk kx x) (hc : 1 ≤ c) (h : 1 + a.length * (kx + c + 1) + kx + c ≤ 1900) :
    ∃ j', forO (gTo (gSet 3) b__law_at_1) (rngL 0 1 a.length) [.sh (pD a), .sh (rD x), .sh (rD 0), .no] = .nx [.sh (pD a), .sh (rD x), .sh (rD (evP a x)), j'] := by
  obtain ⟨ρ', e, j, rfl, _⟩ := forO_inv (F := gTo (gSet 3) b__law_at_1) (l := rngL 0 1 a.length)
    (fun i ρ => ∃ j, ρ = [.sh (pD a), .sh (rD x), .sh (rD (evP (a.drop (a.length - i)) x)), j] ∧ Rk (1 + i * (kx + c + 1)) (evP (a.drop (a.length - i)) x))
    (ρ := [.sh (pD a), .sh (rD x), .sh (rD 0), .no])
    ⟨.no, by rw [Nat.sub_zero, List.drop_length]; rfl, by rw [Nat.sub_zero, List.drop_length, Nat.zero_mul]; exact rk0⟩
    (fun i d ρ hd hi => by
      obtain ⟨hil, rfl⟩ := rng0_get hd
      obtain ⟨j, rfl, hs⟩ := hi
      obtain ⟨n, hn⟩ : ∃ n, a.length - i = n + 1 := ⟨a.length - i - 1, by omega⟩
      rw [hn] at hs ⊢
      have hz := rk_int (ha.cf n) hc
      have hmul : (i + 1) * (kx + c + 1) ≤ a.length * (kx + c + 1) := Nat.mul_le_mul_right _ (by omega)
      rw [Nat.succ_mul] at hmul
      have e1 := ltimes_r hs hx (by omega)
      have e2 := lplus_r (hs.mul hx) hz (by omega)
      have ix : ixD (pD a) (.int ((a.length : Int) - 1 - (i : Int))) = some (.int (cf a n)) := by
        have := p_ixn a n
        rw [cf_get (by omega)] at this
        rw [show (a.length : Int) - 1 - (i : Int) = (n : Int) by omega]
        exact this
      have dr : a.drop n = cf a n :: a.drop (n + 1) := by
        rw [List.drop_eq_getElem_cons (by omega), cf_elem (by omega)]
      have ev : evP (a.drop n) x = evP (a.drop (n + 1)) x * x + (cf a n : Rat) := by rw [dr]; rfl
      refine ⟨_, .inl (by simp [b__law_at_1, e1, rD_int, e2, ix, -Out.nx.injEq]; rfl), .sh (.int (i : Nat)), ?_, ?_⟩
      · rw [show a.length - (i + 1) = n by omega, ev]
      · rw [show a.length - (i + 1) = n by omega, ev, Nat.succ_mul]
        exact ((hs.mul hx).add hz).mono (by omega))
  rw [rngL_length, Nat.sub_self] at e
  exact ⟨j, e⟩
theorem lat_ok {a : List Int} {x : Rat} {kx c : Nat} (ha : SzP c a) (hx : Rk kx x) (hc : 1 ≤ c) (h : 1 + a.length * (kx + c + 1) + kx + c ≤ 1900) (hl : a.length ≤ 100000) :
    m__law_at [pD a, rD x] = .ok (.sh (rD (evP a x))) := by
  obtain ⟨j', e⟩ := lat_loop ha hx hc h
  have hr := range1_ok (x := (a.length : Nat)) (by omega) (by omega)
  simp [m__law_at, c__law_at, rD_0, hr, e]
/-! ### values of sums and products -/
def evS : Nat → (Nat → Int) → Rat → Rat
  | 0, _, _ => 0
  | n + 1, f, x => evS n f x + (f n : Rat) * x ^ n
theorem evS_add (f g : Nat → Int) (x : Rat) : ∀ n, evS n (fun k => f k + g k) x = evS n f x + evS n g x
  | 0 => by simp [evS, Rat.add_zero]
  | n + 1 => by unfold evS; rw [evS_add f g x n, Rat.intCast_add]; grind
theorem evS_mul (c : Int) (f : Nat → Int) (x : Rat) : ∀ n, evS n (fun k => c * f k) x = (c : Rat) * evS n f x
  | 0 => by simp [evS]
  | n + 1 => by unfold evS; rw [evS_mul c f x n, Rat.intCast_mul]; grind
theorem evS_congr {f g : Nat → Int} {x : Rat} : ∀ {n : Nat}, (∀ k, k < n → f k = g k) → evS n f x = evS n g x
  | 0, _ => rfl
  | n + 1, h => by unfold evS; rw [evS_congr (n := n) fun k hk => h k (by omega), h n (by omega)]
theorem evS_succ (f : Nat → Int) (x : Rat) : ∀ n, evS (n + 1) f x = (f 0 : Rat) + x * evS n (fun k => f (k + 1)) x
  | 0 => by simp [evS, Rat.add_zero, Rat.zero_add]
  | n + 1 => by rw [evS, evS_succ f x n, evS, Rat.pow_succ]; grind
theorem evS_ext {f : Nat → Int} {x : Rat} {n m : Nat} (h : n ≤ m) (hz : ∀ k, n ≤ k → f k = 0) : evS m f x = evS n f x := by
  induction m with
  | zero => rw [show n = 0 by omega]
  | succ m ih =>
    by_cases e : n = m + 1
    · rw [e]
    · rw [evS, ih (by omega), hz m (by omega)]; simp [Rat.add_zero]
theorem evP_S (a : List Int) (x : Rat) : ∀ n, a.length ≤ n → evP a x = evS n (cf a) x := by
  induction a with
  | nil =>
    intro n _
    rw [evS_ext (n := 0) (Nat.zero_le n) fun k _ => cf_nil k]; rfl
  | cons c a ih =>
    intro n hn
    cases n with
    | zero => simp at hn
    | succ n =>
      rw [evS_succ, cf_zero]
      have := ih n (by simpa using hn)
      rw [show (fun k => cf (c :: a) (k + 1)) = cf a from funext fun k => cf_succ c a k, ← this]
      show evP a x * x + (c : Rat) = _
      grind
theorem evP_ext {a b : List Int} (h : ∀ k, cf a k = cf b k) (x : Rat) : evP a x = evP b x := by
  rw [evP_S a x (max a.length b.length) (by omega), evP_S b x (max a.length b.length) (by omega)]
  exact evS_congr fun k _ => h k
theorem evP_add (a b : List Int) (x : Rat) : evP (addP a b) x = evP a x + evP b x := by
  have h1 := add_len a b
  rw [evP_S _ x (max a.length b.length) h1, evP_S a x (max a.length b.length) (by omega), evP_S b x (max a.length b.length) (by omega), ← evS_add]
  exact evS_congr fun k _ => cf_add a b k
theorem evS_cv (b : List Int) (x : Rat) : ∀ (a : List Int) (n : Nat), a.length + b.length ≤ n → evS n (cv a b) x = evP a x * evP b x
  | [], n, _ => by
    rw [evS_ext (n := 0) (Nat.zero_le n) fun k _ => cv_nil b k]
    show (0 : Rat) = 0 * _
    grind
  | c :: a, n, h => by
    rw [List.length_cons] at h
    obtain ⟨m, rfl⟩ : ∃ m, n = m + 1 := ⟨n - 1, by omega⟩
    have e1 : evS (m + 1) (cv (c :: a) b) x = evS (m + 1) (fun k => c * cf b k + if k = 0 then 0 else cv a b (k - 1)) x := evS_congr fun k _ => cv_cons c a b k
    rw [e1, evS_add (fun k => c * cf b k) (fun k => if k = 0 then 0 else cv a b (k - 1)), evS_mul, ← evP_S b x (m + 1) (by omega), evS_succ]
    have ih := evS_cv b x a m (by omega)
    rw [show (fun k => if k + 1 = 0 then (0 : Int) else cv a b (k + 1 - 1)) = cv a b from funext fun k => by simp, ih]
    show _ = (evP a x * x + (c : Rat)) * evP b x
    simp
    grind
theorem evP_mul (a b : List Int) (x : Rat) : evP (mulP a b) x = evP a x * evP b x := by
  rw [evP_S _ x (a.length + b.length) (mul_len a b), ← evS_cv b x a (a.length + b.length) (Nat.le_refl _)]
  exact evS_congr fun k _ => cf_mul a b k
theorem rD_div {n d : Int} (hd : d ≠ 0) : qD (mkQ n d) = rD ((n : Rat) / (d : Rat)) := by rw [mkQ_rat hd]; rfl
end W

set_option Elab.async false
set_option linter.all false
set_option maxRecDepth 100000
set_option autoImplicit false
namespace W
open PySem PySem.Spec PyProof.Rows L2 VL
theorem ixN_nat {n i : Nat} (h : i < n) : ixN n (i : Int) = some i := by unfold ixN; rw [if_pos (by omega), if_pos (by omega)]; simp
theorem p_ixc {l : List Int} {n : Nat} (h : n < l.length) : ixD (pD l) (.int (n : Int)) = some (.int (cf l n)) := by rw [p_ixn, cf_get h]; rfl
theorem rep_ok {n : Nat} {z : Int} (hz : z = (n : Int)) (h : n ≤ 1000000) : repD [.int 0] z = some ((fl n fun _ => 0).map .int) := by
  subst hz
  unfold repD
  rw [if_pos ⟨by omega, by omega, by simp; exact Nat.le_trans h (by decide)⟩, Int.toNat_natCast, rep_zero]
theorem fl_pix {L n : Nat} {φ : Nat → Int} (h : n < L) : ixD (pD (fl L φ)) (.int (n : Int)) = some (.int (φ n)) := by rw [p_ixn, fl_get h]; rfl
theorem st_fl {L n : Nat} {φ : Nat → Int} {v : Int} : ((fl L φ).map PyData.int).set n (.int v) = (fl L fun k => if k = n then v else φ k).map .int := by rw [← List.map_set, fl_set]
theorem ladd_step1 {a b : List Int} {L i : Nat} {φ : Nat → Int} (hi : i < a.length) (hL : i < L) (x2 x4 : SD) :
    gTo (gSet 4) b__law_add_1 (.int (i : Nat)) [.sh (pD a), .sh (pD b), x2, .ow ((fl L φ).map .int), x4] = .nx [.sh (pD a), .sh (pD b), x2, .ow ((fl L fun k => if k = i then φ i + cf a i else φ k).map .int), .sh (.int (i : Nat))] := by
  simp [b__law_add_1, p_ixc hi, fl_pix hL, ixN_nat hL, st_fl]
theorem ladd_step2 {a b : List Int} {L i : Nat} {φ : Nat → Int} (hi : i < b.length) (hL : i < L) (x2 x4 : SD) :
    gTo (gSet 4) b__law_add_2 (.int (i : Nat)) [.sh (pD a), .sh (pD b), x2, .ow ((fl L φ).map .int), x4] = .nx [.sh (pD a), .sh (pD b), x2, .ow ((fl L fun k => if k = i then φ i + cf b i else φ k).map .int), .sh (.int (i : Nat))] := by
  simp [b__law_add_2, p_ixc hi, fl_pix hL, ixN_nat hL, st_fl]
theorem ladd_ok {a b : List Int} (ha : a.length ≤ 50000) (hb : b.length ≤ 50000) : m__law_add [pD a, pD b] = .ok (.ow ((addP a b).map .int)) := by
  obtain ⟨L, hL⟩ : ∃ L, L = max a.length b.length := ⟨_, rfl⟩
  have r1 := range1_ok (x := (a.length : Nat)) (by omega) (by omega)
  have r2 := range1_ok (x := (b.length : Nat)) (by omega) (by omega)
  have rp := rep_ok (n := L) (z := ((max a.length b.length : Nat) : Int)) (by rw [hL]) (by omega)
  obtain ⟨ρ1, e1, j1, rfl⟩ := forO_inv (F := gTo (gSet 4) b__law_add_1) (l := rngL 0 1 a.length)
    (fun i ρ => ∃ j, ρ = [.sh (pD a), .sh (pD b), .sh (.int ((max a.length b.length : Nat) : Int)), .ow ((fl L fun k => if k < i then cf a k else 0).map .int), j])
    (ρ := [.sh (pD a), .sh (pD b), .sh (.int ((max a.length b.length : Nat) : Int)), .ow ((fl L fun _ => 0).map .int), .no])
    ⟨.no, by simp⟩
    (fun i d ρ hd hi => by
      obtain ⟨hil, rfl⟩ := rng0_get hd
      obtain ⟨j, rfl⟩ := hi
      refine ⟨_, .inl (ladd_step1 hil (by omega) _ _), .sh (.int (i : Nat)), ?_⟩
      refine congrArg (fun l => [SD.sh (pD a), .sh (pD b), .sh (.int ((max a.length b.length : Nat) : Int)), .ow (List.map PyData.int l), .sh (.int (i : Nat))]) (fl_congr fun k _ => ?_)
      by_cases h : k = i
      · subst h; rw [if_pos rfl, if_neg (by omega), if_pos (by omega)]; omega
      · rw [if_neg h]
        by_cases h' : k < i
        · rw [if_pos h', if_pos (by omega)]
        · rw [if_neg h', if_neg (by omega)])
  rw [rngL_length] at e1
  obtain ⟨ρ2, e2', j2, rfl⟩ := forO_inv (F := gTo (gSet 4) b__law_add_2) (l := rngL 0 1 b.length)
    (fun i ρ => ∃ j, ρ = [.sh (pD a), .sh (pD b), .sh (.int ((max a.length b.length : Nat) : Int)), .ow ((fl L fun k => cf a k + if k < i then cf b k else 0).map .int), j])
    (ρ := [.sh (pD a), .sh (pD b), .sh (.int ((max a.length b.length : Nat) : Int)), .ow ((fl L fun k => if k < a.length then cf a k else 0).map .int), j1])
    ⟨j1, by
      refine congrArg (fun l => [SD.sh (pD a), .sh (pD b), .sh (.int ((max a.length b.length : Nat) : Int)), .ow (List.map PyData.int l), j1]) (fl_congr fun k _ => ?_)
      rw [if_neg (by omega : ¬ k < 0)]
      by_cases h : k < a.length
      · rw [if_pos h]; omega
      · rw [if_neg h, cf_out (by omega)]; rfl⟩
    (fun i d ρ hd hi => by
      obtain ⟨hil, rfl⟩ := rng0_get hd
      obtain ⟨j, rfl⟩ := hi
      refine ⟨_, .inl (ladd_step2 hil (by omega) _ _), .sh (.int (i : Nat)), ?_⟩
      refine congrArg (fun l => [SD.sh (pD a), .sh (pD b), .sh (.int ((max a.length b.length : Nat) : Int)), .ow (List.map PyData.int l), .sh (.int (i : Nat))]) (fl_congr fun k _ => ?_)
      by_cases h : k = i
      · subst h; rw [if_pos rfl, if_neg (by omega), if_pos (by omega)]; omega
      · rw [if_neg h]
        by_cases h' : k < i
        · rw [if_pos h', if_pos (by omega)]
        · rw [if_neg h', if_neg (by omega)])
  rw [rngL_length] at e2'
  have ht := ltrim_ok (fl L fun k => cf a k + if k < b.length then cf b k else 0) (by simp; omega)
  have he : trimP (fl L fun k => cf a k + if k < b.length then cf b k else 0) = addP a b := by
    unfold addP
    rw [hL]
    refine congrArg trimP (fl_congr fun k _ => ?_)
    by_cases h : k < b.length
    · rw [if_pos h]
    · rw [if_neg h, cf_out (l := b) (by omega)]
  rw [he] at ht
  simp [m__law_add, c__law_add, rp, r1, r2, e1, e2', ht]
theorem lmul_step {a b : List Int} {s t L : Nat} {φ : Nat → Int} {i j : Nat} (ha : SzP s a) (hb : SzP t b) (hst : s + t ≤ 134217728) (hi : i < a.length) (hj : j < b.length) (hL : i + j < L) (x4 : SD) :
    gTo (gSet 4) b__law_multiply_1 (.int (j : Nat)) [.sh (pD a), .sh (pD b), .ow ((fl L φ).map .int), .sh (.int (i : Nat)), x4]
      = .nx [.sh (pD a), .sh (pD b), .ow ((fl L fun k => if k = i + j then φ k + cf a i * cf b j else φ k).map .int), .sh (.int (i : Nat)), .sh (.int (j : Nat))] := by
  have m := okMul_of (ha.cf i) (hb.cf j) hst
  have ix : ixD (pD (fl L φ)) (.int ((i : Int) + (j : Int))) = some (.int (φ (i + j))) := fl_pix (n := i + j) hL
  have ij : ixN L ((i : Int) + (j : Int)) = some (i + j) := ixN_nat (i := i + j) hL
  have st : ((fl L φ).map PyData.int).set (i + j) (.int (φ (i + j) + cf a i * cf b j)) = (fl L fun k => if k = i + j then φ k + cf a i * cf b j else φ k).map .int := by
    rw [st_fl]
    refine congrArg _ (fl_congr fun k _ => ?_)
    by_cases z : k = i + j
    · subst z; simp
    · simp [z]
  simp [b__law_multiply_1, p_ixc hi, p_ixc hj, ix, ij, m, st]
theorem lmul_inner {a b : List Int} {s t L : Nat} {φ : Nat → Int} {i : Nat} (ha : SzP s a) (hb : SzP t b) (hst : s + t ≤ 134217728) (hi : i < a.length) (hL : i + b.length ≤ L) (x4 : SD) :
    ∃ y4, forO (gTo (gSet 4) b__law_multiply_1) (rngL 0 1 b.length) [.sh (pD a), .sh (pD b), .ow ((fl L φ).map .int), .sh (.int (i : Nat)), x4]
      = .nx [.sh (pD a), .sh (pD b), .ow ((fl L fun k => φ k + tm a b k i).map .int), .sh (.int (i : Nat)), y4] := by
  obtain ⟨ρ', e, y4, rfl⟩ := forO_inv (F := gTo (gSet 4) b__law_multiply_1) (l := rngL 0 1 b.length)
    (fun j ρ => ∃ y4, ρ = [.sh (pD a), .sh (pD b), .ow ((fl L fun k => φ k + if i ≤ k ∧ k < i + j then cf a i * cf b (k - i) else 0).map .int), .sh (.int (i : Nat)), y4])
    (ρ := [.sh (pD a), .sh (pD b), .ow ((fl L φ).map .int), .sh (.int (i : Nat)), x4])
    ⟨x4, by
      rw [show fl L φ = fl L fun k => φ k + if i ≤ k ∧ k < i + 0 then cf a i * cf b (k - i) else 0 from fl_congr fun k _ => by rw [if_neg (by omega)]; omega]⟩
    (fun j d ρ hd hi' => by
      obtain ⟨hj, rfl⟩ := rng0_get hd
      obtain ⟨y4, rfl⟩ := hi'
      refine ⟨_, .inl (lmul_step ha hb hst hi hj (by omega) _), .sh (.int (j : Nat)), ?_⟩
      refine congrArg (fun l => [SD.sh (pD a), .sh (pD b), SD.ow (List.map PyData.int l), .sh (.int (i : Nat)), .sh (.int (j : Nat))]) (fl_congr fun k _ => ?_)
      by_cases z : k = i + j
      · subst z
        rw [if_pos rfl, if_neg (by omega), if_pos (by omega)]
        simp
      · rw [if_neg z]
        by_cases w : i ≤ k ∧ k < i + j
        · rw [if_pos w, if_pos (by omega)]
        · rw [if_neg w, if_neg (by omega)])
  refine ⟨y4, ?_⟩
  rw [e, rngL_length]
  refine congrArg (fun l => Out.nx [SD.sh (pD a), .sh (pD b), SD.ow (List.map PyData.int l), .sh (.int (i : Nat)), y4]) (fl_congr fun k _ => ?_)
  unfold tm
  by_cases w : i ≤ k
  · rw [if_pos w]
    by_cases v : k < i + b.length
    · rw [if_pos ⟨w, v⟩]
    · rw [if_neg (by omega), cf_out (l := b) (by omega)]; simp
  · rw [if_neg w, if_neg (by omega)]
theorem lmultiply_ok {a b : List Int} {s t : Nat} (ha : SzP s a) (hb : SzP t b) (hst : s + t ≤ 134217728) (hla : a.length ≤ 40000) (hlb : b.length ≤ 40000) (ta : Tr a) (tb : Tr b) : m__law_multiply [pD a, pD b] = .ok (.ow ((mulP a b).map .int)) := by
  obtain ⟨L, hL⟩ : ∃ L, L = a.length + b.length + 1 := ⟨_, rfl⟩
  have r1 := range1_ok (x := (a.length : Nat)) (by omega) (by omega)
  have r2 := range1_ok (x := (b.length : Nat)) (by omega) (by omega)
  have rp := rep_ok (n := L) (z := (a.length : Int) + (b.length : Int) + 1) (by omega) (by omega)
  obtain ⟨ρ', e, y3, y4, rfl⟩ := forO_inv (F := gTo (gSet 3) b__law_multiply_2) (l := rngL 0 1 a.length)
    (fun i ρ => ∃ y3 y4, ρ = [.sh (pD a), .sh (pD b), .ow ((fl L fun k => sumN i (tm a b k)).map .int), y3, y4])
    (ρ := [.sh (pD a), .sh (pD b), .ow ((fl L fun _ => 0).map .int), .no, .no])
    ⟨_, _, rfl⟩
    (fun i d ρ hd hi => by
      obtain ⟨hj, rfl⟩ := rng0_get hd
      obtain ⟨y3, y4, rfl⟩ := hi
      obtain ⟨z4, e⟩ := lmul_inner (φ := fun k => sumN i (tm a b k)) (i := i) (L := L) ha hb hst hj (by omega) y4
      exact ⟨_, .inl (by simp [b__law_multiply_2, r2, e, -Out.nx.injEq]; rfl), _, _, rfl⟩)
  rw [rngL_length] at e
  have ht := ltrim_ok (fl L fun k => sumN a.length (tm a b k)) (by simp; omega)
  have he : trimP (fl L fun k => sumN a.length (tm a b k)) = mulP a b := trim_eq (tr_mul ta tb) fun k => by
    rw [cf_fl, cf_mul]
    split
    · rfl
    · exact (cv_out (by omega)).symm
  rw [he] at ht
  simp [m__law_multiply, c__law_multiply, rp, r1, e, ht]
theorem lis_poly_ok {l : List Int} (h : Tr l) (hl : l.length ≤ 100000) : m__law_is_polynomial [pD l] = .ok (.sh (.bool true)) := by
  obtain ⟨ρ', e, j, rfl⟩ := forO_inv (F := gTo (gSet 1) b__law_is_polynomial_1) (l := l.map .int) (fun _ ρ => ∃ j, ρ = [.sh (pD l), j]) (ρ := [.sh (pD l), .no]) ⟨_, rfl⟩
    (fun i d ρ hd hi => by
      obtain ⟨j, rfl⟩ := hi
      rw [List.getElem?_map] at hd
      obtain ⟨x, _, rfl⟩ := Option.map_eq_some_iff.mp hd
      exact ⟨_, .inl (by simp [b__law_is_polynomial_1, -Out.nx.injEq]; rfl), _, rfl⟩)
  cases l with
  | nil => simp [m__law_is_polynomial, c__law_is_polynomial, forO]
  | cons c l =>
    obtain ⟨n, hn⟩ : ∃ n, (c :: l).length = n + 1 := ⟨_, rfl⟩
    have hc := h n hn
    have ix : ixD (pD (c :: l)) (.int (-1)) = some (.int (cf (c :: l) n)) := by
      have := take_snoc (l := c :: l) (n := n) (by omega)
      rw [List.take_of_length_le (by omega)] at this
      unfold pD
      rw [this]
      exact r_at_last
    have h0 : ¬ ((l.length : Int) + 1 = 0) := by omega
    rw [List.map_cons] at e
    simp [m__law_is_polynomial, c__law_is_polynomial, e, ix, hc, h0]
end W

set_option Elab.async false
set_option linter.all false
set_option maxRecDepth 100000
set_option autoImplicit false
namespace W
open PySem PySem.Spec PyProof.Rows L2 VL
noncomputable def b__law_pool_1 : Ev → Out := sSeq (sApp 1 (e2 modD (e1 intD (eCons (eOwn 4) (cst []))) (cst (.int 60)))) (sSet 4 (e2 fdivD (eOwn 4) (cst (.int 60))))
noncomputable def b__law_pool_2 : Ev → Out := sSeq (sSet 4 (e2 ixD (eOwn 0) (eOwn 3))) (sSeq (sSet 2 (e2 modD (e1 intD (eCons (e2 addD (e2 addD (e2 mulD (eOwn 2) (cst (.int 69621))) (e2 mulD (eOwn 4) (cst (.int 48271)))) (eOwn 3)) (cst []))) (cst (.int 2147483647)))) (sIf (e1 bOf (e2 geD (eOwn 4) (e2 powD (cst (.int 10)) (cst (.int 18))))) (sFor (e1 range1D (eCons (cst (.int 60)) (cst []))) (gSet 5) b__law_pool_1) (sSeq (sSet 6 (e2 modD (e1 intD (eCons (e2 addD (e2 addD (e2 mulD (eOwn 4) (cst (.int 48271))) (e2 mulD (eOwn 3) (cst (.int 69621)))) (cst (.int 7))) (cst []))) (cst (.int 2147483647)))) (sSeq (sSet 7 (e2 modD (e1 intD (eCons (e2 addD (e2 addD (e2 mulD (eOwn 6) (cst (.int 16807))) (e2 mulD (eOwn 4) (cst (.int 31)))) (eOwn 3)) (cst []))) (cst (.int 1000003)))) (sSetO 1 (e2 addO (eOwn 1) (eLst (e1 lim (eCons (e2 modD (e1 intD (eCons (e2 fdivD (eOwn 6) (cst (.int 11))) (cst []))) (cst (.int 60))) (eCons (e2 modD (e1 intD (eCons (eOwn 7) (cst []))) (cst (.int 60))) (cst [])))))))))))
noncomputable def b__law_pool_3 : Ev → Out := sSeq (sSet 2 (e2 modD (e1 intD (eCons (e2 addD (e2 mulD (eOwn 2) (cst (.int 48271))) (cst (.int 11))) (cst []))) (cst (.int 2147483647)))) (sApp 1 (e2 modD (e1 intD (eCons (e2 fdivD (eOwn 2) (cst (.int 97))) (cst []))) (cst (.int 60))))
noncomputable def c__law_pool : Ev → Out := sSeq (sSetO 1 (e1 lim (cst []))) (sSeq (sSet 2 (cst (.int 17))) (sSeq (sFor (e1 range1D (eCons (e1 minD (eCons (e1 lenD (eCons (eOwn 0) (cst []))) (eCons (cst (.int 63)) (cst [])))) (cst []))) (gSet 3) b__law_pool_2) (sSeq (sFor (e1 range1D (eCons (cst (.int 300)) (cst []))) (gSet 5) b__law_pool_3) (sRetV 1))))
noncomputable def m__law_pool : List D → R SD := runD 1 8 c__law_pool
noncomputable def c__law_stream : Ev → Out := sRetO (e2 addO (eLst (e1 lim (eCons (cst (.int 0)) (cst [])))) (eCall m__law_pool (eCons (eVar 0) (cst []))))
noncomputable def m__law_stream : List D → R SD := runD 1 1 c__law_stream
noncomputable def c__law_pick : Ev → Out := sSeq (yStore 0 (xl (cst (.int 0))) (xl (e2 addD (cst (.int 1)) (e2 modD (e1 intD (eCons (e2 ixD (eOwn 0) (cst (.int 0))) (cst []))) (e2 subD (e1 lenD (eCons (eOwn 0) (cst []))) (cst (.int 1))))))) (yRetB (xl (e2 modD (e1 intD (eCons (e2 ixD (eOwn 0) (e2 ixD (eOwn 0) (cst (.int 0)))) (cst []))) (eOwn 1))))
noncomputable def m__law_pick : List D → List D → RB := runB 2 2 0 c__law_pick
noncomputable def b__law_trim_k40_1 : Ev → Out := sSeq (sIf (e1 bOf (e2 neD (e2 ixD (eOwn 0) (e2 subD (eOwn 1) (cst (.int 1)))) (cst (.int 0)))) (.bk) (sNil)) (sSet 1 (e2 subD (eOwn 1) (cst (.int 1))))
noncomputable def c__law_trim_k40 : Ev → Out := sSeq (sSet 1 (e1 lenD (eCons (eOwn 0) (cst [])))) (sSeq (sFor (e1 range1D (eCons (e1 lenD (eCons (eOwn 0) (cst []))) (cst []))) (gSet 2) b__law_trim_k40_1) (sRet (e3 sliceD (eOwn 0) (pNo) (e1 intOf (eVar 1)))))
noncomputable def m__law_trim_k40 : List D → R SD := runD 1 3 c__law_trim_k40
noncomputable def c__law_poly : Ev → Out := sSeq (ySet 2 (x2 addD (xl (cst (.int 1))) (xCallB m__law_pick 0 (xHere 0 (xCons (xl (e2 addD (eOwn 1) (cst (.int 1)))) (xl (cst []))))))) (sSeq (yIf (x1 bOf (x2 eqD (xCallB m__law_pick 0 (xHere 0 (xCons (xl (cst (.int 20))) (xl (cst []))))) (xl (cst (.int 0))))) (yRetB (xCall m__law_trim_k40 (xCons (xLst (xComp [3] (xl (e1 range1D (eCons (eOwn 2) (cst [])))) (gSet 3) (xl (cst true)) (x2 subD (xCallB m__law_pick 0 (xHere 0 (xCons (xl (cst (.int 39))) (xl (cst []))))) (xl (cst (.int 19)))))) (xl (cst []))))) (sNil)) (yRetB (xCall m__law_trim_k40 (xCons (xLst (xComp [3] (xl (e1 range1D (eCons (eOwn 2) (cst [])))) (gSet 3) (xl (cst true)) (x2 ixD (xl (eLst (e1 lim (eCons (cst (.int 0)) (eCons (cst (.int 1)) (eCons (e1 negD (cst (.int 1))) (eCons (cst (.int 2)) (eCons (cst (.int 1)) (eCons (e1 negD (cst (.int 2))) (eCons (cst (.int 3)) (eCons (cst (.int 0)) (eCons (e1 negD (cst (.int 1))) (eCons (e1 negD (cst (.int 3))) (cst [])))))))))))))) (xCallB m__law_pick 0 (xHere 0 (xCons (xl (cst (.int 10))) (xl (cst [])))))))) (xl (cst []))))))
noncomputable def m__law_poly : List D → List D → RB := runB 2 4 0 c__law_poly
noncomputable def b__law_rows_1 : Ev → Out := sSeq (ySet 5 (x2 ixD (xl (eLst (e1 lim (eCons (cst (.str "<=")) (eCons (cst (.str "<")) (eCons (cst (.str "<=")) (eCons (cst (.str "=")) (eCons (cst (.str "<")) (cst []))))))))) (xCallB m__law_pick 0 (xHere 0 (xCons (xl (cst (.int 5))) (xl (cst []))))))) (sSeq (ySetO 6 (xComp [7] (xl (e1 range1D (eCons (eOwn 1) (cst [])))) (gSet 7) (xl (cst true)) (xCallB m__law_poly 0 (xHere 0 (xCons (x2 ixD (xl (eLst (e1 lim (eCons (cst (.int 1)) (eCons (cst (.int 2)) (eCons (cst (.int 0)) (eCons (cst (.int 1)) (cst [])))))))) (xCallB m__law_pick 0 (xHere 0 (xCons (xl (cst (.int 4))) (xl (cst [])))))) (xl (cst []))))))) (sFz 6 (yApp 3 (x1 tupD (xCons (xl (eVar 6)) (xCons (xCallB m__law_poly 0 (xHere 0 (xCons (xl (cst (.int 2))) (xl (cst []))))) (xCons (xl (eVar 5)) (xl (cst [])))))))))
noncomputable def c__law_rows : Ev → Out := sSeq (sSetO 3 (e1 lim (cst []))) (sSeq (yFor (x1 range1D (xCons (x2 addD (xl (cst (.int 1))) (xCallB m__law_pick 0 (xHere 0 (xCons (xl (eVar 2)) (xl (cst [])))))) (xl (cst [])))) (gSet 4) b__law_rows_1) (yRetVB 3))
noncomputable def m__law_rows : List D → List D → RB := runB 3 8 0 c__law_rows
noncomputable def b__law_lowest_1 : Ev → Out := sSeq (sIf (e1 bOf (e2 eqD (eOwn 3) (cst (.int 0)))) (.bk) (sNil)) (sPar 2 3 (eCons (eVar 3) (eCons (e2 modD (e1 intD (eCons (eOwn 2) (cst []))) (eOwn 3)) (cst []))))
noncomputable def c__law_lowest : Ev → Out := sSeq (sIf (e1 bOf (e2 ltD (eOwn 1) (cst (.int 0)))) (sPar 0 1 (eCons (e1 negD (eOwn 0)) (eCons (e1 negD (eOwn 1)) (cst [])))) (sNil)) (sSeq (sPar 2 3 (eCons (e1 absD (eCons (eOwn 0) (cst []))) (eCons (eVar 1) (cst [])))) (sSeq (sFor (e1 range1D (eCons (cst (.int 5000)) (cst []))) (gSet 4) b__law_lowest_1) (sRet (e1 tupD (eCons (e2 fdivD (eOwn 0) (eOwn 2)) (eCons (e2 fdivD (eOwn 1) (eOwn 2)) (cst [])))))))
noncomputable def m__law_lowest : List D → R SD := runD 2 5 c__law_lowest
noncomputable def c__law_number_k40 : Ev → Out := yRetB (xCall m__law_lowest (xCons (x2 subD (xCallB m__law_pick 0 (xHere 0 (xCons (xl (cst (.int 41))) (xl (cst []))))) (xl (cst (.int 20)))) (xCons (x2 ixD (xl (eLst (e1 lim (eCons (cst (.int 1)) (eCons (cst (.int 1)) (eCons (cst (.int 2)) (eCons (cst (.int 3)) (eCons (cst (.int 1)) (eCons (cst (.int 7)) (cst [])))))))))) (xCallB m__law_pick 0 (xHere 0 (xCons (xl (cst (.int 6))) (xl (cst [])))))) (xl (cst [])))))
noncomputable def m__law_number_k40 : List D → List D → RB := runB 1 1 0 c__law_number_k40
noncomputable def c_sign_of : Ev → Out := sRet (e2 subD (e1 intD (eCons (e2 gtD (eOwn 0) (cst (.int 0))) (cst []))) (e1 intD (eCons (e2 ltD (eOwn 0) (cst (.int 0))) (cst []))))
noncomputable def m_sign_of : List D → R SD := runD 1 1 c_sign_of
noncomputable def c_sign_at : Ev → Out := sRet (eCall m_sign_of (eCons (e2 ixD (eCall m_value_at (eCons (eVar 0) (eCons (eVar 1) (cst [])))) (cst (.int 0))) (cst [])))
noncomputable def m_sign_at : List D → R SD := runD 2 2 c_sign_at
noncomputable def c_signs_at : Ev → Out := sRetO (eComp [3] (e1 seqD (eVar 0)) (gSet 3) (cst true) (eCall m_sign_at (eCons (e2 ixD (e2 ixD (eOwn 3) (cst (.int 0))) (eOwn 1)) (eCons (eVar 2) (cst [])))))
noncomputable def m_signs_at : List D → R SD := runD 3 4 c_signs_at
noncomputable def c__law_add_k40 : Ev → Out := sRet (eCall m__law_lowest (eCons (e2 addD (e2 mulD (e2 ixD (eOwn 0) (cst (.int 0))) (e2 ixD (eOwn 1) (cst (.int 1)))) (e2 mulD (e2 ixD (eOwn 1) (cst (.int 0))) (e2 ixD (eOwn 0) (cst (.int 1))))) (eCons (e2 mulD (e2 ixD (eOwn 0) (cst (.int 1))) (e2 ixD (eOwn 1) (cst (.int 1)))) (cst []))))
noncomputable def m__law_add_k40 : List D → R SD := runD 2 2 c__law_add_k40
noncomputable def c__law_mul : Ev → Out := sRet (eCall m__law_lowest (eCons (e2 mulD (e2 ixD (eOwn 0) (cst (.int 0))) (e2 ixD (eOwn 1) (cst (.int 0)))) (eCons (e2 mulD (e2 ixD (eOwn 0) (cst (.int 1))) (e2 ixD (eOwn 1) (cst (.int 1)))) (cst []))))
noncomputable def m__law_mul : List D → R SD := runD 2 2 c__law_mul
noncomputable def b__law_value_1 : Ev → Out := sSet 2 (eCall m__law_add_k40 (eCons (eCall m__law_mul (eCons (eVar 2) (eCons (eVar 1) (cst [])))) (eCons (e1 tupD (eCons (e2 ixD (eOwn 0) (e2 subD (e2 subD (e1 lenD (eCons (eOwn 0) (cst []))) (cst (.int 1))) (eOwn 3))) (eCons (cst (.int 1)) (cst [])))) (cst []))))
noncomputable def c__law_value : Ev → Out := sSeq (sSet 2 (e1 tupD (eCons (cst (.int 0)) (eCons (cst (.int 1)) (cst []))))) (sSeq (sFor (e1 range1D (eCons (e1 lenD (eCons (eOwn 0) (cst []))) (cst []))) (gSet 3) b__law_value_1) (sRet (eVar 2)))
noncomputable def m__law_value : List D → R SD := runD 2 4 c__law_value
noncomputable def c__law_sign : Ev → Out := sSeq (sSet 2 (e2 ixD (eCall m__law_value (eCons (eVar 0) (eCons (eVar 1) (cst [])))) (cst (.int 0)))) (sRet (e2 subD (e1 intD (eCons (e2 gtD (eOwn 2) (cst (.int 0))) (cst []))) (e1 intD (eCons (e2 ltD (eOwn 2) (cst (.int 0))) (cst [])))))
noncomputable def m__law_sign : List D → R SD := runD 2 3 c__law_sign

/-! ### the pool of small numbers -/
structure IsPool (l : List Int) : Prop where
  two : 2 ≤ l.length
  len : l.length ≤ 10000
  lo : ∀ x ∈ l, 0 ≤ x
  hi : ∀ x ∈ l, x < 1000000
def PP (L : List D) : Prop := ∃ l : List Int, L = l.map .int ∧ IsPool l
theorem l_ix {l : List Int} {x : Int} {n : Nat} (hx : x = n) (h : n < l.length) : ixD (.list (l.map .int)) (.int x) = some (.int (cf l n)) := by
  subst hx; exact p_ixc h
theorem pick_ok {L : List D} (h : PP L) {n : Int} (hn : 0 < n) : ∃ L' v, m__law_pick L [.none, .int n] = .ok (.sh (.int v)) L' ∧ PP L' ∧ 0 ≤ v ∧ v < n := by
  obtain ⟨l, rfl, hl⟩ := h
  have h2 := hl.two
  have h3 := hl.len
  obtain ⟨a0, a1⟩ := fmod_rng (a := cf l 0) (b := (l.length : Int) - 1) (by omega)
  obtain ⟨k, hk⟩ : ∃ k : Nat, 1 + (cf l 0).fmod ((l.length : Int) - 1) = (k : Int) := ⟨(1 + (cf l 0).fmod ((l.length : Int) - 1)).toNat, by omega⟩
  have hm : modD (.int (cf l 0)) (.int ((l.length : Int) - 1)) = some (.int ((cf l 0).fmod ((l.length : Int) - 1))) := r_mod (by omega)
  have hkl : k < l.length := by omega
  have ix0 : ixD (pD l) (.int 0) = some (.int (cf l 0)) := p_ixc (n := 0) (by omega)
  have ixn : ixN l.length 0 = some 0 := ixN_nat (i := 0) (by omega)
  have ix1 : ixD (pD (l.set 0 (k : Int))) (.int 0) = some (.int (k : Int)) := by
    have := p_ixc (l := l.set 0 (k : Int)) (n := 0) (by simp; omega)
    rw [show cf (l.set 0 (k : Int)) 0 = (k : Int) by
      unfold cf; rw [List.getD_eq_getElem?_getD, List.getElem?_set_self (by omega)]; rfl] at this
    exact this
  have ix2 : ixD (pD (l.set 0 (k : Int))) (.int (k : Int)) = some (.int (cf (l.set 0 (k : Int)) k)) := p_ixc (by simpa using hkl)
  obtain ⟨v0, v1⟩ := fmod_rng (a := cf (l.set 0 (k : Int)) k) hn
  have hst : (l.map PyData.int).set 0 (.int (k : Int)) = (l.set 0 (k : Int)).map .int := by rw [List.map_set]
  have hm2 : modD (.int (cf (l.set 0 (k : Int)) k)) (.int n) = some (.int ((cf (l.set 0 (k : Int)) k).fmod n)) := r_mod (by omega)
  refine ⟨_, (cf (l.set 0 (k : Int)) k).fmod n, ?_, ⟨l.set 0 (k : Int), rfl, ⟨by simpa using h2, by simpa using h3, fun x hx => ?_, fun x hx => ?_⟩⟩, v0, v1⟩
  · simp [m__law_pick, c__law_pick, ix0, hm, hk, ixn, hst, -List.map_set, ix1, ix2, hm2]
  · rcases List.mem_or_eq_of_mem_set hx with h | h
    · exact hl.lo x h
    · omega
  · rcases List.mem_or_eq_of_mem_set hx with h | h
    · exact hl.hi x h
    · omega
theorem list_of {α : Type} {F : α → D} {Q : α → Prop} : ∀ {ys : List D}, (∀ y ∈ ys, ∃ a, y = F a ∧ Q a) → ∃ as : List α, ys = as.map F ∧ ∀ a ∈ as, Q a
  | [], _ => ⟨[], rfl, by simp⟩
  | y :: ys, h => by
    obtain ⟨a, rfl, ha⟩ := h y (by simp)
    obtain ⟨as, rfl, has⟩ := list_of (ys := ys) fun y hy => h y (by simp [hy])
    exact ⟨a :: as, rfl, by simpa using ⟨ha, has⟩⟩
theorem trim2_loop (l : List Int) : ∃ j, forO (gTo (gSet 2) b__law_trim_k40_1) (rngL 0 1 l.length) [.sh (pD l), .sh (.int (l.length : Nat)), .no] = .nx [.sh (pD l), .sh (.int (tlen l l.length : Nat)), j] := by
  have tl : ∀ n, n ≤ l.length → (∀ k, n ≤ k → cf l k = 0) → tlen l l.length = tlen l n := fun n hn hz => by
    have : ∀ m, n ≤ m → m ≤ l.length → tlen l m = tlen l n := fun m => by
      induction m with
      | zero => intro h _; rw [show n = 0 by omega]
      | succ m ih =>
        intro h1 h2
        by_cases e : n = m + 1
        · rw [e]
        · rw [tlen, if_pos (hz m (by omega)), ih (by omega) (by omega)]
    exact this _ hn (Nat.le_refl _)
  refine forO_gen (F := gTo (gSet 2) b__law_trim_k40_1) (l := rngL 0 1 l.length) (fun o => ∃ j, o = .nx [.sh (pD l), .sh (.int (tlen l l.length : Nat)), j])
    (fun i ρ => ∃ j, ρ = [.sh (pD l), .sh (.int ((l.length - i : Nat) : Int)), j] ∧ ∀ k, l.length - i ≤ k → cf l k = 0)
    ⟨.no, rfl, fun k hk => cf_out (by omega)⟩ (fun i d ρ hd hi => ?_) (fun ρ h => ?_)
  · obtain ⟨hil, rfl⟩ := rng0_get hd
    obtain ⟨j, rfl, hz⟩ := hi
    obtain ⟨n, hn⟩ : ∃ n, l.length - i = n + 1 := ⟨l.length - i - 1, by omega⟩
    rw [hn] at hz
    have he : ((l.length - i : Nat) : Int) = (n : Int) + 1 := by omega
    have ix : ixD (pD l) (.int (n : Int)) = some (.int (cf l n)) := p_ixc (by omega)
    have hs : (n : Int) + 1 - 1 = n := by omega
    rw [he]
    by_cases z : cf l n = 0
    · left
      refine ⟨_, .inl (by simp [b__law_trim_k40_1, hs, ix, z, -Out.nx.injEq]; rfl), .sh (.int (i : Nat)), by rw [show l.length - (i + 1) = n by omega], fun k hk => ?_⟩
      by_cases e : k = n
      · subst e; exact z
      · exact hz k (by omega)
    · right; left
      refine ⟨_, by simp [b__law_trim_k40_1, hs, ix, z, -Out.bk.injEq]; rfl, .sh (.int (i : Nat)), ?_⟩
      rw [tl (n + 1) (by omega) hz, tlen, if_neg z]; rfl
  · obtain ⟨j, rfl, hz⟩ := h
    rw [rngL_length, Nat.sub_self] at hz
    rw [rngL_length, Nat.sub_self]
    exact ⟨j, by rw [tl 0 (by omega) hz]; rfl⟩
theorem trim2_ok (l : List Int) (h : l.length ≤ 100000) : m__law_trim_k40 [pD l] = .ok (.sh (pD (trimP l))) := by
  obtain ⟨j, e⟩ := trim2_loop l
  have hr := range1_ok (x := (l.length : Nat)) (by omega) (by omega)
  have c := cutI_to l (tlen l l.length) (tlen_le l _)
  simp [m__law_trim_k40, c__law_trim_k40, hr, e, c, trimP]
structure SmallP (n : Nat) (a : List Int) : Prop where
  tr : Tr a
  sz : SzP 6 a
  len : a.length ≤ n
theorem poly_ok {L : List D} (h : PP L) {z : Int} {n : Nat} (hz : z = n) (hn : n ≤ 10) : ∃ L' a, m__law_poly L [.none, .int z] = .ok (.sh (pD a)) L' ∧ PP L' ∧ SmallP (n + 1) a := by
  subst hz
  obtain ⟨L1, v, u1, h1, v0, v1⟩ := pick_ok h (n := (n : Int) + 1) (by omega)
  obtain ⟨L2, w, u2, h2, w0, w1⟩ := pick_ok h1 (n := 20) (by decide)
  obtain ⟨s, hs⟩ : ∃ s : Nat, 1 + v = (s : Int) := ⟨(1 + v).toNat, by omega⟩
  have hr := range1_ok (x := (s : Int)) (by omega) (by omega)
  have hsz : s ≤ sizeLine := slB (by omega)
  have fin : ∀ (step : D → Ev → RX (Option D)), (∀ d L, PP L → ∃ L' c, step d [.bo L, .sh (.int (n : Int)), .sh (.int (s : Int)), .no] = .ok (some (.int c)) [.bo L', .sh (.int (n : Int)), .sh (.int (s : Int)), .no] ∧ PP L' ∧ Sz 6 c) →
      ∃ L' cs, compX step (rngL 0 1 s) [.bo L2, .sh (.int (n : Int)), .sh (.int (s : Int)), .no] = .ok (cs.map .int) [.bo L', .sh (.int (n : Int)), .sh (.int (s : Int)), .no] ∧ PP L' ∧ SmallP (n + 1) (trimP cs) ∧ m__law_trim_k40 [pD cs] = .ok (.sh (pD (trimP cs))) := fun step hst => by
    obtain ⟨ys, ρ', f1, ⟨L', f2, rfl⟩, f3, f4⟩ := compX_all (step := step) (fun ρ => ∃ L, PP L ∧ ρ = [.bo L, .sh (.int (n : Int)), .sh (.int (s : Int)), .no]) (fun y => ∃ c, y = .int c ∧ Sz 6 c) (l := rngL 0 1 s) (fun d ρ _ hρ => by
      obtain ⟨L, hL, rfl⟩ := hρ
      obtain ⟨L', c, q1, q2, q3⟩ := hst d L hL
      exact ⟨_, _, q1, ⟨L', q2, rfl⟩, c, rfl, q3⟩) ⟨L2, h2, rfl⟩
    obtain ⟨cs, rfl, hcs⟩ := list_of f4
    rw [List.length_map, rngL_length] at f3
    exact ⟨L', cs, f1, f2, ⟨tr_trim _, SzP.trim hcs, Nat.le_trans (trim_le _) (by omega)⟩, trim2_ok cs (by omega)⟩
  by_cases hw : w = 0
  · subst hw
    obtain ⟨L', cs, f1, f2, f3, f4⟩ := fin (compXS [3] (gSet 3) (xl (cst true)) (x2 subD (xCallB m__law_pick 0 (xHere 0 (xCons (xl (cst (.int 39))) (xl (cst []))))) (xl (cst (.int 19))))) (fun d L hL => by
      obtain ⟨L', c, q1, q2, q3, q4⟩ := pick_ok hL (n := 39) (by decide)
      exact ⟨L', c - 19, by simp [compXS, q1], q2, .of 64 (by omega) (by omega) (by decide)⟩)
    exact ⟨L', _, by simp [m__law_poly, c__law_poly, u1, u2, hs, hr, rngL_length, hsz, f1, f4, -RB.ok.injEq] <;> rfl, f2, f3⟩
  · obtain ⟨L', cs, f1, f2, f3, f4⟩ := fin (compXS [3] (gSet 3) (xl (cst true)) (x2 ixD (xl (eLst (e1 lim (eCons (cst (.int 0)) (eCons (cst (.int 1)) (eCons (e1 negD (cst (.int 1))) (eCons (cst (.int 2)) (eCons (cst (.int 1)) (eCons (e1 negD (cst (.int 2))) (eCons (cst (.int 3)) (eCons (cst (.int 0)) (eCons (e1 negD (cst (.int 1))) (eCons (e1 negD (cst (.int 3))) (cst [])))))))))))))) (xCallB m__law_pick 0 (xHere 0 (xCons (xl (cst (.int 10))) (xl (cst []))))))) (fun d L hL => by
      obtain ⟨L', c, q1, q2, q3, q4⟩ := pick_ok hL (n := 10) (by decide)
      have hc : c = 0 ∨ c = 1 ∨ c = 2 ∨ c = 3 ∨ c = 4 ∨ c = 5 ∨ c = 6 ∨ c = 7 ∨ c = 8 ∨ c = 9 := by omega
      rcases hc with rfl | rfl | rfl | rfl | rfl | rfl | rfl | rfl | rfl | rfl <;>
        exact ⟨L', _, by simp [compXS, q1, -RX.ok.injEq]; rfl, q2, .lit (by decide)⟩)
    exact ⟨L', _, by simp [m__law_poly, c__law_poly, u1, u2, hw, hs, hr, rngL_length, hsz, f1, f4, -RB.ok.injEq] <;> rfl, f2, f3⟩
/-! ### rows -/
structure Row where
  ps : List (List Int)
  q : List Int
  s : Str
def rowD (r : Row) : D := .tuple [.list (r.ps.map pD), pD r.q, .str r.s]
structure RowOk (m : Nat) (r : Row) : Prop where
  len : r.ps.length = m
  ps : ∀ p ∈ r.ps, SmallP 3 p
  q : SmallP 3 r.q
  s : r.s = "<=" ∨ r.s = "<" ∨ r.s = "="
theorem SmallP.mono {n m : Nat} {a : List Int} (h : SmallP n a) (e : n ≤ m) : SmallP m a := ⟨h.tr, h.sz, Nat.le_trans h.len e⟩
theorem row_step {L : List D} (h : PP L) {m : Nat} (hm : m ≤ 10) {rs : List Row} (hrs : rs.length < 1000) (d : D) (w2 w4 w5 w6 : SD) :
    ∃ L' r y4 y5 y6, gTo (gSet 4) b__law_rows_1 d [.bo L, .sh (.int (m : Int)), w2, .ow (rs.map rowD), w4, w5, w6, .no] = .nx [.bo L', .sh (.int (m : Int)), w2, .ow ((rs ++ [r]).map rowD), y4, y5, y6, .no] ∧ PP L' ∧ RowOk m r := by
  obtain ⟨L1, v, u1, h1, v0, v1⟩ := pick_ok h (n := 5) (by decide)
  have hr := range1_ok (x := (m : Int)) (by omega) (by omega)
  have hsz : m ≤ sizeLine := slB (by omega)
  obtain ⟨sg, hsg, hso⟩ : ∃ sg : Str, ixD (.list [.str "<=", .str "<", .str "<=", .str "=", .str "<"]) (.int v) = some (.str sg) ∧ (sg = "<=" ∨ sg = "<" ∨ sg = "=") := by
    have hc : v = 0 ∨ v = 1 ∨ v = 2 ∨ v = 3 ∨ v = 4 := by omega
    rcases hc with rfl | rfl | rfl | rfl | rfl <;> exact ⟨_, by simp <;> rfl, by simp⟩
  obtain ⟨ys, ρ', f1, ⟨L2, f2, rfl⟩, f3, f4⟩ := compX_all (step := compXS [7] (gSet 7) (xl (cst true)) (xCallB m__law_poly 0 (xHere 0 (xCons (x2 ixD (xl (eLst (e1 lim (eCons (cst (.int 1)) (eCons (cst (.int 2)) (eCons (cst (.int 0)) (eCons (cst (.int 1)) (cst [])))))))) (xCallB m__law_pick 0 (xHere 0 (xCons (xl (cst (.int 4))) (xl (cst [])))))) (xl (cst [])))))) (fun ρ => ∃ L, PP L ∧ ρ = [.bo L, .sh (.int (m : Int)), w2, .ow (rs.map rowD), .sh d, .sh (.str sg), w6, .no])
    (fun y => ∃ p, y = pD p ∧ SmallP 3 p) (l := rngL 0 1 m) (ρ := [.bo L1, .sh (.int (m : Int)), w2, .ow (rs.map rowD), .sh d, .sh (.str sg), w6, .no]) (fun d ρ _ hρ => by
      obtain ⟨L, hL, rfl⟩ := hρ
      obtain ⟨L', c, q1, q2, q3, q4⟩ := pick_ok hL (n := 4) (by decide)
      have hc : c = 0 ∨ c = 1 ∨ c = 2 ∨ c = 3 := by omega
      have i0 : (PyData.int 0) = .int ((0 : Nat) : Int) := rfl
      obtain ⟨k, hk, hk2⟩ : ∃ k : Nat, ixD (.list [.int 1, .int 2, .int 0, .int 1]) (.int c) = some (.int (k : Int)) ∧ k ≤ 2 := by
        rcases hc with rfl | rfl | rfl | rfl
        · exact ⟨1, by simp, by decide⟩
        · exact ⟨2, by simp, by decide⟩
        · exact ⟨0, by simp, by decide⟩
        · exact ⟨1, by simp, by decide⟩
      obtain ⟨L2, a, p1, p2, p3⟩ := poly_ok q2 (n := k) rfl (by omega)
      exact ⟨_, _, by simp [compXS, q1, hk, p1, -RX.ok.injEq, -r_ix_l] <;> rfl, ⟨L2, p2, rfl⟩, a, rfl, p3.mono (by omega)⟩) ⟨L1, h1, rfl⟩
  obtain ⟨ps, rfl, hps⟩ := list_of f4
  rw [List.length_map, rngL_length] at f3
  obtain ⟨L3, q, p1, p2, p3⟩ := poly_ok f2 (z := 2) (n := 2) rfl (by decide)
  have hrl : rs.length < sizeLine := Nat.lt_of_lt_of_le hrs (by decide)
  exact ⟨L3, ⟨ps, q, sg⟩, _, _, _, by simp [b__law_rows_1, u1, hsg, hr, rngL_length, hsz, f1, p1, hrl, rowD, -Out.nx.injEq, -r_ix_l] <;> rfl, p2, ⟨f3, hps, p3, hso⟩⟩
theorem rows_ok {L : List D} (h : PP L) {z : Int} {m n : Nat} (hm : m ≤ 10) (hz : z = n) (hn : 1 ≤ n) (hn2 : n ≤ 100) :
    ∃ (L' : List D) (rs : List Row), m__law_rows L [.none, .int (m : Int), .int z] = .ok (.ow (rs.map rowD)) L' ∧ PP L' ∧ 1 ≤ rs.length ∧ rs.length ≤ n ∧ ∀ r ∈ rs, RowOk m r := by
  subst hz
  obtain ⟨L1, v, u1, h1, v0, v1⟩ := pick_ok h (n := (n : Int)) (by omega)
  obtain ⟨s, hs⟩ : ∃ s : Nat, 1 + v = (s : Int) := ⟨(1 + v).toNat, by omega⟩
  have hr := range1_ok (x := (s : Int)) (by omega) (by omega)
  obtain ⟨ρ', e, L2, rs, y4, y5, y6, rfl, f1, f2, f3⟩ := forO_inv (F := gTo (gSet 4) b__law_rows_1) (l := rngL 0 1 s)
    (fun i ρ => ∃ (L : List D) (rs : List Row) (y4 y5 y6 : SD), ρ = [.bo L, .sh (.int (m : Int)), .sh (.int (n : Int)), .ow (rs.map rowD), y4, y5, y6, .no] ∧ PP L ∧ rs.length = i ∧ ∀ r ∈ rs, RowOk m r)
    (ρ := [.bo L1, .sh (.int (m : Int)), .sh (.int (n : Int)), .ow [], .no, .no, .no, .no]) ⟨L1, [], _, _, _, rfl, h1, rfl, by simp⟩
    (fun i d ρ hd hi => by
      obtain ⟨hil, rfl⟩ := rng0_get hd
      obtain ⟨L, rs, y4, y5, y6, rfl, g1, g2, g3⟩ := hi
      obtain ⟨L', r, z4, z5, z6, e, g4, g5⟩ := row_step g1 hm (rs := rs) (by omega) (.int (i : Nat)) (.sh (.int (n : Int))) y4 y5 y6
      exact ⟨_, .inl e, L', rs ++ [r], _, _, _, rfl, g4, by simp [g2], fun r' hr' => by
        rcases List.mem_append.mp hr' with h | h
        · exact g3 r' h
        · simp at h; subst h; exact g5⟩)
  rw [rngL_length] at f2
  exact ⟨L2, rs, by simp [m__law_rows, c__law_rows, u1, hs, hr, e], f1, by omega, by omega, f3⟩
/-! ### numbers in lowest terms, another way -/
theorem low_step {n d : SD} {a b : Nat} {x : D} {j : SD} (hb : b ≠ 0) : gTo (gSet 4) b__law_lowest_1 x [n, d, .sh (.int (a : Nat)), .sh (.int (b : Nat)), j] = .nx [n, d, .sh (.int (b : Nat)), .sh (.int ((a % b : Nat) : Int)), .sh x] := by
  have hm : modD (.int (a : Nat)) (.int (b : Nat)) = some (.int ((a % b : Nat) : Int)) := by
    rw [r_mod (by omega)]; simp [Int.fmod_eq_emod_of_nonneg]
  simp [b__law_lowest_1, hm, hb]
theorem low_loop {n d : SD} {a b : Nat} (ha : a < 2 ^ 1990) (hb : b < 2 ^ 1990) : ∃ y j, forO (gTo (gSet 4) b__law_lowest_1) (rngL 0 1 5000) [n, d, .sh (.int (a : Nat)), .sh (.int (b : Nat)), .no] = .nx [n, d, .sh (.int (Nat.gcd a b : Nat)), y, j] := by
  refine forO_gen (F := gTo (gSet 4) b__law_lowest_1) (l := rngL 0 1 5000) (fun o => ∃ y j, o = .nx [n, d, .sh (.int (Nat.gcd a b : Nat)), y, j])
    (fun i ρ => ∃ (x y : Nat) (j : SD), ρ = [n, d, .sh (.int (x : Nat)), .sh (.int (y : Nat)), j] ∧ Nat.gcd x y = Nat.gcd a b ∧ ((i = 0 ∧ x * y * 2 < 2 ^ 5000) ∨ (x * y * 2 ^ i < 2 ^ 5000 ∧ y ≤ x)))
    ⟨_, _, _, rfl, rfl, .inl ⟨rfl, by
      have h1 := Nat.mul_lt_mul'' ha hb
      rw [← Nat.pow_add] at h1
      have h2 : (2 : Nat) ^ 5000 = 2 ^ (1990 + 1990) * 2 ^ 1020 := by rw [← Nat.pow_add]
      have h3 : (2 : Nat) ≤ 2 ^ 1020 := by
        have : (2 : Nat) ^ 1 ≤ 2 ^ 1020 := Nat.pow_le_pow_right (by decide) (by decide)
        simpa using this
      rw [h2]
      generalize (2 : Nat) ^ (1990 + 1990) = q at *
      exact Nat.lt_of_lt_of_le (Nat.mul_lt_mul_of_pos_right h1 (by decide)) (Nat.mul_le_mul_left q h3)⟩⟩
    (fun i z ρ hd hi => ?_) (fun ρ h => ?_)
  · obtain ⟨x, y, j, rfl, hg, hp⟩ := hi
    by_cases hy : y = 0
    · subst hy
      right; left
      exact ⟨_, by simp [b__law_lowest_1, -Out.bk.injEq] <;> rfl, .sh (.int 0), .sh z, by rw [← hg]; simp⟩
    · left
      refine ⟨_, .inl (low_step hy), y, x % y, _, rfl, by rw [← hg, Nat.gcd_comm x y, Nat.gcd_comm y (x % y), ← Nat.gcd_rec], .inr ?_⟩
      rcases hp with ⟨rfl, hp⟩ | ⟨hp, hl⟩
      · have : x % y < y := Nat.mod_lt _ (by omega)
        have h2 : x % y ≤ x := Nat.mod_le _ _
        refine ⟨Nat.lt_of_le_of_lt ?_ hp, by omega⟩
        calc y * (x % y) * 2 ^ (0 + 1) = y * (x % y) * 2 := by simp
          _ ≤ y * x * 2 := Nat.mul_le_mul_right 2 (Nat.mul_le_mul_left y h2)
          _ = x * y * 2 := by rw [Nat.mul_comm y x]
      · obtain ⟨h1, h2⟩ := gcd_halves hl hy
        refine ⟨Nat.lt_of_le_of_lt ?_ hp, h2⟩
        calc y * (x % y) * 2 ^ (i + 1) = 2 * (y * (x % y)) * 2 ^ i := by rw [Nat.pow_succ]; grind
          _ ≤ x * y * 2 ^ i := Nat.mul_le_mul_right _ h1
  · obtain ⟨x, y, j, rfl, hg, hp⟩ := h
    rw [rngL_length] at hp
    rcases hp with ⟨h, _⟩ | ⟨hp, hl⟩
    · cases h
    · have h0 : x * y = 0 := by
        rcases Nat.eq_zero_or_pos (x * y) with h | h
        · exact h
        · have : 1 * 2 ^ 5000 ≤ x * y * 2 ^ 5000 := Nat.mul_le_mul_right _ h
          rw [Nat.one_mul] at this
          exact absurd hp (Nat.not_lt.mpr this)
      have hy : y = 0 := by
        rcases Nat.mul_eq_zero.mp h0 with h | h
        · omega
        · exact h
      subst hy
      exact ⟨.sh (.int 0), j, by rw [← hg]; simp⟩
theorem lowest_ok {n d : Int} (h1 : Sz 1990 n) (h2 : Sz 1990 d) (hd : d ≠ 0) : m__law_lowest [.int n, .int d] = .ok (.sh (rD ((n : Rat) / (d : Rat)))) := by
  show _ = VL.R.ok (SD.sh (qD (tQ _)))
  rw [← mkQ_rat hd]
  have o := okDiv_gcd (n := n) (h2.mono (show 1990 ≤ 9000 by decide)) hd
  have hr := range1_ok (x := 5000) (by decide) (by decide)
  have ea : ∀ a : Int, (if a < 0 then -a else a) = (a.natAbs : Int) := fun a => by split <;> omega
  by_cases h : d < 0
  · obtain ⟨y, j, e⟩ := low_loop (n := .sh (.int (-n))) (d := .sh (.int (-d))) h1.lt h2.lt
    have ed : -d = (d.natAbs : Int) := by omega
    have ea' : (if 0 < n then n else -n) = (n.natAbs : Int) := by split <;> omega
    have e' := e
    rw [← ed] at e'
    simp [m__law_lowest, c__law_lowest, h, hr, mkQ, qD, ea', e', o]
  · obtain ⟨y, j, e⟩ := low_loop (n := .sh (.int n)) (d := .sh (.int d)) h1.lt h2.lt
    have ed : ((d.natAbs : Nat) : Int) = d := by omega
    rw [ed] at e
    simp [m__law_lowest, c__law_lowest, h, hr, mkQ, qD, ea, e, o]

theorem rk_low {n d : Int} {k : Nat} (hd : d ≠ 0) (h1 : Sz k n) (h2 : Sz k d) : Rk k ((n : Rat) / (d : Rat)) := rk_div hd h1 h2
theorem number2_ok {L : List D} (h : PP L) : ∃ L' r, m__law_number_k40 L [.none] = .ok (.sh (rD r)) L' ∧ PP L' ∧ Rk 10 r := by
  obtain ⟨L1, v, u1, h1, v0, v1⟩ := pick_ok h (n := 41) (by decide)
  obtain ⟨L2, w, u2, h2, w0, w1⟩ := pick_ok h1 (n := 6) (by decide)
  obtain ⟨k, hk, k1, k2⟩ : ∃ k : Int, ixD (.list [.int 1, .int 1, .int 2, .int 3, .int 1, .int 7]) (.int w) = some (.int k) ∧ 1 ≤ k ∧ k ≤ 7 := by
    have hc : w = 0 ∨ w = 1 ∨ w = 2 ∨ w = 3 ∨ w = 4 ∨ w = 5 := by omega
    rcases hc with rfl | rfl | rfl | rfl | rfl | rfl <;> exact ⟨_, by simp <;> rfl, by decide, by decide⟩
  have n1 : Sz 10 (v - 20) := .of 100 (by omega) (by omega) (by decide)
  have n2 : Sz 10 k := .of 100 (by omega) (by omega) (by decide)
  have lo := lowest_ok (n1.mono (by decide)) (n2.mono (by decide)) (by omega)
  have rk := rk_low (k := 10) (by omega) n1 n2
  generalize (((v - 20 : Int) : Rat) / (k : Rat)) = X at lo rk
  exact ⟨L2, X, by simp [m__law_number_k40, c__law_number_k40, u1, u2, hk, lo, -r_ix_l], h2, rk⟩
theorem ladd2_r {r s : Rat} {k l : Nat} (h : Rk k r) (h' : Rk l s) (e : k + l ≤ 1900) : m__law_add_k40 [rD r, rD s] = .ok (.sh (rD (r + s))) := by
  have o1 := okMul_of h.s1 h'.s2 (by omega)
  have o2 := okMul_of h'.s1 h.s2 (by omega)
  have o3 := okMul_of h.s2 h'.s2 (by omega)
  have n := lowest_ok (((h.s1.mul h'.s2).add (Nat.add_comm l k ▸ h'.s1.mul h.s2)).mono (show _ ≤ 1990 by omega)) ((h.s2.mul h'.s2).mono (show _ ≤ 1990 by omega)) (h.mulne h')
  rw [← rD_div (h.mulne h')] at n
  have e2 := addQ_rat r s
  unfold addQ at e2
  rw [e2] at n
  have n' : m__law_lowest [.int (r.num * (s.den : Int) + s.num * (r.den : Int)), .int ((r.den : Int) * (s.den : Int))] = .ok (.sh (rD (r + s))) := n
  have o1' : okMul r.num (s.den : Int) = true := o1
  have o2' : okMul s.num (r.den : Int) = true := o2
  have o3' : okMul (r.den : Int) (s.den : Int) = true := o3
  simp [m__law_add_k40, c__law_add_k40, o1', o2', o3', n']
theorem lmul2_r {r s : Rat} {k l : Nat} (h : Rk k r) (h' : Rk l s) (e : k + l ≤ 1900) : m__law_mul [rD r, rD s] = .ok (.sh (rD (r * s))) := by
  have o1' : okMul r.num s.num = true := okMul_of h.s1 h'.s1 (by omega)
  have o3' : okMul (r.den : Int) (s.den : Int) = true := okMul_of h.s2 h'.s2 (by omega)
  have n := lowest_ok ((h.s1.mul h'.s1).mono (show _ ≤ 1990 by omega)) ((h.s2.mul h'.s2).mono (show _ ≤ 1990 by omega)) (h.mulne h')
  rw [← rD_div (h.mulne h')] at n
  have e2 := mulQ_rat r s
  unfold mulQ at e2
  rw [e2] at n
  have n' : m__law_lowest [.int (r.num * s.num), .int ((r.den : Int) * (s.den : Int))] = .ok (.sh (rD (r * s))) := n
  simp [m__law_mul, c__law_mul, o1', o3', n']
theorem lvalue_loop {a : List Int} {x : Rat} {kx c : Nat} (ha : SzP c a) (hx : Rk kx x) (hc : 1 ≤ c) (h : 1 + a.length * (kx + c + 1) + kx + c ≤ 1900) :
    ∃ j', forO (gTo (gSet 3) b__law_value_1) (rngL 0 1 a.length) [.sh (pD a), .sh (rD x), .sh (rD 0), .no] = .nx [.sh (pD a), .sh (rD x), .sh (rD (evP a x)), j'] := by
  obtain ⟨ρ', e, j, rfl, _⟩ := forO_inv (F := gTo (gSet 3) b__law_value_1) (l := rngL 0 1 a.length)
    (fun i ρ => ∃ j, ρ = [.sh (pD a), .sh (rD x), .sh (rD (evP (a.drop (a.length - i)) x)), j] ∧ Rk (1 + i * (kx + c + 1)) (evP (a.drop (a.length - i)) x))
    (ρ := [.sh (pD a), .sh (rD x), .sh (rD 0), .no])
    ⟨.no, by rw [Nat.sub_zero, List.drop_length]; rfl, by rw [Nat.sub_zero, List.drop_length, Nat.zero_mul]; exact rk0⟩
    (fun i d ρ hd hi => by
      obtain ⟨hil, rfl⟩ := rng0_get hd
      obtain ⟨j, rfl, hs⟩ := hi
      obtain ⟨n, hn⟩ : ∃ n, a.length - i = n + 1 := ⟨a.length - i - 1, by omega⟩
      rw [hn] at hs ⊢
      have hz := rk_int (ha.cf n) hc
      have hmul : (i + 1) * (kx + c + 1) ≤ a.length * (kx + c + 1) := Nat.mul_le_mul_right _ (by omega)
      rw [Nat.succ_mul] at hmul
      have u1 := lmul2_r hs hx (by omega)
      have u2 := ladd2_r (hs.mul hx) hz (by omega)
      have ix : ixD (pD a) (.int ((a.length : Int) - 1 - (i : Int))) = some (.int (cf a n)) := by
        rw [show (a.length : Int) - 1 - (i : Int) = (n : Int) by omega]
        exact p_ixc (by omega)
      have dr : a.drop n = cf a n :: a.drop (n + 1) := by
        rw [List.drop_eq_getElem_cons (by omega), cf_elem (by omega)]
      have ev : evP (a.drop n) x = evP (a.drop (n + 1)) x * x + (cf a n : Rat) := by rw [dr]; rfl
      refine ⟨_, .inl (by simp [b__law_value_1, u1, rD_int, u2, ix, -Out.nx.injEq] <;> rfl), .sh (.int (i : Nat)), ?_, ?_⟩
      · rw [show a.length - (i + 1) = n by omega, ev]
      · rw [show a.length - (i + 1) = n by omega, ev, Nat.succ_mul]
        exact ((hs.mul hx).add hz).mono (by omega))
  rw [rngL_length, Nat.sub_self] at e
  exact ⟨j, e⟩
theorem lvalue_ok {a : List Int} {x : Rat} {kx c : Nat} (ha : SzP c a) (hx : Rk kx x) (hc : 1 ≤ c) (h : 1 + a.length * (kx + c + 1) + kx + c ≤ 1900) (hl : a.length ≤ 100000) :
    m__law_value [pD a, rD x] = .ok (.sh (rD (evP a x))) := by
  obtain ⟨j', e⟩ := lvalue_loop ha hx hc h
  have hr := range1_ok (x := (a.length : Nat)) (by omega) (by omega)
  simp [m__law_value, c__law_value, rD_0, hr, e]
/-- the sign of a number, as both sides write it -/
def sgI (n : Int) : Int := (if 0 < n then 1 else 0) - (if n < 0 then 1 else 0)
theorem lsign_ok {a : List Int} {x : Rat} {kx c : Nat} (ha : SzP c a) (hx : Rk kx x) (hc : 1 ≤ c) (h : 1 + a.length * (kx + c + 1) + kx + c ≤ 1900) (hl : a.length ≤ 100000) :
    m__law_sign [pD a, rD x] = .ok (.sh (.int (sgI (evP a x).num))) := by
  have v := lvalue_ok ha hx hc h hl
  simp [m__law_sign, c__law_sign, v, sgI]
theorem sign_at_ok {a : List Int} {x : Rat} {kx c : Nat} (ha : SzP c a) (hx : Rk kx x) (hc : 1 ≤ c) (h : 1 + a.length * (kx + c + 1) + kx + c ≤ 8000) :
    m_sign_at [pD a, rD x] = .ok (.sh (.int (sgI (evP a x).num))) := by
  have v := (value_at_ok ha hx hc h).1
  simp [m_sign_at, c_sign_at, m_sign_of, c_sign_of, v, sgI]
/-! ### how the pool is made -/
structure Sm (c : Nat) (l : List Int) : Prop where
  len : l.length ≤ c
  lo : ∀ x ∈ l, 0 ≤ x
  hi : ∀ x ∈ l, x < 60
theorem Sm.snoc {c : Nat} {l : List Int} (h : Sm c l) {x : Int} (h1 : 0 ≤ x) (h2 : x < 60) : Sm (c + 1) (l ++ [x]) := ⟨by simp; exact h.len, fun y hy => by
  rcases List.mem_append.mp hy with h' | h'
  · exact h.lo y h'
  · simp at h'; subst h'; exact h1, fun y hy => by
  rcases List.mem_append.mp hy with h' | h'
  · exact h.hi y h'
  · simp at h'; subst h'; exact h2⟩
theorem Sm.mono {c d : Nat} {l : List Int} (h : Sm c l) (e : c ≤ d) : Sm d l := ⟨Nat.le_trans h.len e, h.lo, h.hi⟩
theorem pool_in {c : Nat} {l : List Int} (hl : Sm c l) (hc : c ≤ 10000) {v : Int} (hv : Sz 1048577 v) (w0 w2 w3 w5 w6 w7 : SD) :
    ∃ l' y4 y5, forO (gTo (gSet 5) b__law_pool_1) (rngL 0 1 60) [w0, .ow (l.map .int), w2, w3, .sh (.int v), w5, w6, w7] = .nx [w0, .ow (l'.map .int), w2, w3, y4, y5, w6, w7] ∧ Sm (c + 60) l' := by
  obtain ⟨ρ', e, l', v', y5, rfl, f1, _⟩ := forO_inv (F := gTo (gSet 5) b__law_pool_1) (l := rngL 0 1 60)
    (fun i ρ => ∃ (l' : List Int) (v' : Int) (y5 : SD), ρ = [w0, .ow (l'.map .int), w2, w3, .sh (.int v'), y5, w6, w7] ∧ Sm (c + i) l' ∧ Sz 1048577 v')
    (ρ := [w0, .ow (l.map .int), w2, w3, .sh (.int v), w5, w6, w7]) ⟨l, v, _, rfl, hl, hv⟩
    (fun i d ρ hd hi => by
      obtain ⟨hil, rfl⟩ := rng0_get hd
      obtain ⟨l', v', y5, rfl, f1, f2⟩ := hi
      have hll : l'.length < sizeLine := Nat.lt_of_le_of_lt (Nat.le_trans f1.len (show c + i ≤ 10060 by omega)) (by decide)
      have hd : okDiv v' 60 = true := okDiv_lit (by decide) (by decide)
      obtain ⟨r0, r1⟩ := fmod_rng (a := v') (b := 60) (by decide)
      exact ⟨_, .inl (by simp [b__law_pool_1, hll, hd, -Out.nx.injEq] <;> rfl), l' ++ [v'.fmod 60], v'.fdiv 60, .sh (.int (i : Nat)), by simp, f1.snoc r0 r1, f2.fdiv⟩)
  exact ⟨l', _, _, e, f1⟩
theorem pool_step {ns : List Int} {c i : Nat} {l : List Int} (hl : Sm c l) (hc : c ≤ 9000) (hi : i < ns.length) (hn : ns.length ≤ 63) (hz : ∀ z ∈ ns, Sz 1048577 z) {st : Int} (hs : Sz 40 st) (w3 w4 w5 w6 w7 : SD) :
    ∃ (l' : List Int) (st' : Int) (y4 y5 y6 y7 : SD), gTo (gSet 3) b__law_pool_2 (.int (i : Nat)) [.sh (pD ns), .ow (l.map .int), .sh (.int st), w3, w4, w5, w6, w7] = .nx [.sh (pD ns), .ow (l'.map .int), .sh (.int st'), .sh (.int (i : Nat)), y4, y5, y6, y7] ∧ Sm (c + 60) l' ∧ Sz 40 st' := by
  have ix : ixD (pD ns) (.int (i : Nat)) = some (.int (cf ns i)) := p_ixc hi
  have hv : Sz 1048577 (cf ns i) := hz _ (cf_mem hi)
  have m1 := okMul_of hs (Sz.lit (i := 69621) (a := 20) (by decide)) (by decide)
  have m2 := okMul_of hv (Sz.lit (i := 48271) (a := 20) (by decide)) (by decide)
  have s60 : ∀ {x : Int} (m : Int), 0 < m → m ≤ 2147483647 → Sz 40 (x.fmod m) := fun {x} m h1 h2 => by
    obtain ⟨a, b⟩ := fmod_rng (a := x) h1
    exact .of 2147483648 (by omega) (by omega) (by decide)
  by_cases hb : 1000000000000000000 ≤ cf ns i
  · obtain ⟨l', y4, y5, e, f⟩ := pool_in hl (by omega) hv (.sh (pD ns)) (.sh (.int ((st * 69621 + cf ns i * 48271 + (i : Int)).fmod 2147483647))) (.sh (.int (i : Nat))) w5 w6 w7
    have hr := range1_ok (x := 60) (by decide) (by decide)
    exact ⟨l', _, _, _, _, _, by simp [b__law_pool_2, ix, m1, m2, okPow, hb, hr, e, -Out.nx.injEq] <;> rfl, f, s60 _ (by decide) (by decide)⟩
  · have m3 := okMul_of (nat_sz i (by omega)) (Sz.lit (i := 69621) (a := 20) (by decide)) (by decide)
    have m4 := okMul_of (s60 (x := cf ns i * 48271 + (i : Int) * 69621 + 7) 2147483647 (by decide) (by decide)) (Sz.lit (i := 16807) (a := 20) (by decide)) (by decide)
    have m5 := okMul_of hv (Sz.lit (i := 31) (a := 20) (by decide)) (by decide)
    have hd : ∀ x : Int, okDiv x 11 = true := fun x => okDiv_lit (by decide) (by decide)
    have hll : ∀ x y : D, catD (l.map .int) [x, y] = some (l.map .int ++ [x, y]) := fun x y => r_cat (by
      have := hl.len
      simp
      exact Nat.le_trans (show l.length + 2 ≤ 20000 by omega) (by decide))
    obtain ⟨r0, r1⟩ := fmod_rng (a := ((cf ns i * 48271 + (i : Int) * 69621 + 7).fmod 2147483647).fdiv 11) (b := 60) (by decide)
    obtain ⟨r2, r3⟩ := fmod_rng (a := (((cf ns i * 48271 + (i : Int) * 69621 + 7).fmod 2147483647) * 16807 + cf ns i * 31 + (i : Int)).fmod 1000003) (b := 60) (by decide)
    refine ⟨l ++ [(((cf ns i * 48271 + (i : Int) * 69621 + 7).fmod 2147483647).fdiv 11).fmod 60, ((((cf ns i * 48271 + (i : Int) * 69621 + 7).fmod 2147483647) * 16807 + cf ns i * 31 + (i : Int)).fmod 1000003).fmod 60], (st * 69621 + cf ns i * 48271 + (i : Int)).fmod 2147483647, _, _, _, _, by simp [b__law_pool_2, ix, m1, m2, m3, m4, m5, hd, okPow, hb, hll, -pD_fold, -Out.nx.injEq] <;> rfl, ?_, s60 _ (by decide) (by decide)⟩
    have := (hl.snoc r0 r1).snoc r2 r3
    rw [List.append_assoc] at this
    exact this.mono (by omega)
theorem pool_end {c : Nat} {l : List Int} (hl : Sm c l) (hc : c ≤ 9000) {st : Int} (hs : Sz 40 st) (w0 w3 w4 w5 w6 w7 : SD) :
    ∃ (l' : List Int) (y2 y5 : SD), forO (gTo (gSet 5) b__law_pool_3) (rngL 0 1 300) [w0, .ow (l.map .int), .sh (.int st), w3, w4, w5, w6, w7] = .nx [w0, .ow (l'.map .int), y2, w3, w4, y5, w6, w7] ∧ Sm (c + 300) l' ∧ l'.length = l.length + 300 := by
  obtain ⟨ρ', e, l', st', y5, rfl, f1, f2, _⟩ := forO_inv (F := gTo (gSet 5) b__law_pool_3) (l := rngL 0 1 300)
    (fun i ρ => ∃ (l' : List Int) (st' : Int) (y5 : SD), ρ = [w0, .ow (l'.map .int), .sh (.int st'), w3, w4, y5, w6, w7] ∧ Sm (c + i) l' ∧ l'.length = l.length + i ∧ Sz 40 st')
    (ρ := [w0, .ow (l.map .int), .sh (.int st), w3, w4, w5, w6, w7]) ⟨l, st, _, rfl, hl, rfl, hs⟩
    (fun i d ρ hd hi => by
      obtain ⟨hil, rfl⟩ := rng0_get hd
      obtain ⟨l', st', y5, rfl, f1, f2, f3⟩ := hi
      have hll : l'.length < sizeLine := Nat.lt_of_le_of_lt (Nat.le_trans f1.len (show c + i ≤ 10060 by omega)) (by decide)
      have m1 := okMul_of f3 (Sz.lit (i := 48271) (a := 20) (by decide)) (by decide)
      have hd : ∀ x : Int, okDiv x 97 = true := fun x => okDiv_lit (by decide) (by decide)
      obtain ⟨r0, r1⟩ := fmod_rng (a := ((st' * 48271 + 11).fmod 2147483647).fdiv 97) (b := 60) (by decide)
      obtain ⟨q0, q1⟩ := fmod_rng (a := st' * 48271 + 11) (b := 2147483647) (by decide)
      exact ⟨_, .inl (by simp [b__law_pool_3, hll, m1, hd, -Out.nx.injEq] <;> rfl), l' ++ [(((st' * 48271 + 11).fmod 2147483647).fdiv 97).fmod 60], _, .sh (.int (i : Nat)), by simp <;> rfl, f1.snoc r0 r1, by simp [f2]; omega, .of 2147483648 (by omega) (by omega) (by decide)⟩)
  exact ⟨l', _, _, e, f1, f2⟩
theorem stream_ok {ns : List Int} (hn : ns.length ≤ 63) (hb : ∀ z ∈ ns, Builtin.Int.intBits z ≤ 1048576) : ∃ L, m__law_stream [pD ns] = .ok (.ow L) ∧ PP L := by
  have hz : ∀ z ∈ ns, Sz 1048577 z := fun z hz => sz_bits (Nat.le_trans (hb z hz) (by decide))
  obtain ⟨ρ', e, l, st, y3, y4, y5, y6, y7, rfl, f1, f2⟩ := forO_inv (F := gTo (gSet 3) b__law_pool_2) (l := rngL 0 1 ns.length)
    (fun i ρ => ∃ (l : List Int) (st : Int) (y3 y4 y5 y6 y7 : SD), ρ = [.sh (pD ns), .ow (l.map .int), .sh (.int st), y3, y4, y5, y6, y7] ∧ Sm (60 * i) l ∧ Sz 40 st)
    (ρ := [.sh (pD ns), .ow [], .sh (.int 17), .no, .no, .no, .no, .no]) ⟨[], 17, _, _, _, _, _, rfl, ⟨by simp, by simp, by simp⟩, .lit (by decide)⟩
    (fun i d ρ hd hi => by
      obtain ⟨hil, rfl⟩ := rng0_get hd
      obtain ⟨l, st, y3, y4, y5, y6, y7, rfl, g1, g2⟩ := hi
      obtain ⟨l', st', z4, z5, z6, z7, e, g3, g4⟩ := pool_step g1 (by omega) hil hn hz g2 y3 y4 y5 y6 y7
      exact ⟨_, .inl e, l', st', _, _, _, _, _, rfl, g3.mono (by omega), g4⟩)
  rw [rngL_length] at f1
  obtain ⟨l', y2, z5, e', f3, f4⟩ := pool_end f1 (by omega) f2 (.sh (pD ns)) y3 y4 y5 y6 y7
  have hr := range1_ok (x := (ns.length : Nat)) (by omega) (by omega)
  have hr3 := range1_ok (x := 300) (by decide) (by decide)
  have hmn : minD [.int (ns.length : Int), .int 63] = some (.int (ns.length : Int)) := by
    show some (PyData.int (if (63 : Int) < (ns.length : Int) then 63 else (ns.length : Int))) = _
    rw [if_neg (by omega)]
  have hp : m__law_pool [pD ns] = .ok (.ow (l'.map .int)) := by
    simp [m__law_pool, c__law_pool, hmn, hr, hr3, e, e']
  have hlen := f3.len
  have hc : catD [.int 0] (l'.map .int) = some ((0 :: l').map .int) := r_cat (by simp; exact Nat.le_trans (show 1 + l'.length ≤ 20000 by omega) (by decide))
  have hc' : addO (.list [.int 0]) (pD l') = some ((0 :: l').map .int) := hc
  refine ⟨(0 :: l').map .int, by simp [m__law_stream, c__law_stream, hp, hc', -List.map_cons], 0 :: l', rfl, ⟨by simp; omega, by simp; omega, fun x hx => ?_, fun x hx => ?_⟩⟩
  · rcases List.mem_cons.mp hx with rfl | h
    · exact Int.le_refl _
    · exact f3.lo x h
  · rcases List.mem_cons.mp hx with rfl | h
    · decide
    · exact Int.lt_trans (f3.hi x h) (by decide)
end W

set_option Elab.async false
set_option linter.all false
set_option maxRecDepth 100000
set_option autoImplicit false
namespace W
open PySem PySem.Spec PyProof.Rows L2 VL
theorem len3 {n k c : Nat} (h : n ≤ 3) : n * (k + c + 1) ≤ 3 * (k + c + 1) := Nat.mul_le_mul_right _ h
theorem row_ix0 (r : Row) : ixD (rowD r) (.int 0) = some (.list (r.ps.map pD)) := by simp [rowD]
theorem ps_ix {ps : List (List Int)} {k : Nat} (h : k < ps.length) : ∃ p ∈ ps, ixD (.list (ps.map pD)) (.int (k : Int)) = some (pD p) := by
  refine ⟨ps[k], List.getElem_mem h, ?_⟩
  simp [h]
def pk (r : Row) (k : Nat) : List Int := r.ps.getD k []
theorem pk_ix {r : Row} {k : Nat} (h : k < r.ps.length) : ixD (.list (r.ps.map pD)) (.int (k : Int)) = some (pD (pk r k)) := by
  simp [h, pk]
theorem pk_mem {r : Row} {k : Nat} (h : k < r.ps.length) : pk r k ∈ r.ps := by
  unfold pk
  rw [List.getD_eq_getElem?_getD, List.getElem?_eq_getElem h]
  exact List.getElem_mem h
theorem sw_p {a : List Int} {s : Nat} (h : SzP s a) (hs : s ≤ 1920) (h0 : 0 < s) : Sw (a.length * (s + 3) + 3) (pD a) := by
  have := sw_list (w := s + 1) (l := a.map .int) fun d hd => by
    obtain ⟨i, hi, rfl⟩ := List.mem_map.mp hd
    exact sw_int (h i hi) hs h0
  rwa [List.length_map] at this
theorem sw_str {x : Str} (h : x = "<=" ∨ x = "<" ∨ x = "=") : Sw 10 (.str x) := by
  rcases h with rfl | rfl | rfl <;> exact ⟨rfl, by decide +kernel⟩
theorem sw_row {m : Nat} {r : Row} (h : RowOk m r) (hm : m ≤ 10) : Sw 2000 (rowD r) := by
  have hp : ∀ p : List Int, SmallP 3 p → Sw 40 (pD p) := fun p h => (sw_p h.sz (by decide) (by decide)).mono (by have := h.len; omega)
  have h1 : Sw 500 (.list (r.ps.map pD)) := (sw_list (w := 40) fun d hd => by
    obtain ⟨p, hp', rfl⟩ := List.mem_map.mp hd
    exact hp p (h.ps p hp')).mono (by rw [List.length_map, h.len]; omega)
  exact (sw_tup (w := 500) fun d hd => by
    simp at hd
    rcases hd with rfl | rfl | rfl
    · exact h1
    · exact (hp _ h.q).mono (by decide)
    · exact (sw_str h.s).mono (by decide)).mono (by simp)
theorem okD_row {m : Nat} {r : Row} (h : RowOk m r) (n : Nat) : okD (n + 3) (rowD r) = true := by
  have h1 : okL (n + 1) (r.ps.map pD) = true := okL_iff.mpr fun d hd => by
    obtain ⟨p, _, rfl⟩ := List.mem_map.mp hd
    exact p_okD n p
  have h2 : okD (n + 2) (.str r.s) = true := by
    have e1 : ∀ x : Str, okD (n + 2) (.str x) = PyData.strOk x := fun _ => rfl
    rw [e1]
    rcases h.s with e | e | e <;> rw [e] <;> decide +kernel
  simp [rowD, h1, h2]
theorem rows_repr {rs : List Row} {m : Nat} (hr : ∀ r ∈ rs, RowOk m r) (hm : m ≤ 10) (hl : rs.length ≤ 1000) : reprL [.list (rs.map rowD)] = some (.str (PyData.shown (.list (rs.map rowD)))) :=
  r_repr_l (w := 2000) (okL_iff.mpr fun d hd => by
    obtain ⟨r, hr', rfl⟩ := List.mem_map.mp hd
    exact okD_row (hr r hr') 60) (fun d hd => by
    obtain ⟨r, hr', rfl⟩ := List.mem_map.mp hd
    exact sw_row (hr r hr') hm) (by
    rw [List.length_map]
    exact Nat.le_trans (show rs.length * (2000 + 2) + 3 ≤ 3000000 by omega) (by decide))
end W

set_option Elab.async false
set_option linter.all false
set_option maxRecDepth 100000
set_option autoImplicit false
namespace W
open PySem PySem.Spec PyProof.Rows L2 VL
noncomputable def b__law_row_value_1 : Ev → Out := sSet 3 (eCall m__law_add_k40 (eCons (eVar 3) (eCons (eCall m__law_mul (eCons (eCall m__law_value (eCons (e2 ixD (e2 ixD (eOwn 0) (cst (.int 0))) (eOwn 4)) (eCons (eVar 2) (cst [])))) (eCons (e2 ixD (eOwn 1) (eOwn 4)) (cst [])))) (cst []))))
noncomputable def c__law_row_value : Ev → Out := sSeq (sSet 3 (eCall m__law_value (eCons (e2 ixD (eOwn 0) (cst (.int 1))) (eCons (eVar 2) (cst []))))) (sSeq (sFor (e1 range1D (eCons (e1 lenD (eCons (eOwn 1) (cst []))) (cst []))) (gSet 4) b__law_row_value_1) (sRet (eVar 3)))
noncomputable def m__law_row_value : List D → R SD := runD 3 5 c__law_row_value
noncomputable def c__law_div : Ev → Out := sRet (eCall m__law_lowest (eCons (e2 mulD (e2 ixD (eOwn 0) (cst (.int 0))) (e2 ixD (eOwn 1) (cst (.int 1)))) (eCons (e2 mulD (e2 ixD (eOwn 0) (cst (.int 1))) (e2 ixD (eOwn 1) (cst (.int 0)))) (cst []))))
noncomputable def m__law_div : List D → R SD := runD 2 2 c__law_div
noncomputable def c__law_same : Ev → Out := sSeq (sIf (e1 truD (eOwn 1)) (sRet (e2 isD (eOwn 0) (cst (.bool true)))) (sNil)) (sRet (e2 isD (eOwn 0) (cst (.bool false))))
noncomputable def m__law_same : List D → R SD := runD 2 2 c__law_same
noncomputable def b__law_less_poly_1 : Ev → Out := sSeq (sSet 4 (cst (.int 0))) (sSeq (sIf (e1 bOf (e2 ltD (eOwn 3) (e1 lenD (eCons (eOwn 0) (cst []))))) (sSet 4 (e2 addD (eOwn 4) (e2 ixD (eOwn 0) (eOwn 3)))) (sNil)) (sSeq (sIf (e1 bOf (e2 ltD (eOwn 3) (e1 lenD (eCons (eOwn 1) (cst []))))) (sSet 4 (e2 subD (eOwn 4) (e2 ixD (eOwn 1) (eOwn 3)))) (sNil)) (sApp 2 (eVar 4))))
noncomputable def c__law_less_poly : Ev → Out := sSeq (sSetO 2 (e1 lim (cst []))) (sSeq (sFor (e1 range1D (eCons (e1 maxD (eCons (e1 lenD (eCons (eOwn 0) (cst []))) (eCons (e1 lenD (eCons (eOwn 1) (cst []))) (cst [])))) (cst []))) (gSet 3) b__law_less_poly_1) (sFz 2 (sRet (eCall m__law_trim_k40 (eCons (eVar 2) (cst []))))))
noncomputable def m__law_less_poly : List D → R SD := runD 2 5 c__law_less_poly
noncomputable def c_fits : Ev → Out := sSeq (sIf (e1 bOf (e2 eqD (eOwn 0) (cst (.str "<")))) (sRet (e2 ltD (eOwn 1) (cst (.int 0)))) (sNil)) (sSeq (sIf (e1 bOf (e2 eqD (eOwn 0) (cst (.str "<=")))) (sRet (e2 leD (eOwn 1) (cst (.int 0)))) (sNil)) (sSeq (sIf (e1 bOf (e2 eqD (eOwn 0) (cst (.str "=")))) (sRet (e2 eqD (eOwn 1) (cst (.int 0)))) (sNil)) (sSeq (sIf (e1 bOf (e2 eqD (eOwn 0) (cst (.str "!=")))) (sRet (e2 neD (eOwn 1) (cst (.int 0)))) (sNil)) (sSeq (sIf (e1 bOf (e2 eqD (eOwn 0) (cst (.str ">=")))) (sRet (e2 geD (eOwn 1) (cst (.int 0)))) (sNil)) (sRet (e2 gtD (eOwn 1) (cst (.int 0))))))))
noncomputable def m_fits : List D → R SD := runD 2 2 c_fits
noncomputable def b_rest_at_1 : Ev → Out := sSet 3 (eCall m_plus (eCons (eVar 3) (eCons (eCall m_times (eCons (eCall m_value_at (eCons (eVar 4) (eCons (eVar 2) (cst [])))) (eCons (eVar 5) (cst [])))) (cst []))))
noncomputable def c_rest_at : Ev → Out := sSeq (sSet 3 (eCall m_value_at (eCons (e2 ixD (eOwn 0) (cst (.int 1))) (eCons (eVar 2) (cst []))))) (sSeq (sFor (e1 zipD (eCons (e2 ixD (eOwn 0) (cst (.int 0))) (eCons (eVar 1) (cst [])))) (gTupD 2 (gsCons (gSet 4) (gsCons (gSet 5) (gsNil)))) b_rest_at_1) (sRet (eVar 3)))
noncomputable def m_rest_at : List D → R SD := runD 3 6 c_rest_at
noncomputable def b_fulfilled_at_1 : Ev → Out := sIf (eNot (e1 truD (eCall m_fits (eCons (e2 ixD (eOwn 3) (cst (.int 2))) (eCons (eCall m_compare (eCons (eCall m_rest_at (eCons (eVar 3) (eCons (eVar 1) (eCons (eVar 2) (cst []))))) (eCons (cst (.tuple [(.int 0), (.int 1)])) (cst [])))) (cst [])))))) (sRet (cst (.bool false))) (sNil)
noncomputable def c_fulfilled_at : Ev → Out := sSeq (sFor (e1 seqD (eVar 0)) (gSet 3) b_fulfilled_at_1) (sRet (cst (.bool true)))
noncomputable def m_fulfilled_at : List D → R SD := runD 3 4 c_fulfilled_at
noncomputable def c__law_fits : Ev → Out := sRet (eDSel ["<", "<=", "=", "!=", ">=", ">"] (eCons (e2 ltD (eOwn 1) (cst (.int 0))) (eCons (e2 leD (eOwn 1) (cst (.int 0))) (eCons (e2 eqD (eOwn 1) (cst (.int 0))) (eCons (e2 neD (eOwn 1) (cst (.int 0))) (eCons (e2 geD (eOwn 1) (cst (.int 0))) (eCons (e2 gtD (eOwn 1) (cst (.int 0))) (cst []))))))) (eVar 0))
noncomputable def m__law_fits : List D → R SD := runD 2 2 c__law_fits
noncomputable def c__law_fulfilled : Ev → Out := sRet (e1 allD (eCons (eLst (eComp [3] (e1 seqD (eVar 0)) (gSet 3) (cst true) (eCall m__law_fits (eCons (e2 ixD (eOwn 3) (cst (.int 2))) (eCons (e2 ixD (eCall m__law_row_value (eCons (eVar 3) (eCons (eVar 1) (eCons (eVar 2) (cst []))))) (cst (.int 0))) (cst [])))))) (cst [])))
noncomputable def m__law_fulfilled : List D → R SD := runD 3 4 c__law_fulfilled
/-! ### the value of a row -/
structure RowG (m c : Nat) (r : Row) : Prop where
  len : r.ps.length = m
  ps : ∀ p ∈ r.ps, SzP 6 p ∧ p.length ≤ 3
  q : SzP c r.q
  ql : r.q.length ≤ 3
  s : r.s = "<=" ∨ r.s = "<" ∨ r.s = "="
theorem RowOk.g {m : Nat} {r : Row} (h : RowOk m r) {c : Nat} (hc : 6 ≤ c) : RowG m c r := ⟨h.len, fun p hp => ⟨(h.ps p hp).sz, (h.ps p hp).len⟩, h.q.sz.mono hc, h.q.len, h.s⟩
def rvL (ps : List (List Int)) (xs : List Rat) (t acc : Rat) : Rat := (ps.zip xs).foldl (fun a px => a + evP px.1 t * px.2) acc
def rv (r : Row) (xs : List Rat) (t : Rat) : Rat := rvL r.ps xs t (evP r.q t)
theorem rowD_ix1 (r : Row) : ixD (rowD r) (.int 1) = some (pD r.q) := by simp [rowD]
theorem rowD_ix2 (r : Row) : ixD (rowD r) (.int 2) = some (.str r.s) := by simp [rowD]
theorem zip_loop {t : Rat} {kt kx : Nat} (ht : Rk kt t) (w0 w1 : SD) : ∀ (ps : List (List Int)) (xs : List Rat) (acc : Rat) (k : Nat) (w4 w5 : SD), (∀ p ∈ ps, SzP 6 p ∧ p.length ≤ 3) → (∀ x ∈ xs, Rk kx x) → Rk k acc → k + ps.length * (1 + 3 * (kt + 7) + kx + 1) + 1 + 4 * (kt + 7) + kx ≤ 8000 →
    ∃ y4 y5, forO (gTo (gTupD 2 (gsCons (gSet 4) (gsCons (gSet 5) (gsNil)))) b_rest_at_1) (zipL (ps.map pD) (xs.map rD)) [w0, w1, .sh (rD t), .sh (rD acc), w4, w5] = .nx [w0, w1, .sh (rD t), .sh (rD (rvL ps xs t acc)), y4, y5] ∧ Rk (k + ps.length * (1 + 3 * (kt + 7) + kx + 1)) (rvL ps xs t acc)
  | [], xs, acc, k, w4, w5, _, _, h, _ => ⟨w4, w5, by simp [zipL, rvL], by simpa [rvL] using h⟩
  | p :: ps, [], acc, k, w4, w5, _, _, h, _ => ⟨w4, w5, by simp [zipL, rvL], by
    have : rvL (p :: ps) [] t acc = acc := by simp [rvL]
    rw [this]; exact h.mono (by omega)⟩
  | p :: ps, x :: xs, acc, k, w4, w5, hp, hx, h, hz => by
    rw [List.length_cons, Nat.succ_mul] at hz
    obtain ⟨p1, p2⟩ := hp p (by simp)
    have l3 := len3 (k := kt) (c := 6) p2
    obtain ⟨v, sv⟩ := value_at_ok p1 ht (by decide) (by omega)
    have sv' : Rk (1 + 3 * (kt + 7)) (evP p t) := sv.mono (by omega)
    have hx1 := hx x (by simp)
    have m := times_r sv' hx1 (by omega)
    have a := plus_r h (sv'.mul hx1) (by omega)
    obtain ⟨y4, y5, i1, i2⟩ := zip_loop ht w0 w1 ps xs (acc + evP p t * x) (k + (1 + 3 * (kt + 7) + kx + 1)) (.sh (pD p)) (.sh (rD x)) (fun q hq => hp q (by simp [hq])) (fun y hy => hx y (by simp [hy])) ((h.add (sv'.mul hx1)).mono (by omega)) (by omega)
    refine ⟨y4, y5, ?_, ?_⟩
    · have e : zipL ((p :: ps).map pD) ((x :: xs).map rD) = .tuple [pD p, rD x] :: zipL (ps.map pD) (xs.map rD) := rfl
      rw [e, forO]
      have st : gTo (gTupD 2 (gsCons (gSet 4) (gsCons (gSet 5) (gsNil)))) b_rest_at_1 (.tuple [pD p, rD x]) [w0, w1, .sh (rD t), .sh (rD acc), w4, w5] = .nx [w0, w1, .sh (rD t), .sh (rD (acc + evP p t * x)), .sh (pD p), .sh (rD x)] := by
        simp [b_rest_at_1, v, m, a]
      rw [st]
      exact i1
    · rw [List.length_cons, Nat.succ_mul]
      exact i2.mono (by omega)
theorem rest_at_ok {r : Row} {xs : List Rat} {t : Rat} {m c kt kx : Nat} (hr : RowG m c r) (hm : m ≤ 2) (hc : 6 ≤ c) (hx : ∀ x ∈ xs, Rk kx x) (ht : Rk kt t) (hz : 3 * (kt + c + 1) + 6 * (kt + 7) + 3 * kx + 4 * (kt + 7) + c + kt + 20 ≤ 8000) :
    m_rest_at [rowD r, .list (xs.map rD), rD t] = .ok (.sh (rD (rv r xs t))) ∧ Rk (3 * (kt + c + 1) + 6 * (kt + 7) + 2 * kx + 5) (rv r xs t) := by
  have l3 := len3 (k := kt) (c := c) hr.ql
  obtain ⟨v, sv⟩ := value_at_ok hr.q ht (by omega) (by omega)
  have hmul : r.ps.length * (1 + 3 * (kt + 7) + kx + 1) ≤ 2 * (1 + 3 * (kt + 7) + kx + 1) := Nat.mul_le_mul_right _ (by rw [hr.len]; exact hm)
  obtain ⟨y4, y5, e, s⟩ := zip_loop ht (.sh (rowD r)) (.sh (.list (xs.map rD))) r.ps xs (evP r.q t) (1 + 3 * (kt + c + 1)) .no .no hr.ps hx (sv.mono (by omega)) (by omega)
  refine ⟨?_, s.mono (by omega)⟩
  simp [m_rest_at, c_rest_at, rowD_ix1, row_ix0, v, e, rv, -r_ix_t]
theorem lrow_ok {r : Row} {xs : List Rat} {t : Rat} {m c kt kx : Nat} (hr : RowG m c r) (hm : m ≤ 2) (hc : 6 ≤ c) (hxl : xs.length = m) (hx : ∀ x ∈ xs, Rk kx x) (ht : Rk kt t) (hz : 3 * (kt + c + 1) + 6 * (kt + 7) + 2 * kx + 20 ≤ 1900) (hz2 : 4 * (kt + c + 1) ≤ 1900) :
    m__law_row_value [rowD r, .list (xs.map rD), rD t] = .ok (.sh (rD (rv r xs t))) := by
  have l3 := len3 (k := kt) (c := c) hr.ql
  have v := lvalue_ok hr.q ht (by omega) (by omega) (Nat.le_trans hr.ql (by decide))
  have sv := (value_at_ok hr.q ht (by omega) (by omega)).2
  have hlen : (r.ps.zip xs).length = m := by rw [List.length_zip, hr.len, hxl]; omega
  obtain ⟨ρ', e, j, rfl, _⟩ := forO_inv (F := gTo (gSet 4) b__law_row_value_1) (l := rngL 0 1 m)
    (fun i ρ => ∃ j, ρ = [.sh (rowD r), .sh (.list (xs.map rD)), .sh (rD t), .sh (rD (((r.ps.zip xs).take i).foldl (fun a px => a + evP px.1 t * px.2) (evP r.q t))), j] ∧ Rk (1 + 3 * (kt + c + 1) + i * (1 + 3 * (kt + 7) + kx + 1)) (((r.ps.zip xs).take i).foldl (fun a px => a + evP px.1 t * px.2) (evP r.q t)))
    (ρ := [.sh (rowD r), .sh (.list (xs.map rD)), .sh (rD t), .sh (rD (evP r.q t)), .no]) ⟨.no, rfl, sv.mono (by omega)⟩
    (fun i d ρ hd hi => by
      obtain ⟨hil, rfl⟩ := rng0_get hd
      obtain ⟨j, rfl, hs⟩ := hi
      have hk : i < r.ps.length := by rw [hr.len]; exact hil
      have hix : i < xs.length := by omega
      obtain ⟨p1, p2⟩ := hr.ps _ (pk_mem hk)
      have l3 := len3 (k := kt) (c := 6) p2
      have hmul : (i + 1) * (1 + 3 * (kt + 7) + kx + 1) ≤ 2 * (1 + 3 * (kt + 7) + kx + 1) := Nat.mul_le_mul_right _ (by omega)
      rw [Nat.succ_mul i] at hmul
      have v := lvalue_ok p1 ht (by decide) (by omega) (Nat.le_trans p2 (by decide))
      have sv : Rk (1 + 3 * (kt + 7)) (evP (pk r i) t) := ((value_at_ok p1 ht (by decide) (by omega)).2).mono (by omega)
      have hxi := hx _ (List.getElem_mem hix)
      have mu := lmul2_r sv hxi (by omega)
      have ad := ladd2_r hs (sv.mul hxi) (by omega)
      have ixx : ixD (.list (xs.map rD)) (.int (i : Nat)) = some (rD xs[i]) := by simp [hix]
      have tk : (r.ps.zip xs).take (i + 1) = (r.ps.zip xs).take i ++ [(pk r i, xs[i])] := by
        have : (r.ps.zip xs)[i]? = some (pk r i, xs[i]) := by
          rw [List.getElem?_zip_eq_some]
          refine ⟨?_, List.getElem?_eq_getElem hix⟩
          unfold pk
          rw [List.getD_eq_getElem?_getD, List.getElem?_eq_getElem hk]; rfl
        rw [List.take_add_one, this]; rfl
      refine ⟨_, .inl (by simp [b__law_row_value_1, row_ix0, pk_ix hk, v, ixx, mu, ad, -r_ix_l, -r_ix_t, -Out.nx.injEq] <;> rfl), .sh (.int (i : Nat)), ?_, ?_⟩
      · rw [tk, List.foldl_append]; rfl
      · rw [tk, List.foldl_append, Nat.succ_mul i]
        exact (hs.add (sv.mul hxi)).mono (by omega))
  rw [rngL_length] at e
  have hall : (r.ps.zip xs).take m = r.ps.zip xs := List.take_of_length_le (by omega)
  rw [hall] at e
  have hrg := range1_ok (x := (m : Int)) (by omega) (by omega)
  have hlx : lenD [.list (xs.map rD)] = some (.int (m : Int)) := by rw [r_len_l, List.length_map, hxl]
  simp [m__law_row_value, c__law_row_value, rowD_ix1, v, hlx, hrg, e, rv, rvL, -r_ix_t, -r_len_l]
/-! ### signs that fit -/
def fitB (s : Str) (v : Int) : Bool := if s = "<" then decide (v < 0) else if s = "<=" then decide (v ≤ 0) else decide (v = 0)
theorem fits_ok {s : Str} (hs : s = "<=" ∨ s = "<" ∨ s = "=") (v : Int) : m_fits [.str s, .int v] = .ok (.sh (.bool (fitB s v))) := by
  rcases hs with rfl | rfl | rfl <;> simp [m_fits, c_fits, fitB, show ((Str.ofString "<=") = Str.ofString "<") = False by decide +kernel, show ((Str.ofString "=") = Str.ofString "<") = False by decide +kernel, show ((Str.ofString "=") = Str.ofString "<=") = False by decide +kernel]
theorem lfits_ok {s : Str} (hs : s = "<=" ∨ s = "<" ∨ s = "=") (v : Int) : m__law_fits [.str s, .int v] = .ok (.sh (.bool (fitB s v))) := by
  have sel : ∀ a b c d e f : D, selD ["<", "<=", "=", "!=", ">=", ">"] [a, b, c, d, e, f] (.str s) = some (if s = "<" then a else if s = "<=" then b else c) := fun a b c d e f => by
    rcases hs with rfl | rfl | rfl <;> simp [selD, show ((Str.ofString "<=") = Str.ofString "<") = False by decide +kernel, show ((Str.ofString "=") = Str.ofString "<") = False by decide +kernel, show ((Str.ofString "=") = Str.ofString "<=") = False by decide +kernel, show ((Str.ofString "<") = Str.ofString "<=") = False by decide +kernel, show ((Str.ofString "<") = Str.ofString "=") = False by decide +kernel, show ((Str.ofString "<=") = Str.ofString "=") = False by decide +kernel, show ((Str.ofString "<") = Str.ofString "!=") = False by decide +kernel, show ((Str.ofString "<") = Str.ofString ">=") = False by decide +kernel, show ((Str.ofString "<") = Str.ofString ">") = False by decide +kernel, show ((Str.ofString "<=") = Str.ofString "!=") = False by decide +kernel, show ((Str.ofString "<=") = Str.ofString ">=") = False by decide +kernel, show ((Str.ofString "<=") = Str.ofString ">") = False by decide +kernel, show ((Str.ofString "=") = Str.ofString "!=") = False by decide +kernel, show ((Str.ofString "=") = Str.ofString ">=") = False by decide +kernel, show ((Str.ofString "=") = Str.ofString ">") = False by decide +kernel]
  simp [m__law_fits, c__law_fits, sel, fitB]
  split
  · rfl
  · split <;> rfl
theorem cmp0 (r : Rat) : cmpQ (tQ r) (tQ 0) = if r.num < 0 then -1 else if 0 < r.num then 1 else 0 := by
  unfold cmpQ tQ
  simp
theorem fit_sign {s : Str} (hs : s = "<=" ∨ s = "<" ∨ s = "=") (r : Rat) : fitB s (cmpQ (tQ r) (tQ 0)) = fitB s r.num := by
  rw [cmp0]
  rcases Int.lt_trichotomy r.num 0 with h | h | h
  · rw [if_pos h]
    unfold fitB
    rw [decide_eq_true (show (-1 : Int) < 0 by decide), decide_eq_true h, decide_eq_true (show (-1 : Int) ≤ 0 by decide), decide_eq_true (show r.num ≤ 0 by omega), decide_eq_false (show ¬ (-1 : Int) = 0 by decide), decide_eq_false (show ¬ r.num = 0 by omega)]
  · rw [h]; rfl
  · rw [if_neg (by omega), if_pos h]
    unfold fitB
    rw [decide_eq_false (show ¬ (1 : Int) < 0 by decide), decide_eq_false (show ¬ r.num < 0 by omega), decide_eq_false (show ¬ (1 : Int) ≤ 0 by decide), decide_eq_false (show ¬ r.num ≤ 0 by omega), decide_eq_false (show ¬ (1 : Int) = 0 by decide), decide_eq_false (show ¬ r.num = 0 by omega)]

/-! ### rows that are fulfilled -/
def fulB (rs : List Row) (xs : List Rat) (t : Rat) : Bool := rs.all fun r => fitB r.s (rv r xs t).num
theorem fulfilled_ok {rs : List Row} {xs : List Rat} {t : Rat} {m c kt kx : Nat} (hr : ∀ r ∈ rs, RowG m c r) (hm : m ≤ 2) (hc : 6 ≤ c) (hx : ∀ x ∈ xs, Rk kx x) (ht : Rk kt t) (hz : 3 * (kt + c + 1) + 6 * (kt + 7) + 2 * kx + 20 ≤ 1900) (hz2 : 4 * (kt + c + 1) ≤ 1900) :
    m_fulfilled_at [.list (rs.map rowD), .list (xs.map rD), rD t] = .ok (.sh (.bool (fulB rs xs t))) := by
  have q0 : (.tuple [.int 0, .int 1] : D) = rD 0 := rfl
  have L := forO_gen (F := gTo (gSet 3) b_fulfilled_at_1) (l := rs.map rowD) (fun o => (o = .rt (.sh (.bool false)) ∧ fulB rs xs t = false) ∨ (∃ ρ, o = .nx ρ ∧ fulB rs xs t = true))
    (fun i ρ => (∃ j, ρ = [.sh (.list (rs.map rowD)), .sh (.list (xs.map rD)), .sh (rD t), j]) ∧ (rs.take i).all (fun r => fitB r.s (rv r xs t).num) = true)
    (ρ := [.sh (.list (rs.map rowD)), .sh (.list (xs.map rD)), .sh (rD t), .no]) ⟨⟨_, rfl⟩, rfl⟩
    (fun i d ρ hd hi => by
      obtain ⟨⟨j, rfl⟩, ha⟩ := hi
      rw [List.getElem?_map] at hd
      obtain ⟨r, hri, rfl⟩ := Option.map_eq_some_iff.mp hd
      have hrm := List.mem_of_getElem? hri
      have g := hr r hrm
      obtain ⟨v, s⟩ := rest_at_ok g hm hc hx ht (by omega)
      have cm := compare_ok s rk0 (by omega)
      have ft := fits_ok g.s (cmpQ (tQ (rv r xs t)) (tQ 0))
      rw [fit_sign g.s] at ft
      have cm' : m_compare [rD (rv r xs t), rD 0] = .ok (.sh (.int (cmpQ (tQ (rv r xs t)) (tQ 0)))) := cm
      cases hb : fitB r.s (rv r xs t).num with
      | true =>
        rw [hb] at ft
        left
        refine ⟨_, .inl (by simp [b_fulfilled_at_1, rowD_ix2, v, q0, cm', ft, -r_ix_t, -Out.nx.injEq] <;> rfl), ⟨_, rfl⟩, ?_⟩
        rw [List.take_add_one, hri, List.all_append, ha]
        simp [hb]
      | false =>
        rw [hb] at ft
        right; right; left
        refine ⟨_, by simp [b_fulfilled_at_1, rowD_ix2, v, q0, cm', ft, -r_ix_t, -Out.rt.injEq] <;> rfl, .inl ⟨rfl, ?_⟩⟩
        unfold fulB
        exact List.all_eq_false.mpr ⟨r, hrm, by simp [hb]⟩)
    (fun ρ h => .inr ⟨ρ, rfl, by
      have := h.2
      rw [List.length_map, List.take_length] at this
      exact this⟩)
  rcases L with ⟨e, hb⟩ | ⟨ρ, e, hb⟩
  · simp [m_fulfilled_at, c_fulfilled_at, e, hb]
  · simp [m_fulfilled_at, c_fulfilled_at, e, hb]
theorem lfulfilled_ok {rs : List Row} {xs : List Rat} {t : Rat} {m c kt kx : Nat} (hr : ∀ r ∈ rs, RowG m c r) (hm : m ≤ 2) (hc : 6 ≤ c) (hl : rs.length ≤ 1000) (hxl : xs.length = m) (hx : ∀ x ∈ xs, Rk kx x) (ht : Rk kt t) (hz : 3 * (kt + c + 1) + 6 * (kt + 7) + 2 * kx + 20 ≤ 1900) (hz2 : 4 * (kt + c + 1) ≤ 1900) :
    m__law_fulfilled [.list (rs.map rowD), .list (xs.map rD), rD t] = .ok (.sh (.bool (fulB rs xs t))) := by
  have hc := compR_map' (F := rowD) (step := compS [3] (gSet 3) (cst true) (eCall m__law_fits (eCons (e2 ixD (eOwn 3) (cst (.int 2))) (eCons (e2 ixD (eCall m__law_row_value (eCons (eVar 3) (eCons (eVar 1) (eCons (eVar 2) (cst []))))) (cst (.int 0))) (cst [])))) [.sh (.list (rs.map rowD)), .sh (.list (xs.map rD)), .sh (rD t), .no]) (l := rs) (φ := fun r => .bool (fitB r.s (rv r xs t).num)) fun r h => by
    have g := hr r h
    have v := lrow_ok g hm hc hxl hx ht hz hz2
    have ft := lfits_ok g.s (rv r xs t).num
    simp [compS, rowD_ix2, v, ft, -r_ix_t]
  have hs : rs.length ≤ sizeLine := slB (by omega)
  have hb : blsD (rs.map fun r => .bool (fitB r.s (rv r xs t).num)) = some (rs.map fun r => fitB r.s (rv r xs t).num) := by
    have := blsD_map (rs.map fun r => fitB r.s (rv r xs t).num)
    rw [List.map_map] at this
    exact this
  have ha : (rs.map fun r => fitB r.s (rv r xs t).num).all id = fulB rs xs t := by rw [List.all_map]; rfl
  simp only [m__law_fulfilled, c__law_fulfilled]
  simp [hs, hc, hb, -List.all_map, ha]
theorem lsame_ok (b : Bool) : m__law_same [.bool b, .bool b] = .ok (.sh (.bool true)) := by
  cases b <;> simp [m__law_same, c__law_same, isD]
def lessP (a b : List Int) : List Int := trimP (fl (max a.length b.length) fun k => cf a k - cf b k)
theorem fl_snoc (n : Nat) (φ : Nat → Int) : fl (n + 1) φ = fl n φ ++ [φ n] := by simp [fl, List.range_succ]
theorem less_ok {a b : List Int} (ha : a.length ≤ 1000) (hb : b.length ≤ 1000) : m__law_less_poly [pD a, pD b] = .ok (.sh (pD (lessP a b))) := by
  obtain ⟨ρ', e, y3, y4, rfl⟩ := forO_inv (F := gTo (gSet 3) b__law_less_poly_1) (l := rngL 0 1 (max a.length b.length))
    (fun i ρ => ∃ y3 y4, ρ = [.sh (pD a), .sh (pD b), .ow ((fl i fun k => cf a k - cf b k).map .int), y3, y4])
    (ρ := [.sh (pD a), .sh (pD b), .ow [], .no, .no]) ⟨_, _, rfl⟩
    (fun i d ρ hd hi => by
      obtain ⟨hil, rfl⟩ := rng0_get hd
      obtain ⟨y3, y4, rfl⟩ := hi
      have hs : i < sizeLine := Nat.lt_of_lt_of_le (show i < 100000 by omega) (by decide)
      refine ⟨_, .inl ?_, .sh (.int (i : Nat)), .sh (.int (cf a i - cf b i)), rfl⟩
      by_cases h1 : i < a.length
      · have x1' := p_ixc h1
        by_cases h2 : i < b.length
        · have x2' := p_ixc h2
          simp [b__law_less_poly_1, h1, h2, x1', x2', hs, fl_snoc]
        · simp [b__law_less_poly_1, h1, h2, x1', hs, fl_snoc, cf_out (Nat.not_lt.mp h2)]
      · by_cases h2 : i < b.length
        · have x2' := p_ixc h2
          simp [b__law_less_poly_1, h1, h2, x2', hs, fl_snoc, cf_out (Nat.not_lt.mp h1)]
        · omega)
  rw [rngL_length] at e
  have hr := range1_ok (x := ((max a.length b.length : Nat) : Int)) (by omega) (by omega)
  have ht := trim2_ok (fl (max a.length b.length) fun k => cf a k - cf b k) (by simp; omega)
  simp only [Int.toNat_natCast] at hr
  simp [m__law_less_poly, c__law_less_poly, hr, e, ht, lessP]
/-- the rows or the numbers in their slot, one's own or frozen -/
def In2 (s : SD) (l : List D) : Prop := s = .ow l ∨ s = .sh (.list l)
theorem sw_rat {k : Nat} {r : Rat} (h : Rk k r) (hk : k ≤ 1900) : Sw (2 * (k + 4) + 3) (rD r) := by
  have := sw_tup (w := k + 2) (l := [.int r.num, .int (r.den : Int)]) fun d hd => by
    simp at hd
    rcases hd with rfl | rfl
    · exact (sw_int (h.s1.mono (show k ≤ k + 1 by omega)) (by omega) (by omega))
    · exact (sw_int (h.s2.mono (show k ≤ k + 1 by omega)) (by omega) (by omega))
  exact this.mono (by simp)
theorem sw_rowg {m c : Nat} {r : Row} (h : RowG m c r) (hm : m ≤ 2) (hc : c ≤ 500) (h0 : 0 < c) : Sw 8000 (rowD r) := by
  have h1 : Sw 500 (.list (r.ps.map pD)) := (sw_list (w := 40) fun d hd => by
    obtain ⟨p, hp', rfl⟩ := List.mem_map.mp hd
    have := h.ps p hp'
    exact (sw_p this.1 (by decide) (by decide)).mono (by have := this.2; omega)).mono (by rw [List.length_map, h.len]; omega)
  have h2 : Sw 1600 (pD r.q) := (sw_p h.q (by omega) h0).mono (by
    have : r.q.length * (c + 3) ≤ 3 * (c + 3) := Nat.mul_le_mul_right _ h.ql
    omega)
  exact (sw_tup (w := 1600) fun d hd => by
    simp at hd
    rcases hd with rfl | rfl | rfl
    · exact h1.mono (by decide)
    · exact h2
    · exact (sw_str h.s).mono (by decide)).mono (by simp)
theorem okD_rowg {m c : Nat} {r : Row} (h : RowG m c r) (n : Nat) : okD (n + 3) (rowD r) = true := by
  have h1 : okL (n + 1) (r.ps.map pD) = true := okL_iff.mpr fun d hd => by
    obtain ⟨p, _, rfl⟩ := List.mem_map.mp hd
    exact p_okD n p
  have h2 : okD (n + 2) (.str r.s) = true := by
    have h3 : ∀ x : Str, okD (n + 2) (.str x) = PyData.strOk x := fun _ => rfl
    rw [h3]
    rcases h.s with e | e | e <;> rw [e] <;> decide +kernel
  simp [rowD, h1, h2]
theorem both_repr {rs : List Row} {xs : List Rat} {m c k : Nat} (hr : ∀ r ∈ rs, RowG m c r) (hm : m ≤ 2) (hc : c ≤ 500) (h0 : 0 < c) (hl : rs.length ≤ 10) (hxl : xs.length ≤ 10) (hx : ∀ x ∈ xs, Rk k x) (hk : k ≤ 1500) :
    reprL [.tuple [.list (rs.map rowD), .list (xs.map rD)]] = some (.str (PyData.shown (.tuple [.list (rs.map rowD), .list (xs.map rD)]))) := by
  have s1' : Sw 100000 (.list (rs.map rowD)) := (sw_list (w := 8000) fun d hd => by
    obtain ⟨r, hr', rfl⟩ := List.mem_map.mp hd
    exact sw_rowg (hr r hr') hm hc h0).mono (by rw [List.length_map]; omega)
  have s2' : Sw 100000 (.list (xs.map rD)) := (sw_list (w := 4000) fun d hd => by
    obtain ⟨r, hr', rfl⟩ := List.mem_map.mp hd
    exact (sw_rat (hx r hr') (by omega)).mono (by omega)).mono (by rw [List.length_map]; omega)
  have o1 : okL 62 (rs.map rowD) = true := okL_iff.mpr fun d hd => by
    obtain ⟨r, hr', rfl⟩ := List.mem_map.mp hd
    exact okD_rowg (hr r hr') 59
  have o2 : okL 62 (xs.map rD) = true := okL_iff.mpr fun d hd => by
    obtain ⟨r, hr', rfl⟩ := List.mem_map.mp hd
    exact okD_r 61 r
  exact r_repr_t (w := 100000) (by simp [o1, o2]) (fun d hd => by
    simp at hd
    rcases hd with rfl | rfl
    · exact s1'
    · exact s2') (by simp; decide)
theorem ldiv_ok {q s : Rat} {k l : Nat} (hq : Rk k q) (hs : Rk l s) (h0 : s.num ≠ 0) (e : k + l ≤ 1900) : m__law_div [.tuple [.int (-q.num), .int (q.den : Int)], rD s] = .ok (.sh (rD (-q / s))) ∧ Rk (k + l) (-q / s) := by
  have o1 : okMul (-q.num) (s.den : Int) = true := okMul_of hq.s1.neg hs.s2 (by omega)
  have o2 : okMul (q.den : Int) s.num = true := okMul_of hq.s2 hs.s1 (by omega)
  have n1 : Sz (k + l) (-q.num * (s.den : Int)) := hq.s1.neg.mul hs.s2
  have n2 : Sz (k + l) ((q.den : Int) * s.num) := hq.s2.mul hs.s1
  have nz : (q.den : Int) * s.num ≠ 0 := Int.mul_ne_zero (by have := q.den_nz; omega) h0
  have lo := lowest_ok (n1.mono (show k + l ≤ 1990 by omega)) (n2.mono (show k + l ≤ 1990 by omega)) nz
  have rk := rk_div nz n1 n2
  have ev : (((-q.num * (s.den : Int) : Int) : Rat) / (((q.den : Int) * s.num : Int) : Rat)) = -q / s := by
    have h1 := num_eq q
    have h2 := num_eq s
    have h3 := den_ne q
    have h4 := den_ne s
    have h5 : (s.num : Rat) ≠ 0 := by exact_mod_cast h0
    rw [Rat.intCast_mul, Rat.intCast_mul, Rat.intCast_neg, h1]
    rw [h2] at h5 ⊢
    have h6 : s ≠ 0 := fun z => h5 (by rw [z]; grind)
    grind
  rw [ev] at lo rk
  exact ⟨by simp [m__law_div, c__law_div, o1, o2, lo], rk⟩
theorem comp_num {L : List D} (h : PP L) {m : Nat} {step : D → Ev → RX (Option D)} (ev : List D → Ev) {k : Nat}
    (st : ∀ d L, PP L → ∃ L' r, step d (ev L) = .ok (some (rD r)) (ev L') ∧ PP L' ∧ Rk k r) :
    ∃ (L' : List D) (xs : List Rat), compX step (rngL 0 1 m) (ev L) = .ok (xs.map rD) (ev L') ∧ PP L' ∧ xs.length = m ∧ ∀ x ∈ xs, Rk k x := by
  obtain ⟨ys, ρ', f1, ⟨L', f2, rfl⟩, f3, f4⟩ := compX_all (step := step) (fun ρ => ∃ L, PP L ∧ ρ = ev L) (fun y => ∃ r, y = rD r ∧ Rk k r) (l := rngL 0 1 m) (fun d ρ _ hρ => by
    obtain ⟨L, hL, rfl⟩ := hρ
    obtain ⟨L', r, q1, q2, q3⟩ := st d L hL
    exact ⟨_, _, q1, ⟨L', q2, rfl⟩, r, rfl, q3⟩) ⟨L, h, rfl⟩
  obtain ⟨xs, rfl, hxs⟩ := list_of f4
  rw [List.length_map, rngL_length] at f3
  exact ⟨L', xs, f1, f2, f3, hxs⟩
theorem cons_of {α : Type} {m : Nat} {xs : List α} (h : xs.length = m) (h1 : 1 ≤ m) : ∃ x ys, xs = x :: ys := by
  cases xs with
  | nil => simp at h; omega
  | cons x ys => exact ⟨x, ys, rfl⟩
end W

set_option Elab.async false
set_option linter.all false
set_option maxRecDepth 100000
set_option autoImplicit false
namespace W
open PySem PySem.Spec PyProof.Rows L2 VL
/-! ### one number taken out of rows: plain law -/
theorem pos_le {a d : Rat} (h : 0 < a) : a * d ≤ 0 ↔ d ≤ 0 := by
  constructor
  · intro h1
    by_cases h2 : 0 < d
    · have : 0 < a * d := Rat.mul_pos h h2
      grind
    · grind
  · intro h1
    have := Rat.mul_nonneg (Rat.le_of_lt h) (show 0 ≤ -d by grind)
    grind
theorem pos_lt {a d : Rat} (h : 0 < a) : a * d < 0 ↔ d < 0 := by
  constructor
  · intro h1
    by_cases h2 : 0 ≤ d
    · have : 0 ≤ a * d := Rat.mul_nonneg (Rat.le_of_lt h) h2
      grind
    · grind
  · intro h1
    have := Rat.mul_pos h (show 0 < -d by grind)
    grind
theorem pos_eq {a d : Rat} (h : 0 < a) : a * d = 0 ↔ d = 0 := by
  constructor
  · intro h1
    by_cases h2 : d = 0
    · exact h2
    · have : a = 0 := by grind
      grind
  · intro h1; subst h1; grind
inductive Sg | lt | le | eq
deriving DecidableEq
def fitG (s : Sg) (v : Rat) : Bool := match s with
  | .lt => decide (v < 0)
  | .le => decide (v ≤ 0)
  | .eq => decide (v = 0)
theorem fitG_pos {a v : Rat} (h : 0 < a) (s : Sg) : fitG s (a * v) = fitG s v := by
  cases s <;> simp [fitG, pos_le h, pos_lt h, pos_eq h]
theorem fitG_pos' {a v : Rat} (h : 0 < a) (s : Sg) : fitG s (v / a) = fitG s v := by
  have : v = a * (v / a) := by
    have : a ≠ 0 := by grind
    grind
  rw [← fitG_pos h, ← this]
def SgJ (a b : Sg) : Sg := if a = .lt ∨ b = .lt then .lt else .le
/-- a row in one number: coefficient, rest, sign -/
structure R1 where
  a : Rat
  b : Rat
  s : Sg
def S1 (L : List R1) (x : Rat) : Prop := ∀ r ∈ L, fitG r.s (r.a * x + r.b) = true
theorem fm_eq {L : List R1} {r0 : R1} (h0 : r0 ∈ L) (hs : r0.s = .eq) (ha : r0.a ≠ 0) :
    (∃ x, S1 L x) ↔ ∀ r ∈ L, fitG r.s (r.b - r.a * (r0.b / r0.a)) = true := by
  constructor
  · rintro ⟨x, hx⟩ r hr
    have h1 := hx r0 h0
    rw [hs] at h1
    have h2 : r0.a * x + r0.b = 0 := by simpa [fitG] using h1
    have h3 : x = - (r0.b / r0.a) := by grind
    have h4 := hx r hr
    rw [h3] at h4
    rw [← h4]; congr 1; grind
  · intro h
    refine ⟨-(r0.b / r0.a), fun r hr => ?_⟩
    rw [← h r hr]; congr 1; grind
def maxL (l : List Rat) : Option Rat := l.foldl (fun o x => match o with | none => some x | some m => if m < x then some x else some m) none
def minL (l : List Rat) : Option Rat := l.foldl (fun o x => match o with | none => some x | some m => if x < m then some x else some m) none
theorem maxL_aux : ∀ (l : List Rat) (o : Option Rat),
    ∃ p, p = l.foldl (fun o x => match o with | none => some x | some m => if m < x then some x else some m) o ∧ (p = none ↔ l = [] ∧ o = none) ∧
    ∀ m, p = some m → (m ∈ l ∨ o = some m) ∧ (∀ x ∈ l, x ≤ m) ∧ ∀ y, o = some y → y ≤ m
  | [], o => ⟨o, rfl, by simp, fun m hm => ⟨.inr hm, by simp, fun y hy => by rw [hm] at hy; cases hy; exact Rat.le_refl⟩⟩
  | x :: l, o => by
    obtain ⟨p, h1, h2, h3⟩ := maxL_aux l (match o with | none => some x | some m => if m < x then some x else some m)
    refine ⟨p, h1, ?_, fun m hm => ?_⟩
    · rw [h2]
      cases o with
      | none => simp
      | some y => simp only; split <;> simp
    · obtain ⟨g1, g2, g3⟩ := h3 m hm
      cases o with
      | none =>
        have := g3 x rfl
        refine ⟨.inl ?_, ?_, by simp⟩
        · rcases g1 with g | g
          · simp [g]
          · simp at g; simp [g]
        · intro z hz
          rcases List.mem_cons.mp hz with rfl | hz
          · exact this
          · exact g2 z hz
      | some y =>
        simp only at g1 g3
        by_cases hxy : y < x
        · rw [if_pos hxy] at g1 g3
          have := g3 x rfl
          refine ⟨.inl ?_, ?_, fun w hw => ?_⟩
          · rcases g1 with g | g
            · simp [g]
            · simp at g; simp [g]
          · intro z hz
            rcases List.mem_cons.mp hz with rfl | hz
            · exact this
            · exact g2 z hz
          · cases hw; grind
        · rw [if_neg hxy] at g1 g3
          have := g3 y rfl
          refine ⟨?_, ?_, fun w hw => ?_⟩
          · rcases g1 with g | g
            · simp [g]
            · simp at g; simp [g]
          · intro z hz
            rcases List.mem_cons.mp hz with rfl | hz
            · grind
            · exact g2 z hz
          · cases hw; exact this
theorem maxL_none {l : List Rat} : maxL l = none ↔ l = [] := by
  obtain ⟨p, h1, h2, _⟩ := maxL_aux l none
  unfold maxL; rw [← h1, h2]; simp
theorem maxL_some {l : List Rat} {m : Rat} (h : maxL l = some m) : m ∈ l ∧ ∀ x ∈ l, x ≤ m := by
  obtain ⟨p, h1, _, h3⟩ := maxL_aux l none
  unfold maxL at h; rw [← h1] at h
  obtain ⟨g1, g2, _⟩ := h3 m h
  exact ⟨by simpa using g1, g2⟩
theorem minL_neg : ∀ (l : List Rat) (o : Option Rat), l.foldl (fun o x => match o with | none => some x | some m => if x < m then some x else some m) o
    = ((l.map (- ·)).foldl (fun o x => match o with | none => some x | some m => if m < x then some x else some m) (o.map (- ·))).map (- ·)
  | [], o => by cases o <;> simp
  | x :: l, o => by
    rw [List.foldl_cons, List.map_cons, List.foldl_cons, minL_neg l]
    congr 2
    cases o with
    | none => rfl
    | some y =>
      simp only [Option.map_some]
      by_cases h : x < y
      · rw [if_pos h, if_pos (by grind)]; rfl
      · rw [if_neg h, if_neg (by grind)]; rfl
theorem minL_eq (l : List Rat) : minL l = (maxL (l.map (- ·))).map (- ·) := minL_neg l none
theorem minL_none {l : List Rat} : minL l = none ↔ l = [] := by
  rw [minL_eq]; simp [maxL_none]
theorem minL_some {l : List Rat} {m : Rat} (h : minL l = some m) : m ∈ l ∧ ∀ x ∈ l, m ≤ x := by
  rw [minL_eq] at h
  obtain ⟨n, h1, h2⟩ := Option.map_eq_some_iff.mp h
  obtain ⟨g1, g2⟩ := maxL_some h1
  obtain ⟨y, hy, rfl⟩ := List.mem_map.mp g1
  have : m = y := by grind
  subst this
  exact ⟨hy, fun x hx => by
    have := g2 (-x) (List.mem_map.mpr ⟨x, hx, rfl⟩)
    grind⟩
/-- a number between the greatest of the first and the least of the second ones -/
def betN (lows highs : List Rat) : Rat := match maxL lows, minL highs with
  | none, none => 0
  | none, some h => h - 1
  | some l, none => l + 1
  | some l, some h => (l + h) * (1 / 2)
def lowsOf (L : List R1) : List Rat := (L.filter fun r => decide (r.a < 0)).map fun r => -r.b / r.a
def highsOf (L : List R1) : List Rat := (L.filter fun r => decide (0 < r.a)).map fun r => -r.b / r.a
theorem hi_edge {a b x : Rat} (h : 0 < a) : (a * x + b ≤ 0 ↔ x ≤ -b / a) ∧ (a * x + b < 0 ↔ x < -b / a) := by
  have e : a * x + b = a * (x - -b / a) := by
    have : a ≠ 0 := by grind
    grind
  rw [e, pos_le h, pos_lt h]
  constructor <;> grind
theorem lo_edge {a b x : Rat} (h : a < 0) : (a * x + b ≤ 0 ↔ -b / a ≤ x) ∧ (a * x + b < 0 ↔ -b / a < x) := by
  have e : a * x + b = (-a) * (-b / a - x) := by
    have : a ≠ 0 := by grind
    grind
  have h' : 0 < -a := by grind
  rw [e, pos_le h', pos_lt h']
  constructor <;> grind
def Pairs (L : List R1) : Prop := (∀ r ∈ L, r.a = 0 → fitG r.s r.b = true) ∧ ∀ h ∈ L, ∀ l ∈ L, 0 < h.a → l.a < 0 → fitG (SgJ h.s l.s) (l.b * h.a - h.b * l.a) = true
theorem pair_edge {h l : R1} (h1 : 0 < h.a) (h2 : l.a < 0) : fitG (SgJ h.s l.s) (l.b * h.a - h.b * l.a) = true ↔
    -l.b / l.a ≤ -h.b / h.a ∧ (-l.b / l.a = -h.b / h.a → h.s ≠ .lt ∧ l.s ≠ .lt) := by
  have e : l.b * h.a - h.b * l.a = (h.a * -l.a) * (-l.b / l.a - -h.b / h.a) := by
    have : h.a ≠ 0 := by grind
    have : l.a ≠ 0 := by grind
    grind
  have hp : 0 < h.a * -l.a := Rat.mul_pos h1 (by grind)
  rw [e, fitG_pos hp]
  unfold SgJ
  split
  · rename_i hc
    simp only [fitG, decide_eq_true_eq]
    constructor
    · intro g; exact ⟨by grind, fun z => by grind⟩
    · rintro ⟨g1, g2⟩
      by_cases z : -l.b / l.a = -h.b / h.a
      · have := g2 z
        rcases hc with hc | hc
        · exact absurd hc this.1
        · exact absurd hc this.2
      · grind
  · rename_i hc
    simp only [fitG, decide_eq_true_eq]
    constructor
    · intro g
      exact ⟨by grind, fun _ => by simpa [not_or] using hc⟩
    · rintro ⟨g1, _⟩; grind
theorem bet_ok {L : List R1} (hs : ∀ r ∈ L, r.a ≠ 0 → r.s ≠ .eq) (h : Pairs L) : S1 L (betN (lowsOf L) (highsOf L)) := by
  obtain ⟨z, p⟩ := h
  have memL : ∀ {l}, l ∈ L → l.a < 0 → -l.b / l.a ∈ lowsOf L := fun {l} hl ha => by
    unfold lowsOf; exact List.mem_map.mpr ⟨l, by simp [hl, ha], rfl⟩
  have memH : ∀ {l}, l ∈ L → 0 < l.a → -l.b / l.a ∈ highsOf L := fun {l} hl ha => by
    unfold highsOf; exact List.mem_map.mpr ⟨l, by simp [hl, ha], rfl⟩
  have key : ∀ x, (∀ l ∈ L, l.a < 0 → -l.b / l.a < x ∨ (-l.b / l.a ≤ x ∧ l.s ≠ .lt)) → (∀ l ∈ L, 0 < l.a → x < -l.b / l.a ∨ (x ≤ -l.b / l.a ∧ l.s ≠ .lt)) → S1 L x := by
    intro x g1 g2 r hr
    by_cases h0 : r.a = 0
    · rw [h0, show (0 : Rat) * x + r.b = r.b by grind]; exact z r hr h0
    · have hne := hs r hr h0
      by_cases hp : 0 < r.a
      · obtain ⟨i1, i2⟩ := hi_edge (b := r.b) (x := x) hp
        rcases hsr : r.s with _ | _ | _
        · simp only [fitG, decide_eq_true_eq]
          rw [i2]
          rcases g2 r hr hp with g | g
          · exact g
          · exact absurd hsr g.2
        · simp only [fitG, decide_eq_true_eq]
          rw [i1]
          rcases g2 r hr hp with g | g
          · exact Rat.le_of_lt g
          · exact g.1
        · exact absurd hsr hne
      · have hn : r.a < 0 := by grind
        obtain ⟨i1, i2⟩ := lo_edge (b := r.b) (x := x) hn
        rcases hsr : r.s with _ | _ | _
        · simp only [fitG, decide_eq_true_eq]
          rw [i2]
          rcases g1 r hr hn with g | g
          · exact g
          · exact absurd hsr g.2
        · simp only [fitG, decide_eq_true_eq]
          rw [i1]
          rcases g1 r hr hn with g | g
          · exact Rat.le_of_lt g
          · exact g.1
        · exact absurd hsr hne
  unfold betN
  rcases hM : maxL (lowsOf L) with _ | m <;> rcases hN : minL (highsOf L) with _ | n
  · have e1 := maxL_none.mp hM
    have e2 := minL_none.mp hN
    refine key 0 (fun l hl ha => ?_) fun l hl ha => ?_
    · have := memL hl ha; rw [e1] at this; simp at this
    · have := memH hl ha; rw [e2] at this; simp at this
  · have e1 := maxL_none.mp hM
    have e2 := minL_some hN
    refine key (n - 1) (fun l hl ha => ?_) fun l hl ha => ?_
    · have := memL hl ha; rw [e1] at this; simp at this
    · have := e2.2 _ (memH hl ha); left; grind
  · have e1 := maxL_some hM
    have e2 := minL_none.mp hN
    refine key (m + 1) (fun l hl ha => ?_) fun l hl ha => ?_
    · have := e1.2 _ (memL hl ha); left; grind
    · have := memH hl ha; rw [e2] at this; simp at this
  · have e1 := maxL_some hM
    have e2 := minL_some hN
    obtain ⟨rl, hrl, el⟩ := List.mem_map.mp e1.1
    obtain ⟨rh, hrh, eh⟩ := List.mem_map.mp e2.1
    simp at hrl hrh
    have base := (pair_edge hrh.2 hrl.2).mp (p rh hrh.1 rl hrl.1 hrh.2 hrl.2)
    rw [el, eh] at base
    refine key ((m + n) * (1 / 2)) (fun l hl ha => ?_) fun l hl ha => ?_
    · have g := e1.2 _ (memL hl ha)
      by_cases q : m = n
      · subst q
        by_cases w : -l.b / l.a = m
        · have := (pair_edge hrh.2 ha).mp (p rh hrh.1 l hl hrh.2 ha)
          rw [eh, w] at this
          exact .inr ⟨by grind, (this.2 rfl).2⟩
        · left; grind
      · left; grind
    · have g := e2.2 _ (memH hl ha)
      by_cases q : m = n
      · subst q
        by_cases w : -l.b / l.a = m
        · have := (pair_edge ha hrl.2).mp (p l hl rl hrl.1 ha hrl.2)
          rw [el, w] at this
          exact .inr ⟨by grind, (this.2 rfl).1⟩
        · left; grind
      · left; grind
theorem fm_pair {L : List R1} (hs : ∀ r ∈ L, r.a ≠ 0 → r.s ≠ .eq) : (∃ x, S1 L x) ↔ Pairs L := by
  refine ⟨?_, fun h => ⟨_, bet_ok hs h⟩⟩
  rintro ⟨x, hx⟩
  refine ⟨fun r hr ha => ?_, fun h hh l hl ha hb => ?_⟩
  · have := hx r hr
    rw [ha, show (0 : Rat) * x + r.b = r.b by grind] at this
    exact this
  · rw [pair_edge ha hb]
    obtain ⟨i1, i2⟩ := hi_edge (b := h.b) (x := x) ha
    obtain ⟨j1, j2⟩ := lo_edge (b := l.b) (x := x) hb
    have gh := hx h hh
    have gl := hx l hl
    have n1 := hs h hh (by grind)
    have n2 := hs l hl (by grind)
    have k1 : x ≤ -h.b / h.a ∧ (h.s = .lt → x < -h.b / h.a) := by
      rcases hsr : h.s with _ | _ | _
      · rw [hsr] at gh
        simp only [fitG, decide_eq_true_eq] at gh
        rw [i2] at gh
        exact ⟨Rat.le_of_lt gh, fun _ => gh⟩
      · rw [hsr] at gh
        simp only [fitG, decide_eq_true_eq] at gh
        rw [i1] at gh
        exact ⟨gh, fun z => by cases z⟩
      · exact absurd hsr n1
    have k2 : -l.b / l.a ≤ x ∧ (l.s = .lt → -l.b / l.a < x) := by
      rcases hsr : l.s with _ | _ | _
      · rw [hsr] at gl
        simp only [fitG, decide_eq_true_eq] at gl
        rw [j2] at gl
        exact ⟨Rat.le_of_lt gl, fun _ => gl⟩
      · rw [hsr] at gl
        simp only [fitG, decide_eq_true_eq] at gl
        rw [j1] at gl
        exact ⟨gl, fun z => by cases z⟩
      · exact absurd hsr n2
    refine ⟨by grind, fun z => ⟨fun q => ?_, fun q => ?_⟩⟩
    · have := k1.2 q; grind
    · have := k2.2 q; grind
/-! ### rows with numbers put in -/
def sgOf (s : Str) : Sg := if s = "<" then .lt else if s = "<=" then .le else .eq
theorem rnum_neg {r : Rat} : r.num < 0 ↔ r < 0 := by
  have := Rat.num_nonneg (q := r)
  rw [← Int.not_le, this, Rat.not_le]
theorem rnum_pos {r : Rat} : 0 < r.num ↔ 0 < r := by
  have h1 := Rat.num_nonneg (q := r)
  have h2 := Rat.num_eq_zero (q := r)
  constructor
  · intro h
    have h3 : 0 ≤ r := h1.mp (by omega)
    have h4 : ¬ r = 0 := fun z => by have := h2.mpr z; omega
    grind
  · intro h
    have h3 : 0 ≤ r.num := h1.mpr (Rat.le_of_lt h)
    have h4 : ¬ r.num = 0 := fun z => by have := h2.mp z; grind
    omega
theorem fitB_G (s : Str) (r : Rat) : fitB s r.num = fitG (sgOf s) r := by
  have h1 : (r.num < 0) = (r < 0) := propext rnum_neg
  have h2 : (r.num = 0) = (r = 0) := propext Rat.num_eq_zero
  have h3 : (r.num ≤ 0) = (r ≤ 0) := by
    apply propext
    rw [← Int.not_lt, rnum_pos]
    exact Rat.not_lt
  unfold fitB sgOf
  split
  · simp [fitG, h1]
  · split
    · simp [fitG, h3]
    · simp [fitG, h2]
def dot (t : Rat) : List (List Int) → List Rat → Rat
  | p :: ps, x :: xs => evP p t * x + dot t ps xs
  | _, _ => 0
theorem rvL_dot (t : Rat) : ∀ (ps : List (List Int)) (xs : List Rat) (acc : Rat), rvL ps xs t acc = acc + dot t ps xs
  | [], xs, acc => by simp [rvL, dot, Rat.add_zero]
  | p :: ps, [], acc => by simp [rvL, dot, Rat.add_zero]
  | p :: ps, x :: xs, acc => by
    have h := rvL_dot t ps xs (acc + evP p t * x)
    have e : rvL (p :: ps) (x :: xs) t acc = rvL ps xs t (acc + evP p t * x) := by simp [rvL]
    rw [e, h, dot]; grind
theorem rv_dot (r : Row) (xs : List Rat) (t : Rat) : rv r xs t = evP r.q t + dot t r.ps xs := rvL_dot t _ _ _
theorem dot_snoc (t : Rat) (p : List Int) (x : Rat) : ∀ (ps : List (List Int)) (xs : List Rat), ps.length = xs.length → dot t (ps ++ [p]) (xs ++ [x]) = dot t ps xs + evP p t * x
  | [], [], _ => by simp [dot]; grind
  | [], _ :: _, h => by simp at h
  | _ :: _, [], h => by simp at h
  | q :: ps, y :: xs, h => by
    have ih := dot_snoc t p x ps xs (by simpa using h)
    simp only [List.cons_append, dot, ih]; grind
def withoutR (r : Row) (k : Nat) : Row := ⟨r.ps.take k ++ r.ps.drop (k + 1), r.q, r.s⟩
theorem rv_last {r : Row} {k : Nat} {xs : List Rat} {t x : Rat} (h : r.ps.length = k + 1) (hx : xs.length = k) : rv r (xs ++ [x]) t = evP (pk r k) t * x + rv (withoutR r k) xs t := by
  have e : r.ps = r.ps.take k ++ [pk r k] := by
    have : pk r k = r.ps[k] := by
      unfold pk
      rw [List.getD_eq_getElem?_getD, List.getElem?_eq_getElem (by omega)]; rfl
    rw [this, List.take_append_getElem (by omega), List.take_of_length_le (by omega)]
  have d : r.ps.drop (k + 1) = [] := List.drop_of_length_le (by omega)
  rw [rv_dot, rv_dot]
  unfold withoutR
  rw [d, List.append_nil]
  conv => lhs; rw [e]
  rw [dot_snoc _ _ _ _ _ (by simp; omega)]
  grind
def mixP (f g a b : List Int) : List Int := subP (mulP a f) (mulP b g)
theorem ev_scale (a : List Int) (c : Int) (x : Rat) : evP (scaleP a c) x = evP a x * (c : Rat) := by
  rw [evP_S _ x a.length (scale_len a c), evP_S a x a.length (Nat.le_refl _), show cf (scaleP a c) = fun k => c * cf a k from funext fun k => by rw [cf_scale]; exact Int.mul_comm _ _, evS_mul]
  grind
theorem ev_sub (a b : List Int) (x : Rat) : evP (subP a b) x = evP a x - evP b x := by
  unfold subP
  rw [evP_add, ev_scale]; grind
theorem ev_mix (f g a b : List Int) (t : Rat) : evP (mixP f g a b) t = evP a t * evP f t - evP b t * evP g t := by
  unfold mixP; rw [ev_sub, evP_mul, evP_mul]
theorem dot_mix (f g : List Int) (t : Rat) : ∀ (as bs : List (List Int)) (xs : List Rat), as.length = bs.length → dot t (List.zipWith (mixP f g) as bs) xs = dot t as xs * evP f t - dot t bs xs * evP g t
  | [], [], xs, _ => by simp [dot]; grind
  | [], _ :: _, _, h => by simp at h
  | _ :: _, [], _, h => by simp at h
  | a :: as, b :: bs, [], _ => by simp [dot]; grind
  | a :: as, b :: bs, x :: xs, h => by
    have ih := dot_mix f g t as bs xs (by simpa using h)
    simp only [List.zipWith_cons_cons, dot, ih, ev_mix]; grind
def mixedR (row : Row) (f : List Int) (other : Row) (g : List Int) (s : Str) : Row := ⟨List.zipWith (mixP f g) row.ps other.ps, mixP f g row.q other.q, s⟩
theorem mixed_without {row other : Row} {f g : List Int} {s : Str} {k : Nat} (h : row.ps.length = other.ps.length) : withoutR (mixedR row f other g s) k = mixedR (withoutR row k) f (withoutR other k) g s := by
  unfold withoutR mixedR
  simp only [List.take_zipWith, List.drop_zipWith]
  rw [List.zipWith_append (by simp; omega)]
theorem rv_mixed {row other : Row} {f g : List Int} {s : Str} {xs : List Rat} {t : Rat} (h : row.ps.length = other.ps.length) : rv (mixedR row f other g s) xs t = rv row xs t * evP f t - rv other xs t * evP g t := by
  rw [rv_dot, rv_dot, rv_dot]
  unfold mixedR
  simp only [ev_mix, dot_mix f g t _ _ _ h]
  grind
def contN (a : List Int) : Nat := a.foldl (fun g c => Nat.gcd g c.natAbs) 0
theorem cont_dvd : ∀ (a : List Int) (g : Nat), (a.foldl (fun g c => Nat.gcd g c.natAbs) g ∣ g) ∧ ∀ c ∈ a, ((a.foldl (fun g c => Nat.gcd g c.natAbs) g : Nat) : Int) ∣ c
  | [], g => ⟨Nat.dvd_refl _, by simp⟩
  | c :: a, g => by
    obtain ⟨h1, h2⟩ := cont_dvd a (Nat.gcd g c.natAbs)
    refine ⟨Nat.dvd_trans h1 (Nat.gcd_dvd_left _ _), fun d hd => ?_⟩
    rcases List.mem_cons.mp hd with rfl | hd
    · exact Int.ofNat_dvd_left.mpr (Nat.dvd_trans h1 (Nat.gcd_dvd_right _ _))
    · exact h2 d hd
theorem contN_dvd {a : List Int} {c : Int} (h : c ∈ a) : (contN a : Int) ∣ c := (cont_dvd a 0).2 c h
def contR (r : Row) : Nat := contN ((r.ps ++ [r.q]).map fun p => (contN p : Int))
def divP (c : Int) (p : List Int) : List Int := p.map fun x => x.fdiv c
def dividedR (r : Row) : Row := if contR r = 0 then r else ⟨r.ps.map (divP (contR r)), divP (contR r) r.q, r.s⟩
theorem ev_div {c : Int} (hc : c ≠ 0) (t : Rat) : ∀ {p : List Int}, (∀ x ∈ p, c ∣ x) → evP (divP c p) t = evP p t / (c : Rat)
  | [], _ => by simp [divP, evP]; grind
  | x :: p, h => by
    have ih := ev_div hc t (p := p) fun y hy => h y (by simp [hy])
    obtain ⟨y, rfl⟩ := h x (by simp)
    have e : (c * y).fdiv c = y := Int.mul_fdiv_cancel_left y hc
    have hr : (c : Rat) ≠ 0 := by exact_mod_cast hc
    show evP (divP c p) t * t + (((c * y).fdiv c : Int) : Rat) = (evP p t * t + ((c * y : Int) : Rat)) / (c : Rat)
    rw [e, ih, Rat.intCast_mul]; grind
theorem dot_div {c : Int} (hc : c ≠ 0) (t : Rat) : ∀ {ps : List (List Int)} {xs : List Rat}, (∀ p ∈ ps, ∀ x ∈ p, c ∣ x) → dot t (ps.map (divP c)) xs = dot t ps xs / (c : Rat)
  | [], xs, _ => by simp [dot]; grind
  | p :: ps, [], _ => by simp [dot]; grind
  | p :: ps, x :: xs, h => by
    have ih := dot_div hc t (ps := ps) (xs := xs) fun y hy => h y (by simp [hy])
    have e := ev_div hc t (p := p) fun y hy => h p (by simp) y hy
    simp only [List.map_cons, dot, ih, e]; grind
theorem rv_divided (r : Row) (xs : List Rat) (t : Rat) : ∃ c : Rat, 0 < c ∧ rv (dividedR r) xs t = rv r xs t / c := by
  by_cases h : contR r = 0
  · refine ⟨1, by decide, ?_⟩
    unfold dividedR; rw [if_pos h]; grind
  · have hc : (contR r : Int) ≠ 0 := by omega
    have hd : ∀ p ∈ r.ps ++ [r.q], ∀ x ∈ p, (contR r : Int) ∣ x := fun p hp x hx => by
      have h1 : (contR r : Int) ∣ (contN p : Int) := contN_dvd (List.mem_map.mpr ⟨p, hp, rfl⟩)
      exact Int.dvd_trans h1 (contN_dvd hx)
    refine ⟨((contR r : Int) : Rat), ?_, ?_⟩
    · have : (0 : Int) < (contR r : Int) := by omega
      exact_mod_cast this
    · unfold dividedR; rw [if_neg h, rv_dot, rv_dot]
      simp only
      rw [ev_div hc t fun x hx => hd _ (by simp) x hx, dot_div hc t fun p hp x hx => hd p (by simp [hp]) x hx]
      grind
def satR (r : Row) (xs : List Rat) (t : Rat) : Bool := fitG (sgOf r.s) (rv r xs t)
theorem ful_sat (rs : List Row) (xs : List Rat) (t : Rat) : fulB rs xs t = rs.all fun r => satR r xs t := by
  unfold fulB satR
  congr 1; funext r; exact fitB_G _ _
theorem sat_divided (r : Row) (xs : List Rat) (t : Rat) : satR (dividedR r) xs t = satR r xs t := by
  obtain ⟨c, hc, e⟩ := rv_divided r xs t
  unfold satR
  rw [e, fitG_pos' hc, show (dividedR r).s = r.s by unfold dividedR; split <;> rfl]
/-! ### a number taken out: what the program computes -/
def row0 : Row := ⟨[], [], "="⟩
def rowAt (rs : List Row) (i : Nat) : Row := rs.getD i row0
theorem rowAt_get {rs : List Row} {i : Nat} (h : i < rs.length) : rs[i]? = some (rowAt rs i) := by
  unfold rowAt
  rw [List.getD_eq_getElem?_getD, List.getElem?_eq_getElem h]; rfl
theorem rowAt_mem {rs : List Row} {i : Nat} (h : i < rs.length) : rowAt rs i ∈ rs := List.mem_of_getElem? (rowAt_get h)
def sgR (k : Nat) (t : Rat) (r : Row) : Int := sgI (evP (pk r k) t).num
def sclP (a : List Int) (c : Int) : List Int := a.map (· * c)
def usedUpd (rs : List Row) (k : Nat) (t : Rat) (at_ i : Nat) : List Row :=
  if sgR k t (rowAt rs i) = 0 then [withoutR (rowAt rs i) k]
  else if i = at_ then [] else
    [dividedR (withoutR (mixedR (rowAt rs i) (sclP (pk (rowAt rs at_) k) (sgR k t (rowAt rs at_))) (rowAt rs at_) (sclP (pk (rowAt rs i) k) (sgR k t (rowAt rs at_))) (rowAt rs i).s) k)]
def usedUpR (rs : List Row) (k : Nat) (t : Rat) (at_ : Nat) : List Row := (List.range rs.length).flatMap (usedUpd rs k t at_)
def joinS (a b : Str) : Str := if a = "<" ∨ b = "<" then "<" else "<="
def pairUpd (rs : List Row) (k : Nat) (t : Rat) (i j : Nat) : List Row :=
  if sgR k t (rowAt rs i) = 1 ∧ sgR k t (rowAt rs j) = -1 then
    [dividedR (withoutR (mixedR (rowAt rs j) (pk (rowAt rs i) k) (rowAt rs i) (pk (rowAt rs j) k) (joinS (rowAt rs i).s (rowAt rs j).s)) k)] else []
def zeroUpd (rs : List Row) (k : Nat) (t : Rat) (i : Nat) : List Row := if sgR k t (rowAt rs i) = 0 then [withoutR (rowAt rs i) k] else []
def pairedR (rs : List Row) (k : Nat) (t : Rat) : List Row := (List.range rs.length).flatMap (zeroUpd rs k t) ++ (List.range rs.length).flatMap fun i => (List.range rs.length).flatMap fun j => pairUpd rs k t i j
def isEqAt (k : Nat) (t : Rat) (r : Row) : Bool := decide (r.s = "=") && decide (sgR k t r ≠ 0)
def takenR (rs : List Row) (k : Nat) (t : Rat) : List Row := match rs.findIdx? (isEqAt k t) with
  | some i => usedUpR rs k t i
  | none => pairedR rs k t
def toR1 (k : Nat) (xs : List Rat) (t : Rat) (r : Row) : R1 := ⟨evP (pk r k) t, rv (withoutR r k) xs t, sgOf r.s⟩
theorem sgI_iff (r : Rat) : (sgI r.num = 0 ↔ r = 0) ∧ (sgI r.num = 1 ↔ 0 < r) ∧ (sgI r.num = -1 ↔ r < 0) := by
  have h1 : (r.num < 0) = (r < 0) := propext rnum_neg
  have h2 : (0 < r.num) = (0 < r) := propext rnum_pos
  have h3 : (r.num = 0) = (r = 0) := propext Rat.num_eq_zero
  rw [← h1, ← h2, ← h3]
  unfold sgI
  split <;> split <;> omega
theorem sgI_mul (r : Rat) (h : r ≠ 0) : 0 < r * ((sgI r.num : Int) : Rat) ∧ (((sgI r.num : Int) : Rat) * ((sgI r.num : Int) : Rat) = 1) := by
  obtain ⟨h0, h1, h2⟩ := sgI_iff r
  by_cases hp : 0 < r
  · rw [h1.mpr hp]; constructor <;> grind
  · have hn : r < 0 := by grind
    rw [h2.mpr hn]
    have : ((-1 : Int) : Rat) = -1 := rfl
    rw [this]
    constructor <;> grind
theorem ev_scl (a : List Int) (c : Int) (x : Rat) : evP (sclP a c) x = evP a x * (c : Rat) := by
  induction a with
  | nil => simp [sclP, evP]
  | cons y a ih =>
    show evP (sclP a c) x * x + ((y * c : Int) : Rat) = (evP a x * x + (y : Rat)) * (c : Rat)
    rw [ih, Rat.intCast_mul]; grind
theorem all_flat {α β : Type} (n : Nat) (f : Nat → List β) (p : β → Bool) : ((List.range n).flatMap f).all p = true ↔ ∀ i, i < n → ∀ b ∈ f i, p b = true := by
  rw [List.all_eq_true]
  constructor
  · intro h i hi b hb
    exact h b (List.mem_flatMap.mpr ⟨i, List.mem_range.mpr hi, hb⟩)
  · intro h b hb
    obtain ⟨i, hi, hb⟩ := List.mem_flatMap.mp hb
    exact h i (List.mem_range.mp hi) b hb
def Len3 (m : Nat) (r : Row) : Prop := r.ps.length = m ∧ (r.s = "<=" ∨ r.s = "<" ∨ r.s = "=")
theorem sgOf_eq {s : Str} (h : s = "<=" ∨ s = "<" ∨ s = "=") : (sgOf s = .eq ↔ s = "=") ∧ (sgOf s = .lt ↔ s = "<") := by
  have n1 : ((Str.ofString "<=") = Str.ofString "<") = False := by decide +kernel
  have n2 : ((Str.ofString "=") = Str.ofString "<") = False := by decide +kernel
  have n3 : ((Str.ofString "=") = Str.ofString "<=") = False := by decide +kernel
  have n4 : ((Str.ofString "<=") = Str.ofString "=") = False := by decide +kernel
  have n5 : ((Str.ofString "<") = Str.ofString "=") = False := by decide +kernel
  rcases h with rfl | rfl | rfl <;> simp [sgOf, n1, n2, n3, n4, n5]
theorem sgOf_join {a b : Str} (ha : a = "<=" ∨ a = "<" ∨ a = "=") (hb : b = "<=" ∨ b = "<" ∨ b = "=") : sgOf (joinS a b) = SgJ (sgOf a) (sgOf b) := by
  unfold SgJ joinS
  simp only [(sgOf_eq ha).2, (sgOf_eq hb).2]
  split
  · exact (sgOf_eq (.inr (.inl rfl))).2.mpr rfl
  · have n1 : ((Str.ofString "<=") = Str.ofString "<") = False := by decide +kernel
    simp [sgOf, n1]
theorem s1_ful {rs : List Row} {k : Nat} {xs : List Rat} {t x : Rat} (h : ∀ r ∈ rs, Len3 (k + 1) r) (hx : xs.length = k) : S1 (rs.map (toR1 k xs t)) x ↔ fulB rs (xs ++ [x]) t = true := by
  rw [ful_sat, List.all_eq_true]
  unfold S1
  constructor
  · intro g r hr
    have := g _ (List.mem_map.mpr ⟨r, hr, rfl⟩)
    unfold satR
    rw [rv_last (h r hr).1 hx]; exact this
  · intro g q hq
    obtain ⟨r, hr, rfl⟩ := List.mem_map.mp hq
    have := g r hr
    unfold satR at this
    rw [rv_last (h r hr).1 hx] at this; exact this
theorem taken_sem {rs : List Row} {k : Nat} {xs : List Rat} {t : Rat} (h : ∀ r ∈ rs, Len3 (k + 1) r) (hx : xs.length = k) : (∃ x, fulB rs (xs ++ [x]) t = true) ↔ fulB (takenR rs k t) xs t = true := by
  have e1 : (∃ x, fulB rs (xs ++ [x]) t = true) ↔ ∃ x, S1 (rs.map (toR1 k xs t)) x := exists_congr fun x => (s1_ful h hx).symm
  rw [e1]
  unfold takenR
  rcases hf : rs.findIdx? (isEqAt k t) with _ | a
  · have hn : ∀ r ∈ rs, isEqAt k t r = false := by simpa using List.findIdx?_eq_none_iff.mp hf
    have hs : ∀ r ∈ rs.map (toR1 k xs t), r.a ≠ 0 → r.s ≠ .eq := fun q hq ha hs => by
      obtain ⟨r, hr, rfl⟩ := List.mem_map.mp hq
      have z := hn r hr
      have e := (sgOf_eq (h r hr).2).1.mp hs
      have g : sgR k t r ≠ 0 := fun w => ha ((sgI_iff _).1.mp w)
      simp [isEqAt, e, g] at z
    rw [fm_pair hs]
    simp only
    unfold pairedR
    rw [ful_sat, List.all_append, Bool.and_eq_true, all_flat (α := Unit), all_flat (α := Unit)]
    unfold Pairs
    refine and_congr ?_ ?_
    · constructor
      · intro g i hi b hb
        unfold zeroUpd at hb
        split at hb
        · rename_i z
          simp at hb; subst hb
          exact g _ (List.mem_map.mpr ⟨_, rowAt_mem hi, rfl⟩) ((sgI_iff _).1.mp z)
        · simp at hb
      · intro g q hq ha
        obtain ⟨r, hr, rfl⟩ := List.mem_map.mp hq
        obtain ⟨i, hi, er⟩ := List.mem_iff_getElem.mp hr
        have er' : rowAt rs i = r := by
          have := rowAt_get hi
          rw [List.getElem?_eq_getElem hi, er] at this
          exact (Option.some.inj this).symm
        have z : sgR k t (rowAt rs i) = 0 := by rw [er']; exact (sgI_iff _).1.mpr ha
        have := g i hi (withoutR (rowAt rs i) k) (by unfold zeroUpd; rw [if_pos z]; simp)
        rw [er'] at this
        exact this
    · have one : ∀ {hi lo : Row}, hi ∈ rs → lo ∈ rs → satR (dividedR (withoutR (mixedR lo (pk hi k) hi (pk lo k) (joinS hi.s lo.s)) k)) xs t = fitG (SgJ (sgOf hi.s) (sgOf lo.s)) (rv (withoutR lo k) xs t * evP (pk hi k) t - rv (withoutR hi k) xs t * evP (pk lo k) t) := by
        intro hi lo m1 m2
        have l1 := (h hi m1).1
        have l2 := (h lo m2).1
        rw [sat_divided, mixed_without (by omega)]
        unfold satR
        rw [rv_mixed (by unfold withoutR; simp; omega)]
        show fitG (sgOf (joinS hi.s lo.s)) _ = _
        rw [sgOf_join (h hi m1).2 (h lo m2).2]
      constructor
      · intro g i hi b hb
        rw [List.mem_flatMap] at hb
        obtain ⟨j, hj, hb⟩ := hb
        have hj := List.mem_range.mp hj
        unfold pairUpd at hb
        split at hb
        · rename_i z
          simp at hb; subst hb
          rw [one (rowAt_mem hi) (rowAt_mem hj)]
          exact g _ (List.mem_map.mpr ⟨_, rowAt_mem hi, rfl⟩) _ (List.mem_map.mpr ⟨_, rowAt_mem hj, rfl⟩) ((sgI_iff _).2.1.mp z.1) ((sgI_iff _).2.2.mp z.2)
        · simp at hb
      · intro g q hq w hw ha hb
        obtain ⟨r, hr, rfl⟩ := List.mem_map.mp hq
        obtain ⟨s, hs', rfl⟩ := List.mem_map.mp hw
        obtain ⟨i, hi, er⟩ := List.mem_iff_getElem.mp hr
        obtain ⟨j, hj, es⟩ := List.mem_iff_getElem.mp hs'
        have er' : rowAt rs i = r := by
          have := rowAt_get hi
          rw [List.getElem?_eq_getElem hi, er] at this
          exact (Option.some.inj this).symm
        have es' : rowAt rs j = s := by
          have := rowAt_get hj
          rw [List.getElem?_eq_getElem hj, es] at this
          exact (Option.some.inj this).symm
        have z1 : sgR k t (rowAt rs i) = 1 := by rw [er']; exact (sgI_iff _).2.1.mpr ha
        have z2 : sgR k t (rowAt rs j) = -1 := by rw [es']; exact (sgI_iff _).2.2.mpr hb
        have := g i hi _ (List.mem_flatMap.mpr ⟨j, List.mem_range.mpr hj, by unfold pairUpd; rw [if_pos ⟨z1, z2⟩]; exact List.mem_singleton.mpr rfl⟩)
        rw [er', es', one hr hs'] at this
        exact this
  · obtain ⟨ha, hp, -⟩ := List.findIdx?_eq_some_iff_getElem.mp hf
    have er : rowAt rs a = rs[a] := by
      have := rowAt_get ha
      rw [List.getElem?_eq_getElem ha] at this
      exact (Option.some.inj this).symm
    rw [← er] at hp
    have hp2 : (rowAt rs a).s = "=" ∧ sgR k t (rowAt rs a) ≠ 0 := by simpa [isEqAt] using hp
    have ma := rowAt_mem ha
    have a0 : evP (pk (rowAt rs a) k) t ≠ 0 := fun w => hp2.2 ((sgI_iff _).1.mpr w)
    have se : sgOf (rowAt rs a).s = .eq := (sgOf_eq (h _ ma).2).1.mpr hp2.1
    rw [fm_eq (r0 := toR1 k xs t (rowAt rs a)) (List.mem_map.mpr ⟨_, ma, rfl⟩) se a0]
    simp only
    unfold usedUpR
    rw [ful_sat, all_flat (α := Unit)]
    have one : ∀ {row : Row}, row ∈ rs → satR (dividedR (withoutR (mixedR row (sclP (pk (rowAt rs a) k) (sgR k t (rowAt rs a))) (rowAt rs a) (sclP (pk row k) (sgR k t (rowAt rs a))) row.s) k)) xs t
        = fitG (sgOf row.s) (rv (withoutR row k) xs t - evP (pk row k) t * (rv (withoutR (rowAt rs a) k) xs t / evP (pk (rowAt rs a) k) t)) := by
      intro row hr
      have l1 := (h row hr).1
      have l2 := (h _ ma).1
      rw [sat_divided, mixed_without (by omega)]
      unfold satR
      rw [rv_mixed (by unfold withoutR; simp; omega), ev_scl, ev_scl]
      obtain ⟨p1, p2⟩ := sgI_mul _ a0
      show fitG (sgOf row.s) _ = _
      rw [← fitG_pos (v := rv (withoutR row k) xs t - evP (pk row k) t * (rv (withoutR (rowAt rs a) k) xs t / evP (pk (rowAt rs a) k) t)) p1 (sgOf row.s)]
      congr 1
      unfold sgR
      grind
    constructor
    · intro g i hi b hb
      unfold usedUpd at hb
      have gi := g _ (List.mem_map.mpr ⟨_, rowAt_mem hi, rfl⟩)
      simp only [toR1] at gi
      split at hb
      · rename_i z
        simp at hb; subst hb
        have z' := (sgI_iff _).1.mp z
        rw [z', show (0 : Rat) * (rv (withoutR (rowAt rs a) k) xs t / evP (pk (rowAt rs a) k) t) = 0 by grind, show ∀ v : Rat, v - 0 = v from fun v => by grind] at gi
        exact gi
      · split at hb
        · simp at hb
        · simp at hb; subst hb
          rw [one (rowAt_mem hi)]
          exact gi
    · intro g q hq
      obtain ⟨r, hr, rfl⟩ := List.mem_map.mp hq
      obtain ⟨i, hi, er⟩ := List.mem_iff_getElem.mp hr
      have er' : rowAt rs i = r := by
        have := rowAt_get hi
        rw [List.getElem?_eq_getElem hi, er] at this
        exact (Option.some.inj this).symm
      simp only [toR1]
      by_cases z : sgR k t (rowAt rs i) = 0
      · have := g i hi (withoutR (rowAt rs i) k) (by unfold usedUpd; rw [if_pos z]; simp)
        rw [er'] at this z
        have z' := (sgI_iff _).1.mp z
        rw [z', show (0 : Rat) * (rv (withoutR (rowAt rs a) k) xs t / evP (pk (rowAt rs a) k) t) = 0 by grind, show ∀ v : Rat, v - 0 = v from fun v => by grind]
        exact this
      · by_cases ei : i = a
        · subst ei
          rw [← er', se]
          have : rv (withoutR (rowAt rs i) k) xs t - evP (pk (rowAt rs i) k) t * (rv (withoutR (rowAt rs i) k) xs t / evP (pk (rowAt rs i) k) t) = 0 := by grind
          rw [this]; rfl
        · have := g i hi _ (by unfold usedUpd; rw [if_neg z, if_neg ei]; exact List.mem_singleton.mpr rfl)
          rw [one (rowAt_mem hi), er'] at this
          exact this
end W

set_option Elab.async false
set_option linter.all false
set_option maxRecDepth 100000
set_option autoImplicit false
namespace W
open PySem PySem.Spec PyProof.Rows L2 VL
noncomputable def c_without : Ev → Out := sSeq (sAsg (eVar 0) (gTupD 3 (gsCons (gSet 2) (gsCons (gSet 3) (gsCons (gSet 4) (gsNil)))))) (sSeq (sSetO 5 (eComp [6] (e1 seqD (e2 addD (e3 sliceD (eOwn 2) (pNo) (e1 intOf (eVar 1))) (e3 sliceD (eOwn 2) (e1 intOf (e2 addD (eOwn 1) (cst (.int 1)))) (pNo)))) (gSet 6) (cst true) (eLst (e1 listO (eCons (eOwn 6) (cst [])))))) (sFz 5 (sRet (e1 tupD (eCons (eVar 5) (eCons (eLst (e1 listO (eCons (eOwn 3) (cst [])))) (eCons (eVar 4) (cst []))))))))
noncomputable def m_without : List D → R SD := runD 2 7 c_without
noncomputable def b_content_1 : Ev → Out := sSet 1 (e1 gcdD (eCons (eOwn 1) (eCons (eOwn 2) (cst []))))
noncomputable def c_content : Ev → Out := sSeq (sSet 1 (cst (.int 0))) (sSeq (sFor (e1 seqD (eVar 0)) (gSet 2) b_content_1) (sRet (eVar 1)))
noncomputable def m_content : List D → R SD := runD 1 3 c_content
noncomputable def c_divided_row : Ev → Out := sSeq (sAsg (eVar 0) (gTupD 3 (gsCons (gSet 1) (gsCons (gSet 2) (gsCons (gSet 3) (gsNil)))))) (sSeq (sSet 4 (eCall m_content (eCons (eLst (eComp [5] (e1 seqD (e2 addD (eOwn 1) (eLst (e1 lim (eCons (eVar 2) (cst [])))))) (gSet 5) (cst true) (eCall m_content (eCons (eVar 5) (cst []))))) (cst [])))) (sSeq (sIf (e1 bOf (e2 eqD (eOwn 4) (cst (.int 0)))) (sRet (eVar 0)) (sNil)) (sSeq (sSetO 6 (eComp [5] (e1 seqD (e2 addD (eOwn 1) (eLst (e1 lim (eCons (eVar 2) (cst [])))))) (gSet 5) (cst true) (eLst (eComp [7] (e1 seqD (eVar 5)) (gSet 7) (cst true) (e2 fdivD (eOwn 7) (eOwn 4)))))) (sFz 6 (sRet (e1 tupD (eCons (e3 sliceD (eOwn 6) (pNo) (e1 intOf (e1 negD (cst (.int 1))))) (eCons (e2 ixD (eOwn 6) (e1 negD (cst (.int 1)))) (eCons (eVar 3) (cst []))))))))))
noncomputable def m_divided_row : List D → R SD := runD 1 8 c_divided_row
noncomputable def b_mixed_1 : Ev → Out := sApp 5 (eCall m_subtract (eCons (eCall m_multiply (eCons (eVar 6) (eCons (eVar 1) (cst [])))) (eCons (eCall m_multiply (eCons (eVar 7) (eCons (eVar 3) (cst [])))) (cst []))))
noncomputable def c_mixed : Ev → Out := sSeq (sSetO 5 (e1 lim (cst []))) (sSeq (sFor (e1 zipD (eCons (e2 addD (e2 ixD (eOwn 0) (cst (.int 0))) (eLst (e1 lim (eCons (e2 ixD (eOwn 0) (cst (.int 1))) (cst []))))) (eCons (e2 addD (e2 ixD (eOwn 2) (cst (.int 0))) (eLst (e1 lim (eCons (e2 ixD (eOwn 2) (cst (.int 1))) (cst []))))) (cst [])))) (gTupD 2 (gsCons (gSet 6) (gsCons (gSet 7) (gsNil)))) b_mixed_1) (sRet (e1 tupD (eCons (e3 sliceD (eOwn 5) (pNo) (e1 intOf (e1 negD (cst (.int 1))))) (eCons (e2 ixD (eOwn 5) (e1 negD (cst (.int 1)))) (eCons (eVar 4) (cst [])))))))
noncomputable def m_mixed : List D → R SD := runD 5 8 c_mixed
noncomputable def b_paired_1 : Ev → Out := sIf (eAnd (e1 bOf (e2 eqD (e2 ixD (eOwn 2) (eOwn 6)) (cst (.int 1)))) (e1 bOf (e2 eqD (e2 ixD (eOwn 2) (eOwn 8)) (e1 negD (cst (.int 1)))))) (sSeq (sSet 10 (eIf (e1 bOf (e2 memD (cst (.str "<")) (e1 tupD (eCons (e2 ixD (eOwn 7) (cst (.int 2))) (eCons (e2 ixD (eOwn 9) (cst (.int 2))) (cst [])))))) (cst (.str "<")) (cst (.str "<=")))) (sApp 3 (eCall m_divided_row (eCons (eCall m_without (eCons (eCall m_mixed (eCons (eVar 9) (eCons (e2 ixD (e2 ixD (eOwn 7) (cst (.int 0))) (eOwn 1)) (eCons (eVar 7) (eCons (e2 ixD (e2 ixD (eOwn 9) (cst (.int 0))) (eOwn 1)) (eCons (eVar 10) (cst []))))))) (eCons (eVar 1) (cst [])))) (cst []))))) (sNil)
noncomputable def b_paired_2 : Ev → Out := sFor (e1 enuD (eCons (eVar 0) (cst []))) (gTupD 2 (gsCons (gSet 8) (gsCons (gSet 9) (gsNil)))) b_paired_1
noncomputable def c_paired : Ev → Out := sSeq (sSetO 3 (eComp [4, 5] (e1 enuD (eCons (eVar 0) (cst []))) (gTupD 2 (gsCons (gSet 4) (gsCons (gSet 5) (gsNil)))) (e1 bOf (e2 eqD (e2 ixD (eOwn 2) (eOwn 4)) (cst (.int 0)))) (eCall m_without (eCons (eVar 5) (eCons (eVar 1) (cst [])))))) (sSeq (sFor (e1 enuD (eCons (eVar 0) (cst []))) (gTupD 2 (gsCons (gSet 6) (gsCons (gSet 7) (gsNil)))) b_paired_2) (sRetV 3))
noncomputable def m_paired : List D → R SD := runD 3 11 c_paired
noncomputable def b_used_up_1 : Ev → Out := sIf (e1 bOf (e2 eqD (e2 ixD (eOwn 2) (eOwn 8)) (cst (.int 0)))) (sApp 7 (eCall m_without (eCons (eVar 9) (eCons (eVar 1) (cst []))))) (sIf (e1 bOf (e2 neD (eOwn 8) (eOwn 3))) (sSeq (sSetO 10 (eComp [6] (e1 seqD (e2 ixD (e2 ixD (eOwn 9) (cst (.int 0))) (eOwn 1))) (gSet 6) (cst true) (e2 mulD (eOwn 6) (e2 ixD (eOwn 2) (eOwn 3))))) (sFz 10 (sApp 7 (eCall m_divided_row (eCons (eCall m_without (eCons (eCall m_mixed (eCons (eVar 9) (eCons (eVar 5) (eCons (eVar 4) (eCons (eVar 10) (eCons (e2 ixD (eOwn 9) (cst (.int 2))) (cst []))))))) (eCons (eVar 1) (cst [])))) (cst [])))))) (sNil))
noncomputable def c_used_up : Ev → Out := sSeq (sSet 4 (e2 ixD (eOwn 0) (eOwn 3))) (sSeq (sSetO 5 (eComp [6] (e1 seqD (e2 ixD (e2 ixD (eOwn 4) (cst (.int 0))) (eOwn 1))) (gSet 6) (cst true) (e2 mulD (eOwn 6) (e2 ixD (eOwn 2) (eOwn 3))))) (sFz 5 (sSeq (sSetO 7 (e1 lim (cst []))) (sSeq (sFor (e1 enuD (eCons (eVar 0) (cst []))) (gTupD 2 (gsCons (gSet 8) (gsCons (gSet 9) (gsNil)))) b_used_up_1) (sRetV 7)))))
noncomputable def m_used_up : List D → R SD := runD 4 11 c_used_up
noncomputable def b_taken_out_1 : Ev → Out := sIf (eAnd (e1 bOf (e2 eqD (e2 ixD (eOwn 4) (cst (.int 2))) (cst (.str "=")))) (e1 bOf (e2 neD (e2 ixD (eOwn 2) (eOwn 3)) (cst (.int 0))))) (sRetO (eCallO m_used_up (eCons (eVar 0) (eCons (eVar 1) (eCons (eVar 2) (eCons (eVar 3) (cst []))))))) (sNil)
noncomputable def c_taken_out : Ev → Out := sSeq (sFor (e1 enuD (eCons (eVar 0) (cst []))) (gTupD 2 (gsCons (gSet 3) (gsCons (gSet 4) (gsNil)))) b_taken_out_1) (sRetO (eCallO m_paired (eCons (eVar 0) (eCons (eVar 1) (eCons (eVar 2) (cst []))))))
noncomputable def m_taken_out : List D → R SD := runD 3 5 c_taken_out
noncomputable def b_stages_at_1 : Ev → Out := sSeq (sSet 1 (eCall m_taken_out (eApp 2 1 (eCons (eVar 1) (eCons (eVar 4) (cst []))) (eCons (eCall m_signs_at (eCons (eVar 1) (eCons (eVar 4) (eCons (eVar 2) (cst []))))) (cst []))))) (sApp 3 (eVar 1))
noncomputable def c_stages_at : Ev → Out := sSeq (sSetO 3 (e1 lim (eCons (eVar 1) (cst [])))) (sSeq (sFor (e1 range3D (eCons (e2 subD (eOwn 0) (cst (.int 1))) (eCons (e1 negD (cst (.int 1))) (eCons (e1 negD (cst (.int 1))) (cst []))))) (gSet 4) b_stages_at_1) (sRetV 3))
noncomputable def m_stages_at : List D → R SD := runD 3 5 c_stages_at
noncomputable def c_block_at : Ev → Out := sRet (e1 allD (eCons (eLst (eComp [3, 4, 5] (e1 seqD (e2 ixD (eCall m_stages_at (eCons (eVar 0) (eCons (eVar 1) (eCons (eVar 2) (cst []))))) (e1 negD (cst (.int 1))))) (gTupD 3 (gsCons (gSet 3) (gsCons (gSet 4) (gsCons (gSet 5) (gsNil))))) (cst true) (eCall m_fits (eCons (eVar 5) (eCons (eCall m_sign_at (eCons (eVar 4) (eCons (eVar 2) (cst [])))) (cst [])))))) (cst [])))
noncomputable def m_block_at : List D → R SD := runD 3 6 c_block_at
@[simp] theorem r_run5 (n : Nat) (F : Ev → Out) (a b c d e : D) : runD 5 n F [a, b, c, d, e] = fin (F (.sh a :: .sh b :: .sh c :: .sh d :: .sh e :: List.replicate (n - 5) .no)) := id rfl
@[simp] theorem r_run6 (n : Nat) (F : Ev → Out) (a b c d e f : D) : runD 6 n F [a, b, c, d, e, f] = fin (F (.sh a :: .sh b :: .sh c :: .sh d :: .sh e :: .sh f :: List.replicate (n - 6) .no)) := id rfl
/-! ### a number taken out: the program's functions -/
theorem cut_to (l : List D) (k : Nat) (h : k ≤ l.length) : cutL l none (some (k : Int)) = l.take k := by
  unfold cutL; rw [HT.sIx_none, sIx_in (by omega) (by omega)]; simp
theorem cut_from (l : List D) (k : Int) (j : Nat) (hj : k = j) (h : j ≤ l.length) : cutL l (some k) none = l.drop j := by
  subst hj
  unfold cutL; rw [HT.sIx_none, sIx_in (by omega) (by omega)]; simp
  rw [List.take_of_length_le (by simp)]
theorem cut_init {α : Type} (F : α → D) (l : List α) (a : α) : cutL ((l ++ [a]).map F) none (some (-1)) = l.map F := by
  rw [cut_map, HT.sIx_none]
  have : HT.sIx (l ++ [a]).length (l ++ [a]).length (some (-1)) = l.length := by
    show (if (-1 : Int) < 0 then (-1 + ((l ++ [a]).length : Int)).toNat else min (-1 : Int).toNat (l ++ [a]).length) = _
    rw [if_pos (by decide)]; simp; omega
  rw [this, List.drop_zero, Nat.sub_zero, List.take_left]
theorem at_last {α : Type} (F : α → D) (l : List α) (a : α) : atI ((l ++ [a]).map F) (-1 : Int) = some (F a) := by rw [List.map_append]; exact r_at_last
theorem withoutR_len {r : Row} {k : Nat} (hk : k < r.ps.length) : ((withoutR r k).ps.length : Nat) = r.ps.length - 1 := by unfold withoutR; simp; omega
theorem without_ok {r : Row} {k : Nat} (hk : k < r.ps.length) (hl : r.ps.length ≤ 1000) : m_without [rowD r, .int (k : Int)] = .ok (.sh (rowD (withoutR r k))) := by
  have c1 := cut_to (r.ps.map pD) k (by simp; omega)
  have c2 := cut_from (r.ps.map pD) ((k : Int) + 1) (k + 1) (by omega) (by simp; omega)
  have ca : catD ((r.ps.map pD).take k) ((r.ps.map pD).drop (k + 1)) = some ((withoutR r k).ps.map pD) := by
    rw [r_cat (by simp; exact slB (by omega))]; unfold withoutR; rw [List.map_append, List.map_take, List.map_drop]
  have hw : (withoutR r k).ps.length ≤ sizeLine := slB (by rw [withoutR_len hk]; omega)
  have hc : ∀ ρ : Ev, ρ.length = 7 → compR (compS [6] (gSet 6) (cst true) (eLst (e1 listO (eCons (eOwn 6) (cst [])))) ρ) ((withoutR r k).ps.map pD) = .ok ((withoutR r k).ps.map pD) := fun ρ hρ => by
    match ρ, hρ with
    | [a0, a1, a2, a3, a4, a5, a6], _ => exact compR_map' fun p hp => by simp [compS]
  simp [m_without, c_without, rowD, c1, c2, ca, hw, hc, -r_cat]
  unfold withoutR; simp
/-! contents -/
theorem content_loop (w0 : SD) : ∀ (a : List Int) (g : Nat) (j : SD), ∃ j', forO (gTo (gSet 2) b_content_1) (a.map .int) [w0, .sh (.int (g : Int)), j] = .nx [w0, .sh (.int ((a.foldl (fun g c => Nat.gcd g c.natAbs) g : Nat) : Int)), j']
  | [], g, j => ⟨j, rfl⟩
  | c :: a, g, j => by
    obtain ⟨j', e⟩ := content_loop w0 a (Nat.gcd g c.natAbs) (.sh (.int c))
    refine ⟨j', ?_⟩
    have st : gTo (gSet 2) b_content_1 (.int c) [w0, .sh (.int (g : Int)), j] = .nx [w0, .sh (.int ((Nat.gcd g c.natAbs : Nat) : Int)), .sh (.int c)] := by simp [b_content_1]
    rw [List.map_cons, forO, st]
    exact e
theorem content_ok (a : List Int) : m_content [pD a] = .ok (.sh (.int (contN a : Int))) := by
  obtain ⟨j, e⟩ := content_loop (.sh (pD a)) a 0 .no
  have e' : forO (gTo (gSet 2) b_content_1) (a.map .int) [.sh (pD a), .sh (.int 0), .no] = .nx [.sh (pD a), .sh (.int (contN a : Int)), j] := e
  simp [m_content, c_content, e']
theorem contN_zero : ∀ {a : List Int}, (∀ c ∈ a, c = 0) → contN a = 0 := fun {a} h => by
  unfold contN
  induction a with
  | nil => rfl
  | cons c a ih =>
    rw [List.foldl_cons, h c (by simp)]
    exact ih fun d hd => h d (by simp [hd])
theorem contN_sz {a : List Int} {s : Nat} (h : SzP s a) : Sz s (contN a : Int) := by
  by_cases z : ∀ c ∈ a, c = 0
  · rw [contN_zero z]; exact sz0 _
  · obtain ⟨c, hc, c0⟩ : ∃ c, c ∈ a ∧ c ≠ 0 := by
      apply Classical.byContradiction
      intro g
      exact z fun c hc => Classical.byContradiction fun w => g ⟨c, hc, w⟩
    refine (h c hc).of_le ?_
    have := Int.natAbs_dvd_natAbs.mpr (contN_dvd hc)
    exact Nat.le_of_dvd (by omega) this
structure RowZ (m n c : Nat) (r : Row) : Prop where
  len : r.ps.length = m
  ps : ∀ p ∈ r.ps, SzP c p ∧ p.length ≤ n
  q : SzP c r.q
  ql : r.q.length ≤ n
  s : r.s = "<=" ∨ r.s = "<" ∨ r.s = "="
theorem RowZ.mono {m n c n' c' : Nat} {r : Row} (h : RowZ m n c r) (e : n ≤ n') (e' : c ≤ c') : RowZ m n' c' r := ⟨h.len, fun p hp => ⟨(h.ps p hp).1.mono e', Nat.le_trans (h.ps p hp).2 e⟩, h.q.mono e', Nat.le_trans h.ql e, h.s⟩
theorem RowZ.all {m n c : Nat} {r : Row} (h : RowZ m n c r) : ∀ p ∈ r.ps ++ [r.q], SzP c p ∧ p.length ≤ n := fun p hp => by
  rcases List.mem_append.mp hp with g | g
  · exact h.ps p g
  · simp at g; subst g; exact ⟨h.q, h.ql⟩
theorem RowZ.l3 {m n c : Nat} {r : Row} (h : RowZ m n c r) : Len3 m r := ⟨h.len, h.s⟩
theorem RowZ.cont {m n c : Nat} {r : Row} (h : RowZ m n c r) : Sz c (contR r : Int) := contN_sz fun x hx => by
  obtain ⟨p, hp, rfl⟩ := List.mem_map.mp hx
  exact contN_sz (h.all p hp).1
theorem RowZ.divided {m n c : Nat} {r : Row} (h : RowZ m n c r) : RowZ m n c (dividedR r) := by
  unfold dividedR
  split
  · exact h
  · have : ∀ {p : List Int}, SzP c p → SzP c (divP (contR r) p) := fun {p} hp x hx => by
      obtain ⟨y, hy, rfl⟩ := List.mem_map.mp hx
      exact (hp y hy).fdiv
    exact ⟨by simpa using h.len, fun p hp => by
      obtain ⟨q, hq, rfl⟩ := List.mem_map.mp hp
      exact ⟨this (h.ps q hq).1, by simpa [divP] using (h.ps q hq).2⟩, this h.q, by simpa [divP] using h.ql, h.s⟩
theorem RowZ.without {m n c k : Nat} {r : Row} (h : RowZ (m + 1) n c r) (hk : k < m + 1) : RowZ m n c (withoutR r k) :=
  ⟨by rw [withoutR_len (by rw [h.len]; exact hk), h.len]; rfl, fun p hp => by
    unfold withoutR at hp
    rcases List.mem_append.mp hp with g | g
    · exact h.ps p (List.mem_of_mem_take g)
    · exact h.ps p (List.mem_of_mem_drop g), h.q, h.ql, h.s⟩
theorem SzP.mix {c d n : Nat} {f g a b : List Int} (ha : SzP c a) (hb : SzP c b) (hf : SzP d f) (hg : SzP d g) (la : a.length ≤ n) (lb : b.length ≤ n) : SzP (c + d + n + 2) (mixP f g a b) := by
  have h1 := (ha.mul hf).mono (show _ ≤ c + d + n by omega)
  have h2 := (hb.mul hg).mono (show _ ≤ c + d + n by omega)
  unfold mixP subP
  exact (h1.mono (show _ ≤ c + d + n + 1 by omega)).add (h2.scale (Sz.lit (i := -1) (a := 1) (by decide)))
theorem mix_len {f g a b : List Int} {n l : Nat} (la : a.length ≤ n) (lb : b.length ≤ n) (lf : f.length ≤ l) (lg : g.length ≤ l) : (mixP f g a b).length ≤ n + l := by
  unfold mixP subP
  have h1 := mul_len a f
  have h2 := mul_len b g
  have h3 := scale_len (mulP b g) (-1)
  have h4 := add_len (mulP a f) (scaleP (mulP b g) (-1))
  omega
theorem RowZ.mixed {m n c d l : Nat} {r o : Row} {f g : List Int} {s : Str} (h : RowZ m n c r) (ho : RowZ m n c o) (hf : SzP d f) (hg : SzP d g) (lf : f.length ≤ l) (lg : g.length ≤ l) (hs : s = "<=" ∨ s = "<" ∨ s = "=") : RowZ m (n + l) (c + d + n + 2) (mixedR r f o g s) := by
  refine ⟨?_, fun p hp => ?_, ?_, ?_, hs⟩
  · unfold mixedR; simp [h.len, ho.len]
  · unfold mixedR at hp
    simp only at hp
    obtain ⟨i, hi, e⟩ := List.mem_iff_getElem.mp hp
    rw [List.getElem_zipWith] at e
    subst e
    have m1 := h.ps _ (List.getElem_mem (l := r.ps) (n := i) (by simp at hi; omega))
    have m2 := ho.ps _ (List.getElem_mem (l := o.ps) (n := i) (by simp at hi; omega))
    exact ⟨SzP.mix m1.1 m2.1 hf hg m1.2 m2.2, mix_len m1.2 m2.2 lf lg⟩
  · exact SzP.mix h.q ho.q hf hg h.ql ho.ql
  · exact mix_len h.ql ho.ql lf lg
theorem divided_row_ok {m n c : Nat} {r : Row} (h : RowZ m n c r) (hm : m ≤ 1000) (hn : n ≤ 1000) (hc : c ≤ 9000) : m_divided_row [rowD r] = .ok (.sh (rowD (dividedR r))) := by
  have hs : r.ps.length + 1 ≤ sizeLine := slB (by rw [h.len]; omega)
  have ca : catD (r.ps.map pD) [pD r.q] = some ((r.ps ++ [r.q]).map pD) := by
    rw [r_cat (by simpa using hs), List.map_append]; rfl
  have hl : (r.ps ++ [r.q]).length ≤ sizeLine := by simpa using hs
  have hsz := h.cont
  have h1 : ∀ ρ : Ev, ρ.length = 8 → compR (compS [5] (gSet 5) (cst true) (eCall m_content (eCons (eVar 5) (cst []))) ρ) ((r.ps ++ [r.q]).map pD) = .ok ((r.ps ++ [r.q]).map fun p => .int (contN p : Int)) := fun ρ hρ => by
    match ρ, hρ with
    | [a0, a1, a2, a3, a4, a5, a6, a7], _ => exact compR_map' fun p hp => by simp [compS, content_ok]
  have e1' : PyData.list ((r.ps ++ [r.q]).map fun p => .int (contN p : Int)) = pD ((r.ps ++ [r.q]).map fun p => (contN p : Int)) := by unfold pD; rw [List.map_map]; rfl
  have c1 : m_content [.list ((r.ps ++ [r.q]).map fun p => .int (contN p : Int))] = .ok (.sh (.int (contR r : Int))) := by rw [e1', content_ok]; rfl
  by_cases z : contR r = 0
  · have hd : dividedR r = r := by unfold dividedR; rw [if_pos z]
    rw [hd]
    simp [m_divided_row, c_divided_row, rowD, ca, hs, h1, c1, z, -r_cat, -List.map_append]
  · have hz : ¬ ((contR r : Int) = 0) := by omega
    have od : ∀ x, okDiv x (contR r : Int) = true := fun x => okDiv_of (hsz.mono hc) hz
    have h2 : ∀ (a0 a1 a2 a3 a5 a6 a7 : SD), compR (compS [5] (gSet 5) (cst true) (eLst (eComp [7] (e1 seqD (eVar 5)) (gSet 7) (cst true) (e2 fdivD (eOwn 7) (eOwn 4)))) [a0, a1, a2, a3, .sh (.int (contR r : Int)), a5, a6, a7]) ((r.ps ++ [r.q]).map pD) = .ok ((r.ps ++ [r.q]).map fun p => pD (divP (contR r) p)) := fun a0 a1 a2 a3 a5 a6 a7 =>
      compR_map' fun p hp => by
        have hl : p.length ≤ sizeLine := slB (by have := (h.all p hp).2; omega)
        have : ∀ b5 b7, compR (compS [7] (gSet 7) (cst true) (e2 fdivD (eOwn 7) (eOwn 4)) [a0, a1, a2, a3, .sh (.int (contR r : Int)), b5, a6, b7]) (p.map .int) = .ok (p.map fun x => .int (x.fdiv (contR r : Int))) := fun b5 b7 => compR_map' fun x hx => by simp [compS, od]
        have e3' : PyData.list (p.map fun x => .int (x.fdiv (contR r : Int))) = pD (divP (contR r) p) := by unfold pD divP; rw [List.map_map]; rfl
        simp [compS, hl, this, e3', od]
    have e4 : ((r.ps ++ [r.q]).map fun p => pD (divP (contR r) p)) = (((r.ps.map (divP (contR r))) ++ [divP (contR r) r.q]).map pD) := by simp [Function.comp_def]
    have s1' := cut_init pD (r.ps.map (divP (contR r))) (divP (contR r) r.q)
    have s2' := at_last pD (r.ps.map (divP (contR r))) (divP (contR r) r.q)
    have hd : dividedR r = ⟨r.ps.map (divP (contR r)), divP (contR r) r.q, r.s⟩ := by unfold dividedR; rw [if_neg z]
    rw [hd]
    rw [e4] at h2
    simp [m_divided_row, c_divided_row, rowD, ca, hs, h1, c1, z, h2, s1', s2', -r_cat, -List.map_append]
/-! rows mixed -/
theorem mixed_loop {f g : List Int} {c d n : Nat} (hf : SzP d f) (hg : SzP d g) (lf : f.length ≤ 1000) (lg : g.length ≤ 1000) (hcd : c + d + n ≤ 10000) (hn : n ≤ 1000) (w0 w2 w4 : SD) : ∀ (as bs : List (List Int)) (acc : List (List Int)) (w6 w7 : SD), (∀ p ∈ as, SzP c p ∧ p.length ≤ n) → (∀ p ∈ bs, SzP c p ∧ p.length ≤ n) → acc.length + as.length ≤ 10000 →
    ∃ y6 y7, forO (gTo (gTupD 2 (gsCons (gSet 6) (gsCons (gSet 7) (gsNil)))) b_mixed_1) (zipL (as.map pD) (bs.map pD)) [w0, .sh (pD f), w2, .sh (pD g), w4, .ow (acc.map pD), w6, w7] = .nx [w0, .sh (pD f), w2, .sh (pD g), w4, .ow ((acc ++ List.zipWith (mixP f g) as bs).map pD), y6, y7]
  | [], bs, acc, w6, w7, _, _, _ => ⟨w6, w7, by simp [zipL]⟩
  | a :: as, [], acc, w6, w7, _, _, _ => ⟨w6, w7, by simp [zipL]⟩
  | a :: as, b :: bs, acc, w6, w7, ha, hb, hl => by
    obtain ⟨a1, a2⟩ := ha a (by simp)
    obtain ⟨b1, b2⟩ := hb b (by simp)
    obtain ⟨y6, y7, ih⟩ := mixed_loop hf hg lf lg hcd hn w0 w2 w4 as bs (acc ++ [mixP f g a b]) (.sh (pD a)) (.sh (pD b)) (fun q hq => ha q (by simp [hq])) (fun q hq => hb q (by simp [hq])) (by simp at hl ⊢; omega)
    refine ⟨y6, y7, ?_⟩
    have m1 := multiply_ok a1 hf (by omega) (by omega) (by omega)
    have m2 := multiply_ok b1 hg (by omega) (by omega) (by omega)
    have l1 := mul_len a f
    have l2 := mul_len b g
    have s1' := subtract_ok (a := mulP a f) (b1.mul hg) (by omega) (by omega) (by omega)
    have hs : acc.length < sizeLine := Nat.lt_of_lt_of_le (show acc.length < 100000 by simp at hl; omega) (by decide)
    have st : gTo (gTupD 2 (gsCons (gSet 6) (gsCons (gSet 7) (gsNil)))) b_mixed_1 (.tuple [pD a, pD b]) [w0, .sh (pD f), w2, .sh (pD g), w4, .ow (acc.map pD), w6, w7] = .nx [w0, .sh (pD f), w2, .sh (pD g), w4, .ow ((acc ++ [mixP f g a b]).map pD), .sh (pD a), .sh (pD b)] := by
      simp [b_mixed_1, m1, m2, s1', hs, mixP]
    have e : zipL ((a :: as).map pD) ((b :: bs).map pD) = .tuple [pD a, pD b] :: zipL (as.map pD) (bs.map pD) := rfl
    rw [e, forO, st]
    rw [List.append_assoc] at ih
    exact ih
theorem mixed_ok {m n c d : Nat} {r o : Row} {f g : List Int} {s : Str} (h : RowZ m n c r) (ho : RowZ m n c o) (hf : SzP d f) (hg : SzP d g) (lf : f.length ≤ 1000) (lg : g.length ≤ 1000) (hcd : c + d + n ≤ 10000) (hn : n ≤ 1000) (hm : m ≤ 1000) :
    m_mixed [rowD r, pD f, rowD o, pD g, .str s] = .ok (.sh (rowD (mixedR r f o g s))) := by
  have ca : ∀ {r : Row}, RowZ m n c r → catD (r.ps.map pD) [pD r.q] = some ((r.ps ++ [r.q]).map pD) := fun {r} h => by
    rw [r_cat (slB (by simp [h.len]; omega)), List.map_append]; rfl
  obtain ⟨y6, y7, e⟩ := mixed_loop hf hg lf lg hcd hn (.sh (rowD r)) (.sh (rowD o)) (.sh (.str s)) (r.ps ++ [r.q]) (o.ps ++ [o.q]) [] .no .no h.all ho.all (by simp [h.len]; omega)
  have e4 : List.zipWith (mixP f g) (r.ps ++ [r.q]) (o.ps ++ [o.q]) = List.zipWith (mixP f g) r.ps o.ps ++ [mixP f g r.q o.q] := by
    rw [List.zipWith_append (by rw [h.len, ho.len])]; rfl
  rw [e4, List.nil_append, List.map_nil] at e
  have s1' := cut_init pD (List.zipWith (mixP f g) r.ps o.ps) (mixP f g r.q o.q)
  have s2' := at_last pD (List.zipWith (mixP f g) r.ps o.ps) (mixP f g r.q o.q)
  simp [m_mixed, c_mixed, row_ix0, rowD_ix1, ca h, ca ho, e, s1', s2', -r_cat, -List.map_append, -r_ix_t]
  simp [rowD, mixedR]
/-! rows used up by an equation -/
theorem ixM {α : Type} {F : α → D} {l : List α} {i : Nat} {a : α} (h : l[i]? = some a) : ixD (.list (l.map F)) (.int (i : Int)) = some (F a) := by
  rw [r_ix_l, r_at, List.getElem?_map, h]; rfl
theorem enu_getR {rs : List Row} {i : Nat} {d : D} (h : (enuL (rs.map rowD))[i]? = some d) : i < rs.length ∧ d = .tuple [.int (i : Nat), rowD (rowAt rs i)] := by
  unfold enuL at h
  rw [List.length_map, List.getElem?_zipWith] at h
  by_cases e : i < rs.length
  · rw [List.getElem?_range e, List.getElem?_map, rowAt_get e] at h
    exact ⟨e, (Option.some.inj h).symm⟩
  · rw [List.getElem?_eq_none (by simpa using e)] at h
    cases h
theorem enuR_length (rs : List Row) : (enuL (rs.map rowD)).length = rs.length := by simp [enuL]
theorem flat_len {β : Type} (f : Nat → List β) (b : Nat) (h : ∀ i, (f i).length ≤ b) : ∀ n, ((List.range n).flatMap f).length ≤ n * b
  | 0 => by simp
  | n + 1 => by
    rw [List.range_succ, List.flatMap_append, List.length_append, Nat.succ_mul]
    have e : ([n].flatMap f) = f n := by simp
    have := flat_len f b h n
    have := h n
    rw [e]; omega
theorem usedUpd_len (rs : List Row) (k : Nat) (t : Rat) (a i : Nat) : (usedUpd rs k t a i).length ≤ 1 := by
  unfold usedUpd; split
  · simp
  · split <;> simp
theorem sgI_sz (n : Int) : Sz 1 (sgI n) := by
  unfold sgI
  split <;> split <;> exact .lit (by decide)
theorem SzP.scl {s : Nat} {a : List Int} {n : Int} (h : SzP s a) : SzP (s + 1) (sclP a (sgI n)) := fun x hx => by
  obtain ⟨y, hy, rfl⟩ := List.mem_map.mp hx
  exact (h y hy).mul (sgI_sz n)
theorem scl_comp {p : List Int} {c : Nat} (hp : SzP c p) (hc : c ≤ 100000) {i : Nat} {σ : Int} (hσ : Sz 1 σ) {S : List D} {j3 : D} (hi : ixD (.list S) j3 = some (.int σ)) (w0 w1 w4 w5 w6 w7 w8 w9 w10 : SD) :
    compR (compS [6] (gSet 6) (cst true) (e2 mulD (eOwn 6) (e2 ixD (eOwn 2) (eOwn 3))) [w0, w1, .sh (.list S), .sh j3, w4, w5, w6, w7, w8, w9, w10]) (p.map .int) = .ok ((sclP p σ).map .int) := by
  have : (sclP p σ).map PyData.int = p.map fun x => .int (x * σ) := by unfold sclP; rw [List.map_map]; rfl
  rw [this]
  exact compR_map' fun x hx => by
    have o := okMul_of (hp x hx) hσ (by omega)
    simp [compS, hi, o, -r_ix_l]
structure RowsZ (k n c : Nat) (rs : List Row) : Prop where
  all : ∀ r ∈ rs, RowZ (k + 1) n c r
  len : rs.length ≤ 1000
  hk : k ≤ 10
  hn : n ≤ 100
  hc : c ≤ 1000
theorem RowsZ.at {k n c i : Nat} {rs : List Row} (h : RowsZ k n c rs) (hi : i < rs.length) : RowZ (k + 1) n c (rowAt rs i) := h.all _ (rowAt_mem hi)
theorem RowZ.pk {k n c : Nat} {r : Row} (h : RowZ (k + 1) n c r) : k < r.ps.length ∧ SzP c (pk r k) ∧ (pk r k).length ≤ n := by
  have : k < r.ps.length := by rw [h.len]; omega
  exact ⟨this, (h.ps _ (pk_mem this)).1, (h.ps _ (pk_mem this)).2⟩
/-- the size of what is mixed -/
theorem RowsZ.mix {k n c i j : Nat} {rs : List Row} (h : RowsZ k n c rs) (hi : i < rs.length) (hj : j < rs.length) {f g : List Int} {s : Str} (hf : SzP (c + 1) f) (hg : SzP (c + 1) g) (lf : f.length ≤ n) (lg : g.length ≤ n) (hs : s = "<=" ∨ s = "<" ∨ s = "=") :
    m_mixed [rowD (rowAt rs i), pD f, rowD (rowAt rs j), pD g, .str s] = .ok (.sh (rowD (mixedR (rowAt rs i) f (rowAt rs j) g s))) ∧
    m_without [rowD (mixedR (rowAt rs i) f (rowAt rs j) g s), .int (k : Int)] = .ok (.sh (rowD (withoutR (mixedR (rowAt rs i) f (rowAt rs j) g s) k))) ∧
    m_divided_row [rowD (withoutR (mixedR (rowAt rs i) f (rowAt rs j) g s) k)] = .ok (.sh (rowD (dividedR (withoutR (mixedR (rowAt rs i) f (rowAt rs j) g s) k)))) ∧
    RowZ k (2 * n) (2 * c + n + 3) (dividedR (withoutR (mixedR (rowAt rs i) f (rowAt rs j) g s) k)) := by
  have a := h.at hi
  have b := h.at hj
  have := h.hk
  have := h.hn
  have := h.hc
  have z := (a.mixed b hf hg lf lg hs).mono (show n + n ≤ 2 * n by omega) (show c + (c + 1) + n + 2 ≤ 2 * c + n + 3 by omega)
  have w := z.without (show k < k + 1 by omega)
  exact ⟨mixed_ok a b hf hg (by omega) (by omega) (by omega) (by omega) (by omega), without_ok (by rw [z.len]; omega) (by rw [z.len]; omega), divided_row_ok w (by omega) (by omega) (by omega), w.divided⟩
theorem RowsZ.wo {k n c i : Nat} {rs : List Row} (h : RowsZ k n c rs) (hi : i < rs.length) :
    m_without [rowD (rowAt rs i), .int (k : Int)] = .ok (.sh (rowD (withoutR (rowAt rs i) k))) ∧ RowZ k (2 * n) (2 * c + n + 3) (withoutR (rowAt rs i) k) := by
  have a := h.at hi
  have := h.hk
  exact ⟨without_ok (by rw [a.len]; omega) (by rw [a.len]; omega), (a.without (show k < k + 1 by omega)).mono (by omega) (by omega)⟩
theorem used_step {rs : List Row} {k n c a i : Nat} {t : Rat} (h : RowsZ k n c rs) (ha : a < rs.length) (hi : i < rs.length) {S : List D} (hS : S = rs.map fun r => .int (sgR k t r)) {acc : List Row} (hacc : acc.length ≤ 1000000) (w6 w8 w9 w10 : SD) :
    ∃ y6 y10, gTo (gTupD 2 (gsCons (gSet 8) (gsCons (gSet 9) (gsNil)))) b_used_up_1 (.tuple [.int (i : Int), rowD (rowAt rs i)]) [.sh (.list (rs.map rowD)), .sh (.int (k : Int)), .sh (.list S), .sh (.int (a : Int)), .sh (rowD (rowAt rs a)), .sh (pD (sclP (pk (rowAt rs a) k) (sgR k t (rowAt rs a)))), w6, .ow (acc.map rowD), w8, w9, w10]
      = .nx [.sh (.list (rs.map rowD)), .sh (.int (k : Int)), .sh (.list S), .sh (.int (a : Int)), .sh (rowD (rowAt rs a)), .sh (pD (sclP (pk (rowAt rs a) k) (sgR k t (rowAt rs a)))), y6, .ow ((acc ++ usedUpd rs k t a i).map rowD), .sh (.int (i : Int)), .sh (rowD (rowAt rs i)), y10] := by
  have si : ixD (.list S) (.int (i : Int)) = some (.int (sgR k t (rowAt rs i))) := by rw [hS]; exact ixM (rowAt_get hi)
  have sa : ixD (.list S) (.int (a : Int)) = some (.int (sgR k t (rowAt rs a))) := by rw [hS]; exact ixM (rowAt_get ha)
  have hl : acc.length < sizeLine := Nat.lt_of_le_of_lt hacc (by decide)
  obtain ⟨wo, _⟩ := h.wo hi
  by_cases z : sgR k t (rowAt rs i) = 0
  · have e : usedUpd rs k t a i = [withoutR (rowAt rs i) k] := by unfold usedUpd; rw [if_pos z]
    rw [e]
    exact ⟨_, _, by simp [b_used_up_1, si, z, wo, hl, -r_ix_l, -Out.nx.injEq] <;> rfl⟩
  · by_cases q : i = a
    · have e : usedUpd rs k t a i = [] := by unfold usedUpd; rw [if_neg z, if_pos q]
      rw [e]
      subst q
      exact ⟨_, _, by simp [b_used_up_1, si, z, -r_ix_l, -Out.nx.injEq] <;> rfl⟩
    · have pa := (h.at ha).pk
      have pi := (h.at hi).pk
      have cmp := fun w0 w1 w4 w5 w6 w7 w8 w9 w10 => scl_comp pi.2.1 (by have := h.hc; omega) (i := i) (sgI_sz _) sa w0 w1 w4 w5 w6 w7 w8 w9 w10
      have lp : (pk (rowAt rs i) k).length ≤ sizeLine := slB (by have := pi.2.2; have := h.hn; omega)
      obtain ⟨m1, m2, m3, _⟩ := h.mix hi ha (pa.2.1.scl (n := (evP (pk (rowAt rs a) k) t).num)) (pi.2.1.scl (n := (evP (pk (rowAt rs a) k) t).num)) (by simpa [sclP] using pa.2.2) (by simpa [sclP] using pi.2.2) (h.at hi).s
      have e : usedUpd rs k t a i = [dividedR (withoutR (mixedR (rowAt rs i) (sclP (pk (rowAt rs a) k) (sgR k t (rowAt rs a))) (rowAt rs a) (sclP (pk (rowAt rs i) k) (sgR k t (rowAt rs a))) (rowAt rs i).s) k)] := by unfold usedUpd; rw [if_neg z, if_neg q]
      rw [e]
      have px := pk_ix pi.1
      unfold sgR at si z cmp ⊢
      have qi : ¬ ((i : Int) = (a : Int)) := by omega
      exact ⟨_, _, by simp [b_used_up_1, si, z, qi, row_ix0, rowD_ix2, px, lp, cmp, m1, m2, m3, hl, -r_ix_l, -r_ix_t, -Out.nx.injEq] <;> rfl⟩
theorem range_flat {β : Type} (f : Nat → List β) (n : Nat) : (List.range (n + 1)).flatMap f = (List.range n).flatMap f ++ f n := by
  rw [List.range_succ, List.flatMap_append]; simp
theorem used_ok {rs : List Row} {k n c a : Nat} {t : Rat} (h : RowsZ k n c rs) (ha : a < rs.length) {S : List D} (hS : S = rs.map fun r => .int (sgR k t r)) :
    m_used_up [.list (rs.map rowD), .int (k : Int), .list S, .int (a : Int)] = .ok (.ow ((usedUpR rs k t a).map rowD)) := by
  have sa : ixD (.list S) (.int (a : Int)) = some (.int (sgR k t (rowAt rs a))) := by rw [hS]; exact ixM (rowAt_get ha)
  have ra : ixD (.list (rs.map rowD)) (.int (a : Int)) = some (rowD (rowAt rs a)) := ixM (rowAt_get ha)
  have pa := (h.at ha).pk
  have px := pk_ix pa.1
  have lp : (pk (rowAt rs a) k).length ≤ sizeLine := slB (by have := pa.2.2; have := h.hn; omega)
  have cmp := fun w0 w1 w4 w5 w6 w7 w8 w9 w10 => scl_comp pa.2.1 (by have := h.hc; omega) (i := a) (sgI_sz (evP (pk (rowAt rs a) k) t).num) sa w0 w1 w4 w5 w6 w7 w8 w9 w10
  obtain ⟨ρ', e, y6, y8, y9, y10, rfl⟩ := forO_inv (F := gTo (gTupD 2 (gsCons (gSet 8) (gsCons (gSet 9) (gsNil)))) b_used_up_1) (l := enuL (rs.map rowD))
    (fun i ρ => ∃ y6 y8 y9 y10, ρ = [.sh (.list (rs.map rowD)), .sh (.int (k : Int)), .sh (.list S), .sh (.int (a : Int)), .sh (rowD (rowAt rs a)), .sh (pD (sclP (pk (rowAt rs a) k) (sgR k t (rowAt rs a)))), y6, .ow (((List.range i).flatMap (usedUpd rs k t a)).map rowD), y8, y9, y10])
    (ρ := [.sh (.list (rs.map rowD)), .sh (.int (k : Int)), .sh (.list S), .sh (.int (a : Int)), .sh (rowD (rowAt rs a)), .sh (pD (sclP (pk (rowAt rs a) k) (sgR k t (rowAt rs a)))), .no, .ow [], .no, .no, .no]) ⟨_, _, _, _, rfl⟩
    (fun i d ρ hd hi => by
      obtain ⟨hil, rfl⟩ := enu_getR hd
      obtain ⟨y6, y8, y9, y10, rfl⟩ := hi
      have hl := flat_len (usedUpd rs k t a) 1 (usedUpd_len rs k t a) i
      obtain ⟨z6, z10, st⟩ := used_step (t := t) h ha hil hS (acc := (List.range i).flatMap (usedUpd rs k t a)) (by have := h.len; omega) y6 y8 y9 y10
      exact ⟨_, .inl st, z6, _, _, z10, by rw [range_flat]⟩)
  rw [enuR_length] at e
  unfold sgR at e
  unfold sgR at sa
  simp [m_used_up, c_used_up, ra, row_ix0, px, sa, lp, cmp, e, usedUpR, -r_ix_l, -r_ix_t]
theorem pairUpd_len (rs : List Row) (k : Nat) (t : Rat) (i j : Nat) : (pairUpd rs k t i j).length ≤ 1 := by
  unfold pairUpd; split <;> simp
theorem zeroUpd_len (rs : List Row) (k : Nat) (t : Rat) (i : Nat) : (zeroUpd rs k t i).length ≤ 1 := by
  unfold zeroUpd; split <;> simp
theorem r_memlt {a b : Str} : memD (.str "<") (.tuple [.str a, .str b]) = some (.bool (decide (a = "<" ∨ b = "<"))) := by
  show some (PyData.bool ((a == "<") || ((b == "<") || false))) = _
  rw [Bool.or_false]
  by_cases h1 : a = "<" <;> by_cases h2 : b = "<" <;> simp [h1, h2]
theorem joinS_ok (a b : Str) : joinS a b = "<=" ∨ joinS a b = "<" ∨ joinS a b = "=" := by
  unfold joinS; split
  · exact .inr (.inl rfl)
  · exact .inl rfl
theorem pair_step {rs : List Row} {k n c i j : Nat} {t : Rat} (h : RowsZ k n c rs) (hi : i < rs.length) (hj : j < rs.length) {S : List D} (hS : S = rs.map fun r => .int (sgR k t r)) {acc : List Row} (hacc : acc.length ≤ 10000000) (w4 w5 w8 w9 w10 : SD) :
    ∃ y10, gTo (gTupD 2 (gsCons (gSet 8) (gsCons (gSet 9) (gsNil)))) b_paired_1 (.tuple [.int (j : Int), rowD (rowAt rs j)]) [.sh (.list (rs.map rowD)), .sh (.int (k : Int)), .sh (.list S), .ow (acc.map rowD), w4, w5, .sh (.int (i : Int)), .sh (rowD (rowAt rs i)), w8, w9, w10]
      = .nx [.sh (.list (rs.map rowD)), .sh (.int (k : Int)), .sh (.list S), .ow ((acc ++ pairUpd rs k t i j).map rowD), w4, w5, .sh (.int (i : Int)), .sh (rowD (rowAt rs i)), .sh (.int (j : Int)), .sh (rowD (rowAt rs j)), y10] := by
  have si : ixD (.list S) (.int (i : Int)) = some (.int (sgR k t (rowAt rs i))) := by rw [hS]; exact ixM (rowAt_get hi)
  have sj : ixD (.list S) (.int (j : Int)) = some (.int (sgR k t (rowAt rs j))) := by rw [hS]; exact ixM (rowAt_get hj)
  have hl : acc.length < sizeLine := Nat.lt_of_le_of_lt hacc (by decide)
  by_cases z : sgR k t (rowAt rs i) = 1
  · by_cases q : sgR k t (rowAt rs j) = -1
    · have pi := (h.at hi).pk
      have pj := (h.at hj).pk
      have px := pk_ix pi.1
      have py := pk_ix pj.1
      obtain ⟨m1, m2, m3, _⟩ := h.mix hj hi (pi.2.1.mono (by omega)) (pj.2.1.mono (by omega)) pi.2.2 pj.2.2 (joinS_ok (rowAt rs i).s (rowAt rs j).s)
      have e : pairUpd rs k t i j = [dividedR (withoutR (mixedR (rowAt rs j) (pk (rowAt rs i) k) (rowAt rs i) (pk (rowAt rs j) k) (joinS (rowAt rs i).s (rowAt rs j).s)) k)] := by unfold pairUpd; rw [if_pos ⟨z, q⟩]
      rw [e]
      by_cases w : (rowAt rs i).s = "<" ∨ (rowAt rs j).s = "<"
      · have ej : joinS (rowAt rs i).s (rowAt rs j).s = "<" := by unfold joinS; rw [if_pos w]
        rw [ej] at m1 m2 m3 ⊢
        exact ⟨_, by simp [b_paired_1, si, sj, z, q, row_ix0, rowD_ix2, r_memlt, w, px, py, m1, m2, m3, hl, -r_ix_l, -r_ix_t, -Out.nx.injEq] <;> rfl⟩
      · have ej : joinS (rowAt rs i).s (rowAt rs j).s = "<=" := by unfold joinS; rw [if_neg w]
        rw [ej] at m1 m2 m3 ⊢
        exact ⟨_, by simp [b_paired_1, si, sj, z, q, row_ix0, rowD_ix2, r_memlt, w, px, py, m1, m2, m3, hl, -r_ix_l, -r_ix_t, -Out.nx.injEq] <;> rfl⟩
    · have e : pairUpd rs k t i j = [] := by unfold pairUpd; rw [if_neg fun g => q g.2]
      rw [e]
      exact ⟨_, by simp [b_paired_1, si, sj, z, q, -r_ix_l, -Out.nx.injEq] <;> rfl⟩
  · have e : pairUpd rs k t i j = [] := by unfold pairUpd; rw [if_neg fun g => z g.1]
    rw [e]
    exact ⟨_, by simp [b_paired_1, si, sj, z, -r_ix_l, -Out.nx.injEq] <;> rfl⟩
theorem compR_flat {α : Type} {F : α → D} {step : D → R (Option D)} : ∀ {l : List D} {upd : Nat → List α}, (∀ i d, l[i]? = some d → step d = .ok ((upd i).head?.map F) ∧ (upd i).length ≤ 1) → compR step l = .ok (((List.range l.length).flatMap upd).map F)
  | [], _, _ => rfl
  | d :: l, upd, h => by
    obtain ⟨h1, h2⟩ := h 0 d rfl
    have ih := compR_flat (l := l) (upd := fun i => upd (i + 1)) fun i d hd => h (i + 1) d (by simpa using hd)
    unfold compR
    rw [h1, ih, List.length_cons, List.range_succ_eq_map, List.flatMap_cons, List.flatMap_map]
    rcases hu : upd 0 with _ | ⟨x, _ | ⟨y, z⟩⟩
    · simp [Function.comp_def]
    · simp [Function.comp_def]
    · rw [hu] at h2; simp at h2
theorem pair_inner {rs : List Row} {k n c i : Nat} {t : Rat} (h : RowsZ k n c rs) (hi : i < rs.length) {S : List D} (hS : S = rs.map fun r => .int (sgR k t r)) {acc : List Row} (hacc : acc.length ≤ 5000000) (w4 w5 w6 w7 w8 w9 w10 : SD) :
    ∃ y8 y9 y10, gTo (gTupD 2 (gsCons (gSet 6) (gsCons (gSet 7) (gsNil)))) b_paired_2 (.tuple [.int (i : Int), rowD (rowAt rs i)]) [.sh (.list (rs.map rowD)), .sh (.int (k : Int)), .sh (.list S), .ow (acc.map rowD), w4, w5, w6, w7, w8, w9, w10]
      = .nx [.sh (.list (rs.map rowD)), .sh (.int (k : Int)), .sh (.list S), .ow ((acc ++ (List.range rs.length).flatMap fun j => pairUpd rs k t i j).map rowD), w4, w5, .sh (.int (i : Int)), .sh (rowD (rowAt rs i)), y8, y9, y10] := by
  obtain ⟨ρ', e, y8, y9, y10, rfl⟩ := forO_inv (F := gTo (gTupD 2 (gsCons (gSet 8) (gsCons (gSet 9) (gsNil)))) b_paired_1) (l := enuL (rs.map rowD))
    (fun j ρ => ∃ y8 y9 y10, ρ = [.sh (.list (rs.map rowD)), .sh (.int (k : Int)), .sh (.list S), .ow ((acc ++ (List.range j).flatMap fun j => pairUpd rs k t i j).map rowD), w4, w5, .sh (.int (i : Int)), .sh (rowD (rowAt rs i)), y8, y9, y10])
    (ρ := [.sh (.list (rs.map rowD)), .sh (.int (k : Int)), .sh (.list S), .ow (acc.map rowD), w4, w5, .sh (.int (i : Int)), .sh (rowD (rowAt rs i)), w8, w9, w10]) ⟨_, _, _, by simp only [List.range_zero, List.flatMap_nil, List.append_nil] <;> rfl⟩
    (fun j d ρ hd hj => by
      obtain ⟨hjl, rfl⟩ := enu_getR hd
      obtain ⟨y8, y9, y10, rfl⟩ := hj
      have hl := flat_len (fun j => pairUpd rs k t i j) 1 (pairUpd_len rs k t i) j
      obtain ⟨z10, st⟩ := pair_step (t := t) h hi hjl hS (acc := acc ++ (List.range j).flatMap fun j => pairUpd rs k t i j) (by have := h.len; rw [List.length_append]; omega) w4 w5 y8 y9 y10
      exact ⟨_, .inl st, _, _, z10, by rw [range_flat, List.append_assoc]⟩)
  rw [enuR_length] at e
  exact ⟨y8, y9, y10, by simp [b_paired_2, e]⟩
theorem paired_ok {rs : List Row} {k n c : Nat} {t : Rat} (h : RowsZ k n c rs) {S : List D} (hS : S = rs.map fun r => .int (sgR k t r)) :
    m_paired [.list (rs.map rowD), .int (k : Int), .list S] = .ok (.ow ((pairedR rs k t).map rowD)) := by
  have hc := compR_flat (F := rowD) (upd := zeroUpd rs k t) (l := enuL (rs.map rowD)) (step := compS [4, 5] (gTupD 2 (gsCons (gSet 4) (gsCons (gSet 5) (gsNil)))) (e1 bOf (e2 eqD (e2 ixD (eOwn 2) (eOwn 4)) (cst (.int 0)))) (eCall m_without (eCons (eVar 5) (eCons (eVar 1) (cst [])))) [.sh (.list (rs.map rowD)), .sh (.int (k : Int)), .sh (.list S), .no, .no, .no, .no, .no, .no, .no, .no]) fun i d hd => by
    obtain ⟨hi, rfl⟩ := enu_getR hd
    refine ⟨?_, zeroUpd_len rs k t i⟩
    have si : ixD (.list S) (.int (i : Int)) = some (.int (sgR k t (rowAt rs i))) := by rw [hS]; exact ixM (rowAt_get hi)
    obtain ⟨wo, _⟩ := h.wo hi
    unfold zeroUpd
    by_cases z : sgR k t (rowAt rs i) = 0
    · rw [if_pos z]
      simp [compS, si, z, wo, -r_ix_l]
    · rw [if_neg z]
      simp [compS, si, z, -r_ix_l]
  have hl := h.len
  have l1 : rs.length ≤ sizeLine := slB (by omega)
  have l2 : (enuL (rs.map rowD)).length ≤ sizeLine := by rw [enuR_length]; exact l1
  rw [enuR_length] at hc
  have lz := flat_len (zeroUpd rs k t) 1 (zeroUpd_len rs k t) rs.length
  obtain ⟨ρ', e, y6, y7, y8, y9, y10, rfl⟩ := forO_inv (F := gTo (gTupD 2 (gsCons (gSet 6) (gsCons (gSet 7) (gsNil)))) b_paired_2) (l := enuL (rs.map rowD))
    (fun i ρ => ∃ y6 y7 y8 y9 y10, ρ = [.sh (.list (rs.map rowD)), .sh (.int (k : Int)), .sh (.list S), .ow (((List.range rs.length).flatMap (zeroUpd rs k t) ++ (List.range i).flatMap fun i => (List.range rs.length).flatMap fun j => pairUpd rs k t i j).map rowD), .no, .no, y6, y7, y8, y9, y10])
    (ρ := [.sh (.list (rs.map rowD)), .sh (.int (k : Int)), .sh (.list S), .ow (((List.range rs.length).flatMap (zeroUpd rs k t)).map rowD), .no, .no, .no, .no, .no, .no, .no]) ⟨_, _, _, _, _, by simp only [List.range_zero, List.flatMap_nil, List.append_nil] <;> rfl⟩
    (fun i d ρ hd hi => by
      obtain ⟨hil, rfl⟩ := enu_getR hd
      obtain ⟨y6, y7, y8, y9, y10, rfl⟩ := hi
      have g1 := flat_len (fun i => (List.range rs.length).flatMap fun j => pairUpd rs k t i j) (rs.length * 1) (fun i => flat_len _ 1 (pairUpd_len rs k t i) _) i
      have g2 : i * (rs.length * 1) ≤ 1000 * (1000 * 1) := Nat.mul_le_mul (by omega) (by omega)
      obtain ⟨z8, z9, z10, st⟩ := pair_inner (t := t) h hil hS (acc := (List.range rs.length).flatMap (zeroUpd rs k t) ++ (List.range i).flatMap fun i => (List.range rs.length).flatMap fun j => pairUpd rs k t i j) (by rw [List.length_append]; omega) .no .no y6 y7 y8 y9 y10
      exact ⟨_, .inl st, _, _, z8, z9, z10, by rw [range_flat (fun i => (List.range rs.length).flatMap fun j => pairUpd rs k t i j), List.append_assoc]⟩)
  rw [enuR_length] at e
  simp only [m_paired, c_paired]
  simp [l2, hc, e, pairedR, -List.map_append]
def RowsK (k n c : Nat) (rs : List Row) : Prop := ∀ r ∈ rs, RowZ k n c r
theorem taken_rows {rs : List Row} {k n c : Nat} {t : Rat} (h : RowsZ k n c rs) : RowsK k (2 * n) (2 * c + n + 3) (takenR rs k t) ∧ (takenR rs k t).length ≤ rs.length + rs.length * rs.length := by
  unfold takenR
  rcases hf : rs.findIdx? (isEqAt k t) with _ | a
  · simp only
    unfold pairedR
    constructor
    · intro r hr
      rcases List.mem_append.mp hr with g | g
      · obtain ⟨i, hi, g⟩ := List.mem_flatMap.mp g
        have hi := List.mem_range.mp hi
        unfold zeroUpd at g
        split at g
        · simp at g; subst g
          exact (h.wo hi).2
        · simp at g
      · obtain ⟨i, hi, g⟩ := List.mem_flatMap.mp g
        obtain ⟨j, hj, g⟩ := List.mem_flatMap.mp g
        have hi := List.mem_range.mp hi
        have hj := List.mem_range.mp hj
        unfold pairUpd at g
        split at g
        · simp at g; subst g
          have pi := (h.at hi).pk
          have pj := (h.at hj).pk
          exact (h.mix hj hi (pi.2.1.mono (by omega)) (pj.2.1.mono (by omega)) pi.2.2 pj.2.2 (joinS_ok (rowAt rs i).s (rowAt rs j).s)).2.2.2
        · simp at g
    · rw [List.length_append]
      have g1 := flat_len (fun i => (List.range rs.length).flatMap fun j => pairUpd rs k t i j) (rs.length * 1) (fun i => flat_len _ 1 (pairUpd_len rs k t i) _) rs.length
      have g2 := flat_len (zeroUpd rs k t) 1 (zeroUpd_len rs k t) rs.length
      rw [Nat.mul_one] at g1 g2
      omega
  · simp only
    unfold usedUpR
    obtain ⟨ha, _⟩ := List.findIdx?_eq_some_iff_getElem.mp hf
    constructor
    · intro r hr
      obtain ⟨i, hi, g⟩ := List.mem_flatMap.mp hr
      have hi := List.mem_range.mp hi
      unfold usedUpd at g
      split at g
      · simp at g; subst g
        exact (h.wo hi).2
      · split at g
        · simp at g
        · simp at g; subst g
          have pi := (h.at hi).pk
          have pa := (h.at ha).pk
          exact (h.mix hi ha (pa.2.1.scl (n := (evP (pk (rowAt rs a) k) t).num)) (pi.2.1.scl (n := (evP (pk (rowAt rs a) k) t).num)) (by simpa [sclP] using pa.2.2) (by simpa [sclP] using pi.2.2) (h.at hi).s).2.2.2
    · have g2 := flat_len (usedUpd rs k t a) 1 (usedUpd_len rs k t a) rs.length
      rw [Nat.mul_one] at g2
      omega
theorem taken_ok {rs : List Row} {k n c : Nat} {t : Rat} (h : RowsZ k n c rs) {S : List D} (hS : S = rs.map fun r => .int (sgR k t r)) :
    m_taken_out [.list (rs.map rowD), .int (k : Int), .list S] = .ok (.ow ((takenR rs k t).map rowD)) := by
  have L := forO_gen (F := gTo (gTupD 2 (gsCons (gSet 3) (gsCons (gSet 4) (gsNil)))) b_taken_out_1) (l := enuL (rs.map rowD))
    (fun o => (∃ a, rs.findIdx? (isEqAt k t) = some a ∧ o = .rt (.ow ((usedUpR rs k t a).map rowD))) ∨ (rs.findIdx? (isEqAt k t) = none ∧ ∃ y3 y4, o = .nx [.sh (.list (rs.map rowD)), .sh (.int (k : Int)), .sh (.list S), y3, y4]))
    (fun i ρ => (∃ y3 y4, ρ = [.sh (.list (rs.map rowD)), .sh (.int (k : Int)), .sh (.list S), y3, y4]) ∧ ∀ j, j < i → isEqAt k t (rowAt rs j) = false)
    (ρ := [.sh (.list (rs.map rowD)), .sh (.int (k : Int)), .sh (.list S), .no, .no]) ⟨⟨_, _, rfl⟩, fun j hj => by omega⟩
    (fun i d ρ hd hi => by
      obtain ⟨hil, rfl⟩ := enu_getR hd
      obtain ⟨⟨y3, y4, rfl⟩, hn⟩ := hi
      have si : ixD (.list S) (.int (i : Int)) = some (.int (sgR k t (rowAt rs i))) := by rw [hS]; exact ixM (rowAt_get hil)
      by_cases z : (rowAt rs i).s = "="
      · by_cases q : sgR k t (rowAt rs i) = 0
        · left
          refine ⟨_, .inl (by simp [b_taken_out_1, rowD_ix2, z, si, q, -r_ix_l, -r_ix_t, -Out.nx.injEq] <;> rfl), ⟨_, _, rfl⟩, fun j hj => ?_⟩
          by_cases w : j = i
          · subst w; simp [isEqAt, q]
          · exact hn j (by omega)
        · right; right; left
          have u := used_ok (t := t) h hil hS
          refine ⟨_, by simp [b_taken_out_1, rowD_ix2, z, si, q, u, -r_ix_l, -r_ix_t, -Out.rt.injEq] <;> rfl, .inl ⟨i, ?_, rfl⟩⟩
          rw [List.findIdx?_eq_some_iff_getElem]
          have ge : ∀ j (hj : j < rs.length), rowAt rs j = rs[j] := fun j hj => by
            have := rowAt_get hj
            rw [List.getElem?_eq_getElem hj] at this
            exact (Option.some.inj this).symm
          refine ⟨hil, by rw [← ge i hil]; simp [isEqAt, z, q], fun j hj => ?_⟩
          rw [← ge j (by omega), hn j hj]; simp
      · left
        refine ⟨_, .inl (by simp [b_taken_out_1, rowD_ix2, z, -r_ix_l, -r_ix_t, -Out.nx.injEq] <;> rfl), ⟨_, _, rfl⟩, fun j hj => ?_⟩
        by_cases w : j = i
        · subst w; simp [isEqAt, z]
        · exact hn j (by omega))
    (fun ρ hρ => by
      obtain ⟨⟨y3, y4, rfl⟩, hn⟩ := hρ
      rw [enuR_length] at hn
      refine .inr ⟨?_, y3, y4, rfl⟩
      rw [List.findIdx?_eq_none_iff]
      intro r hr
      obtain ⟨i, hi, er⟩ := List.mem_iff_getElem.mp hr
      have := rowAt_get hi
      rw [List.getElem?_eq_getElem hi, er] at this
      rw [Option.some.inj this]
      exact hn i hi)
  rcases L with ⟨a, hf, e⟩ | ⟨hf, y3, y4, e⟩
  · simp [m_taken_out, c_taken_out, e, takenR, hf]
  · have p := paired_ok (t := t) h hS
    simp [m_taken_out, c_taken_out, e, takenR, hf, p]
/-! signs, stages, blocks -/
theorem signs_zok {rs : List Row} {k n c kt : Nat} {t : Rat} (h : RowsZ k n c rs) (h1 : 1 ≤ c) (ht : Rk kt t) (hz : 1 + n * (kt + c + 1) + kt + c ≤ 8000) :
    m_signs_at [.list (rs.map rowD), .int (k : Int), rD t] = .ok (.ow (rs.map fun r => .int (sgR k t r))) := by
  have hc := compR_map' (F := rowD) (step := compS [3] (gSet 3) (cst true) (eCall m_sign_at (eCons (e2 ixD (e2 ixD (eOwn 3) (cst (.int 0))) (eOwn 1)) (eCons (eVar 2) (cst [])))) [.sh (.list (rs.map rowD)), .sh (.int (k : Int)), .sh (rD t), .no]) (l := rs) (φ := fun r => .int (sgR k t r)) fun r hr => by
    have p := (h.all r hr).pk
    have lm : (pk r k).length * (kt + c + 1) ≤ n * (kt + c + 1) := Nat.mul_le_mul_right _ p.2.2
    have v := sign_at_ok p.2.1 ht h1 (by omega)
    simp [compS, row_ix0, pk_ix p.1, v, sgR, -r_ix_l]
  have hs : rs.length ≤ sizeLine := slB (by have := h.len; omega)
  simp [m_signs_at, c_signs_at, hs, hc]
@[simp] theorem r_eApp (n k : Nat) (f g : Ev → R (List D)) (ρ : Ev) : eApp n k f g ρ = (f ρ).bind fun a => (g ρ).bind fun b => if a.length = n ∧ b.length = k then .ok (a ++ b) else .bad := id rfl
def stagesR (t : Rat) : Nat → List Row → List (List Row)
  | 0, rs => [rs]
  | k + 1, rs => rs :: stagesR t k (takenR rs k t)
def finalR (t : Rat) : Nat → List Row → List Row
  | 0, rs => rs
  | k + 1, rs => finalR t k (takenR rs k t)
def initR (t : Rat) : Nat → List Row → List (List Row)
  | 0, _ => []
  | k + 1, rs => rs :: initR t k (takenR rs k t)
theorem stages_split (t : Rat) : ∀ (k : Nat) (rs : List Row), stagesR t k rs = initR t k rs ++ [finalR t k rs]
  | 0, _ => rfl
  | k + 1, rs => by rw [stagesR, stages_split t k]; rfl
def stD (ss : List (List Row)) : List D := ss.map fun rs => .list (rs.map rowD)
def GoodSt (kt : Nat) (t : Rat) : Nat → List Row → Prop
  | 0, rs => rs.length ≤ 1000000 ∧ ∃ n c, (∀ r ∈ rs, RowZ 0 n c r) ∧ 1 ≤ c ∧ 1 + n * (kt + c + 1) + kt + c ≤ 8000
  | k + 1, rs => ∃ n c, RowsZ k n c rs ∧ 1 ≤ c ∧ 1 + n * (kt + c + 1) + kt + c ≤ 8000 ∧ GoodSt kt t k (takenR rs k t)
theorem rng_down (k : Nat) : rngL ((k : Int)) (-1) (k + 1) = .int (k : Int) :: rngL ((k : Int) - 1) (-1) k := by
  unfold rngL
  rw [List.range_succ_eq_map, List.map_cons, List.map_map, show ((k : Int) + ((0 : Nat) : Int) * -1) = k by omega]
  refine congrArg _ (List.map_congr_left fun i _ => ?_)
  simp only [Function.comp]
  rw [show ((k : Int) + ((i.succ : Nat) : Int) * -1) = (k : Int) - 1 + (i : Int) * -1 by omega]
theorem stages_loop {kt : Nat} {t : Rat} (ht : Rk kt t) (w0 : SD) : ∀ (k : Nat) (rs : List Row) (acc : List (List Row)) (w4 : SD), GoodSt kt t k rs → acc.length + k ≤ 1000 → ∃ y4,
    forO (gTo (gSet 4) b_stages_at_1) (rngL ((k : Int) - 1) (-1) k) [w0, .sh (.list (rs.map rowD)), .sh (rD t), .ow (stD (acc ++ [rs])), w4] = .nx [w0, .sh (.list ((finalR t k rs).map rowD)), .sh (rD t), .ow (stD (acc ++ stagesR t k rs)), y4]
  | 0, rs, acc, w4, _, _ => ⟨w4, rfl⟩
  | k + 1, rs, acc, w4, h, hl => by
    obtain ⟨n, c, hr, hc1, hz, hg⟩ := h
    have sg := signs_zok hr hc1 ht hz
    have tk := taken_ok (t := t) hr rfl
    obtain ⟨y4, ih⟩ := stages_loop ht w0 k (takenR rs k t) (acc ++ [rs]) (.sh (.int (k : Int))) hg (by simp; omega)
    refine ⟨y4, ?_⟩
    have e : ((k + 1 : Nat) : Int) - 1 = (k : Int) := by omega
    rw [e, rng_down, forO]
    have hs : acc.length + 1 < sizeLine := Nat.lt_of_lt_of_le (show acc.length + 1 < 100000 by omega) (by decide)
    have st : gTo (gSet 4) b_stages_at_1 (.int (k : Int)) [w0, .sh (.list (rs.map rowD)), .sh (rD t), .ow (stD (acc ++ [rs])), w4] = .nx [w0, .sh (.list ((takenR rs k t).map rowD)), .sh (rD t), .ow (stD ((acc ++ [rs]) ++ [takenR rs k t])), .sh (.int (k : Int))] := by
      simp [b_stages_at_1, sg, tk, stD, hs]
    rw [st]
    have ea : acc ++ [rs] ++ stagesR t k (takenR rs k t) = acc ++ stagesR t (k + 1) rs := by simp [stagesR]
    rw [ea] at ih
    exact ih
theorem range3_dn {m : Nat} (hm : m ≤ 2) : range3D [.int ((m : Int) - 1), .int (-1), .int (-1)] = some (rngL ((m : Int) - 1) (-1) m) := by
  have : m = 0 ∨ m = 1 ∨ m = 2 := by omega
  rcases this with rfl | rfl | rfl <;> rfl
theorem stages_ok {rs : List Row} {m kt : Nat} {t : Rat} (hm : m ≤ 2) (ht : Rk kt t) (h : GoodSt kt t m rs) : m_stages_at [.int (m : Int), .list (rs.map rowD), rD t] = .ok (.ow (stD (stagesR t m rs))) := by
  obtain ⟨y4, e⟩ := stages_loop ht (.sh (.int (m : Int))) m rs [] .no h (by simp; omega)
  have r3 := range3_dn hm
  have e' : forO (gTo (gSet 4) b_stages_at_1) (rngL ((m : Int) - 1) (-1) m) [.sh (.int (m : Int)), .sh (.list (rs.map rowD)), .sh (rD t), .ow [.list (rs.map rowD)], .no] = .nx [.sh (.int (m : Int)), .sh (.list ((finalR t m rs).map rowD)), .sh (rD t), .ow (stD (stagesR t m rs)), y4] := e
  simp [m_stages_at, c_stages_at, r3, e']
theorem fitB_sg (s : Str) (n : Int) : fitB s (sgI n) = fitB s n := by
  unfold fitB sgI
  rcases Int.lt_trichotomy n 0 with h | h | h
  · rw [if_neg (show ¬ 0 < n by omega), if_pos h, decide_eq_true h, decide_eq_true (show n ≤ 0 by omega), decide_eq_false (show ¬ n = 0 by omega)]; rfl
  · subst h; rfl
  · rw [if_pos h, if_neg (show ¬ n < 0 by omega), decide_eq_false (show ¬ n < 0 by omega), decide_eq_false (show ¬ n ≤ 0 by omega), decide_eq_false (show ¬ n = 0 by omega)]; rfl
theorem rv_nil (r : Row) (t : Rat) : rv r [] t = evP r.q t := by
  rw [rv_dot]
  have : dot t r.ps [] = 0 := by cases r.ps <;> rfl
  rw [this]; grind
theorem goodSt_final {kt : Nat} {t : Rat} : ∀ (k : Nat) (rs : List Row), GoodSt kt t k rs → GoodSt kt t 0 (finalR t k rs)
  | 0, _, h => h
  | k + 1, rs, h => by
    obtain ⟨n, c, _, _, _, g⟩ := h
    exact goodSt_final k (takenR rs k t) g
theorem final_comp {rs : List Row} {kt : Nat} {t : Rat} (ht : Rk kt t) (h : GoodSt kt t 0 rs) (w0 w1 w3 w4 w5 : SD) :
    compR (compS [3, 4, 5] (gTupD 3 (gsCons (gSet 3) (gsCons (gSet 4) (gsCons (gSet 5) (gsNil))))) (cst true) (eCall m_fits (eCons (eVar 5) (eCons (eCall m_sign_at (eCons (eVar 4) (eCons (eVar 2) (cst [])))) (cst [])))) [w0, w1, .sh (rD t), w3, w4, w5]) (rs.map rowD)
      = .ok (rs.map fun r => .bool (fitB r.s (rv r [] t).num)) := by
  obtain ⟨hl, n, c, hr, h1, hz⟩ := h
  refine compR_map' fun r hr' => ?_
  have g := hr r hr'
  have lm : r.q.length * (kt + c + 1) ≤ n * (kt + c + 1) := Nat.mul_le_mul_right _ g.ql
  have v := sign_at_ok g.q ht h1 (by omega)
  have f := fits_ok g.s (sgI (evP r.q t).num)
  rw [fitB_sg] at f
  simp [compS, rowD, v, f, rv_nil]
theorem block_at_ok {rs : List Row} {m kt : Nat} {t : Rat} (hm : m ≤ 2) (ht : Rk kt t) (h : GoodSt kt t m rs) : m_block_at [.int (m : Int), .list (rs.map rowD), rD t] = .ok (.sh (.bool (fulB (finalR t m rs) [] t))) := by
  have s := stages_ok hm ht h
  have hf := goodSt_final m rs h
  have hc := final_comp ht hf (.sh (.int (m : Int))) (.sh (.list (rs.map rowD))) .no .no .no
  have hl : (finalR t m rs).length ≤ sizeLine := Nat.le_trans hf.1 (by decide)
  have hb : blsD ((finalR t m rs).map fun r => .bool (fitB r.s (rv r [] t).num)) = some ((finalR t m rs).map fun r => fitB r.s (rv r [] t).num) := by
    have := blsD_map ((finalR t m rs).map fun r => fitB r.s (rv r [] t).num)
    rw [List.map_map] at this
    exact this
  have ha : ((finalR t m rs).map fun r => fitB r.s (rv r [] t).num).all id = fulB (finalR t m rs) [] t := by rw [List.all_map]; rfl
  have la : ixD (.list (stD (stagesR t m rs))) (.int (-1)) = some (.list ((finalR t m rs).map rowD)) := by
    rw [stages_split, r_ix_l]
    exact at_last (fun rs : List Row => PyData.list (rs.map rowD)) _ _
  simp only [m_block_at, c_block_at]
  simp [s, la, hl, hc, hb, ha, -List.all_map, -r_ix_l]
def GoodL : Nat → List Row → Prop := fun m rs => ∀ r ∈ rs, Len3 m r
theorem block_sem {t : Rat} {kt : Nat} : ∀ {m : Nat} {rs : List Row}, GoodSt kt t m rs → (fulB (finalR t m rs) [] t = true ↔ ∃ xs : List Rat, xs.length = m ∧ fulB rs xs t = true)
  | 0, rs, _ => by
    constructor
    · intro h; exact ⟨[], rfl, h⟩
    · rintro ⟨xs, hx, h⟩
      have : xs = [] := List.length_eq_zero_iff.mp hx
      subst this; exact h
  | k + 1, rs, h => by
    obtain ⟨n, c, hr, _, _, g⟩ := h
    have ih := block_sem g
    show fulB (finalR t k (takenR rs k t)) [] t = true ↔ _
    rw [ih]
    have l3 : ∀ r ∈ rs, Len3 (k + 1) r := fun r h => (hr.all r h).l3
    constructor
    · rintro ⟨xs, hx, hf⟩
      obtain ⟨x, hx2⟩ := (taken_sem l3 hx).mpr hf
      exact ⟨xs ++ [x], by simp [hx], hx2⟩
    · rintro ⟨xs, hx, hf⟩
      have e : xs = xs.take k ++ [xs[k]] := by
        rw [List.take_append_getElem (by omega), List.take_of_length_le (by omega)]
      rw [e] at hf
      exact ⟨xs.take k, by simp; omega, (taken_sem l3 (by simp; omega)).mp ⟨_, hf⟩⟩
theorem goodSt_of {rs : List Row} {m kt : Nat} {t : Rat} (hm : m ≤ 2) (hr : ∀ r ∈ rs, RowZ m 3 6 r) (hl : rs.length ≤ 10) (hk : kt ≤ 100) : GoodSt kt t m rs := by
  have hm' : m = 0 ∨ m = 1 ∨ m = 2 := by omega
  rcases hm' with rfl | rfl | rfl
  · exact ⟨by omega, 3, 6, hr, by decide, by omega⟩
  · have z : RowsZ 0 3 6 rs := ⟨hr, by omega, by decide, by decide, by decide⟩
    obtain ⟨t1, t2⟩ := taken_rows (t := t) z
    have q : rs.length * rs.length ≤ 10 * 10 := Nat.mul_le_mul hl hl
    exact ⟨3, 6, z, by decide, by omega, Nat.le_trans t2 (by omega), 2 * 3, 2 * 6 + 3 + 3, t1, by decide, by omega⟩
  · have z : RowsZ 1 3 6 rs := ⟨hr, by omega, by decide, by decide, by decide⟩
    obtain ⟨t1, t2⟩ := taken_rows (t := t) z
    have q : rs.length * rs.length ≤ 10 * 10 := Nat.mul_le_mul hl hl
    have z1 : RowsZ 0 6 18 (takenR rs 1 t) := ⟨t1, by omega, by decide, by decide, by decide⟩
    obtain ⟨t3, t4⟩ := taken_rows (t := t) z1
    have q2 : (takenR rs 1 t).length * (takenR rs 1 t).length ≤ 110 * 110 := Nat.mul_le_mul (by omega) (by omega)
    exact ⟨3, 6, z, by decide, by omega, 6, 18, z1, by decide, by omega, Nat.le_trans t4 (by omega), 2 * 6, 2 * 18 + 6 + 3, t3, by decide, by omega⟩
end W

set_option Elab.async false
set_option linter.all false
set_option maxRecDepth 100000
set_option autoImplicit false
namespace W
open PySem PySem.Spec PyProof.Rows L2 VL
noncomputable def b__law_numeric_1 : Ev → Out := sApp 2 (e1 tupD (eCons (e2 addD (eLst (eComp [6] (e1 seqD (eVar 3)) (gSet 6) (cst true) (eCall m__law_value (eCons (eVar 6) (eCons (eVar 1) (cst [])))))) (eLst (e1 lim (eCons (eCall m__law_value (eCons (eVar 4) (eCons (eVar 1) (cst [])))) (cst []))))) (eCons (eVar 5) (cst []))))
noncomputable def c__law_numeric : Ev → Out := sSeq (sSetO 2 (e1 lim (cst []))) (sSeq (sFor (e1 seqD (eVar 0)) (gTupD 3 (gsCons (gSet 3) (gsCons (gSet 4) (gsCons (gSet 5) (gsNil))))) b__law_numeric_1) (sRetV 2))
noncomputable def m__law_numeric : List D → R SD := runD 2 7 c__law_numeric
noncomputable def c__law_sub : Ev → Out := sRet (eCall m__law_add_k40 (eCons (eVar 0) (eCons (e1 tupD (eCons (e1 negD (e2 ixD (eOwn 1) (cst (.int 0)))) (eCons (e2 ixD (eOwn 1) (cst (.int 1))) (cst [])))) (cst []))))
noncomputable def m__law_sub : List D → R SD := runD 2 2 c__law_sub
noncomputable def c__law_row_less : Ev → Out := sRet (e1 tupD (eCons (eLst (eComp [5] (e1 range1D (eCons (e1 lenD (eCons (eOwn 0) (cst []))) (cst []))) (gSet 5) (cst true) (eCall m__law_sub (eCons (eCall m__law_mul (eCons (e2 ixD (eOwn 0) (eOwn 5)) (eCons (eVar 1) (cst [])))) (eCons (eCall m__law_mul (eCons (e2 ixD (eOwn 2) (eOwn 5)) (eCons (eVar 3) (cst [])))) (cst [])))))) (eCons (eVar 4) (cst []))))
noncomputable def m__law_row_less : List D → R SD := runD 5 6 c__law_row_less
noncomputable def b__law_taken_1 : Ev → Out := sIf (e1 bOf (e2 neD (eOwn 7) (eOwn 1))) (sApp 6 (eCall m__law_row_less (eCons (e2 ixD (e2 ixD (eOwn 0) (eOwn 7)) (cst (.int 0))) (eCons (eVar 4) (eCons (eVar 2) (eCons (e2 ixD (e2 ixD (e2 ixD (eOwn 0) (eOwn 7)) (cst (.int 0))) (cst (.int 0))) (eCons (e2 ixD (e2 ixD (eOwn 0) (eOwn 7)) (cst (.int 1))) (cst [])))))))) (sNil)
noncomputable def b__law_taken_2 : Ev → Out := sSeq (sAsg (e2 ixD (eOwn 0) (eOwn 1)) (gTupD 2 (gsCons (gSet 2) (gsCons (gSet 3) (gsNil))))) (sIf (eAnd (e1 bOf (e2 eqD (eOwn 3) (cst (.str "=")))) (e1 bOf (e2 neD (e2 ixD (eOwn 2) (cst (.int 0))) (e1 tupD (eCons (cst (.int 0)) (eCons (cst (.int 1)) (cst []))))))) (sSeq (sSet 4 (e2 ixD (eOwn 2) (cst (.int 0)))) (sSeq (sIf (e1 bOf (e2 ltD (e2 ixD (eOwn 4) (cst (.int 0))) (cst (.int 0)))) (sSeq (sSet 4 (e1 tupD (eCons (e1 negD (e2 ixD (eOwn 4) (cst (.int 0)))) (eCons (e2 ixD (eOwn 4) (cst (.int 1))) (cst []))))) (sSeq (sSetO 2 (eComp [5] (e1 seqD (eVar 2)) (gSet 5) (cst true) (e1 tupD (eCons (e1 negD (e2 ixD (eOwn 5) (cst (.int 0)))) (eCons (e2 ixD (eOwn 5) (cst (.int 1))) (cst [])))))) (sFz 2 (sNil)))) (sNil)) (sSeq (sSetO 6 (e1 lim (cst []))) (sSeq (sFor (e1 range1D (eCons (e1 lenD (eCons (eOwn 0) (cst []))) (cst []))) (gSet 7) b__law_taken_1) (sFz 6 (sRetO (eComp [8, 9] (e1 seqD (eVar 6)) (gTupD 2 (gsCons (gSet 8) (gsCons (gSet 9) (gsNil)))) (cst true) (e1 tupD (eCons (e3 sliceD (eOwn 8) (e1 intOf (cst (.int 1))) (pNo)) (eCons (eVar 9) (cst []))))))))))) (sNil))
noncomputable def b__law_taken_3 : Ev → Out := sIf (eAnd (e1 bOf (e2 gtD (e2 ixD (e2 ixD (eOwn 10) (cst (.int 0))) (cst (.int 0))) (cst (.int 0)))) (e1 bOf (e2 ltD (e2 ixD (e2 ixD (eOwn 11) (cst (.int 0))) (cst (.int 0))) (cst (.int 0))))) (sSeq (sSet 3 (cst (.str "<="))) (sSeq (sIf (eOr (e1 bOf (e2 eqD (eOwn 5) (cst (.str "<")))) (e1 bOf (e2 eqD (eOwn 9) (cst (.str "<"))))) (sSet 3 (cst (.str "<"))) (sNil)) (sApp 6 (e1 tupD (eCons (e3 sliceD (e2 ixD (eCall m__law_row_less (eCons (eVar 11) (eCons (e2 ixD (eOwn 10) (cst (.int 0))) (eCons (eVar 10) (eCons (e2 ixD (eOwn 11) (cst (.int 0))) (eCons (eVar 3) (cst []))))))) (cst (.int 0))) (e1 intOf (cst (.int 1))) (pNo)) (eCons (eVar 3) (cst []))))))) (sNil)
noncomputable def b__law_taken_4 : Ev → Out := sFor (e1 seqD (eVar 0)) (gTupD 2 (gsCons (gSet 11) (gsCons (gSet 9) (gsNil)))) b__law_taken_3
noncomputable def c__law_taken : Ev → Out := sSeq (sFor (e1 range1D (eCons (e1 lenD (eCons (eOwn 0) (cst []))) (cst []))) (gSet 1) b__law_taken_2) (sSeq (sSetO 6 (eComp [8, 3] (e1 seqD (eVar 0)) (gTupD 2 (gsCons (gSet 8) (gsCons (gSet 3) (gsNil)))) (e1 bOf (e2 eqD (e2 ixD (eOwn 8) (cst (.int 0))) (e1 tupD (eCons (cst (.int 0)) (eCons (cst (.int 1)) (cst [])))))) (e1 tupD (eCons (e3 sliceD (eOwn 8) (e1 intOf (cst (.int 1))) (pNo)) (eCons (eVar 3) (cst [])))))) (sSeq (sFor (e1 seqD (eVar 0)) (gTupD 2 (gsCons (gSet 10) (gsCons (gSet 5) (gsNil)))) b__law_taken_4) (sRetV 6)))
noncomputable def m__law_taken : List D → R SD := runD 1 12 c__law_taken
noncomputable def b__law_block_1 : Ev → Out := sSet 3 (eCall m__law_taken (eCons (eVar 3) (cst [])))
noncomputable def c__law_block : Ev → Out := sSeq (sSet 3 (eCall m__law_numeric (eCons (eVar 1) (eCons (eVar 2) (cst []))))) (sSeq (sFor (e1 range1D (eCons (eOwn 0) (cst []))) (gSet 4) b__law_block_1) (sRet (e1 allD (eCons (eLst (eComp [5, 6] (e1 seqD (eVar 3)) (gTupD 2 (gsCons (gSet 5) (gsCons (gSet 6) (gsNil)))) (cst true) (eCall m__law_fits (eCons (eVar 6) (eCons (e2 ixD (e2 ixD (eOwn 5) (cst (.int 0))) (cst (.int 0))) (cst [])))))) (cst [])))))
noncomputable def m__law_block : List D → R SD := runD 3 7 c__law_block
/-! ### numbers taken out of rows of numbers: the law's functions -/
structure NRow where
  c : List Rat
  s : Str
def nD (n : NRow) : D := .tuple [.list (n.c.map rD), .str n.s]
def nrow0 : NRow := ⟨[], "="⟩
def nAt (rs : List NRow) (i : Nat) : NRow := rs.getD i nrow0
theorem nAt_get {rs : List NRow} {i : Nat} (h : i < rs.length) : rs[i]? = some (nAt rs i) := by
  unfold nAt
  rw [List.getD_eq_getElem?_getD, List.getElem?_eq_getElem h]; rfl
theorem nAt_mem {rs : List NRow} {i : Nat} (h : i < rs.length) : nAt rs i ∈ rs := List.mem_of_getElem? (nAt_get h)
theorem nAt_of {rs : List NRow} {n : NRow} (h : n ∈ rs) : ∃ i, i < rs.length ∧ nAt rs i = n := by
  obtain ⟨i, hi, er⟩ := List.mem_iff_getElem.mp h
  refine ⟨i, hi, ?_⟩
  have := nAt_get hi
  rw [List.getElem?_eq_getElem hi, er] at this
  exact (Option.some.inj this).symm
def hdN (n : NRow) : Rat := n.c.headD 0
def tlN (n : NRow) : NRow := ⟨n.c.tail, n.s⟩
def lessN (a : List Rat) (f : Rat) (b : List Rat) (g : Rat) : List Rat := List.zipWith (fun x y => x * f - y * g) a b
def nv : List Rat → List Rat → Rat
  | c :: cs, x :: xs => c * x + nv cs xs
  | c :: _, [] => c
  | [], _ => 0
theorem nv_less (f g : Rat) : ∀ (a b xs : List Rat), a.length = b.length → nv (lessN a f b g) xs = nv a xs * f - nv b xs * g
  | [], [], xs, _ => by simp [lessN, nv]; grind
  | [], _ :: _, _, h => by simp at h
  | _ :: _, [], _, h => by simp at h
  | a :: as, b :: bs, [], _ => by simp [lessN, nv]
  | a :: as, b :: bs, x :: xs, h => by
    have ih := nv_less f g as bs xs (by simpa using h)
    simp only [lessN, List.zipWith_cons_cons, nv]
    unfold lessN at ih
    rw [ih]; grind
theorem nv_neg : ∀ (a xs : List Rat), nv (a.map (- ·)) xs = - nv a xs
  | [], xs => by simp [nv]
  | a :: as, [] => by simp [nv]
  | a :: as, x :: xs => by
    have ih := nv_neg as xs
    simp only [List.map_cons, nv, ih]; grind
def sgnR (h : Rat) : Rat := if h < 0 then -1 else 1
def absH (h : Rat) : Rat := if h < 0 then -h else h
def headL (n : NRow) : List Rat := if hdN n < 0 then n.c.map (- ·) else n.c
def lUpd (rs : List NRow) (a i : Nat) : List NRow := if i = a then [] else [⟨lessN (nAt rs i).c (absH (hdN (nAt rs a))) (headL (nAt rs a)) (hdN (nAt rs i)), (nAt rs i).s⟩]
def lUsed (rs : List NRow) (a : Nat) : List NRow := ((List.range rs.length).flatMap (lUpd rs a)).map tlN
def lZero (rs : List NRow) (i : Nat) : List NRow := if hdN (nAt rs i) = 0 then [tlN (nAt rs i)] else []
def lPair (rs : List NRow) (i j : Nat) : List NRow := if 0 < hdN (nAt rs i) ∧ hdN (nAt rs j) < 0 then [⟨(lessN (nAt rs j).c (hdN (nAt rs i)) (nAt rs i).c (hdN (nAt rs j))).tail, joinS (nAt rs i).s (nAt rs j).s⟩] else []
def lPaired (rs : List NRow) : List NRow := (List.range rs.length).flatMap (lZero rs) ++ (List.range rs.length).flatMap fun i => (List.range rs.length).flatMap fun j => lPair rs i j
def lIsEq (n : NRow) : Bool := decide (n.s = "=") && decide (hdN n ≠ 0)
def lTaken (rs : List NRow) : List NRow := match rs.findIdx? lIsEq with
  | some i => lUsed rs i
  | none => lPaired rs
def lSat (n : NRow) (xs : List Rat) : Bool := fitG (sgOf n.s) (nv n.c xs)
def lFul (rs : List NRow) (xs : List Rat) : Bool := rs.all fun n => lSat n xs
structure NOk (l : Nat) (n : NRow) : Prop where
  len : n.c.length = l + 1
  s : n.s = "<=" ∨ n.s = "<" ∨ n.s = "="
theorem NOk.cons {l : Nat} {n : NRow} (h : NOk l n) : n.c = hdN n :: (tlN n).c := by
  have := h.len
  unfold hdN tlN
  cases hc : n.c with
  | nil => rw [hc] at this; simp at this
  | cons a b => rfl
def toN1 (xs : List Rat) (n : NRow) : R1 := ⟨hdN n, nv (tlN n).c xs, sgOf n.s⟩
theorem n1_ful {rs : List NRow} {l : Nat} {xs : List Rat} {x : Rat} (h : ∀ n ∈ rs, NOk l n) : S1 (rs.map (toN1 xs)) x ↔ lFul rs (x :: xs) = true := by
  unfold lFul S1
  rw [List.all_eq_true]
  have key : ∀ n ∈ rs, lSat n (x :: xs) = fitG (toN1 xs n).s ((toN1 xs n).a * x + (toN1 xs n).b) := fun n hn => by
    unfold lSat toN1
    rw [(h n hn).cons]; rfl
  constructor
  · intro g n hn
    rw [key n hn]; exact g _ (List.mem_map.mpr ⟨n, hn, rfl⟩)
  · intro g q hq
    obtain ⟨n, hn, rfl⟩ := List.mem_map.mp hq
    rw [← key n hn]; exact g n hn
theorem tail_less (f g : Rat) (a b : List Rat) : (lessN a f b g).tail = lessN a.tail f b.tail g := by
  unfold lessN
  cases a with
  | nil => simp
  | cons x a => cases b with
    | nil => simp
    | cons y b => rfl
theorem headL_tail (n : NRow) : (headL n).tail = if hdN n < 0 then n.c.tail.map (- ·) else n.c.tail := by
  unfold headL; split
  · rw [List.map_tail]
  · rfl
theorem headL_len (n : NRow) : (headL n).length = n.c.length := by unfold headL; split <;> simp
theorem ltaken_sem {rs : List NRow} {l : Nat} {xs : List Rat} (h : ∀ n ∈ rs, NOk l n) : (∃ x, lFul rs (x :: xs) = true) ↔ lFul (lTaken rs) xs = true := by
  have e1 : (∃ x, lFul rs (x :: xs) = true) ↔ ∃ x, S1 (rs.map (toN1 xs)) x := exists_congr fun x => (n1_ful h).symm
  rw [e1]
  unfold lTaken
  rcases hf : rs.findIdx? lIsEq with _ | a
  · have hn : ∀ n ∈ rs, lIsEq n = false := by simpa using List.findIdx?_eq_none_iff.mp hf
    have hs : ∀ r ∈ rs.map (toN1 xs), r.a ≠ 0 → r.s ≠ .eq := fun q hq ha hs => by
      obtain ⟨n, hr, rfl⟩ := List.mem_map.mp hq
      have z := hn n hr
      have e := (sgOf_eq (h n hr).s).1.mp hs
      have g : hdN n ≠ 0 := ha
      simp [lIsEq, e, g] at z
    rw [fm_pair hs]
    simp only
    unfold lPaired lFul
    rw [List.all_append, Bool.and_eq_true, all_flat (α := Unit), all_flat (α := Unit)]
    unfold Pairs
    refine and_congr ?_ ?_
    · constructor
      · intro g i hi b hb
        unfold lZero at hb
        split at hb
        · rename_i z
          simp at hb; subst hb
          exact g _ (List.mem_map.mpr ⟨_, nAt_mem hi, rfl⟩) z
        · simp at hb
      · intro g q hq ha
        obtain ⟨n, hr, rfl⟩ := List.mem_map.mp hq
        obtain ⟨i, hi, rfl⟩ := nAt_of hr
        exact g i hi (tlN (nAt rs i)) (by unfold lZero; rw [if_pos (show hdN (nAt rs i) = 0 from ha)]; simp)
    · have one : ∀ {hi lo : NRow}, hi ∈ rs → lo ∈ rs → lSat ⟨(lessN lo.c (hdN hi) hi.c (hdN lo)).tail, joinS hi.s lo.s⟩ xs = fitG (SgJ (sgOf hi.s) (sgOf lo.s)) (nv (tlN lo).c xs * hdN hi - nv (tlN hi).c xs * hdN lo) := by
        intro hi lo m1 m2
        unfold lSat
        simp only
        rw [tail_less, nv_less _ _ _ _ _ (by simp [(h hi m1).len, (h lo m2).len]), sgOf_join (h hi m1).s (h lo m2).s]; rfl
      constructor
      · intro g i hi b hb
        rw [List.mem_flatMap] at hb
        obtain ⟨j, hj, hb⟩ := hb
        have hj := List.mem_range.mp hj
        unfold lPair at hb
        split at hb
        · rename_i z
          simp at hb; subst hb
          rw [one (nAt_mem hi) (nAt_mem hj)]
          exact g _ (List.mem_map.mpr ⟨_, nAt_mem hi, rfl⟩) _ (List.mem_map.mpr ⟨_, nAt_mem hj, rfl⟩) z.1 z.2
        · simp at hb
      · intro g q hq w hw ha hb
        obtain ⟨r, hr, rfl⟩ := List.mem_map.mp hq
        obtain ⟨s, hs', rfl⟩ := List.mem_map.mp hw
        obtain ⟨i, hi, rfl⟩ := nAt_of hr
        obtain ⟨j, hj, rfl⟩ := nAt_of hs'
        have := g i hi _ (List.mem_flatMap.mpr ⟨j, List.mem_range.mpr hj, by unfold lPair; rw [if_pos (show 0 < hdN (nAt rs i) ∧ hdN (nAt rs j) < 0 from ⟨ha, hb⟩)]; exact List.mem_singleton.mpr rfl⟩)
        rw [one hr hs'] at this
        exact this
  · obtain ⟨ha, hp, -⟩ := List.findIdx?_eq_some_iff_getElem.mp hf
    have er : nAt rs a = rs[a] := by
      have := nAt_get ha
      rw [List.getElem?_eq_getElem ha] at this
      exact (Option.some.inj this).symm
    rw [← er] at hp
    have hp2 : (nAt rs a).s = "=" ∧ hdN (nAt rs a) ≠ 0 := by simpa [lIsEq] using hp
    have ma := nAt_mem ha
    have se : sgOf (nAt rs a).s = .eq := (sgOf_eq (h _ ma).s).1.mpr hp2.1
    rw [fm_eq (r0 := toN1 xs (nAt rs a)) (List.mem_map.mpr ⟨_, ma, rfl⟩) se hp2.2]
    simp only
    unfold lUsed lFul
    rw [List.all_map, all_flat (α := Unit)]
    have hab : 0 < absH (hdN (nAt rs a)) := by
      have := hp2.2
      unfold absH; split <;> grind
    have one : ∀ {n : NRow}, n ∈ rs → lSat (tlN ⟨lessN n.c (absH (hdN (nAt rs a))) (headL (nAt rs a)) (hdN n), n.s⟩) xs
        = fitG (sgOf n.s) (nv (tlN n).c xs - hdN n * (nv (tlN (nAt rs a)).c xs / hdN (nAt rs a))) := by
      intro n hn
      unfold lSat
      show fitG (sgOf n.s) (nv (lessN n.c (absH (hdN (nAt rs a))) (headL (nAt rs a)) (hdN n)).tail xs) = _
      rw [tail_less, nv_less _ _ _ _ _ (by simp [headL_len, (h n hn).len, (h _ ma).len]), headL_tail]
      rw [← fitG_pos (v := nv (tlN n).c xs - hdN n * (nv (tlN (nAt rs a)).c xs / hdN (nAt rs a))) hab (sgOf n.s)]
      congr 1
      have h0 := hp2.2
      show nv (tlN n).c xs * _ - _ = _
      unfold absH
      split
      · rw [nv_neg]
        show _ - -nv (tlN (nAt rs a)).c xs * hdN n = _
        grind
      · show _ - nv (tlN (nAt rs a)).c xs * hdN n = _
        grind
    constructor
    · intro g i hi b hb
      unfold lUpd at hb
      have gi := g _ (List.mem_map.mpr ⟨_, nAt_mem hi, rfl⟩)
      split at hb
      · simp at hb
      · simp at hb; subst hb
        show lSat (tlN _) xs = true
        rw [one (nAt_mem hi)]
        exact gi
    · intro g q hq
      obtain ⟨n, hr, rfl⟩ := List.mem_map.mp hq
      obtain ⟨i, hi, rfl⟩ := nAt_of hr
      by_cases ei : i = a
      · subst ei
        show fitG (sgOf (nAt rs i).s) (nv (tlN (nAt rs i)).c xs - hdN (nAt rs i) * (nv (tlN (nAt rs i)).c xs / hdN (nAt rs i))) = true
        have : nv (tlN (nAt rs i)).c xs - hdN (nAt rs i) * (nv (tlN (nAt rs i)).c xs / hdN (nAt rs i)) = 0 := by
          have := hp2.2
          grind
        rw [this, se]; rfl
      · have := g i hi _ (by unfold lUpd; rw [if_neg ei]; exact List.mem_singleton.mpr rfl)
        have this : lSat (tlN _) xs = true := this
        rw [one (nAt_mem hi)] at this
        exact this
/-! the functions -/
theorem Rk.neg {k : Nat} {r : Rat} (h : Rk k r) : Rk k (-r) := ⟨nm_tQ _, by
  show Sz k (-r).num
  rw [Rat.neg_num]; exact h.s1.neg, by
  show Sz k ((-r).den : Int)
  rw [Rat.neg_den]; exact h.s2⟩
theorem neg_fold (r : Rat) : PyData.tuple [.int (-r.num), .int (r.den : Int)] = rD (-r) := by
  show _ = PyData.tuple [.int (-r).num, .int ((-r).den : Int)]
  rw [Rat.neg_num, Rat.neg_den]
theorem lsub_ok {r s : Rat} {k l : Nat} (h : Rk k r) (h' : Rk l s) (e : k + l ≤ 1900) : m__law_sub [rD r, rD s] = .ok (.sh (rD (r - s))) := by
  have a := ladd2_r h h'.neg e
  rw [← Rat.sub_eq_add_neg] at a
  simp [m__law_sub, c__law_sub, neg_fold, a]
theorem rng0_map (n : Nat) : rngL 0 1 n = (List.range n).map fun (i : Nat) => PyData.int (i : Int) := by
  unfold rngL
  refine List.map_congr_left fun i _ => ?_
  congr 1; omega
theorem less_map (a b : List Rat) (f g : Rat) (h : a.length = b.length) : (lessN a f b g).map rD = (List.range a.length).map fun i => rD (a.getD i 0 * f - b.getD i 0 * g) := by
  refine List.ext_getElem (by simp [lessN, h]) fun i h1 h2 => ?_
  have h3 : i < a.length := by simpa using h2
  have h4 : i < b.length := by omega
  simp [lessN, h3, h4]
theorem lrow_less_ok {a b : List Rat} {f g : Rat} {k l : Nat} {s : Str} (hl : a.length = b.length) (hn : a.length ≤ 100) (ha : ∀ x ∈ a, Rk k x) (hb : ∀ x ∈ b, Rk k x) (hf : Rk l f) (hg : Rk l g) (hz : 2 * (k + l) ≤ 1900) :
    m__law_row_less [.list (a.map rD), rD f, .list (b.map rD), rD g, .str s] = .ok (.sh (nD ⟨lessN a f b g, s⟩)) := by
  have hr := range1_ok (x := (a.length : Int)) (by omega) (by omega)
  have hs : a.length ≤ sizeLine := slB (by omega)
  have hc : compR (compS [5] (gSet 5) (cst true) (eCall m__law_sub (eCons (eCall m__law_mul (eCons (e2 ixD (eOwn 0) (eOwn 5)) (eCons (eVar 1) (cst [])))) (eCons (eCall m__law_mul (eCons (e2 ixD (eOwn 2) (eOwn 5)) (eCons (eVar 3) (cst [])))) (cst [])))) [.sh (.list (a.map rD)), .sh (rD f), .sh (.list (b.map rD)), .sh (rD g), .sh (.str s), .no]) (rngL 0 1 a.length) = .ok ((lessN a f b g).map rD) := by
    rw [rng0_map, less_map a b f g hl]
    refine compR_map' fun i hi => ?_
    have hi := List.mem_range.mp hi
    have hi2 : i < b.length := by omega
    have i1 : ixD (.list (a.map rD)) (.int (i : Int)) = some (rD (a.getD i 0)) := by simp [hi]
    have i2 : ixD (.list (b.map rD)) (.int (i : Int)) = some (rD (b.getD i 0)) := by simp [hi2]
    have q1 : Rk k (a.getD i 0) := ha _ (by
      rw [List.getD_eq_getElem?_getD, List.getElem?_eq_getElem hi]; exact List.getElem_mem hi)
    have q2 : Rk k (b.getD i 0) := hb _ (by
      rw [List.getD_eq_getElem?_getD, List.getElem?_eq_getElem hi2]; exact List.getElem_mem hi2)
    have m1 := lmul2_r q1 hf (by omega)
    have m2 := lmul2_r q2 hg (by omega)
    have m3 := lsub_ok (q1.mul hf) (q2.mul hg) (by omega)
    simp [compS, i1, i2, m1, m2, m3, -r_ix_l, -List.getD_eq_getElem?_getD]
  simp [m__law_row_less, c__law_row_less, hr, hs, hc, nD, rngL_length]
structure NZ (l k : Nat) (n : NRow) : Prop where
  len : n.c.length = l + 1
  sz : ∀ x ∈ n.c, Rk k x
  s : n.s = "<=" ∨ n.s = "<" ∨ n.s = "="
theorem NZ.ok {l k : Nat} {n : NRow} (h : NZ l k n) : NOk l n := ⟨h.len, h.s⟩
theorem NZ.hd {l k : Nat} {n : NRow} (h : NZ l k n) : Rk k (hdN n) := h.sz _ (by rw [h.ok.cons]; simp)
theorem NZ.ix {l k : Nat} {n : NRow} (h : NZ l k n) : ixD (.list (n.c.map rD)) (.int 0) = some (rD (hdN n)) := by
  rw [h.ok.cons]; simp
theorem NZ.tl {l k : Nat} {n : NRow} (h : NZ (l + 1) k n) : NZ l k (tlN n) := ⟨by unfold tlN; simp [h.len], fun x hx => h.sz x (List.mem_of_mem_tail hx), h.s⟩
theorem cut_tail {α : Type} (F : α → D) (l : List α) (h : 1 ≤ l.length) : cutL (l.map F) (some 1) none = l.tail.map F := by
  rw [cut_from _ 1 1 rfl (by simpa using h)]
  cases l with
  | nil => rfl
  | cons a l => rfl
theorem NZ.cut {l k : Nat} {n : NRow} (h : NZ l k n) : sliceD (.list (n.c.map rD)) (some 1) none = some (.list ((tlN n).c.map rD)) := by
  rw [r_slice, cut_tail _ _ (by rw [h.len]; omega)]; rfl
theorem nix0 (n : NRow) : ixD (nD n) (.int 0) = some (.list (n.c.map rD)) := by simp [nD]
theorem nix1 (n : NRow) : ixD (nD n) (.int 1) = some (.str n.s) := by simp [nD]
theorem mem_lessN {a b : List Rat} {f g x : Rat} (h : x ∈ lessN a f b g) : ∃ y z, y ∈ a ∧ z ∈ b ∧ x = y * f - z * g := by
  unfold lessN at h
  obtain ⟨i, hi, e⟩ := List.mem_iff_getElem.mp h
  rw [List.getElem_zipWith] at e
  simp at hi
  exact ⟨_, _, List.getElem_mem (by omega), List.getElem_mem (by omega), e.symm⟩
theorem NZ.less {l k j : Nat} {a b : List Rat} {f g : Rat} {s : Str} (ha : a.length = l + 1) (hb : b.length = l + 1) (sa : ∀ x ∈ a, Rk k x) (sb : ∀ x ∈ b, Rk k x) (hf : Rk j f) (hg : Rk j g) (hs : s = "<=" ∨ s = "<" ∨ s = "=") : NZ l (2 * (k + j) + 1) ⟨lessN a f b g, s⟩ :=
  ⟨by simp [lessN, ha, hb], fun x hx => by
    obtain ⟨y, z, hy, hz, rfl⟩ := mem_lessN hx
    rw [Rat.sub_eq_add_neg]
    exact (((sa y hy).mul hf).add ((sb z hz).mul hg).neg).mono (by omega), hs⟩
theorem NZ.mono {l k j : Nat} {n : NRow} (h : NZ l k n) (e : k ≤ j) : NZ l j n := ⟨h.len, fun x hx => (h.sz x hx).mono e, h.s⟩
structure NsZ (l k : Nat) (rs : List NRow) : Prop where
  all : ∀ n ∈ rs, NZ (l + 1) k n
  len : rs.length ≤ 1000
  hl : l ≤ 10
  hk : 4 * k ≤ 1900
theorem NsZ.at {l k i : Nat} {rs : List NRow} (h : NsZ l k rs) (hi : i < rs.length) : NZ (l + 1) k (nAt rs i) := h.all _ (nAt_mem hi)
theorem headL_rk {l k : Nat} {n : NRow} (h : NZ l k n) : (∀ x ∈ headL n, Rk k x) ∧ Rk k (absH (hdN n)) := by
  constructor
  · intro x hx
    unfold headL at hx
    split at hx
    · obtain ⟨y, hy, rfl⟩ := List.mem_map.mp hx
      exact (h.sz y hy).neg
    · exact h.sz x hx
  · unfold absH
    split
    · exact h.hd.neg
    · exact h.hd
theorem lUpd_len (rs : List NRow) (a i : Nat) : (lUpd rs a i).length ≤ 1 := by unfold lUpd; split <;> simp
theorem lZero_len (rs : List NRow) (i : Nat) : (lZero rs i).length ≤ 1 := by unfold lZero; split <;> simp
theorem lPair_len (rs : List NRow) (i j : Nat) : (lPair rs i j).length ≤ 1 := by unfold lPair; split <;> simp
theorem lused_step {rs : List NRow} {l k a i : Nat} (h : NsZ l k rs) (ha : a < rs.length) (hi : i < rs.length) {acc : List NRow} (hacc : acc.length ≤ 1000000) (w3 w5 w7 w8 w9 w10 w11 : SD) :
    gTo (gSet 7) b__law_taken_1 (.int (i : Int)) [.sh (.list (rs.map nD)), .sh (.int (a : Int)), .sh (.list ((headL (nAt rs a)).map rD)), w3, .sh (rD (absH (hdN (nAt rs a)))), w5, .ow (acc.map nD), w7, w8, w9, w10, w11]
      = .nx [.sh (.list (rs.map nD)), .sh (.int (a : Int)), .sh (.list ((headL (nAt rs a)).map rD)), w3, .sh (rD (absH (hdN (nAt rs a)))), w5, .ow ((acc ++ lUpd rs a i).map nD), .sh (.int (i : Int)), w8, w9, w10, w11] := by
  have ri : ixD (.list (rs.map nD)) (.int (i : Int)) = some (nD (nAt rs i)) := ixM (nAt_get hi)
  have hl : acc.length < sizeLine := Nat.lt_of_le_of_lt hacc (by decide)
  by_cases q : i = a
  · subst q
    have e : lUpd rs i i = [] := by unfold lUpd; rw [if_pos rfl]
    rw [e]
    simp [b__law_taken_1]
  · have e : lUpd rs a i = [⟨lessN (nAt rs i).c (absH (hdN (nAt rs a))) (headL (nAt rs a)) (hdN (nAt rs i)), (nAt rs i).s⟩] := by unfold lUpd; rw [if_neg q]
    rw [e]
    have zi := h.at hi
    have za := h.at ha
    have qi : ¬ ((i : Int) = (a : Int)) := by omega
    have := h.hk
    have := h.hl
    have rl := lrow_less_ok (s := (nAt rs i).s) (a := (nAt rs i).c) (b := headL (nAt rs a)) (by rw [headL_len, zi.len, za.len]) (by rw [zi.len]; omega) zi.sz (headL_rk za).1 (headL_rk za).2 zi.hd (by omega)
    simp [b__law_taken_1, qi, ri, nix0, nix1, zi.ix, rl, hl, -r_ix_l, -r_ix_t]
theorem lused_ok' {rs : List NRow} {l k a : Nat} (h : NsZ l k rs) (ha : a < rs.length) (hs : (nAt rs a).s = "=") (h0 : hdN (nAt rs a) ≠ 0) (w1 w2 w3 w4 w5 w6 w7 w8 w9 w10 w11 : SD) :
    gTo (gSet 1) b__law_taken_2 (.int (a : Int)) [.sh (.list (rs.map nD)), w1, w2, w3, w4, w5, w6, w7, w8, w9, w10, w11] = .rt (.ow ((lUsed rs a).map nD)) := by
  have za := h.at ha
  have ra : ixD (.list (rs.map nD)) (.int (a : Int)) = some (nD (nAt rs a)) := ixM (nAt_get ha)
  have hl := h.hl
  have hn := h.len
  have l1 : rs.length ≤ sizeLine := slB (by omega)
  have hr := range1_ok (x := (rs.length : Int)) (by omega) (by omega)
  have hlen : lenD [.list (rs.map nD)] = some (.int (rs.length : Int)) := by rw [r_len_l, List.length_map]
  have q0 : (.tuple [.int 0, .int 1] : D) = rD 0 := rfl
  have lp : ∀ b5 : SD, ∃ y7, forO (gTo (gSet 7) b__law_taken_1) (rngL 0 1 rs.length) [.sh (.list (rs.map nD)), .sh (.int (a : Int)), .sh (.list ((headL (nAt rs a)).map rD)), .sh (.str "="), .sh (rD (absH (hdN (nAt rs a)))), b5, .ow [], w7, w8, w9, w10, w11]
      = .nx [.sh (.list (rs.map nD)), .sh (.int (a : Int)), .sh (.list ((headL (nAt rs a)).map rD)), .sh (.str "="), .sh (rD (absH (hdN (nAt rs a)))), b5, .ow (((List.range rs.length).flatMap (lUpd rs a)).map nD), y7, w8, w9, w10, w11] := fun b5 => by
    obtain ⟨ρ', e, y7, rfl⟩ := forO_inv (F := gTo (gSet 7) b__law_taken_1) (l := rngL 0 1 rs.length)
      (fun i ρ => ∃ y7, ρ = [.sh (.list (rs.map nD)), .sh (.int (a : Int)), .sh (.list ((headL (nAt rs a)).map rD)), .sh (.str "="), .sh (rD (absH (hdN (nAt rs a)))), b5, .ow (((List.range i).flatMap (lUpd rs a)).map nD), y7, w8, w9, w10, w11])
      (ρ := [.sh (.list (rs.map nD)), .sh (.int (a : Int)), .sh (.list ((headL (nAt rs a)).map rD)), .sh (.str "="), .sh (rD (absH (hdN (nAt rs a)))), b5, .ow [], w7, w8, w9, w10, w11]) ⟨_, rfl⟩
      (fun i d ρ hd hi => by
        obtain ⟨hil, rfl⟩ := rng0_get hd
        obtain ⟨y7, rfl⟩ := hi
        have g := flat_len (lUpd rs a) 1 (lUpd_len rs a) i
        have st := lused_step h ha hil (acc := (List.range i).flatMap (lUpd rs a)) (by omega) (.sh (.str "=")) b5 y7 w8 w9 w10 w11
        exact ⟨_, .inl st, _, by rw [range_flat]⟩)
    rw [rngL_length] at e
    exact ⟨y7, e⟩
  have gl := flat_len (lUpd rs a) 1 (lUpd_len rs a) rs.length
  have sl : ((List.range rs.length).flatMap (lUpd rs a)).length ≤ sizeLine := slB (by omega)
  have fin : ∀ (ρ : Ev), ρ.length = 12 → compR (compS [8, 9] (gTupD 2 (gsCons (gSet 8) (gsCons (gSet 9) (gsNil)))) (cst true) (e1 tupD (eCons (e3 sliceD (eOwn 8) (e1 intOf (cst (.int 1))) (pNo)) (eCons (eVar 9) (cst [])))) ρ) (((List.range rs.length).flatMap (lUpd rs a)).map nD) = .ok ((lUsed rs a).map nD) := fun ρ hρ => by
    match ρ, hρ with
    | [a0, a1, a2, a3, a4, a5, a6, a7, a8, a9, a10, a11], _ =>
      unfold lUsed
      rw [List.map_map]
      refine compR_map' fun n hn => ?_
      have : 1 ≤ n.c.length := by
        obtain ⟨i, hi, g⟩ := List.mem_flatMap.mp hn
        have hi := List.mem_range.mp hi
        unfold lUpd at g
        split at g
        · simp at g
        · simp at g; subst g
          simp [lessN, headL_len, (h.at hi).len, (h.at ha).len]
      have c := cut_tail rD n.c this
      simp [compS, nD, c, tlN]
  by_cases hneg : hdN (nAt rs a) < 0
  · have hneg' : (hdN (nAt rs a)).num < 0 := rnum_neg.mpr hneg
    have eh : headL (nAt rs a) = (nAt rs a).c.map (- ·) := by unfold headL; rw [if_pos hneg]
    have ea : absH (hdN (nAt rs a)) = -hdN (nAt rs a) := by unfold absH; rw [if_pos hneg]
    have hc : ∀ (ρ : Ev), ρ.length = 12 → compR (compS [5] (gSet 5) (cst true) (e1 tupD (eCons (e1 negD (e2 ixD (eOwn 5) (cst (.int 0)))) (eCons (e2 ixD (eOwn 5) (cst (.int 1))) (cst [])))) ρ) ((nAt rs a).c.map rD) = .ok ((headL (nAt rs a)).map rD) := fun ρ hρ => by
      match ρ, hρ with
      | [a0, a1, a2, a3, a4, a5, a6, a7, a8, a9, a10, a11], _ =>
        rw [eh, List.map_map]
        exact compR_map' fun x hx => by simp [compS, neg_fold]
    have lc : (nAt rs a).c.length ≤ sizeLine := slB (by rw [za.len]; omega)
    obtain ⟨y7, e⟩ := lp w5
    rw [ea] at e
    simp [b__law_taken_2, ra, nD, hs, za.ix, q0, r_neR, h0, hneg', neg_fold, lc, hc, hlen, hr, e, sl, fin, -r_ix_l, -List.length_flatMap]
  · have hneg' : ¬ (hdN (nAt rs a)).num < 0 := fun g => hneg (rnum_neg.mp g)
    have eh : headL (nAt rs a) = (nAt rs a).c := by unfold headL; rw [if_neg hneg]
    have ea : absH (hdN (nAt rs a)) = hdN (nAt rs a) := by unfold absH; rw [if_neg hneg]
    obtain ⟨y7, e⟩ := lp w5
    rw [ea, eh] at e
    simp [b__law_taken_2, ra, nD, hs, za.ix, q0, r_neR, h0, hneg', neg_fold, hlen, hr, e, sl, fin, -r_ix_l, -List.length_flatMap]
theorem str_ne1 : ((Str.ofString "<=") = Str.ofString "<") = False := by decide +kernel
theorem lpair_step {rs : List NRow} {l k i j : Nat} (h : NsZ l k rs) (hi : i < rs.length) (hj : j < rs.length) {acc : List NRow} (hacc : acc.length ≤ 10000000) (w1 w2 w3 w4 w7 w8 w9 w11 : SD) :
    ∃ y3, gTo (gTupD 2 (gsCons (gSet 11) (gsCons (gSet 9) (gsNil)))) b__law_taken_3 (nD (nAt rs j)) [.sh (.list (rs.map nD)), w1, w2, w3, w4, .sh (.str (nAt rs i).s), .ow (acc.map nD), w7, w8, w9, .sh (.list ((nAt rs i).c.map rD)), w11]
      = .nx [.sh (.list (rs.map nD)), w1, w2, y3, w4, .sh (.str (nAt rs i).s), .ow ((acc ++ lPair rs i j).map nD), w7, w8, .sh (.str (nAt rs j).s), .sh (.list ((nAt rs i).c.map rD)), .sh (.list ((nAt rs j).c.map rD))] := by
  have zi := h.at hi
  have zj := h.at hj
  have hk := h.hk
  have hl := h.hl
  have hs : acc.length < sizeLine := Nat.lt_of_le_of_lt hacc (by decide)
  by_cases z : 0 < hdN (nAt rs i)
  · by_cases q : hdN (nAt rs j) < 0
    · have e : lPair rs i j = [⟨(lessN (nAt rs j).c (hdN (nAt rs i)) (nAt rs i).c (hdN (nAt rs j))).tail, joinS (nAt rs i).s (nAt rs j).s⟩] := by unfold lPair; rw [if_pos ⟨z, q⟩]
      rw [e]
      have rl := lrow_less_ok (s := joinS (nAt rs i).s (nAt rs j).s) (a := (nAt rs j).c) (b := (nAt rs i).c) (by rw [zi.len, zj.len]) (by rw [zj.len]; omega) zj.sz zi.sz zi.hd zj.hd (by omega)
      have ct := cut_tail rD (lessN (nAt rs j).c (hdN (nAt rs i)) (nAt rs i).c (hdN (nAt rs j))) (by simp [lessN, zi.len, zj.len])
      have z' := rnum_pos.mpr z
      have q' := rnum_neg.mpr q
      by_cases w1 : (nAt rs i).s = "<"
      · have ej : joinS (nAt rs i).s (nAt rs j).s = "<" := by unfold joinS; rw [if_pos (.inl w1)]
        rw [ej] at rl ⊢
        exact ⟨_, by simp [b__law_taken_3, zi.ix, zj.ix, z', q', w1, rl, nix0, ct, hs, nD, -r_ix_l, -Out.nx.injEq] <;> rfl⟩
      · by_cases w2 : (nAt rs j).s = "<"
        · have ej : joinS (nAt rs i).s (nAt rs j).s = "<" := by unfold joinS; rw [if_pos (.inr w2)]
          rw [ej] at rl ⊢
          exact ⟨_, by simp [b__law_taken_3, zi.ix, zj.ix, z', q', w1, w2, rl, nix0, ct, hs, nD, -r_ix_l, -Out.nx.injEq] <;> rfl⟩
        · have ej : joinS (nAt rs i).s (nAt rs j).s = "<=" := by unfold joinS; rw [if_neg (by simp [w1, w2])]
          rw [ej] at rl ⊢
          exact ⟨_, by simp [b__law_taken_3, zi.ix, zj.ix, z', q', w1, w2, rl, nix0, ct, hs, nD, -r_ix_l, -Out.nx.injEq] <;> rfl⟩
    · have e : lPair rs i j = [] := by unfold lPair; rw [if_neg fun g => q g.2]
      have z' := rnum_pos.mpr z
      have q' : ¬ (hdN (nAt rs j)).num < 0 := fun g => q (rnum_neg.mp g)
      rw [e]
      exact ⟨_, by simp [b__law_taken_3, zi.ix, zj.ix, z', q', nD, -r_ix_l, -Out.nx.injEq] <;> rfl⟩
  · have e : lPair rs i j = [] := by unfold lPair; rw [if_neg fun g => z g.1]
    have z' : ¬ 0 < (hdN (nAt rs i)).num := fun g => z (rnum_pos.mp g)
    rw [e]
    exact ⟨_, by simp [b__law_taken_3, zi.ix, zj.ix, z', nD, -r_ix_l, -Out.nx.injEq] <;> rfl⟩
theorem mapn_get {rs : List NRow} {i : Nat} {d : D} (h : (rs.map nD)[i]? = some d) : i < rs.length ∧ d = nD (nAt rs i) := by
  rw [List.getElem?_map] at h
  by_cases e : i < rs.length
  · rw [nAt_get e] at h
    exact ⟨e, (Option.some.inj h).symm⟩
  · rw [List.getElem?_eq_none (by omega)] at h
    cases h
theorem lpair_inner {rs : List NRow} {l k i : Nat} (h : NsZ l k rs) (hi : i < rs.length) {acc : List NRow} (hacc : acc.length ≤ 5000000) (w1 w2 w3 w4 w5 w7 w8 w9 w10 w11 : SD) :
    ∃ y3 y9 y11, gTo (gTupD 2 (gsCons (gSet 10) (gsCons (gSet 5) (gsNil)))) b__law_taken_4 (nD (nAt rs i)) [.sh (.list (rs.map nD)), w1, w2, w3, w4, w5, .ow (acc.map nD), w7, w8, w9, w10, w11]
      = .nx [.sh (.list (rs.map nD)), w1, w2, y3, w4, .sh (.str (nAt rs i).s), .ow ((acc ++ (List.range rs.length).flatMap fun j => lPair rs i j).map nD), w7, w8, y9, .sh (.list ((nAt rs i).c.map rD)), y11] := by
  obtain ⟨ρ', e, y3, y9, y11, rfl⟩ := forO_inv (F := gTo (gTupD 2 (gsCons (gSet 11) (gsCons (gSet 9) (gsNil)))) b__law_taken_3) (l := rs.map nD)
    (fun j ρ => ∃ y3 y9 y11, ρ = [.sh (.list (rs.map nD)), w1, w2, y3, w4, .sh (.str (nAt rs i).s), .ow ((acc ++ (List.range j).flatMap fun j => lPair rs i j).map nD), w7, w8, y9, .sh (.list ((nAt rs i).c.map rD)), y11])
    (ρ := [.sh (.list (rs.map nD)), w1, w2, w3, w4, .sh (.str (nAt rs i).s), .ow (acc.map nD), w7, w8, w9, .sh (.list ((nAt rs i).c.map rD)), w11]) ⟨_, _, _, by simp only [List.range_zero, List.flatMap_nil, List.append_nil] <;> rfl⟩
    (fun j d ρ hd hj => by
      obtain ⟨hjl, rfl⟩ := mapn_get hd
      obtain ⟨y3, y9, y11, rfl⟩ := hj
      have hl := flat_len (fun j => lPair rs i j) 1 (lPair_len rs i) j
      obtain ⟨z3, st⟩ := lpair_step h hi hjl (acc := acc ++ (List.range j).flatMap fun j => lPair rs i j) (by have := h.len; rw [List.length_append]; omega) w1 w2 y3 w4 w7 w8 y9 y11
      exact ⟨_, .inl st, z3, _, _, by rw [range_flat, List.append_assoc]⟩)
  rw [List.length_map] at e
  refine ⟨y3, y9, y11, ?_⟩
  simp only [nD] at e ⊢
  simp [b__law_taken_4, e]
theorem ltaken_ok {rs : List NRow} {l k : Nat} (h : NsZ l k rs) : m__law_taken [.list (rs.map nD)] = .ok (.ow ((lTaken rs).map nD)) := by
  have hl := h.len
  have hr := range1_ok (x := (rs.length : Int)) (by omega) (by omega)
  have hlen : lenD [.list (rs.map nD)] = some (.int (rs.length : Int)) := by rw [r_len_l, List.length_map]
  have l1 : rs.length ≤ sizeLine := slB (by omega)
  have q0 : (.tuple [.int 0, .int 1] : D) = rD 0 := rfl
  have L := forO_gen (F := gTo (gSet 1) b__law_taken_2) (l := rngL 0 1 rs.length)
    (fun o => (∃ a, rs.findIdx? lIsEq = some a ∧ o = .rt (.ow ((lUsed rs a).map nD))) ∨ (rs.findIdx? lIsEq = none ∧ ∃ y1 y2 y3, o = .nx [.sh (.list (rs.map nD)), y1, y2, y3, .no, .no, .no, .no, .no, .no, .no, .no]))
    (fun i ρ => (∃ y1 y2 y3, ρ = [.sh (.list (rs.map nD)), y1, y2, y3, .no, .no, .no, .no, .no, .no, .no, .no]) ∧ ∀ j, j < i → lIsEq (nAt rs j) = false)
    (ρ := [.sh (.list (rs.map nD)), .no, .no, .no, .no, .no, .no, .no, .no, .no, .no, .no]) ⟨⟨_, _, _, rfl⟩, fun j hj => by omega⟩
    (fun i d ρ hd hi => by
      obtain ⟨hil, rfl⟩ := rng0_get hd
      obtain ⟨⟨y1, y2, y3, rfl⟩, hn⟩ := hi
      have zi := h.at hil
      have ri : ixD (.list (rs.map nD)) (.int (i : Int)) = some (nD (nAt rs i)) := ixM (nAt_get hil)
      by_cases z : (nAt rs i).s = "="
      · by_cases q : hdN (nAt rs i) = 0
        · left
          refine ⟨_, .inl (by simp [b__law_taken_2, ri, nD, z, zi.ix, q0, r_neR, q, -r_ix_l, -Out.nx.injEq] <;> rfl), ⟨_, _, _, rfl⟩, fun j hj => ?_⟩
          by_cases w : j = i
          · subst w; simp [lIsEq, q]
          · exact hn j (by omega)
        · right; right; left
          refine ⟨_, lused_ok' h hil z q y1 y2 y3 .no .no .no .no .no .no .no .no, .inl ⟨i, ?_, rfl⟩⟩
          rw [List.findIdx?_eq_some_iff_getElem]
          have ge : ∀ j (hj : j < rs.length), nAt rs j = rs[j] := fun j hj => by
            have := nAt_get hj
            rw [List.getElem?_eq_getElem hj] at this
            exact (Option.some.inj this).symm
          refine ⟨hil, by rw [← ge i hil]; simp [lIsEq, z, q], fun j hj => ?_⟩
          rw [← ge j (by omega), hn j hj]; simp
      · left
        refine ⟨_, .inl (by simp [b__law_taken_2, ri, nD, z, -r_ix_l, -Out.nx.injEq] <;> rfl), ⟨_, _, _, rfl⟩, fun j hj => ?_⟩
        by_cases w : j = i
        · subst w; simp [lIsEq, z]
        · exact hn j (by omega))
    (fun ρ hρ => by
      obtain ⟨⟨y1, y2, y3, rfl⟩, hn⟩ := hρ
      rw [rngL_length] at hn
      refine .inr ⟨?_, y1, y2, y3, rfl⟩
      rw [List.findIdx?_eq_none_iff]
      intro n hn'
      obtain ⟨i, hi, rfl⟩ := nAt_of hn'
      exact hn i hi)
  rcases L with ⟨a, hf, e⟩ | ⟨hf, y1, y2, y3, e⟩
  · simp [m__law_taken, c__law_taken, hlen, hr, e, lTaken, hf, -r_len_l]
  · have hc : ∀ (ρ : Ev), ρ.length = 12 → compR (compS [8, 3] (gTupD 2 (gsCons (gSet 8) (gsCons (gSet 3) (gsNil)))) (e1 bOf (e2 eqD (e2 ixD (eOwn 8) (cst (.int 0))) (e1 tupD (eCons (cst (.int 0)) (eCons (cst (.int 1)) (cst [])))))) (e1 tupD (eCons (e3 sliceD (eOwn 8) (e1 intOf (cst (.int 1))) (pNo)) (eCons (eVar 3) (cst [])))) ρ) (rs.map nD) = .ok (((List.range rs.length).flatMap (lZero rs)).map nD) := fun ρ hρ => by
      match ρ, hρ with
      | [a0, a1, a2, a3, a4, a5, a6, a7, a8, a9, a10, a11], _ =>
        have := compR_flat (F := nD) (upd := lZero rs) (l := rs.map nD) (step := compS [8, 3] (gTupD 2 (gsCons (gSet 8) (gsCons (gSet 3) (gsNil)))) (e1 bOf (e2 eqD (e2 ixD (eOwn 8) (cst (.int 0))) (e1 tupD (eCons (cst (.int 0)) (eCons (cst (.int 1)) (cst [])))))) (e1 tupD (eCons (e3 sliceD (eOwn 8) (e1 intOf (cst (.int 1))) (pNo)) (eCons (eVar 3) (cst [])))) [a0, a1, a2, a3, a4, a5, a6, a7, a8, a9, a10, a11]) fun i d hd => by
          obtain ⟨hi, rfl⟩ := mapn_get hd
          refine ⟨?_, lZero_len rs i⟩
          have zi := h.at hi
          unfold lZero
          by_cases z : hdN (nAt rs i) = 0
          · rw [if_pos z]
            simp [compS, nD, zi.ix, q0, r_eqR, z, zi.cut, -r_ix_l, -r_slice]
            rfl
          · rw [if_neg z]
            simp [compS, nD, zi.ix, q0, r_eqR, z, -r_ix_l, -r_slice]
        rw [List.length_map] at this
        exact this
    have lz := flat_len (lZero rs) 1 (lZero_len rs) rs.length
    obtain ⟨ρ', e', z3, z5, z9, z10, z11, rfl⟩ := forO_inv (F := gTo (gTupD 2 (gsCons (gSet 10) (gsCons (gSet 5) (gsNil)))) b__law_taken_4) (l := rs.map nD)
      (fun i ρ => ∃ z3 z5 z9 z10 z11, ρ = [.sh (.list (rs.map nD)), y1, y2, z3, .no, z5, .ow (((List.range rs.length).flatMap (lZero rs) ++ (List.range i).flatMap fun i => (List.range rs.length).flatMap fun j => lPair rs i j).map nD), .no, .no, z9, z10, z11])
      (ρ := [.sh (.list (rs.map nD)), y1, y2, y3, .no, .no, .ow (((List.range rs.length).flatMap (lZero rs)).map nD), .no, .no, .no, .no, .no]) ⟨_, _, _, _, _, by simp only [List.range_zero, List.flatMap_nil, List.append_nil] <;> rfl⟩
      (fun i d ρ hd hi => by
        obtain ⟨hil, rfl⟩ := mapn_get hd
        obtain ⟨z3, z5, z9, z10, z11, rfl⟩ := hi
        have g1 := flat_len (fun i => (List.range rs.length).flatMap fun j => lPair rs i j) (rs.length * 1) (fun i => flat_len _ 1 (lPair_len rs i) _) i
        have g2 : i * (rs.length * 1) ≤ 1000 * (1000 * 1) := Nat.mul_le_mul (by omega) (by omega)
        obtain ⟨u3, u9, u11, st⟩ := lpair_inner h hil (acc := (List.range rs.length).flatMap (lZero rs) ++ (List.range i).flatMap fun i => (List.range rs.length).flatMap fun j => lPair rs i j) (by rw [List.length_append]; omega) y1 y2 z3 .no z5 .no .no z9 z10 z11
        exact ⟨_, .inl st, u3, _, u9, _, u11, by rw [range_flat (fun i => (List.range rs.length).flatMap fun j => lPair rs i j), List.append_assoc]⟩)
    rw [List.length_map] at e'
    simp only [m__law_taken, c__law_taken]
    simp [hlen, hr, e, l1, hc, e', lTaken, hf, lPaired, -List.map_append, -r_len_l, -List.length_flatMap]
theorem ltaken_rows {rs : List NRow} {l k : Nat} (h : NsZ l k rs) : (∀ n ∈ lTaken rs, NZ l (4 * k + 1) n) ∧ (lTaken rs).length ≤ rs.length + rs.length * rs.length := by
  unfold lTaken
  rcases hf : rs.findIdx? lIsEq with _ | a
  · simp only
    unfold lPaired
    constructor
    · intro r hr
      rcases List.mem_append.mp hr with g | g
      · obtain ⟨i, hi, g⟩ := List.mem_flatMap.mp g
        have hi := List.mem_range.mp hi
        unfold lZero at g
        split at g
        · simp at g; subst g
          exact (h.at hi).tl.mono (by omega)
        · simp at g
      · obtain ⟨i, hi, g⟩ := List.mem_flatMap.mp g
        obtain ⟨j, hj, g⟩ := List.mem_flatMap.mp g
        have hi := List.mem_range.mp hi
        have hj := List.mem_range.mp hj
        unfold lPair at g
        split at g
        · simp at g; subst g
          have z := NZ.less (s := joinS (nAt rs i).s (nAt rs j).s) (h.at hj).len (h.at hi).len (h.at hj).sz (h.at hi).sz (h.at hi).hd (h.at hj).hd (joinS_ok _ _)
          exact z.tl.mono (by omega)
        · simp at g
    · rw [List.length_append]
      have g1 := flat_len (fun i => (List.range rs.length).flatMap fun j => lPair rs i j) (rs.length * 1) (fun i => flat_len _ 1 (lPair_len rs i) _) rs.length
      have g2 := flat_len (lZero rs) 1 (lZero_len rs) rs.length
      rw [Nat.mul_one] at g1 g2
      omega
  · simp only
    unfold lUsed
    obtain ⟨ha, _⟩ := List.findIdx?_eq_some_iff_getElem.mp hf
    constructor
    · intro r hr
      obtain ⟨n, hn, rfl⟩ := List.mem_map.mp hr
      obtain ⟨i, hi, g⟩ := List.mem_flatMap.mp hn
      have hi := List.mem_range.mp hi
      unfold lUpd at g
      split at g
      · simp at g
      · simp at g; subst g
        have z := NZ.less (s := (nAt rs i).s) (h.at hi).len (by rw [headL_len]; exact (h.at ha).len) (h.at hi).sz (headL_rk (h.at ha)).1 (headL_rk (h.at ha)).2 (h.at hi).hd (h.at hi).s
        exact z.tl.mono (by omega)
    · have g2 := flat_len (lUpd rs a) 1 (lUpd_len rs a) rs.length
      rw [Nat.mul_one] at g2
      rw [List.length_map]
      omega
/-! rows at a number, and blocks -/
def lnum (t : Rat) (r : Row) : NRow := ⟨r.ps.map (fun p => evP p t) ++ [evP r.q t], r.s⟩
theorem nv_dot (t q : Rat) : ∀ (ps : List (List Int)) (xs : List Rat), ps.length = xs.length → nv (ps.map (fun p => evP p t) ++ [q]) xs = q + dot t ps xs
  | [], [], _ => by simp [nv, dot]; grind
  | [], _ :: _, h => by simp at h
  | _ :: _, [], h => by simp at h
  | p :: ps, x :: xs, h => by
    have ih := nv_dot t q ps xs (by simpa using h)
    simp only [List.map_cons, List.cons_append, nv, dot, ih]; grind
theorem lful_num {rs : List Row} {m : Nat} {xs : List Rat} {t : Rat} (h : ∀ r ∈ rs, r.ps.length = m) (hx : xs.length = m) : lFul (rs.map (lnum t)) xs = fulB rs xs t := by
  rw [ful_sat]
  unfold lFul
  rw [List.all_map]
  have key : ∀ r ∈ rs, lSat (lnum t r) xs = satR r xs t := fun r hr => by
    unfold lSat satR lnum
    simp only
    rw [nv_dot t _ _ _ (by rw [h r hr, hx]), rv_dot]
  rw [Bool.eq_iff_iff, List.all_eq_true, List.all_eq_true]
  constructor
  · intro g r hr; rw [← key r hr]; exact g r hr
  · intro g r hr; show lSat (lnum t r) xs = true; rw [key r hr]; exact g r hr
theorem lnum_nz {r : Row} {m n c kt : Nat} {t : Rat} (h : RowZ m n c r) (ht : Rk kt t) (h1 : 1 ≤ c) (hz : 1 + n * (kt + c + 1) + kt + c ≤ 1900) : NZ m (1 + n * (kt + c + 1)) (lnum t r) := by
  refine ⟨by simp [lnum, h.len], fun x hx => ?_, h.s⟩
  have val : ∀ p ∈ r.ps ++ [r.q], Rk (1 + n * (kt + c + 1)) (evP p t) := fun p hp => by
    obtain ⟨a, b⟩ := h.all p hp
    have lm : p.length * (kt + c + 1) ≤ n * (kt + c + 1) := Nat.mul_le_mul_right _ b
    exact ((value_at_ok a ht h1 (by omega)).2).mono (by omega)
  unfold lnum at hx
  simp only at hx
  rcases List.mem_append.mp hx with g | g
  · obtain ⟨p, hp, rfl⟩ := List.mem_map.mp g
    exact val p (by simp [hp])
  · simp at g; subst g
    exact val _ (by simp)
theorem lnumeric_ok {rs : List Row} {m n c kt : Nat} {t : Rat} (hr : ∀ r ∈ rs, RowZ m n c r) (hl : rs.length ≤ 1000000) (hm : m ≤ 1000) (hn : n ≤ 1000) (ht : Rk kt t) (h1 : 1 ≤ c) (hz : 1 + n * (kt + c + 1) + kt + c ≤ 1900) :
    m__law_numeric [.list (rs.map rowD), rD t] = .ok (.ow ((rs.map (lnum t)).map nD)) := by
  obtain ⟨ρ', e, y3, y4, y5, y6, rfl⟩ := forO_inv (F := gTo (gTupD 3 (gsCons (gSet 3) (gsCons (gSet 4) (gsCons (gSet 5) (gsNil))))) b__law_numeric_1) (l := rs.map rowD)
    (fun i ρ => ∃ y3 y4 y5 y6, ρ = [.sh (.list (rs.map rowD)), .sh (rD t), .ow (((rs.take i).map (lnum t)).map nD), y3, y4, y5, y6])
    (ρ := [.sh (.list (rs.map rowD)), .sh (rD t), .ow [], .no, .no, .no, .no]) ⟨_, _, _, _, rfl⟩
    (fun i d ρ hd hi => by
      obtain ⟨y3, y4, y5, y6, rfl⟩ := hi
      rw [List.getElem?_map] at hd
      obtain ⟨r, hri, rfl⟩ := Option.map_eq_some_iff.mp hd
      have g := hr r (List.mem_of_getElem? hri)
      have hil : i < rs.length := (List.getElem?_eq_some_iff.mp hri).1
      have val : ∀ p ∈ r.ps ++ [r.q], m__law_value [pD p, rD t] = .ok (.sh (rD (evP p t))) := fun p hp => by
        obtain ⟨a, b⟩ := g.all p hp
        have lm : p.length * (kt + c + 1) ≤ n * (kt + c + 1) := Nat.mul_le_mul_right _ b
        exact lvalue_ok a ht h1 (by omega) (by omega)
      have vq := val r.q (by simp)
      have cp : ∀ b0 b2 b3 b4 b5 b6 : SD, compR (compS [6] (gSet 6) (cst true) (eCall m__law_value (eCons (eVar 6) (eCons (eVar 1) (cst [])))) [b0, .sh (rD t), b2, b3, b4, b5, b6]) (r.ps.map pD) = .ok (r.ps.map fun p => rD (evP p t)) := fun b0 b2 b3 b4 b5 b6 =>
        compR_map' fun p hp => by
          have := val p (by simp [hp])
          simp [compS, this]
      have lps : r.ps.length ≤ sizeLine := slB (by rw [g.len]; omega)
      have hs : i < sizeLine := Nat.lt_of_lt_of_le (show i < 1000001 by omega) (by decide)
      have ca : catD (r.ps.map fun p => rD (evP p t)) [rD (evP r.q t)] = some ((lnum t r).c.map rD) := by
        rw [r_cat (slB (by simp; rw [g.len]; omega))]
        simp [lnum, Function.comp_def]
      have tk : rs.take (i + 1) = rs.take i ++ [r] := by rw [List.take_add_one, hri]; rfl
      have lt : (rs.take i).length = i := by simp; omega
      refine ⟨_, .inl (by simp [b__law_numeric_1, rowD, lps, cp, vq, ca, lt, hs, hil, Nat.min_eq_left (Nat.le_of_lt hil), -r_cat, -List.map_take, -Out.nx.injEq] <;> rfl), .sh (.list (r.ps.map pD)), .sh (pD r.q), .sh (.str r.s), y6, ?_⟩
      rw [tk]; simp [nD, lnum, -List.map_take] <;> rfl)
  rw [List.length_map, List.take_length] at e
  simp [m__law_numeric, c__law_numeric, e]
def lFinal : Nat → List NRow → List NRow
  | 0, rs => rs
  | k + 1, rs => lFinal k (lTaken rs)
def GoodN : Nat → List NRow → Prop
  | 0, rs => rs.length ≤ 1000000 ∧ ∃ k, ∀ n ∈ rs, NZ 0 k n
  | l + 1, rs => ∃ k, NsZ l k rs ∧ GoodN l (lTaken rs)
theorem goodN_final : ∀ (l : Nat) (rs : List NRow), GoodN l rs → GoodN 0 (lFinal l rs)
  | 0, _, h => h
  | l + 1, rs, h => by
    obtain ⟨k, _, g⟩ := h
    exact goodN_final l (lTaken rs) g
theorem lblock_loop (w0 w1 w2 w5 w6 : SD) : ∀ (m : Nat) (lst : List D) (rs : List NRow) (w4 : SD), lst.length = m → (∀ d ∈ lst, ∃ i : Nat, d = .int (i : Int)) → GoodN m rs → ∃ y4,
    forO (gTo (gSet 4) b__law_block_1) lst [w0, w1, w2, .sh (.list (rs.map nD)), w4, w5, w6] = .nx [w0, w1, w2, .sh (.list ((lFinal m rs).map nD)), y4, w5, w6]
  | 0, lst, rs, w4, hl, _, _ => by
    have : lst = [] := List.length_eq_zero_iff.mp hl
    subst this
    exact ⟨w4, rfl⟩
  | m + 1, [], rs, w4, hl, _, _ => by simp at hl
  | m + 1, d :: lst, rs, w4, hl, hd, h => by
    obtain ⟨k, z, g⟩ := h
    obtain ⟨i, rfl⟩ := hd d (by simp)
    obtain ⟨y4, ih⟩ := lblock_loop w0 w1 w2 w5 w6 m lst (lTaken rs) (.sh (.int (i : Int))) (by simpa using hl) (fun d h => hd d (by simp [h])) g
    refine ⟨y4, ?_⟩
    have tk := ltaken_ok z
    have st : gTo (gSet 4) b__law_block_1 (.int (i : Int)) [w0, w1, w2, .sh (.list (rs.map nD)), w4, w5, w6] = .nx [w0, w1, w2, .sh (.list ((lTaken rs).map nD)), .sh (.int (i : Int)), w5, w6] := by
      simp [b__law_block_1, tk]
    rw [forO, st]
    exact ih
theorem lblock_ok {rs : List Row} {m n c kt : Nat} {t : Rat} (hm : m ≤ 100) (hr : ∀ r ∈ rs, RowZ m n c r) (hl : rs.length ≤ 1000000) (hn : n ≤ 1000) (ht : Rk kt t) (h1 : 1 ≤ c) (hz : 1 + n * (kt + c + 1) + kt + c ≤ 1900) (hg : GoodN m (rs.map (lnum t))) :
    m__law_block [.int (m : Int), .list (rs.map rowD), rD t] = .ok (.sh (.bool (lFul (lFinal m (rs.map (lnum t))) []))) := by
  have nu := lnumeric_ok hr hl (by omega) hn ht h1 hz
  have rg := range1_ok (x := (m : Int)) (by omega) (by omega)
  obtain ⟨y4, e⟩ := lblock_loop (.sh (.int (m : Int))) (.sh (.list (rs.map rowD))) (.sh (rD t)) .no .no m (rngL 0 1 m) (rs.map (lnum t)) .no (rngL_length _ _ _) (fun d hd => by
    obtain ⟨i, _, rfl⟩ := mem_rng0 hd
    exact ⟨i, rfl⟩) hg
  obtain ⟨gl, k, gz⟩ := goodN_final m _ hg
  generalize lFinal m (rs.map (lnum t)) = fs at e gl gz ⊢
  have hs : fs.length ≤ sizeLine := Nat.le_trans gl (by decide)
  have hc : ∀ b0 b1 b2 b3 b4 b5 b6 : SD, compR (compS [5, 6] (gTupD 2 (gsCons (gSet 5) (gsCons (gSet 6) (gsNil)))) (cst true) (eCall m__law_fits (eCons (eVar 6) (eCons (e2 ixD (e2 ixD (eOwn 5) (cst (.int 0))) (cst (.int 0))) (cst [])))) [b0, b1, b2, b3, b4, b5, b6]) (fs.map nD) = .ok (fs.map fun n => .bool (fitB n.s (hdN n).num)) := fun b0 b1 b2 b3 b4 b5 b6 =>
    compR_map' fun n hn => by
      have z := gz n hn
      have f := lfits_ok z.s (hdN n).num
      simp [compS, nD, z.ix, f, -r_ix_l]
  have hb : blsD (fs.map fun n => .bool (fitB n.s (hdN n).num)) = some (fs.map fun n => fitB n.s (hdN n).num) := by
    have := blsD_map (fs.map fun n => fitB n.s (hdN n).num)
    rw [List.map_map] at this
    exact this
  have ha : (fs.map fun n => fitB n.s (hdN n).num).all id = lFul fs [] := by
    rw [List.all_map]
    unfold lFul
    rw [Bool.eq_iff_iff, List.all_eq_true, List.all_eq_true]
    have key : ∀ n ∈ fs, lSat n [] = fitB n.s (hdN n).num := fun n hn => by
      unfold lSat
      rw [fitB_G, (gz n hn).ok.cons]; rfl
    constructor
    · intro g n hn; rw [key n hn]; exact g n hn
    · intro g n hn; show fitB n.s (hdN n).num = true; rw [← key n hn]; exact g n hn
  simp only [m__law_block, c__law_block]
  simp [nu, rg, e, hs, hc, hb, ha, -List.all_map, -List.map_map]
theorem lblock_sem : ∀ {m : Nat} {rs : List NRow}, GoodN m rs → (lFul (lFinal m rs) [] = true ↔ ∃ xs : List Rat, xs.length = m ∧ lFul rs xs = true)
  | 0, rs, _ => by
    constructor
    · intro h; exact ⟨[], rfl, h⟩
    · rintro ⟨xs, hx, h⟩
      have : xs = [] := List.length_eq_zero_iff.mp hx
      subst this; exact h
  | l + 1, rs, h => by
    obtain ⟨k, hr, g⟩ := h
    have ih := lblock_sem g
    show lFul (lFinal l (lTaken rs)) [] = true ↔ _
    rw [ih]
    have l3 : ∀ n ∈ rs, NOk (l + 1) n := fun n h => (hr.all n h).ok
    constructor
    · rintro ⟨xs, hx, hf⟩
      obtain ⟨x, hx2⟩ := (ltaken_sem l3).mpr hf
      exact ⟨x :: xs, by simp [hx], hx2⟩
    · rintro ⟨xs, hx, hf⟩
      cases xs with
      | nil => simp at hx
      | cons x xs => exact ⟨xs, by simpa using hx, (ltaken_sem l3).mp ⟨x, hf⟩⟩
theorem goodN_of {rs : List Row} {m n c kt : Nat} {t : Rat} (hm : m ≤ 2) (hr : ∀ r ∈ rs, RowZ m n c r) (hl : rs.length ≤ 500) (hl2 : m = 2 → rs.length ≤ 20) (ht : Rk kt t) (h1 : 1 ≤ c) (hz : 1 + n * (kt + c + 1) + kt + c ≤ 1900) (hz1 : 4 * (1 + n * (kt + c + 1)) ≤ 1900) (hz2 : m = 2 → 4 * (4 * (1 + n * (kt + c + 1)) + 1) ≤ 1900) : GoodN m (rs.map (lnum t)) := by
  have nz : ∀ x ∈ rs.map (lnum t), NZ m (1 + n * (kt + c + 1)) x := fun x hx => by
    obtain ⟨r, hr', rfl⟩ := List.mem_map.mp hx
    exact lnum_nz (hr r hr') ht h1 hz
  have hll : (rs.map (lnum t)).length = rs.length := List.length_map _
  generalize rs.map (lnum t) = fs at nz hll
  have hm' : m = 0 ∨ m = 1 ∨ m = 2 := by omega
  rcases hm' with rfl | rfl | rfl
  · exact ⟨by omega, _, nz⟩
  · have z : NsZ 0 _ fs := ⟨nz, by omega, by decide, hz1⟩
    obtain ⟨t1, t2⟩ := ltaken_rows z
    have q : fs.length * fs.length ≤ 500 * 500 := Nat.mul_le_mul (by omega) (by omega)
    exact ⟨_, z, Nat.le_trans t2 (by omega), _, t1⟩
  · have z : NsZ 1 _ fs := ⟨nz, by omega, by decide, hz1⟩
    obtain ⟨t1, t2⟩ := ltaken_rows z
    have hl2 := hl2 rfl
    have q : fs.length * fs.length ≤ 20 * 20 := Nat.mul_le_mul (by omega) (by omega)
    have z1 : NsZ 0 _ (lTaken fs) := ⟨t1, Nat.le_trans t2 (by omega), by decide, hz2 rfl⟩
    obtain ⟨t3, t4⟩ := ltaken_rows z1
    have q1 : (lTaken fs).length ≤ 420 := Nat.le_trans t2 (by omega)
    have q2 : (lTaken fs).length * (lTaken fs).length ≤ 420 * 420 := Nat.mul_le_mul q1 q1
    exact ⟨_, z, _, z1, Nat.le_trans t4 (by omega), _, t3⟩
/-- both ways of taking numbers out answer the same -/
theorem blocks_same {rs : List Row} {m kt : Nat} {t : Rat} (hr : ∀ r ∈ rs, r.ps.length = m) (hg : GoodSt kt t m rs) (hn : GoodN m (rs.map (lnum t))) : lFul (lFinal m (rs.map (lnum t))) [] = fulB (finalR t m rs) [] t := by
  rw [Bool.eq_iff_iff, block_sem hg, lblock_sem hn]
  constructor
  · rintro ⟨xs, hx, h⟩; exact ⟨xs, hx, by rw [← lful_num hr hx]; exact h⟩
  · rintro ⟨xs, hx, h⟩; exact ⟨xs, hx, by rw [lful_num hr hx]; exact h⟩
theorem RowOk.z {m : Nat} {r : Row} (h : RowOk m r) : RowZ m 3 6 r := ⟨h.len, fun p hp => ⟨(h.ps p hp).sz, (h.ps p hp).len⟩, h.q.sz, h.q.len, h.s⟩
end W

set_option Elab.async false
set_option linter.all false
set_option maxRecDepth 100000
set_option autoImplicit false
namespace W
open PySem PySem.Spec PyProof.Rows L2 VL
/-! ### sizes of values, sharper -/
theorem ev_frac {t : Rat} {kt c : Nat} (ht : Rk kt t) : ∀ {a : List Int}, SzP c a → ∃ N : Int, evP a t * (((t.den : Int) ^ a.length : Int) : Rat) = (N : Rat) ∧ Sz (c + (kt + 1) * a.length + 1) N ∧ Sz (kt * a.length + 1) ((t.den : Int) ^ a.length) ∧ ((t.den : Int) ^ a.length) ≠ 0
  | [], _ => ⟨0, by simp [evP], sz0 _, by simpa using Sz.lit (i := 1) (a := 1) (by decide), by simp⟩
  | x :: a, h => by
    obtain ⟨N, e, s1, s2, hz⟩ := ev_frac ht (a := a) fun y hy => h y (by simp [hy])
    have hx := h x (by simp)
    have hd : (t.den : Int) ≠ 0 := by have := t.den_nz; omega
    have s3 : Sz (kt * (a.length + 1) + 1) ((t.den : Int) ^ (a.length + 1)) := by
      rw [Int.pow_succ]
      exact (s2.mul ht.s2).mono (by rw [Nat.mul_succ]; omega)
    refine ⟨N * t.num + x * (t.den : Int) ^ (a.length + 1), ?_, ?_, ?_, Int.pow_ne_zero hd⟩
    · have ev : evP (x :: a) t = evP a t * t + (x : Rat) := rfl
      have n2 := num_eq t
      rw [ev, List.length_cons, Int.pow_succ, Rat.intCast_add, Rat.intCast_mul, Rat.intCast_mul, Rat.intCast_mul, ← e, n2]
      grind
    · rw [List.length_cons]
      have a1 : Sz (c + (kt + 1) * (a.length + 1)) (N * t.num) := (s1.mul ht.s1).mono (by rw [Nat.mul_succ]; omega)
      have a2 : Sz (c + (kt + 1) * (a.length + 1)) (x * (t.den : Int) ^ (a.length + 1)) := (hx.mul s3).mono (by rw [Nat.mul_succ, Nat.mul_succ, Nat.succ_mul]; omega)
      exact a1.add a2
    · exact s3
theorem ev_rk {t : Rat} {kt c : Nat} {a : List Int} (ht : Rk kt t) (ha : SzP c a) : Rk (c + (kt + 1) * a.length + 1) (evP a t) := by
  obtain ⟨N, e, s1, s2, hz⟩ := ev_frac ht ha
  have hr : (((t.den : Int) ^ a.length : Int) : Rat) ≠ 0 := by exact_mod_cast hz
  have : evP a t = (N : Rat) / (((t.den : Int) ^ a.length : Int) : Rat) := by rw [← e]; grind
  rw [this]
  exact rk_div hz s1 (s2.mono (by rw [Nat.succ_mul]; omega))
theorem minus_r {r s : Rat} {k l : Nat} (h : Rk k r) (h' : Rk l s) (e : k + l ≤ 8000) : m_minus [rD r, rD s] = .ok (.sh (rD (r - s))) := by
  have := minus_ok h h' e
  have e2 : subQ (tQ r) (tQ s) = tQ (r - s) := by
    have a := addQ_rat r (-s)
    rw [Rat.sub_eq_add_neg, ← a]
    unfold addQ subQ tQ
    simp only [Rat.neg_num, Rat.neg_den]
    rw [Int.neg_mul, ← Int.sub_eq_add_neg]
  rwa [e2] at this
theorem div_r {r s : Rat} {k l : Nat} (h : Rk k r) (h' : Rk l s) (h0 : s ≠ 0) (e : k + l ≤ 8000) : m_divided [rD r, rD s] = .ok (.sh (rD (r / s))) ∧ Rk (k + l) (r / s) := by
  have h1 : s.num ≠ 0 := fun z => h0 (Rat.num_eq_zero.mp z)
  have := divided_ok h h' h1 e
  have nz : (r.den : Int) * s.num ≠ 0 := Int.mul_ne_zero (by have := r.den_nz; omega) h1
  have e2 : divQ (tQ r) (tQ s) = tQ (r / s) := by
    unfold divQ
    show mkQ (r.num * (s.den : Int)) ((r.den : Int) * s.num) = _
    rw [mkQ_rat nz]
    congr 1
    have a1 := num_eq r
    have a2 := num_eq s
    have a3 := den_ne r
    have a4 := den_ne s
    rw [Rat.intCast_mul, Rat.intCast_mul, a1, a2]
    grind
  rw [e2] at this
  refine ⟨this, ?_⟩
  have := Nk.div h h' h1
  rwa [e2] at this
theorem compare_r {r s : Rat} {k l : Nat} (h : Rk k r) (h' : Rk l s) (e : k + l ≤ 8000) : m_compare [rD r, rD s] = .ok (.sh (.int (cmpQ (tQ r) (tQ s)))) := compare_ok h h' e
theorem cmp_gt (r s : Rat) : (0 < cmpQ (tQ r) (tQ s)) ↔ s < r := by
  rw [Rat.lt_iff]
  unfold cmpQ tQ
  simp only
  split
  · constructor <;> intro h <;> omega
  · split
    · rename_i h1 h2; simp; exact h2
    · rename_i h1 h2; simp; omega
theorem cmp_lt (r s : Rat) : (cmpQ (tQ r) (tQ s) < 0) ↔ r < s := by
  rw [Rat.lt_iff]
  unfold cmpQ tQ
  simp only
  split
  · rename_i h1; simp; exact h1
  · split
    · rename_i h1 h2; simp; omega
    · rename_i h1 h2; simp; omega
/-! ### rows with numbers put in, any size -/
structure RowV (B : Nat) (t : Rat) (r : Row) : Prop where
  ps : ∀ p ∈ r.ps ++ [r.q], m_value_at [pD p, rD t] = .ok (.sh (rD (evP p t))) ∧ Rk B (evP p t)
  s : r.s = "<=" ∨ r.s = "<" ∨ r.s = "="
theorem RowZ.v {m n c kt : Nat} {t : Rat} {r : Row} (h : RowZ m n c r) (ht : Rk kt t) (h1 : 1 ≤ c) (hz : 1 + n * (kt + c + 1) + kt + c ≤ 8000) : RowV (c + (kt + 1) * n + 1) t r :=
  ⟨fun p hp => by
    obtain ⟨a, b⟩ := h.all p hp
    have lm : p.length * (kt + c + 1) ≤ n * (kt + c + 1) := Nat.mul_le_mul_right _ b
    have lm2 : (kt + 1) * p.length ≤ (kt + 1) * n := Nat.mul_le_mul_left _ b
    exact ⟨(value_at_ok a ht h1 (by omega)).1, (ev_rk ht a).mono (by omega)⟩, h.s⟩
theorem zip_zloop {t : Rat} {B kx : Nat} (w0 w1 : SD) : ∀ (ps : List (List Int)) (xs : List Rat) (acc : Rat) (k : Nat) (w4 w5 : SD), (∀ p ∈ ps, m_value_at [pD p, rD t] = .ok (.sh (rD (evP p t))) ∧ Rk B (evP p t)) → (∀ x ∈ xs, Rk kx x) → Rk k acc → k + xs.length * (B + kx + 1) + B + kx ≤ 8000 →
    ∃ y4 y5, forO (gTo (gTupD 2 (gsCons (gSet 4) (gsCons (gSet 5) (gsNil)))) b_rest_at_1) (zipL (ps.map pD) (xs.map rD)) [w0, w1, .sh (rD t), .sh (rD acc), w4, w5] = .nx [w0, w1, .sh (rD t), .sh (rD (rvL ps xs t acc)), y4, y5] ∧ Rk (k + xs.length * (B + kx + 1)) (rvL ps xs t acc)
  | [], xs, acc, k, w4, w5, _, _, h, _ => ⟨w4, w5, by simp [zipL, rvL], by
    have : rvL [] xs t acc = acc := by simp [rvL]
    rw [this]; exact h.mono (by omega)⟩
  | p :: ps, [], acc, k, w4, w5, _, _, h, _ => ⟨w4, w5, by simp [zipL, rvL], by
    have : rvL (p :: ps) [] t acc = acc := by simp [rvL]
    rw [this]; exact h.mono (by omega)⟩
  | p :: ps, x :: xs, acc, k, w4, w5, hp, hx, h, hz => by
    rw [List.length_cons, Nat.succ_mul] at hz
    obtain ⟨v, sv⟩ := hp p (by simp)
    have hx1 := hx x (by simp)
    have m := times_r sv hx1 (by omega)
    have a := plus_r h (sv.mul hx1) (by omega)
    obtain ⟨y4, y5, i1, i2⟩ := zip_zloop w0 w1 ps xs (acc + evP p t * x) (k + (B + kx + 1)) (.sh (pD p)) (.sh (rD x)) (fun q hq => hp q (by simp [hq])) (fun y hy => hx y (by simp [hy])) ((h.add (sv.mul hx1)).mono (by omega)) (by omega)
    refine ⟨y4, y5, ?_, ?_⟩
    · have e : zipL ((p :: ps).map pD) ((x :: xs).map rD) = .tuple [pD p, rD x] :: zipL (ps.map pD) (xs.map rD) := rfl
      rw [e, forO]
      have st : gTo (gTupD 2 (gsCons (gSet 4) (gsCons (gSet 5) (gsNil)))) b_rest_at_1 (.tuple [pD p, rD x]) [w0, w1, .sh (rD t), .sh (rD acc), w4, w5] = .nx [w0, w1, .sh (rD t), .sh (rD (acc + evP p t * x)), .sh (pD p), .sh (rD x)] := by
        simp [b_rest_at_1, v, m, a]
      rw [st]
      exact i1
    · rw [List.length_cons, Nat.succ_mul]
      exact i2.mono (by omega)
theorem rest_vok {r : Row} {xs : List Rat} {t : Rat} {B kx : Nat} (hr : RowV B t r) (hx : ∀ x ∈ xs, Rk kx x) (hz : B + xs.length * (B + kx + 1) + B + kx ≤ 8000) :
    m_rest_at [rowD r, .list (xs.map rD), rD t] = .ok (.sh (rD (rv r xs t))) ∧ Rk (B + xs.length * (B + kx + 1)) (rv r xs t) := by
  obtain ⟨v, sv⟩ := hr.ps r.q (by simp)
  obtain ⟨y4, y5, e, s⟩ := zip_zloop (.sh (rowD r)) (.sh (.list (xs.map rD))) r.ps xs (evP r.q t) B .no .no (fun p hp => hr.ps p (by simp [hp])) hx sv hz
  refine ⟨?_, s⟩
  simp [m_rest_at, c_rest_at, rowD_ix1, row_ix0, v, e, rv, -r_ix_t]
theorem fulfilled_vok {rs : List Row} {xs : List Rat} {t : Rat} {B kx : Nat} (hr : ∀ r ∈ rs, RowV B t r) (hx : ∀ x ∈ xs, Rk kx x) (hz : B + xs.length * (B + kx + 1) + B + kx ≤ 7900) :
    m_fulfilled_at [.list (rs.map rowD), .list (xs.map rD), rD t] = .ok (.sh (.bool (fulB rs xs t))) := by
  have q0 : (.tuple [.int 0, .int 1] : D) = rD 0 := rfl
  have L := forO_gen (F := gTo (gSet 3) b_fulfilled_at_1) (l := rs.map rowD) (fun o => (o = .rt (.sh (.bool false)) ∧ fulB rs xs t = false) ∨ (∃ ρ, o = .nx ρ ∧ fulB rs xs t = true))
    (fun i ρ => (∃ j, ρ = [.sh (.list (rs.map rowD)), .sh (.list (xs.map rD)), .sh (rD t), j]) ∧ (rs.take i).all (fun r => fitB r.s (rv r xs t).num) = true)
    (ρ := [.sh (.list (rs.map rowD)), .sh (.list (xs.map rD)), .sh (rD t), .no]) ⟨⟨_, rfl⟩, rfl⟩
    (fun i d ρ hd hi => by
      obtain ⟨⟨j, rfl⟩, ha⟩ := hi
      rw [List.getElem?_map] at hd
      obtain ⟨r, hri, rfl⟩ := Option.map_eq_some_iff.mp hd
      have hrm := List.mem_of_getElem? hri
      have g := hr r hrm
      obtain ⟨v, s⟩ := rest_vok g hx (by omega)
      have cm := compare_r s rk0 (by omega)
      have ft := fits_ok g.s (cmpQ (tQ (rv r xs t)) (tQ 0))
      rw [fit_sign g.s] at ft
      cases hb : fitB r.s (rv r xs t).num with
      | true =>
        rw [hb] at ft
        left
        refine ⟨_, .inl (by simp [b_fulfilled_at_1, rowD_ix2, v, q0, cm, ft, -r_ix_t, -Out.nx.injEq] <;> rfl), ⟨_, rfl⟩, ?_⟩
        rw [List.take_add_one, hri, List.all_append, ha]
        simp [hb]
      | false =>
        rw [hb] at ft
        right; right; left
        refine ⟨_, by simp [b_fulfilled_at_1, rowD_ix2, v, q0, cm, ft, -r_ix_t, -Out.rt.injEq] <;> rfl, .inl ⟨rfl, ?_⟩⟩
        unfold fulB
        exact List.all_eq_false.mpr ⟨r, hrm, by simp [hb]⟩)
    (fun ρ h => .inr ⟨ρ, rfl, by
      have := h.2
      rw [List.length_map, List.take_length] at this
      exact this⟩)
  rcases L with ⟨e, hb⟩ | ⟨ρ, e, hb⟩
  · simp [m_fulfilled_at, c_fulfilled_at, e, hb]
  · simp [m_fulfilled_at, c_fulfilled_at, e, hb]
structure RowL (m B : Nat) (t : Rat) (r : Row) : Prop where
  len : r.ps.length = m
  ps : ∀ p ∈ r.ps ++ [r.q], m__law_value [pD p, rD t] = .ok (.sh (rD (evP p t))) ∧ Rk B (evP p t)
  s : r.s = "<=" ∨ r.s = "<" ∨ r.s = "="
theorem RowZ.l {m n c kt : Nat} {t : Rat} {r : Row} (h : RowZ m n c r) (ht : Rk kt t) (h1 : 1 ≤ c) (hn : n ≤ 1000) (hz : 1 + n * (kt + c + 1) + kt + c ≤ 1900) : RowL m (c + (kt + 1) * n + 1) t r :=
  ⟨h.len, fun p hp => by
    obtain ⟨a, b⟩ := h.all p hp
    have lm : p.length * (kt + c + 1) ≤ n * (kt + c + 1) := Nat.mul_le_mul_right _ b
    have lm2 : (kt + 1) * p.length ≤ (kt + 1) * n := Nat.mul_le_mul_left _ b
    exact ⟨lvalue_ok a ht h1 (by omega) (by omega), (ev_rk ht a).mono (by omega)⟩, h.s⟩
theorem lrow_vok {r : Row} {xs : List Rat} {t : Rat} {m B kx : Nat} (hr : RowL m B t r) (hm : m ≤ 1000) (hxl : xs.length = m) (hx : ∀ x ∈ xs, Rk kx x) (hz : B + m * (B + kx + 1) ≤ 1900) :
    m__law_row_value [rowD r, .list (xs.map rD), rD t] = .ok (.sh (rD (rv r xs t))) := by
  obtain ⟨v, sv⟩ := hr.ps r.q (by simp)
  have hlen : (r.ps.zip xs).length = m := by rw [List.length_zip, hr.len, hxl]; omega
  obtain ⟨ρ', e, j, rfl, _⟩ := forO_inv (F := gTo (gSet 4) b__law_row_value_1) (l := rngL 0 1 m)
    (fun i ρ => ∃ j, ρ = [.sh (rowD r), .sh (.list (xs.map rD)), .sh (rD t), .sh (rD (((r.ps.zip xs).take i).foldl (fun a px => a + evP px.1 t * px.2) (evP r.q t))), j] ∧ Rk (B + i * (B + kx + 1)) (((r.ps.zip xs).take i).foldl (fun a px => a + evP px.1 t * px.2) (evP r.q t)))
    (ρ := [.sh (rowD r), .sh (.list (xs.map rD)), .sh (rD t), .sh (rD (evP r.q t)), .no]) ⟨.no, rfl, sv.mono (by omega)⟩
    (fun i d ρ hd hi => by
      obtain ⟨hil, rfl⟩ := rng0_get hd
      obtain ⟨j, rfl, hs⟩ := hi
      have hk : i < r.ps.length := by rw [hr.len]; exact hil
      have hix : i < xs.length := by omega
      obtain ⟨v, sv⟩ := hr.ps (pk r i) (by simp [pk_mem hk])
      have hmul : (i + 1) * (B + kx + 1) ≤ m * (B + kx + 1) := Nat.mul_le_mul_right _ (by omega)
      rw [Nat.succ_mul i] at hmul
      have hxi := hx _ (List.getElem_mem hix)
      have mu := lmul2_r sv hxi (by omega)
      have ad := ladd2_r hs (sv.mul hxi) (by omega)
      have ixx : ixD (.list (xs.map rD)) (.int (i : Nat)) = some (rD xs[i]) := by simp [hix]
      have tk : (r.ps.zip xs).take (i + 1) = (r.ps.zip xs).take i ++ [(pk r i, xs[i])] := by
        have : (r.ps.zip xs)[i]? = some (pk r i, xs[i]) := by
          rw [List.getElem?_zip_eq_some]
          refine ⟨?_, List.getElem?_eq_getElem hix⟩
          unfold pk
          rw [List.getD_eq_getElem?_getD, List.getElem?_eq_getElem hk]; rfl
        rw [List.take_add_one, this]; rfl
      refine ⟨_, .inl (by simp [b__law_row_value_1, row_ix0, pk_ix hk, v, ixx, mu, ad, -r_ix_l, -r_ix_t, -Out.nx.injEq] <;> rfl), .sh (.int (i : Nat)), ?_, ?_⟩
      · rw [tk, List.foldl_append]; rfl
      · rw [tk, List.foldl_append, Nat.succ_mul i]
        exact (hs.add (sv.mul hxi)).mono (by omega))
  rw [rngL_length] at e
  have hall : (r.ps.zip xs).take m = r.ps.zip xs := List.take_of_length_le (by omega)
  rw [hall] at e
  have hrg := range1_ok (x := (m : Int)) (by omega) (by omega)
  have hlx : lenD [.list (xs.map rD)] = some (.int (m : Int)) := by rw [r_len_l, List.length_map, hxl]
  simp [m__law_row_value, c__law_row_value, rowD_ix1, v, hlx, hrg, e, rv, rvL, -r_ix_t, -r_len_l]
theorem lfulfilled_vok {rs : List Row} {xs : List Rat} {t : Rat} {m B kx : Nat} (hr : ∀ r ∈ rs, RowL m B t r) (hm : m ≤ 1000) (hl : rs.length ≤ 100000) (hxl : xs.length = m) (hx : ∀ x ∈ xs, Rk kx x) (hz : B + m * (B + kx + 1) ≤ 1900) :
    m__law_fulfilled [.list (rs.map rowD), .list (xs.map rD), rD t] = .ok (.sh (.bool (fulB rs xs t))) := by
  have hc := compR_map' (F := rowD) (step := compS [3] (gSet 3) (cst true) (eCall m__law_fits (eCons (e2 ixD (eOwn 3) (cst (.int 2))) (eCons (e2 ixD (eCall m__law_row_value (eCons (eVar 3) (eCons (eVar 1) (eCons (eVar 2) (cst []))))) (cst (.int 0))) (cst [])))) [.sh (.list (rs.map rowD)), .sh (.list (xs.map rD)), .sh (rD t), .no]) (l := rs) (φ := fun r => .bool (fitB r.s (rv r xs t).num)) fun r h => by
    have g := hr r h
    have v := lrow_vok g hm hxl hx hz
    have ft := lfits_ok g.s (rv r xs t).num
    simp [compS, rowD_ix2, v, ft, -r_ix_t]
  have hs : rs.length ≤ sizeLine := slB (by omega)
  have hb : blsD (rs.map fun r => .bool (fitB r.s (rv r xs t).num)) = some (rs.map fun r => fitB r.s (rv r xs t).num) := by
    have := blsD_map (rs.map fun r => fitB r.s (rv r xs t).num)
    rw [List.map_map] at this
    exact this
  have ha : (rs.map fun r => fitB r.s (rv r xs t).num).all id = fulB rs xs t := by rw [List.all_map]; rfl
  simp only [m__law_fulfilled, c__law_fulfilled]
  simp [hs, hc, hb, -List.all_map, ha]
theorem number5_ok {L : List D} (h : PP L) : ∃ L' r, m__law_number_k40 L [.none] = .ok (.sh (rD r)) L' ∧ PP L' ∧ Rk 5 r := by
  obtain ⟨L1, v, u1, h1, v0, v1⟩ := pick_ok h (n := 41) (by decide)
  obtain ⟨L2, w, u2, h2, w0, w1⟩ := pick_ok h1 (n := 6) (by decide)
  obtain ⟨k, hk, k1, k2⟩ : ∃ k : Int, ixD (.list [.int 1, .int 1, .int 2, .int 3, .int 1, .int 7]) (.int w) = some (.int k) ∧ 1 ≤ k ∧ k ≤ 7 := by
    have hc : w = 0 ∨ w = 1 ∨ w = 2 ∨ w = 3 ∨ w = 4 ∨ w = 5 := by omega
    rcases hc with rfl | rfl | rfl | rfl | rfl | rfl <;> exact ⟨_, by simp <;> rfl, by decide, by decide⟩
  have n1 : Sz 5 (v - 20) := .of 32 (by omega) (by omega) (by decide)
  have n2 : Sz 5 k := .of 32 (by omega) (by omega) (by decide)
  have lo := lowest_ok (n1.mono (by decide)) (n2.mono (by decide)) (by omega)
  have rk := rk_low (k := 5) (by omega) n1 n2
  generalize (((v - 20 : Int) : Rat) / (k : Rat)) = X at lo rk
  exact ⟨L2, X, by simp [m__law_number_k40, c__law_number_k40, u1, u2, hk, lo, -r_ix_l], h2, rk⟩
end W

set_option Elab.async false
set_option linter.all false
set_option maxRecDepth 100000
set_option autoImplicit false
namespace W
open PySem PySem.Spec PyProof.Rows L2 VL
/-! ### plain polynomials: bounds of roots, polynomials by their values -/
def aR (x : Rat) : Rat := if x < 0 then -x else x
theorem aR_nonneg (x : Rat) : 0 ≤ aR x := by unfold aR; split <;> grind
theorem aR_neg (x : Rat) : aR (-x) = aR x := by unfold aR; split <;> split <;> grind
theorem aR_mul (x y : Rat) : aR (x * y) = aR x * aR y := by
  have key : ∀ x y : Rat, 0 ≤ x → aR (x * y) = aR x * aR y := fun x y hx => by
    have h1 : aR x = x := by unfold aR; split <;> grind
    by_cases hy : y < 0
    · have h2 : aR y = -y := by unfold aR; rw [if_pos hy]
      have h3 := Rat.mul_nonneg hx (show 0 ≤ -y by grind)
      have h4 : x * y ≤ 0 := by grind
      rw [h1, h2]
      unfold aR; split <;> grind
    · have h2 : aR y = y := by unfold aR; rw [if_neg hy]
      have h3 := Rat.mul_nonneg hx (show 0 ≤ y by grind)
      rw [h1, h2]
      unfold aR; split <;> grind
  by_cases hx : 0 ≤ x
  · exact key x y hx
  · have := key (-x) y (by grind)
    rw [aR_neg, show -x * y = -(x * y) by grind, aR_neg] at this
    exact this
theorem aR_sub (x y : Rat) : aR x - aR y ≤ aR (x + y) := by unfold aR; split <;> split <;> split <;> grind
theorem aR_zero {x : Rat} (h : aR x = 0) : x = 0 := by unfold aR at h; split at h <;> grind
theorem aR_int (c : Int) : aR (c : Rat) = ((c.natAbs : Int) : Rat) := by
  unfold aR
  by_cases h : c < 0
  · have h1 : (c : Rat) < 0 := by exact_mod_cast h
    rw [if_pos h1, show ((c.natAbs : Int)) = -c by omega, Rat.intCast_neg]
  · have h1 : ¬ (c : Rat) < 0 := by
      intro g
      exact h (by exact_mod_cast g)
    rw [if_neg h1, show ((c.natAbs : Int)) = c by omega]
theorem cauchy {x L M : Rat} (hx : M ≤ L * (aR x - 1)) : ∀ (a : List Int) (n : Nat), a.length = n + 1 → L ≤ aR (cf a n : Rat) → (∀ i, i < n → aR (cf a i : Rat) ≤ M) → 0 ≤ L → L ≤ aR (evP a x)
  | [], n, h, _, _, _ => by simp at h
  | [c], n, h, hL, _, _ => by
    have : n = 0 := by simpa using h.symm
    subst this
    have e : evP [c] x = (c : Rat) := by show (0 : Rat) * x + (c : Rat) = _; grind
    rw [e]; exact hL
  | c :: d :: b, n, h, hL, hM, h0 => by
    obtain ⟨m, rfl⟩ : ∃ m, n = m + 1 := ⟨n - 1, by simp at h; omega⟩
    have ih := cauchy hx (d :: b) m (by simpa using h) hL (fun i hi => hM (i + 1) (by omega)) h0
    have e : evP (c :: d :: b) x = evP (d :: b) x * x + (c : Rat) := rfl
    rw [e]
    have h1 := aR_sub (evP (d :: b) x * x) (c : Rat)
    rw [aR_mul] at h1
    have h2 : aR (c : Rat) ≤ M := hM 0 (by omega)
    have h3 := Rat.mul_nonneg (show 0 ≤ aR (evP (d :: b) x) - L by grind) (aR_nonneg x)
    grind
theorem coef_bound (a : List Int) : ∃ M : Nat, ∀ k, (cf a k).natAbs ≤ M := by
  induction a with
  | nil => exact ⟨0, fun k => by simp⟩
  | cons c a ih =>
    obtain ⟨M, h⟩ := ih
    refine ⟨max M c.natAbs, fun k => ?_⟩
    cases k with
    | zero => rw [cf_zero]; omega
    | succ k => rw [cf_succ]; have := h k; omega
theorem natR_le {a b : Nat} (h : a ≤ b) : ((a : Int) : Rat) ≤ ((b : Int) : Rat) := by exact_mod_cast (by omega : (a : Int) ≤ (b : Int))
theorem evP_zero {a : List Int} (h : ∀ x, evP a x = 0) : ∀ k, cf a k = 0 := by
  intro k
  rw [← cf_trim]
  cases ht : trimP a with
  | nil => simp
  | cons c b =>
    exfalso
    obtain ⟨n, hn⟩ : ∃ n, (trimP a).length = n + 1 := ⟨b.length, by rw [ht]; rfl⟩
    obtain ⟨M, hM⟩ := coef_bound a
    have hl := tr_trim a n hn
    have h1 : (1 : Rat) ≤ aR (cf (trimP a) n : Rat) := by
      rw [aR_int]
      exact_mod_cast (by omega : (1 : Int) ≤ ((cf (trimP a) n).natAbs : Int))
    have hx : aR (((M : Int) : Rat) + 1) = ((M : Int) : Rat) + 1 := by
      have : (0 : Rat) ≤ ((M : Int) : Rat) := by exact_mod_cast (by omega : (0 : Int) ≤ (M : Int))
      unfold aR; rw [if_neg (by grind)]
    have := cauchy (x := ((M : Int) : Rat) + 1) (L := 1) (M := ((M : Int) : Rat)) (by rw [hx]; grind) (trimP a) n hn h1 (fun i _ => by
      rw [aR_int, cf_trim]; exact natR_le (hM i)) (by decide)
    rw [evP_ext (fun k => cf_trim a k) _, h] at this
    have e0 : aR 0 = 0 := by unfold aR; rw [if_neg (by decide)]
    rw [e0] at this
    exact absurd this (by decide)
theorem evP_inj {a b : List Int} (h : ∀ x, evP a x = evP b x) : ∀ k, cf a k = cf b k := fun k => by
  have := evP_zero (a := subP a b) (fun x => by rw [ev_sub, h x]; grind) k
  rw [cf_sub] at this
  omega
theorem evP_uniq {a b : List Int} (ha : Tr a) (hb : Tr b) (h : ∀ x, evP a x = evP b x) : a = b := ha.uniq hb (evP_inj h)
theorem mulP_comm {a b : List Int} (ha : Tr a) (hb : Tr b) : mulP a b = mulP b a := evP_uniq (tr_mul ha hb) (tr_mul hb ha) fun x => by rw [evP_mul, evP_mul]; grind
theorem mulP_assoc {a b c : List Int} (ha : Tr a) (hb : Tr b) (hc : Tr c) : mulP (mulP a b) c = mulP a (mulP b c) := evP_uniq (tr_mul (tr_mul ha hb) hc) (tr_mul ha (tr_mul hb hc)) fun x => by rw [evP_mul, evP_mul, evP_mul, evP_mul]; grind
theorem cv_comm (a b : List Int) (k : Nat) : cv a b k = cv b a k := by
  rw [← cf_mul, ← cf_mul]
  exact evP_inj (fun x => by rw [evP_mul, evP_mul]; grind) k
end W

set_option Elab.async false
set_option linter.all false
set_option maxRecDepth 100000
set_option autoImplicit false
namespace W
open PySem PySem.Spec PyProof.Rows L2 VL
noncomputable def c__law_factors : Ev → Out := sSeq (sSet 0 (e2 addD (eLst (eComp [1] (e1 range2D (eCons (e1 negD (cst (.int 4))) (eCons (cst (.int 5)) (cst [])))) (gSet 1) (cst true) (eLst (e1 lim (eCons (eVar 1) (eCons (cst (.int 1)) (cst []))))))) (eLst (e1 lim (eCons (eLst (e1 lim (eCons (cst (.int 1)) (eCons (cst (.int 2)) (cst []))))) (eCons (eLst (e1 lim (eCons (e1 negD (cst (.int 1))) (eCons (cst (.int 2)) (cst []))))) (eCons (eLst (e1 lim (eCons (cst (.int 3)) (eCons (cst (.int 2)) (cst []))))) (eCons (eLst (e1 lim (eCons (e1 negD (cst (.int 3))) (eCons (cst (.int 2)) (cst []))))) (eCons (eLst (e1 lim (eCons (cst (.int 1)) (eCons (cst (.int 3)) (cst []))))) (eCons (eLst (e1 lim (eCons (e1 negD (cst (.int 2))) (eCons (cst (.int 3)) (cst []))))) (cst []))))))))))) (sRetO (e2 addO (eOwn 0) (eLst (e1 lim (eCons (eLst (e1 lim (eCons (e1 negD (cst (.int 2))) (eCons (cst (.int 0)) (eCons (cst (.int 1)) (cst [])))))) (eCons (eLst (e1 lim (eCons (e1 negD (cst (.int 3))) (eCons (cst (.int 0)) (eCons (cst (.int 1)) (cst [])))))) (eCons (eLst (e1 lim (eCons (e1 negD (cst (.int 7))) (eCons (cst (.int 0)) (eCons (cst (.int 1)) (cst [])))))) (eCons (eLst (e1 lim (eCons (cst (.int 1)) (eCons (cst (.int 0)) (eCons (cst (.int 1)) (cst [])))))) (eCons (eLst (e1 lim (eCons (cst (.int 1)) (eCons (cst (.int 1)) (eCons (cst (.int 1)) (cst [])))))) (eCons (eLst (e1 lim (eCons (e1 negD (cst (.int 5))) (eCons (cst (.int 0)) (eCons (cst (.int 2)) (cst [])))))) (eCons (eLst (e1 lim (eCons (e1 negD (cst (.int 2))) (eCons (cst (.int 0)) (eCons (cst (.int 0)) (eCons (cst (.int 1)) (cst []))))))) (cst []))))))))))))
noncomputable def m__law_factors : List D → R SD := runD 0 2 c__law_factors
noncomputable def b__law_drawn_k19_1 : Ev → Out := sSeq (sSet 5 (e2 ixD (eOwn 2) (e2 modD (e1 intD (eCons (e2 ixD (eOwn 0) (e2 addD (cst (.int 1)) (eOwn 4))) (cst []))) (e1 lenD (eCons (eOwn 2) (cst [])))))) (sIf (e1 bOf (e2 nmemD (eOwn 5) (eOwn 3))) (sApp 3 (eVar 5)) (sNil))
noncomputable def c__law_drawn_k19 : Ev → Out := sSeq (sSet 2 (eCall m__law_factors (cst []))) (sSeq (sSetO 3 (e1 lim (cst []))) (sSeq (sFor (e1 range1D (eCons (e2 addD (cst (.int 1)) (e2 modD (e1 intD (eCons (e2 ixD (eOwn 0) (cst (.int 0))) (cst []))) (eOwn 1))) (cst []))) (gSet 4) b__law_drawn_k19_1) (sRetV 3)))
noncomputable def m__law_drawn_k19 : List D → R SD := runD 2 6 c__law_drawn_k19
noncomputable def b__law_trim_k19_1 : Ev → Out := sIf (eAnd (e1 bOf (e2 gtD (e1 lenD (eCons (eOwn 1) (cst []))) (cst (.int 0)))) (e1 bOf (e2 eqD (e2 ixD (eOwn 1) (e1 negD (cst (.int 1)))) (cst (.int 0))))) (sPopX 1) (sNil)
noncomputable def c__law_trim_k19 : Ev → Out := sSeq (sSetO 1 (e1 listO (eCons (eOwn 0) (cst [])))) (sSeq (sFor (e1 range1D (eCons (e1 lenD (eCons (eOwn 0) (cst []))) (cst []))) (gSet 2) b__law_trim_k19_1) (sRetV 1))
noncomputable def m__law_trim_k19 : List D → R SD := runD 1 3 c__law_trim_k19
noncomputable def b__law_mul_k19_1 : Ev → Out := sStore 2 (e2 addD (eOwn 3) (eOwn 4)) (e2 addD (e2 ixD (eOwn 2) (e2 addD (eOwn 3) (eOwn 4))) (e2 mulD (e2 ixD (eOwn 0) (eOwn 3)) (e2 ixD (eOwn 1) (eOwn 4))))
noncomputable def b__law_mul_k19_2 : Ev → Out := sFor (e1 range1D (eCons (e1 lenD (eCons (eOwn 1) (cst []))) (cst []))) (gSet 4) b__law_mul_k19_1
noncomputable def c__law_mul_k19 : Ev → Out := sSeq (sSetO 2 (e2 mulO (eLst (e1 lim (eCons (cst (.int 0)) (cst [])))) (e2 addD (e1 lenD (eCons (eOwn 0) (cst []))) (e1 lenD (eCons (eOwn 1) (cst [])))))) (sSeq (sFor (e1 range1D (eCons (e1 lenD (eCons (eOwn 0) (cst []))) (cst []))) (gSet 3) b__law_mul_k19_2) (sFz 2 (sRetO (eCallO m__law_trim_k19 (eCons (eVar 2) (cst []))))))
noncomputable def m__law_mul_k19 : List D → R SD := runD 2 5 c__law_mul_k19
noncomputable def b__law_product_1 : Ev → Out := sSet 1 (eCall m__law_mul_k19 (eCons (eVar 1) (eCons (eVar 2) (cst []))))
noncomputable def c__law_product : Ev → Out := sSeq (sSet 1 (eLst (e1 lim (eCons (cst (.int 1)) (cst []))))) (sSeq (sFor (e1 seqD (eVar 0)) (gSet 2) b__law_product_1) (sRet (eVar 1)))
noncomputable def m__law_product : List D → R SD := runD 1 3 c__law_product
noncomputable def c__law_polynomial : Ev → Out := sSeq (sSet 2 (eCall m__law_drawn_k19 (eCons (eVar 0) (eCons (eVar 1) (cst []))))) (sSeq (sSet 3 (e2 ixD (eLst (e1 lim (eCons (cst (.int 1)) (eCons (cst (.int 1)) (eCons (e1 negD (cst (.int 1))) (eCons (cst (.int 2)) (eCons (e1 negD (cst (.int 3))) (cst [])))))))) (e2 modD (e1 intD (eCons (e2 ixD (eOwn 0) (cst (.int 9))) (cst []))) (cst (.int 5))))) (sRet (e1 tupD (eCons (eLst (eComp [4] (e1 seqD (eCall m__law_product (eCons (eVar 2) (cst [])))) (gSet 4) (cst true) (e2 mulD (eOwn 3) (eOwn 4)))) (eCons (eVar 2) (cst []))))))
noncomputable def m__law_polynomial : List D → R SD := runD 2 5 c__law_polynomial
noncomputable def c_bound_of : Ev → Out := sSeq (sSet 1 (e1 maxD (eCons (eLst (eComp [2] (e1 seqD (e3 sliceD (eOwn 0) (pNo) (e1 intOf (e1 negD (cst (.int 1)))))) (gSet 2) (cst true) (e1 absD (eCons (eOwn 2) (cst []))))) (cst [])))) (sSeq (sSet 3 (e1 absD (eCons (e2 ixD (eOwn 0) (e1 negD (cst (.int 1)))) (cst [])))) (sRet (e2 addD (cst (.int 1)) (e2 fdivD (e2 subD (e2 addD (eOwn 1) (eOwn 3)) (cst (.int 1))) (eOwn 3)))))
noncomputable def m_bound_of : List D → R SD := runD 1 4 c_bound_of
noncomputable def c__law_root_signs : Ev → Out := sSeq (sIf (e1 bOf (e2 eqD (e1 lenD (eCons (eOwn 0) (cst []))) (cst (.int 2)))) (sRetO (e1 lim (eCons (eCall m_sign_of (eCons (e2 subD (e2 mulD (e1 negD (e2 ixD (eOwn 0) (cst (.int 0)))) (e2 ixD (eOwn 1) (cst (.int 1)))) (e2 mulD (e2 ixD (eOwn 0) (cst (.int 1))) (e2 ixD (eOwn 1) (cst (.int 0))))) (cst []))) (cst [])))) (sNil)) (sSeq (sIf (e1 bOf (e2 eqD (e1 lenD (eCons (eOwn 0) (cst []))) (cst (.int 4)))) (sRetO (e1 lim (eCons (eCall m_sign_of (eCons (e2 subD (e2 mulD (e2 mulD (e2 mulD (e1 negD (e2 ixD (eOwn 0) (cst (.int 0)))) (e2 ixD (eOwn 1) (cst (.int 1)))) (e2 ixD (eOwn 1) (cst (.int 1)))) (e2 ixD (eOwn 1) (cst (.int 1)))) (e2 mulD (e2 mulD (e2 ixD (eOwn 1) (cst (.int 0))) (e2 ixD (eOwn 1) (cst (.int 0)))) (e2 ixD (eOwn 1) (cst (.int 0))))) (cst []))) (cst [])))) (sNil)) (sSeq (sIf (eOr (e1 bOf (e2 neD (e2 ixD (eOwn 0) (cst (.int 1))) (cst (.int 0)))) (e1 bOf (e2 gtD (e2 ixD (eOwn 0) (cst (.int 0))) (cst (.int 0))))) (sRetO (e1 lim (cst []))) (sNil)) (sSeq (sSet 2 (eCall m_sign_of (eCons (e2 subD (e2 mulD (e2 mulD (e1 negD (e2 ixD (eOwn 0) (cst (.int 0)))) (e2 ixD (eOwn 1) (cst (.int 1)))) (e2 ixD (eOwn 1) (cst (.int 1)))) (e2 mulD (e2 mulD (e2 ixD (eOwn 0) (cst (.int 2))) (e2 ixD (eOwn 1) (cst (.int 0)))) (e2 ixD (eOwn 1) (cst (.int 0))))) (cst [])))) (sSeq (sIf (e1 bOf (e2 gtD (e2 ixD (eOwn 1) (cst (.int 0))) (cst (.int 0)))) (sRetO (e1 lim (eCons (e1 negD (cst (.int 1))) (eCons (eVar 2) (cst []))))) (sNil)) (sSeq (sIf (e1 bOf (e2 ltD (e2 ixD (eOwn 1) (cst (.int 0))) (cst (.int 0)))) (sRetO (e1 lim (eCons (e1 negD (eOwn 2)) (eCons (cst (.int 1)) (cst []))))) (sNil)) (sRetO (e1 lim (eCons (e1 negD (cst (.int 1))) (eCons (cst (.int 1)) (cst []))))))))))
noncomputable def m__law_root_signs : List D → R SD := runD 2 3 c__law_root_signs
noncomputable def b__law_below_1 : Ev → Out := sSet 2 (e2 addD (eOwn 2) (eCall m__law_root_signs (eCons (eVar 3) (eCons (eVar 1) (cst [])))))
noncomputable def c__law_below : Ev → Out := sSeq (sSet 2 (eLst (e1 lim (cst [])))) (sSeq (sFor (e1 seqD (eVar 0)) (gSet 3) b__law_below_1) (sRet (e1 tupD (eCons (e1 lenD (eCons (eLst (eComp [4] (e1 seqD (eVar 2)) (gSet 4) (e1 bOf (e2 ltD (eOwn 4) (cst (.int 0)))) (eVar 4))) (cst []))) (eCons (e2 memD (cst (.int 0)) (eOwn 2)) (cst []))))))
noncomputable def m__law_below : List D → R SD := runD 2 5 c__law_below
noncomputable def c__law_count : Ev → Out := sRet (e2 ixD (eCall m__law_below (eCons (eVar 0) (eCons (e1 tupD (eCons (cst (.int 1000)) (eCons (cst (.int 1)) (cst [])))) (cst [])))) (cst (.int 0)))
noncomputable def m__law_count : List D → R SD := runD 1 1 c__law_count
noncomputable def c__law_is_whole : Ev → Out := sRet (eAndV (e1 (isiD "int") (eOwn 0)) (e1 notD (e1 (isiD "bool") (eOwn 0))))
noncomputable def m__law_is_whole : List D → R SD := runD 1 1 c__law_is_whole
noncomputable def c__law_bound : Ev → Out := sSeq (sSet 1 (e1 maxD (eCons (eLst (eComp [2] (e1 seqD (e3 sliceD (eOwn 0) (pNo) (e1 intOf (e1 negD (cst (.int 1)))))) (gSet 2) (cst true) (e1 absD (eCons (eOwn 2) (cst []))))) (cst [])))) (sSeq (sSet 3 (e1 absD (eCons (e2 ixD (eOwn 0) (e1 negD (cst (.int 1)))) (cst [])))) (sRet (e2 addD (e2 addD (cst (.int 1)) (e2 fdivD (eOwn 1) (eOwn 3))) (e1 intD (eCons (e2 ltD (e2 mulD (e2 fdivD (eOwn 1) (eOwn 3)) (eOwn 3)) (eOwn 1)) (cst []))))))
noncomputable def m__law_bound : List D → R SD := runD 1 4 c__law_bound
/-! ### known factors -/
def FL : List (List Int) := ((List.range 9).map fun (i : Nat) => [-4 + (i : Int), 1]) ++ [[1, 2], [-1, 2], [3, 2], [-3, 2], [1, 3], [-2, 3]] ++ [[-2, 0, 1], [-3, 0, 1], [-7, 0, 1], [1, 0, 1], [1, 1, 1], [-5, 0, 2], [-2, 0, 0, 1]]
theorem FL_len : FL.length = 22 := by decide
theorem pd1 (a : Int) : PyData.list [.int a] = pD [a] := rfl
theorem pd2 (a b : Int) : PyData.list [.int a, .int b] = pD [a, b] := rfl
theorem pd3 (a b c : Int) : PyData.list [.int a, .int b, .int c] = pD [a, b, c] := rfl
theorem pd4 (a b c d : Int) : PyData.list [.int a, .int b, .int c, .int d] = pD [a, b, c, d] := rfl
theorem factors_ok : m__law_factors [] = .ok (.ow (FL.map pD)) := by
  have hr := range2_ok (x := -4) (y := 5) (by decide) (by decide) (by decide) (by decide)
  have e : rngL (-4) 1 ((5 : Int) - -4).toNat = (List.range 9).map fun (i : Nat) => PyData.int (-4 + (i : Int)) := by
    show rngL (-4) 1 9 = _
    unfold rngL
    refine List.map_congr_left fun i _ => ?_
    congr 1; omega
  rw [e] at hr
  have hc : ∀ a0 a1, compR (compS [1] (gSet 1) (cst true) (eLst (e1 lim (eCons (eVar 1) (eCons (cst (.int 1)) (cst []))))) [a0, a1]) ((List.range 9).map fun (i : Nat) => PyData.int (-4 + (i : Int))) = .ok ((List.range 9).map fun (i : Nat) => pD [-4 + (i : Int), 1]) := fun a0 a1 =>
    compR_map' fun i hi => by simp [compS, pd2]
  have l9 : (9 : Nat) ≤ sizeLine := slB (by decide)
  have c1 : ∀ l m : List D, l.length + m.length ≤ 100 → catD l m = some (l ++ m) := fun l m h => r_cat (slB (by omega))
  have s1' : catD ((List.range 9).map fun (i : Nat) => pD [-4 + (i : Int), 1]) [pD [1, 2], pD [-1, 2], pD [3, 2], pD [-3, 2], pD [1, 3], pD [-2, 3]] = some (((List.range 9).map fun (i : Nat) => pD [-4 + (i : Int), 1]) ++ [pD [1, 2], pD [-1, 2], pD [3, 2], pD [-3, 2], pD [1, 3], pD [-2, 3]]) := c1 _ _ (by simp)
  have s2' : catD (((List.range 9).map fun (i : Nat) => pD [-4 + (i : Int), 1]) ++ [pD [1, 2], pD [-1, 2], pD [3, 2], pD [-3, 2], pD [1, 3], pD [-2, 3]]) [pD [-2, 0, 1], pD [-3, 0, 1], pD [-7, 0, 1], pD [1, 0, 1], pD [1, 1, 1], pD [-5, 0, 2], pD [-2, 0, 0, 1]] = some (FL.map pD) := by
    rw [c1 _ _ (by simp)]
    unfold FL
    rw [List.map_append, List.map_append, List.map_map]; rfl
  simp [m__law_factors, c__law_factors, hr, hc, l9, pd2, pd3, pd4, s1', s2', -r_cat, -List.map_append]
theorem nmem_p {f : List Int} {fs : List (List Int)} : nmemD (pD f) (.list (fs.map pD)) = some (.bool (!decide (f ∈ fs))) := by
  have s1' : SeqAt.shaped (pD f) = true := shaped_of (by simp)
  have s2' : SeqAt.shaped (.list (fs.map pD)) = true := shaped_of (by
    rw [okD_list]
    exact okL_iff.mpr fun d hd => by
      obtain ⟨p, _, rfl⟩ := List.mem_map.mp hd
      simp)
  show (inD (pD f) (.list (fs.map pD))).map _ = _
  unfold inD
  simp only [s1', s2', Bool.and_self, if_true, Option.map_some]
  congr 3
  rw [Bool.eq_iff_iff, List.any_eq_true, decide_eq_true_eq]
  constructor
  · rintro ⟨d, hd, he⟩
    obtain ⟨p, hp, rfl⟩ := List.mem_map.mp hd
    have := p_eq (a := p) (b := f)
    rw [r_eqD (by simp) (by simp), he] at this
    have : p = f := by simpa using this
    exact this ▸ hp
  · intro h
    exact ⟨pD f, List.mem_map.mpr ⟨f, h, rfl⟩, eqv_self (by simp : okD 64 (pD f) = true)⟩
theorem gI_cf (xs : List Int) (i : Nat) : gI xs i = cf xs i := rfl
theorem drawn_ok {c : Nat} {xs : List Int} (h : IsDraws c xs) {z : Int} {most : Nat} (hz : z = most) (h0 : 1 ≤ most) (hc : most + 1 ≤ c) (hm : most ≤ 100) :
    ∃ fs : List (List Int), m__law_drawn_k19 [pD xs, .int z] = .ok (.ow (fs.map pD)) ∧ (∀ f ∈ fs, f ∈ FL) ∧ fs ≠ [] ∧ fs.length ≤ most ∧ fs.Nodup := by
  subst hz
  obtain ⟨v0, v1⟩ := fmod_rng (a := gI xs 0) (b := (most : Int)) (by omega)
  obtain ⟨s, hs⟩ : ∃ s : Nat, 1 + (gI xs 0).fmod (most : Int) = (s : Int) := ⟨(1 + (gI xs 0).fmod (most : Int)).toNat, by omega⟩
  have ix0 : ixD (pD xs) (.int 0) = some (.int (gI xs 0)) := p_ixc (n := 0) (by rw [h.len]; omega)
  have hr := range1_ok (x := (s : Int)) (by omega) (by omega)
  have hm0 : modD (.int (gI xs 0)) (.int (most : Int)) = some (.int ((gI xs 0).fmod (most : Int))) := r_mod (by omega)
  obtain ⟨ρ', e, fs, y4, y5, rfl, f1, f2, f3, f4⟩ := forO_inv (F := gTo (gSet 4) b__law_drawn_k19_1) (l := rngL 0 1 s)
    (fun i ρ => ∃ (fs : List (List Int)) (y4 y5 : SD), ρ = [.sh (pD xs), .sh (.int (most : Int)), .sh (.list (FL.map pD)), .ow (fs.map pD), y4, y5] ∧ (∀ f ∈ fs, f ∈ FL) ∧ fs.length ≤ i ∧ (0 < i → fs ≠ []) ∧ fs.Nodup)
    (ρ := [.sh (pD xs), .sh (.int (most : Int)), .sh (.list (FL.map pD)), .ow [], .no, .no]) ⟨[], _, _, rfl, by simp, by simp, by simp, by simp⟩
    (fun i d ρ hd hi => by
      obtain ⟨hil, rfl⟩ := rng0_get hd
      obtain ⟨fs, y4, y5, rfl, f1, f2, f3, f4⟩ := hi
      have ix1 : ixD (pD xs) (.int (1 + (i : Int))) = some (.int (gI xs (i + 1))) := by
        have := p_ixc (l := xs) (n := i + 1) (by rw [h.len]; omega)
        rw [show ((i + 1 : Nat) : Int) = 1 + (i : Int) by omega] at this
        exact this
      obtain ⟨w0, w1⟩ := fmod_rng (a := gI xs (i + 1)) (b := 22) (by decide)
      obtain ⟨w, hw⟩ : ∃ w : Nat, (gI xs (i + 1)).fmod 22 = (w : Int) := ⟨((gI xs (i + 1)).fmod 22).toNat, by omega⟩
      have hwl : w < FL.length := by rw [FL_len]; omega
      have ixf : ixD (.list (FL.map pD)) (.int (w : Int)) = some (pD FL[w]) := by
        rw [r_ix_l, r_at, List.getElem?_map, List.getElem?_eq_getElem hwl]; rfl
      have ll : lenD [.list (FL.map pD)] = some (.int 22) := by rw [r_len_l, List.length_map, FL_len]; rfl
      have hsl : fs.length < sizeLine := Nat.lt_of_le_of_lt (show fs.length ≤ 1000 by omega) (by decide)
      have nm := nmem_p (f := FL[w]) (fs := fs)
      by_cases hmem : FL[w] ∈ fs
      · refine ⟨_, .inl (by simp [b__law_drawn_k19_1, ix1, ll, hw, ixf, nm, hmem, -r_ix_l, -r_len_l, -List.getElem_map, -Out.nx.injEq] <;> rfl), fs, _, _, rfl, f1, by omega, fun _ => List.ne_nil_of_mem hmem, f4⟩
      · refine ⟨_, .inl (by simp [b__law_drawn_k19_1, ix1, ll, hw, ixf, nm, hmem, hsl, -r_ix_l, -r_len_l, -List.getElem_map, -Out.nx.injEq] <;> rfl), fs ++ [FL[w]], .sh (.int (i : Int)), .sh (pD FL[w]), by simp, fun f hf => ?_, by simp; omega, fun _ => by simp, ?_⟩
        · rcases List.mem_append.mp hf with g | g
          · exact f1 f g
          · simp at g; subst g; exact List.getElem_mem hwl
        · rw [List.nodup_append]
          exact ⟨f4, by simp, fun a ha b hb => by
            simp at hb; subst hb
            rintro rfl; exact hmem ha⟩)
  rw [rngL_length] at f2 f3
  refine ⟨fs, ?_, f1, f3 (by omega), by omega, f4⟩
  simp [m__law_drawn_k19, c__law_drawn_k19, factors_ok, ix0, hm0, hs, hr, e]
theorem trimk_loop (l : List Int) (hl : l.length ≤ 100000) : ∃ y2, forO (gTo (gSet 2) b__law_trim_k19_1) (rngL 0 1 l.length) [.sh (pD l), .ow (l.map .int), .no] = .nx [.sh (pD l), .ow ((trimP l).map .int), y2] := by
  obtain ⟨ρ', e, n, y2, rfl, hn, hz, hend⟩ := forO_inv (F := gTo (gSet 2) b__law_trim_k19_1) (l := rngL 0 1 l.length)
    (fun i ρ => ∃ (n : Nat) (y2 : SD), ρ = [.sh (pD l), .ow ((l.take n).map .int), y2] ∧ n ≤ l.length ∧ (∀ k, n ≤ k → cf l k = 0) ∧ (n + i ≤ l.length ∨ ∀ m, n = m + 1 → cf l m ≠ 0))
    (ρ := [.sh (pD l), .ow (l.map .int), .no]) ⟨l.length, .no, by rw [List.take_length], Nat.le_refl _, fun k hk => cf_out hk, .inl (by omega)⟩
    (fun i d ρ hd hi => by
      obtain ⟨hil, rfl⟩ := rng0_get hd
      obtain ⟨n, y2, rfl, hn, hz, hend⟩ := hi
      cases n with
      | zero =>
        exact ⟨_, .inl (by simp [b__law_trim_k19_1, -Out.nx.injEq] <;> rfl), 0, .sh (.int (i : Int)), by simp, Nat.zero_le _, hz, .inr fun m hm => by omega⟩
      | succ n =>
        have tk := take_snoc (l := l) (n := n) (by omega)
        have lt : (l.take n).length = n := by simp; omega
        have al : atI ((l.take n).map PyData.int ++ [.int (cf l n)]) (-1 : Int) = some (.int (cf l n)) := r_at_last
        rw [tk]
        by_cases z : cf l n = 0
        · refine ⟨_, .inl (by simp [b__law_trim_k19_1, al, z, -List.map_take, -Out.nx.injEq] <;> rfl), n, .sh (.int (i : Int)), rfl, by omega, fun k hk => ?_, ?_⟩
          · by_cases e : k = n
            · subst e; exact z
            · exact hz k (by omega)
          · rcases hend with h | h
            · exact .inl (by omega)
            · exact absurd z (h n rfl)
        · refine ⟨_, .inl (by simp [b__law_trim_k19_1, al, z, -List.map_take, -Out.nx.injEq] <;> rfl), n + 1, .sh (.int (i : Int)), by rw [tk], hn, hz, .inr fun m hm => ?_⟩
          have : m = n := by omega
          subst this; exact z)
  rw [rngL_length] at hend
  have : trimP l = l.take n := tr_take hz hn (by
    rcases hend with h | h
    · intro m hm; omega
    · exact h)
  rw [this]
  exact ⟨y2, e⟩
theorem trimk_ok (l : List Int) (hl : l.length ≤ 100000) : m__law_trim_k19 [pD l] = .ok (.ow ((trimP l).map .int)) := by
  obtain ⟨y2, e⟩ := trimk_loop l hl
  have hr := range1_ok (x := (l.length : Nat)) (by omega) (by omega)
  simp [m__law_trim_k19, c__law_trim_k19, hr, e]
theorem mulk_ok {a b : List Int} {s t : Nat} (ha : SzP s a) (hb : SzP t b) (hst : s + t ≤ 134217728) (hla : a.length ≤ 40000) (hlb : b.length ≤ 40000) (ta : Tr a) (tb : Tr b) : m__law_mul_k19 [pD a, pD b] = .ok (.ow ((mulP a b).map .int)) := by
  obtain ⟨L, hL⟩ : ∃ L, L = a.length + b.length := ⟨_, rfl⟩
  have r1 := range1_ok (x := (a.length : Nat)) (by omega) (by omega)
  have r2 := range1_ok (x := (b.length : Nat)) (by omega) (by omega)
  have rp := rep_ok (n := L) (z := (a.length : Int) + (b.length : Int)) (by omega) (by omega)
  have eb : b__law_mul_k19_2 = b__law_multiply_2 := rfl
  obtain ⟨ρ', e, y3, y4, rfl⟩ := forO_inv (F := gTo (gSet 3) b__law_mul_k19_2) (l := rngL 0 1 a.length)
    (fun i ρ => ∃ y3 y4, ρ = [.sh (pD a), .sh (pD b), .ow ((fl L fun k => sumN i (tm a b k)).map .int), y3, y4])
    (ρ := [.sh (pD a), .sh (pD b), .ow ((fl L fun _ => 0).map .int), .no, .no])
    ⟨_, _, rfl⟩
    (fun i d ρ hd hi => by
      obtain ⟨hj, rfl⟩ := rng0_get hd
      obtain ⟨y3, y4, rfl⟩ := hi
      obtain ⟨z4, e⟩ := lmul_inner (φ := fun k => sumN i (tm a b k)) (i := i) (L := L) ha hb hst hj (by omega) y4
      exact ⟨_, .inl (by rw [eb]; simp [b__law_multiply_2, r2, e, -Out.nx.injEq]; rfl), _, _, rfl⟩)
  rw [rngL_length] at e
  have ht := trimk_ok (fl L fun k => sumN a.length (tm a b k)) (by simp; omega)
  have he : trimP (fl L fun k => sumN a.length (tm a b k)) = mulP a b := trim_eq (tr_mul ta tb) fun k => by
    rw [cf_fl, cf_mul]
    split
    · rfl
    · exact (cv_out (by omega)).symm
  rw [he] at ht
  simp [m__law_mul_k19, c__law_mul_k19, rp, r1, e, ht]
theorem lprod_loop {s LT : Nat} (hLT : LT ≤ 40000) (x : SD) (ps : List (List Int)) : ∀ (acc : List Int) (t : Nat) (j : SD), (∀ p ∈ ps, SzP s p ∧ Tr p) → SzP t acc → Tr acc → t + ps.length * (s + LT) ≤ 1000000 → acc.length + (ps.map List.length).sum ≤ LT →
    ∃ j', forO (gTo (gSet 2) b__law_product_1) (ps.map pD) [x, .sh (pD acc), j] = .nx [x, .sh (pD (ps.foldl mulP acc)), j'] := by
  induction ps with
  | nil => exact fun acc t j _ ha _ _ h2 => ⟨j, rfl⟩
  | cons p ps ihh =>
    intro acc t j hp ha ta h1 h2
    obtain ⟨hp1, tp⟩ := hp p (by simp)
    rw [List.length_cons, Nat.succ_mul] at h1
    rw [List.map_cons, List.sum_cons] at h2
    have m := mulk_ok ha hp1 (by omega) (by omega) (by omega) ta tp
    have e : gTo (gSet 2) b__law_product_1 (pD p) [x, .sh (pD acc), j] = .nx [x, .sh (pD (mulP acc p)), .sh (pD p)] := by
      simp [b__law_product_1, m]
    have hl := mul_len acc p
    have hm := (ha.mul hp1).mono (show t + s + acc.length ≤ t + (s + LT) by omega)
    obtain ⟨j', ih⟩ := ihh (mulP acc p) (t + (s + LT)) (.sh (pD p)) (fun q hq => hp q (by simp [hq])) hm (tr_mul ta tp) (by omega) (by omega)
    refine ⟨j', ?_⟩
    rw [List.map_cons, List.foldl_cons, forO, e]
    exact ih
theorem FL_all : ∀ f ∈ FL, SzP 3 f ∧ Tr f ∧ f.length ≤ 4 ∧ 2 ≤ f.length := by
  have h : FL.all (fun f => f.all (fun c => decide (c.natAbs < 2 ^ 3)) && (decide (f.length ≤ 4) && decide (2 ≤ f.length)) && decide (cf f (f.length - 1) ≠ 0)) = true := by decide +kernel
  rw [List.all_eq_true] at h
  intro f hf
  have := h f hf
  simp only [Bool.and_eq_true, decide_eq_true_eq, List.all_eq_true] at this
  obtain ⟨⟨h1, h2, h3⟩, h4⟩ := this
  refine ⟨fun c hc => ⟨h1 c hc⟩, fun m hm => ?_, h2, h3⟩
  rw [hm] at h4; exact h4
theorem sum_len {fs : List (List Int)} (h : ∀ f ∈ fs, f ∈ FL) : (fs.map List.length).sum ≤ fs.length * 4 := by
  induction fs with
  | nil => simp
  | cons f fs ih =>
    have := (FL_all f (h f (by simp))).2.2.1
    have := ih fun g hg => h g (by simp [hg])
    rw [List.map_cons, List.sum_cons, List.length_cons, Nat.succ_mul]; omega
theorem lproduct_ok {fs : List (List Int)} (h : ∀ f ∈ fs, f ∈ FL) (hl : fs.length ≤ 10) : m__law_product [.list (fs.map pD)] = .ok (.sh (pD (prodP fs))) ∧ SzP 500 (prodP fs) ∧ Tr (prodP fs) ∧ (prodP fs).length ≤ 41 := by
  have hs := sum_len h
  have hs' : fs.length * (3 + 41) ≤ 10 * (3 + 41) := Nat.mul_le_mul_right _ hl
  obtain ⟨j, e⟩ := lprod_loop (s := 3) (LT := 41) (by decide) (.sh (.list (fs.map pD))) fs [1] 1 .no (fun p hp => ⟨(FL_all p (h p hp)).1, (FL_all p (h p hp)).2.1⟩) szp1 tr_one (by omega) (by simp; omega)
  obtain ⟨_, p2, p3⟩ := product_ok (s := 3) (LT := 41) (ps := fs) (fun p hp => (FL_all p (h p hp)).1) (by decide) (by omega) (by omega)
  have one : PyData.list [PyData.int 1] = pD [1] := rfl
  refine ⟨by simp [m__law_product, c__law_product, one, e, prodP], p2.mono (by omega), tr_foldl (fun p hp => (FL_all p (h p hp)).2.1) tr_one, p3⟩
def kP (by_ : Int) (fs : List (List Int)) : List Int := (prodP fs).map fun c => by_ * c
theorem cf_kP (b : Int) (fs : List (List Int)) (k : Nat) : cf (kP b fs) k = b * cf (prodP fs) k := cf_map (f := fun c => b * c) (by simp) k
theorem ev_kP (b : Int) (fs : List (List Int)) (x : Rat) : evP (kP b fs) x = (b : Rat) * evP (prodP fs) x := by
  rw [evP_S _ x (prodP fs).length (by simp [kP]), evP_S (prodP fs) x (prodP fs).length (Nat.le_refl _), ← evS_mul]
  exact evS_congr fun k _ => cf_kP b fs k
theorem prod_len2 : ∀ {fs : List (List Int)} {acc : List Int}, (∀ f ∈ fs, f ∈ FL) → Tr acc → 1 ≤ acc.length → acc.length + fs.length ≤ (fs.foldl mulP acc).length
  | [], acc, _, _, _ => by simp
  | f :: fs, acc, h, ta, hl => by
    obtain ⟨_, tf, _, l2⟩ := FL_all f (h f (by simp))
    have hm : (mulP acc f).length = acc.length + f.length - 1 := by
      unfold mulP
      have h1 : acc ≠ [] := by rintro rfl; simp at hl
      have h2 : f ≠ [] := by rintro rfl; simp at l2
      rw [if_neg (by simp [h1, h2]), fl_length]
    have ih := prod_len2 (fs := fs) (acc := mulP acc f) (fun g hg => h g (by simp [hg])) (tr_mul ta tf) (by omega)
    rw [List.foldl_cons, List.length_cons]; omega
theorem polynomial_ok {c : Nat} {xs : List Int} (h : IsDraws c xs) {z : Int} {most : Nat} (hz : z = most) (h0 : 1 ≤ most) (hc : most + 1 ≤ c) (hm : most ≤ 10) (hc9 : 10 ≤ c) :
    ∃ (b : Int) (fs : List (List Int)), m__law_polynomial [pD xs, .int z] = .ok (.sh (.tuple [pD (kP b fs), .list (fs.map pD)])) ∧ (b = 1 ∨ b = -1 ∨ b = 2 ∨ b = -3) ∧ (∀ f ∈ fs, f ∈ FL) ∧ fs ≠ [] ∧ fs.length ≤ most ∧ fs.Nodup := by
  obtain ⟨fs, u, f1, f2, f3, f4⟩ := drawn_ok h hz h0 hc (by omega)
  obtain ⟨p1, p2, p3, p4⟩ := lproduct_ok f1 (by omega)
  obtain ⟨v0, v1⟩ := fmod_rng (a := gI xs 9) (b := 5) (by decide)
  have ix9 : ixD (pD xs) (.int 9) = some (.int (gI xs 9)) := p_ixc (n := 9) (by rw [h.len]; omega)
  obtain ⟨b, hb, hbc⟩ : ∃ b : Int, ixD (.list [.int 1, .int 1, .int (-1), .int 2, .int (-3)]) (.int ((gI xs 9).fmod 5)) = some (.int b) ∧ (b = 1 ∨ b = -1 ∨ b = 2 ∨ b = -3) := by
    generalize (gI xs 9).fmod 5 = w at v0 v1 ⊢
    have hc : w = 0 ∨ w = 1 ∨ w = 2 ∨ w = 3 ∨ w = 4 := by omega
    rcases hc with rfl | rfl | rfl | rfl | rfl <;> exact ⟨_, by simp <;> rfl, by decide⟩
  have sb : Sz 3 b := by rcases hbc with rfl | rfl | rfl | rfl <;> exact .lit (by decide)
  have hl : (prodP fs).length ≤ sizeLine := slB (by omega)
  have hcmp : ∀ a0 a1 a2 a4 : SD, compR (compS [4] (gSet 4) (cst true) (e2 mulD (eOwn 3) (eOwn 4)) [a0, a1, a2, .sh (.int b), a4]) ((prodP fs).map .int) = .ok ((kP b fs).map .int) := fun a0 a1 a2 a4 => by
    unfold kP
    rw [List.map_map]
    exact compR_map' fun x hx => by
      have o := okMul_of sb (p2 x hx) (by decide)
      simp [compS, o]
  exact ⟨b, fs, by simp [m__law_polynomial, c__law_polynomial, u, p1, ix9, hb, hl, hcmp, -r_ix_l], hbc, f1, f2, f3, f4⟩
/-! bounds -/
theorem cutI_init (l : List Int) {n : Nat} (h : l.length = n + 1) : cutI l none (some (-1)) = l.take n := by
  unfold cutI
  rw [HT.sIx_none]
  have : HT.sIx l.length l.length (some (-1)) = n := by
    show (if (-1 : Int) < 0 then (-1 + (l.length : Int)).toNat else min (-1 : Int).toNat l.length) = _
    rw [if_pos (by decide)]; omega
  rw [this, List.drop_zero, Nat.sub_zero]
theorem ix_last {l : List Int} {n : Nat} (h : l.length = n + 1) : ixD (pD l) (.int (-1)) = some (.int (cf l n)) := by
  have := take_snoc (l := l) (n := n) (by omega)
  rw [List.take_of_length_le (by omega)] at this
  unfold pD
  rw [this]
  exact r_at_last
theorem maxI_ge : ∀ (r : List Int) (m : Int), m ≤ maxI m r ∧ (∀ x ∈ r, x ≤ maxI m r) ∧ (maxI m r = m ∨ maxI m r ∈ r)
  | [], m => ⟨Int.le_refl _, by simp, .inl rfl⟩
  | x :: r, m => by
    unfold maxI
    split
    · rename_i h
      obtain ⟨h1, h2, h3⟩ := maxI_ge r x
      exact ⟨by omega, fun y hy => by
        rcases List.mem_cons.mp hy with rfl | hy
        · exact h1
        · exact h2 y hy, by
        rcases h3 with h3 | h3
        · right; rw [h3]; simp
        · right; simp [h3]⟩
    · rename_i h
      obtain ⟨h1, h2, h3⟩ := maxI_ge r m
      exact ⟨h1, fun y hy => by
        rcases List.mem_cons.mp hy with rfl | hy
        · omega
        · exact h2 y hy, by
        rcases h3 with h3 | h3
        · left; exact h3
        · right; simp [h3]⟩
def bndI (G L : Int) : Int := 1 + (G + L - 1).fdiv L
theorem bnd_same {G L : Int} (hL : 0 < L) (hG : 0 ≤ G) : 1 + G.fdiv L + (if G.fdiv L * L < G then 1 else 0) = bndI G L ∧ G ≤ (bndI G L - 1) * L ∧ 1 ≤ bndI G L := by
  unfold bndI
  have e1 := Int.mul_fdiv_add_fmod G L
  obtain ⟨r0, r1⟩ := fmod_rng (a := G) hL
  have e3 := Int.mul_fdiv_add_fmod (G + L - 1) L
  obtain ⟨s0, s1⟩ := fmod_rng (a := G + L - 1) hL
  have hq : 0 ≤ G.fdiv L := Int.fdiv_nonneg hG (by omega)
  generalize hqq : G.fdiv L = q at *
  generalize hpp : (G + L - 1).fdiv L = p at *
  generalize G.fmod L = r at *
  generalize (G + L - 1).fmod L = s at *
  have hc : q * L = L * q := Int.mul_comm _ _
  have hpc : p * L = L * p := Int.mul_comm _ _
  have key : p = q + (if q * L < G then 1 else 0) := by
    split
    · rename_i h
      have : L * (p - (q + 1)) = r - 1 - s := by rw [Int.mul_sub, Int.mul_add]; omega
      rcases Int.lt_trichotomy (p - (q + 1)) 0 with h1 | h1 | h1
      · have := Int.mul_le_mul_of_nonneg_left (show p - (q + 1) ≤ -1 by omega) (show 0 ≤ L by omega)
        omega
      · omega
      · have := Int.mul_le_mul_of_nonneg_left (show 1 ≤ p - (q + 1) by omega) (show 0 ≤ L by omega)
        omega
    · rename_i h
      have hr : r = 0 := by omega
      have : L * (p - q) = L - 1 - s := by rw [Int.mul_sub]; omega
      rcases Int.lt_trichotomy (p - q) 0 with h1 | h1 | h1
      · have := Int.mul_le_mul_of_nonneg_left (show p - q ≤ -1 by omega) (show 0 ≤ L by omega)
        omega
      · omega
      · have := Int.mul_le_mul_of_nonneg_left (show 1 ≤ p - q by omega) (show 0 ≤ L by omega)
        omega
  refine ⟨by omega, ?_, ?_⟩
  · have : (1 + p - 1) * L = L * p := by rw [show 1 + p - 1 = p by omega]; exact hpc
    rw [this]; omega
  · split at key <;> omega
theorem bound_ok {p : List Int} {n s : Nat} (hn : p.length = n + 1) (h1 : 1 ≤ n) (hs : SzP s p) (hsz : s ≤ 5000) (hl : n ≤ 10000) (h0 : cf p n ≠ 0) : ∃ G : Int, 0 ≤ G ∧ Sz s G ∧ (∀ i, i < n → ((cf p i).natAbs : Int) ≤ G) ∧
    m_bound_of [pD p] = .ok (.sh (.int (bndI G ((cf p n).natAbs : Int)))) ∧ m__law_bound [pD p] = .ok (.sh (.int (bndI G ((cf p n).natAbs : Int)))) := by
  have c := cutI_init p hn
  have ixl := ix_last hn
  obtain ⟨a0, r, hr⟩ : ∃ a0 r, p.take n = a0 :: r := by
    cases h : p.take n with
    | nil =>
      have hh : (p.take n).length = n := by simp; omega
      rw [h] at hh; simp at hh; omega
    | cons a b => exact ⟨a, b, rfl⟩
  have ab : ∀ x : Int, (if x < 0 then -x else x) = (x.natAbs : Int) := fun x => by
    by_cases hx : x < 0
    · rw [if_pos hx]; omega
    · rw [if_neg hx]; omega
  have hmem : ∀ x ∈ p.take n, x ∈ p := fun x hx => List.mem_of_mem_take hx
  have hc : ∀ a1 a2 a3 : SD, compR (compS [2] (gSet 2) (cst true) (e1 absD (eCons (eOwn 2) (cst []))) [a1, a2, .no, a3]) ((p.take n).map .int) = .ok (((p.take n).map fun x => (x.natAbs : Int)).map .int) := fun a1 a2 a3 => by
    rw [List.map_map]
    exact compR_map' fun x hx => by simp [compS, ab]
  have hls : min n p.length ≤ sizeLine := slB (by omega)
  obtain ⟨m1, m2, m3⟩ := maxI_ge (r.map fun x => (x.natAbs : Int)) (a0.natAbs : Int)
  have hmx : maxD [pD ((p.take n).map fun x => (x.natAbs : Int))] = some (.int (maxI (a0.natAbs : Int) (r.map fun x => (x.natAbs : Int)))) := by
    rw [hr]
    show (intsD (List.map .int _)).bind _ = _
    rw [intsD_map]; rfl
  generalize hG : maxI (a0.natAbs : Int) (r.map fun x => (x.natAbs : Int)) = G at *
  have hG0 : 0 ≤ G := by omega
  have hGs : Sz s G := by
    have : ∃ x ∈ p.take n, G = (x.natAbs : Int) := by
      rcases m3 with h | h
      · exact ⟨a0, by rw [hr]; simp, h⟩
      · obtain ⟨x, hx, e⟩ := List.mem_map.mp h
        exact ⟨x, by rw [hr]; simp [hx], e.symm⟩
    obtain ⟨x, hx, e⟩ := this
    exact (hs x (hmem x hx)).of_le (by omega)
  have hb : ∀ i, i < n → ((cf p i).natAbs : Int) ≤ G := fun i hi => by
    have : cf p i ∈ p.take n := by
      have := cf_mem (l := p.take n) (k := i) (by simp; omega)
      rw [cf_take, if_pos hi] at this
      exact this
    rw [hr] at this
    rcases List.mem_cons.mp this with e | e
    · rw [e]; exact m1
    · exact m2 _ (List.mem_map.mpr ⟨_, e, rfl⟩)
  have hL : Sz s ((cf p n).natAbs : Int) := (hs.cf n).of_le (by simp)
  have hLp : (0 : Int) < ((cf p n).natAbs : Int) := by omega
  have od : ∀ x, okDiv x ((cf p n).natAbs : Int) = true := fun x => okDiv_of (hL.mono (by omega)) (by omega)
  have om : okMul (G.fdiv ((cf p n).natAbs : Int)) ((cf p n).natAbs : Int) = true := okMul_of hGs.fdiv hL (by omega)
  obtain ⟨bs, _, _⟩ := bnd_same hLp hG0
  refine ⟨G, hG0, hGs, hb, ?_, ?_⟩
  · simp [m_bound_of, c_bound_of, c, hls, hc, hmx, ixl, ab, od, bndI, -List.map_take, -List.map_map]
  · have e : (PyData.int (1 + G.fdiv ((cf p n).natAbs : Int) + (if G.fdiv ((cf p n).natAbs : Int) * ((cf p n).natAbs : Int) < G then 1 else 0))) = .int (bndI G ((cf p n).natAbs : Int)) := by rw [bs]
    simp [m__law_bound, c__law_bound, c, hls, hc, hmx, ixl, ab, od, om, -List.map_take, -List.map_map]
    simpa using e
end W

set_option Elab.async false
set_option linter.all false
set_option maxRecDepth 100000
set_option autoImplicit false
namespace W
open PySem PySem.Spec PyProof.Rows L2 VL
noncomputable def c_shifted : Ev → Out := sRet (eIf (e1 truD (eOwn 0)) (e2 addD (e2 mulD (eLst (e1 lim (eCons (cst (.int 0)) (cst [])))) (eOwn 1)) (eOwn 0)) (eLst (e1 lim (cst []))))
noncomputable def m_shifted : List D → R SD := runD 2 2 c_shifted
noncomputable def b_false_rest_1 : Ev → Out := sSeq (sSet 5 (e2 subD (e2 subD (e1 lenD (eCons (eOwn 0) (cst []))) (e1 lenD (eCons (eOwn 1) (cst [])))) (eOwn 4))) (sSeq (sSet 6 (eCall m_coefficient_of (eCons (eVar 2) (eCons (e2 subD (e2 addD (eOwn 5) (e1 lenD (eCons (eOwn 1) (cst [])))) (cst (.int 1))) (cst []))))) (sSet 2 (eCall m_subtract (eCons (eCall m_scale (eCons (eVar 2) (eCons (eVar 3) (cst [])))) (eCons (eCall m_shifted (eCons (eCall m_scale (eCons (eVar 1) (eCons (eVar 6) (cst [])))) (eCons (eVar 5) (cst [])))) (cst []))))))
noncomputable def c_false_rest : Ev → Out := sSeq (sIf (e1 bOf (e2 ltD (e1 lenD (eCons (eOwn 0) (cst []))) (e1 lenD (eCons (eOwn 1) (cst []))))) (sRetO (e1 listO (eCons (eOwn 0) (cst [])))) (sNil)) (sSeq (sSet 2 (eLst (e1 listO (eCons (eOwn 0) (cst []))))) (sSeq (sSet 3 (e2 ixD (eOwn 1) (e1 negD (cst (.int 1))))) (sSeq (sFor (e1 range1D (eCons (e2 addD (e2 subD (e1 lenD (eCons (eOwn 0) (cst []))) (e1 lenD (eCons (eOwn 1) (cst [])))) (cst (.int 1))) (cst []))) (gSet 4) b_false_rest_1) (sRet (eVar 2)))))
noncomputable def m_false_rest : List D → R SD := runD 2 7 c_false_rest
noncomputable def c_divides : Ev → Out := sRet (e1 notD (eCall m_false_rest (eCons (eVar 1) (eCons (eVar 0) (cst [])))))
noncomputable def m_divides : List D → R SD := runD 2 2 c_divides
noncomputable def c_plain : Ev → Out := sSeq (sIf (eNot (e1 truD (eOwn 0))) (sRetO (e1 lim (cst []))) (sNil)) (sSeq (sSet 1 (eCall m_content (eCons (eVar 0) (cst [])))) (sSeq (sIf (e1 bOf (e2 ltD (e2 ixD (eOwn 0) (e1 negD (cst (.int 1)))) (cst (.int 0)))) (sSet 1 (e1 negD (eOwn 1))) (sNil)) (sRetO (eComp [2] (e1 seqD (eVar 0)) (gSet 2) (cst true) (e2 fdivD (eOwn 2) (eOwn 1))))))
noncomputable def m_plain : List D → R SD := runD 1 3 c_plain
noncomputable def b_quotient_1 : Ev → Out := sStore 2 (e2 addD (eOwn 5) (eOwn 7)) (eCall m_plus (eCons (e2 ixD (eOwn 2) (e2 addD (eOwn 5) (eOwn 7))) (eCons (eCall m_times (eCons (eVar 6) (eCons (e1 tupD (eCons (e1 negD (eOwn 3)) (eCons (cst (.int 1)) (cst [])))) (cst [])))) (cst []))))
noncomputable def b_quotient_2 : Ev → Out := sSeq (sSet 6 (eCall m_times (eCons (e2 ixD (eOwn 2) (e2 subD (e2 addD (eOwn 5) (e1 lenD (eCons (eOwn 1) (cst [])))) (cst (.int 1)))) (eCons (eCall m_number (eCons (cst (.int 1)) (eCons (e2 ixD (eOwn 1) (e1 negD (cst (.int 1)))) (cst [])))) (cst []))))) (sSeq (sApp 4 (eVar 6)) (sFor (e1 enuD (eCons (eVar 1) (cst []))) (gTupD 2 (gsCons (gSet 7) (gsCons (gSet 3) (gsNil)))) b_quotient_1))
noncomputable def b_quotient_3 : Ev → Out := sSet 8 (e2 fdivD (e2 mulD (eOwn 8) (eOwn 10)) (e1 gcdD (eCons (eOwn 8) (eCons (eOwn 10) (cst [])))))
noncomputable def c_quotient : Ev → Out := sSeq (sSetO 2 (eComp [3] (e1 seqD (eVar 0)) (gSet 3) (cst true) (eCall m_number (eCons (eVar 3) (eCons (cst (.int 1)) (cst [])))))) (sSeq (sSetO 4 (e1 lim (cst []))) (sSeq (sFor (e1 range3D (eCons (e2 subD (e1 lenD (eCons (eOwn 0) (cst []))) (e1 lenD (eCons (eOwn 1) (cst [])))) (eCons (e1 negD (cst (.int 1))) (eCons (e1 negD (cst (.int 1))) (cst []))))) (gSet 5) b_quotient_2) (sSeq (sSet 8 (cst (.int 1))) (sSeq (sFz 4 (sFor (e1 seqD (eVar 4)) (gTupD 2 (gsCons (gSet 9) (gsCons (gSet 10) (gsNil)))) b_quotient_3)) (sRetO (eCallO m_plain (eCons (eLst (eComp [9, 10] (e1 seqD (eLst (e1 revO (eOwn 4)))) (gTupD 2 (gsCons (gSet 9) (gsCons (gSet 10) (gsNil)))) (cst true) (e2 mulD (eOwn 9) (e2 fdivD (eOwn 8) (eOwn 10))))) (cst []))))))))
noncomputable def m_quotient : List D → R SD := runD 2 11 c_quotient
noncomputable def b__law_rest_1 : Ev → Out := sSeq (sSet 4 (e2 subD (e2 subD (e1 lenD (eCons (eOwn 0) (cst []))) (e1 lenD (eCons (eOwn 1) (cst [])))) (eOwn 3))) (sSeq (sSet 5 (cst (.int 0))) (sSeq (sIf (e1 bOf (e2 ltD (e2 subD (e2 addD (eOwn 4) (e1 lenD (eCons (eOwn 1) (cst [])))) (cst (.int 1))) (e1 lenD (eCons (eOwn 2) (cst []))))) (sSet 5 (e2 ixD (eOwn 2) (e2 subD (e2 addD (eOwn 4) (e1 lenD (eCons (eOwn 1) (cst [])))) (cst (.int 1))))) (sNil)) (sSet 2 (eCall m__law_add (eCons (eCall m__law_times_number (eCons (eVar 2) (eCons (e2 ixD (eOwn 1) (e1 negD (cst (.int 1)))) (cst [])))) (eCons (eCall m__law_times_number (eCons (e2 addD (e2 mulD (eLst (e1 lim (eCons (cst (.int 0)) (cst [])))) (eOwn 4)) (eOwn 1)) (eCons (e1 negD (eOwn 5)) (cst [])))) (cst [])))))))
noncomputable def c__law_rest : Ev → Out := sSeq (sSet 2 (eLst (e1 listO (eCons (eOwn 0) (cst []))))) (sSeq (sFor (e1 range1D (eCons (e2 addD (e2 subD (e1 lenD (eCons (eOwn 0) (cst []))) (e1 lenD (eCons (eOwn 1) (cst [])))) (cst (.int 1))) (cst []))) (gSet 3) b__law_rest_1) (sRet (eVar 2)))
noncomputable def m__law_rest : List D → R SD := runD 2 6 c__law_rest
noncomputable def b__law_content_1 : Ev → Out := sSet 1 (eCall m__law_gcd (eCons (eVar 1) (eCons (eVar 2) (cst []))))
noncomputable def c__law_content : Ev → Out := sSeq (sSet 1 (cst (.int 0))) (sSeq (sFor (e1 seqD (eVar 0)) (gSet 2) b__law_content_1) (sRet (eVar 1)))
noncomputable def m__law_content : List D → R SD := runD 1 3 c__law_content
noncomputable def c__law_plain : Ev → Out := sSeq (sIf (e1 bOf (e2 eqD (e1 lenD (eCons (eOwn 0) (cst []))) (cst (.int 0)))) (sRetO (e1 lim (cst []))) (sNil)) (sSeq (sSet 1 (eCall m__law_content (eCons (eVar 0) (cst [])))) (sSeq (sIf (e1 bOf (e2 ltD (e2 ixD (eOwn 0) (e1 negD (cst (.int 1)))) (cst (.int 0)))) (sSet 1 (e1 negD (eOwn 1))) (sNil)) (sRetO (eComp [2] (e1 seqD (eVar 0)) (gSet 2) (cst true) (e2 fdivD (eOwn 2) (eOwn 1))))))
noncomputable def m__law_plain : List D → R SD := runD 1 3 c__law_plain
/-! ### division with a false rest -/
def shP (l : List Int) (k : Nat) : List Int := if l = [] then [] else (fl k fun _ => 0) ++ l
theorem cf_app (l m : List Int) (k : Nat) : cf (l ++ m) k = if k < l.length then cf l k else cf m (k - l.length) := by
  unfold cf
  rw [List.getD_eq_getElem?_getD, List.getD_eq_getElem?_getD, List.getD_eq_getElem?_getD]
  split
  · rename_i h; rw [List.getElem?_append_left h]
  · rename_i h; rw [List.getElem?_append_right (by omega)]
theorem cf_sh (l : List Int) (k n : Nat) : cf (shP l k) n = if n < k then 0 else cf l (n - k) := by
  unfold shP
  split
  · rename_i h; subst h; simp
  · rw [cf_app, fl_length, cf_fl]
    split
    · simp
    · rfl
theorem sh_len (l : List Int) (k : Nat) : (shP l k).length ≤ k + l.length := by
  unfold shP; split
  · simp
  · simp
theorem SzP.sh {s : Nat} {l : List Int} (h : SzP s l) (k : Nat) : SzP s (shP l k) := by
  unfold shP; split
  · exact fun c hc => by cases hc
  · intro c hc
    rcases List.mem_append.mp hc with g | g
    · obtain ⟨i, _, rfl⟩ := List.mem_map.mp g
      exact sz0 _
    · exact h c g
theorem shifted_ok {l : List Int} {z : Int} {k : Nat} (hz : z = k) (hk : k ≤ 10000) (hl : l.length ≤ 10000) : m_shifted [pD l, .int z] = .ok (.sh (pD (shP l k))) := by
  subst hz
  have rp := rep_ok (n := k) (z := (k : Int)) rfl (by omega)
  have ca : addD (pD (fl k fun _ => 0)) (pD l) = some (pD ((fl k fun _ => 0) ++ l)) := by
    unfold pD
    rw [r_addL, r_cat (slB (by simp; omega)), List.map_append]; rfl
  cases l with
  | nil => simp [m_shifted, c_shifted, shP]; rfl
  | cons c l => simp [m_shifted, c_shifted, shP, rp, ca]
/-- one step of the division: the rest times the lead less the divisor times the top, moved -/
def stP (b : List Int) (lead : Int) (rest : List Int) (by_ : Nat) : List Int := subP (scaleP rest lead) (shP (scaleP b (cf rest (by_ + b.length - 1))) by_)
theorem cf_st (b : List Int) (lead : Int) (rest : List Int) (by_ n : Nat) : cf (stP b lead rest by_) n = cf rest n * lead - (if n < by_ then 0 else cf b (n - by_) * cf rest (by_ + b.length - 1)) := by
  unfold stP
  rw [cf_sub, cf_scale, cf_sh, cf_scale]
theorem tr_st (b : List Int) (lead : Int) (rest : List Int) (by_ : Nat) : Tr (stP b lead rest by_) := tr_add _ _
theorem SzP.st {s t : Nat} {b rest : List Int} {lead : Int} (hb : SzP t b) (hr : SzP s rest) (hl : Sz t lead) (by_ : Nat) : SzP (s + t + 1) (stP b lead rest by_) := by
  intro c hc
  obtain ⟨n, hn⟩ : ∃ n, W.cf (stP b lead rest by_) n = c := by
    obtain ⟨i, hi, e⟩ := List.mem_iff_getElem.mp hc
    exact ⟨i, by rw [← cf_elem hi, e]⟩
  rw [← hn, cf_st]
  refine ((hr.cf n).mul hl).sub ?_
  split
  · exact sz0 _
  · rw [Nat.add_comm]
    exact (hb.cf _).mul (hr.cf _)
/-- the rest after the first j steps -/
def frN (a b : List Int) : Nat → List Int
  | 0 => a
  | j + 1 => stP b (cf b (b.length - 1)) (frN a b j) (a.length - b.length - j)
def frP (a b : List Int) : List Int := if a.length < b.length then a else frN a b (a.length - b.length + 1)
theorem frN_sz {s t : Nat} {a b : List Int} (ha : SzP s a) (hb : SzP t b) : ∀ j, SzP (s + j * (t + 1)) (frN a b j)
  | 0 => by simpa [frN] using ha
  | j + 1 => by
    rw [Nat.succ_mul]
    exact (SzP.st hb (frN_sz ha hb j) (hb.cf _) _).mono (by omega)
theorem frN_tr {a b : List Int} (ha : Tr a) : ∀ j, Tr (frN a b j)
  | 0 => ha
  | j + 1 => tr_st _ _ _ _
/-- after j steps the rest is short -/
theorem frN_zero {a b : List Int} (hb : b ≠ []) (hl : b.length ≤ a.length) : ∀ j, j ≤ a.length - b.length + 1 → ∀ n, a.length - j ≤ n → cf (frN a b j) n = 0
  | 0, _, n, hn => by
    show cf a n = 0
    exact cf_out (by omega)
  | j + 1, hj, n, hn => by
    have lb : 0 < b.length := List.length_pos_iff.mpr hb
    have ih := frN_zero hb hl j (by omega)
    rw [frN, cf_st]
    by_cases e : n = a.length - j - 1
    · have e1 : a.length - b.length - j + b.length - 1 = n := by omega
      rw [if_neg (by omega), e1, show n - (a.length - b.length - j) = b.length - 1 by omega]
      rw [Int.mul_comm]; omega
    · rw [ih n (by omega), if_neg (by omega), cf_out (l := b) (k := n - (a.length - b.length - j)) (by omega)]; simp
theorem len_of_zero {l : List Int} (ht : Tr l) {n : Nat} (h : ∀ k, n ≤ k → cf l k = 0) : l.length ≤ n := by
  apply Classical.byContradiction
  intro g
  exact ht (l.length - 1) (by omega) (h _ (by omega))
theorem fr_len {a b : List Int} (ha : Tr a) (hb : b ≠ []) (hl : b.length ≤ a.length) : (frP a b).length < b.length := by
  have lb : 0 < b.length := List.length_pos_iff.mpr hb
  unfold frP
  rw [if_neg (by omega)]
  have := len_of_zero (frN_tr ha _) (frN_zero hb hl (a.length - b.length + 1) (Nat.le_refl _))
  omega
theorem frN_len {a b : List Int} (ha : Tr a) (hb : b ≠ []) (hl : b.length ≤ a.length) {j : Nat} (hj : j ≤ a.length - b.length + 1) : (frN a b j).length ≤ a.length - j := len_of_zero (frN_tr ha _) (frN_zero hb hl j hj)
theorem fr_tr {a b : List Int} (ha : Tr a) : Tr (frP a b) := by
  unfold frP; split
  · exact ha
  · exact frN_tr ha _
theorem rpow_add (x : Rat) (k : Nat) : ∀ n, x ^ (k + n) = x ^ k * x ^ n
  | 0 => by simp
  | n + 1 => by rw [← Nat.add_assoc, Rat.pow_succ, rpow_add x k n, Rat.pow_succ]; grind
theorem ev_sh (l : List Int) (k : Nat) (x : Rat) : evP (shP l k) x = x ^ k * evP l x := by
  rw [evP_S _ x (k + l.length) (sh_len l k)]
  have : ∀ n, evS (k + n) (cf (shP l k)) x = x ^ k * evS n (cf l) x := fun n => by
    induction n with
    | zero =>
      have : evS k (cf (shP l k)) x = 0 := by
        rw [evS_congr (g := fun _ => 0) (fun i hi => by rw [cf_sh, if_pos hi])]
        exact evS_ext (Nat.zero_le k) fun _ _ => rfl
      rw [Nat.add_zero, this]; simp [evS]
    | succ n ih =>
      rw [← Nat.add_assoc, evS, ih, evS, cf_sh, if_neg (by omega), show k + n - k = n by omega, rpow_add]
      grind
  rw [this, ← evP_S l x l.length (Nat.le_refl _)]
theorem ev_st (b : List Int) (lead : Int) (rest : List Int) (by_ : Nat) (x : Rat) : evP (stP b lead rest by_) x = (lead : Rat) * evP rest x - ((cf rest (by_ + b.length - 1) : Int) : Rat) * x ^ by_ * evP b x := by
  unfold stP
  rw [ev_sub, ev_scale, ev_sh, ev_scale]; grind
/-- the part of the quotient that is found in step j, of K steps in all -/
def qN (a b : List Int) : Nat → List Int
  | 0 => []
  | j + 1 => addP (scaleP (qN a b j) (cf b (b.length - 1))) (shP [cf (frN a b j) (a.length - b.length - j + b.length - 1)] (a.length - b.length - j))
theorem fr_eq (a b : List Int) (x : Rat) : ∀ j, (((cf b (b.length - 1)) ^ j : Int) : Rat) * evP a x = evP (qN a b j) x * evP b x + evP (frN a b j) x
  | 0 => by
    have : evP (qN a b 0) x = 0 := rfl
    rw [this, Int.pow_zero]; show ((1 : Int) : Rat) * _ = _ + evP a x
    grind
  | j + 1 => by
    have ih := fr_eq a b x j
    have e1 : ∀ c : Int, evP [c] x = (c : Rat) := fun c => by show (0 : Rat) * x + (c : Rat) = _; grind
    rw [frN, ev_st, qN, evP_add, ev_scale, ev_sh, e1, Int.pow_succ, Rat.intCast_mul]
    grind
theorem r_coef {l : List Int} {z : Int} {n : Nat} (hz : z = n) : m_coefficient_of [pD l, .int z] = .ok (.sh (.int (cf l n))) := by
  subst hz
  by_cases h : n < l.length
  · have ix := p_ixc h
    simp [m_coefficient_of, c_coefficient_of, h, ix]
  · simp [m_coefficient_of, c_coefficient_of, h, cf_out (Nat.not_lt.mp h)]
theorem fr_step {a b : List Int} {s t j : Nat} (hsa : SzP s a) (hsb : SzP t b) (ha : Tr a) (hb : b ≠ []) (hl : b.length ≤ a.length) (hj : j ≤ a.length - b.length) (hla : a.length ≤ 1000) (hst : s + 1001 * (t + 1) ≤ 10000000) (w4 w5 w6 : SD) :
    gTo (gSet 4) b_false_rest_1 (.int (j : Int)) [.sh (pD a), .sh (pD b), .sh (pD (frN a b j)), .sh (.int (cf b (b.length - 1))), w4, w5, w6]
      = .nx [.sh (pD a), .sh (pD b), .sh (pD (frN a b (j + 1))), .sh (.int (cf b (b.length - 1))), .sh (.int (j : Int)), .sh (.int ((a.length - b.length - j : Nat) : Int)), .sh (.int (cf (frN a b j) (a.length - b.length - j + b.length - 1)))] := by
  have lb : 0 < b.length := List.length_pos_iff.mpr hb
  have fz := frN_sz hsa hsb j
  have jm : j * (t + 1) ≤ 1000 * (t + 1) := Nat.mul_le_mul_right _ (by omega)
  have fl' := frN_len ha hb hl (j := j) (by omega)
  have e5 : (a.length : Int) - (b.length : Int) - (j : Int) = ((a.length - b.length - j : Nat) : Int) := by omega
  have e6 : ((a.length - b.length - j : Nat) : Int) + (b.length : Int) - 1 = ((a.length - b.length - j + b.length - 1 : Nat) : Int) := by omega
  have co := r_coef (l := frN a b j) (z := ((a.length - b.length - j : Nat) : Int) + (b.length : Int) - 1) e6
  have s1' := scale_ok fz (hsb.cf (b.length - 1)) (by omega) (by omega)
  have s2' := scale_ok hsb (fz.cf (a.length - b.length - j + b.length - 1)) (by omega) (by omega)
  have sl := scale_len b (cf (frN a b j) (a.length - b.length - j + b.length - 1))
  have s3' := shifted_ok (l := scaleP b (cf (frN a b j) (a.length - b.length - j + b.length - 1))) (z := ((a.length - b.length - j : Nat) : Int)) (k := a.length - b.length - j) rfl (by omega) (by omega)
  have shl := sh_len (scaleP b (cf (frN a b j) (a.length - b.length - j + b.length - 1))) (a.length - b.length - j)
  have scl := scale_len (frN a b j) (cf b (b.length - 1))
  have s4' := subtract_ok (a := scaleP (frN a b j) (cf b (b.length - 1))) ((hsb.scale (fz.cf (a.length - b.length - j + b.length - 1))).sh (a.length - b.length - j)) (by omega) (by omega) (by omega)
  have en : frN a b (j + 1) = subP (scaleP (frN a b j) (cf b (b.length - 1))) (shP (scaleP b (cf (frN a b j) (a.length - b.length - j + b.length - 1))) (a.length - b.length - j)) := rfl
  rw [en]
  generalize frN a b j = R at *
  simp [b_false_rest_1, e5, co, s1', s2', s3', s4', -Int.natCast_sub]
theorem false_rest_c {a b : List Int} {s t : Nat} (hsa : SzP s a) (hsb : SzP t b) (ha : Tr a) (hb : b ≠ []) (hla : a.length ≤ 1000) (hlb : b.length ≤ 1000) (hst : s + 1001 * (t + 1) ≤ 10000000) :
    (m_false_rest [pD a, pD b]).bind (fun s => ofO (toD s)) = .ok (pD (frP a b)) := by
  by_cases h : a.length < b.length
  · have e : frP a b = a := by unfold frP; rw [if_pos h]
    rw [e]
    simp [m_false_rest, c_false_rest, h]
  · have e : frP a b = frN a b (a.length - b.length + 1) := by unfold frP; rw [if_neg h]
    rw [e]
    have hl : b.length ≤ a.length := by omega
    have lb : 0 < b.length := List.length_pos_iff.mpr hb
    have hr := range1_ok (x := (a.length : Int) - (b.length : Int) + 1) (by omega) (by omega)
    have et : ((a.length : Int) - (b.length : Int) + 1).toNat = a.length - b.length + 1 := by omega
    rw [et] at hr
    have ixl := ix_last (l := b) (n := b.length - 1) (by omega)
    obtain ⟨ρ', eq, y4, y5, y6, rfl⟩ := forO_inv (F := gTo (gSet 4) b_false_rest_1) (l := rngL 0 1 (a.length - b.length + 1))
      (fun j ρ => ∃ y4 y5 y6, ρ = [.sh (pD a), .sh (pD b), .sh (pD (frN a b j)), .sh (.int (cf b (b.length - 1))), y4, y5, y6])
      (ρ := [.sh (pD a), .sh (pD b), .sh (pD a), .sh (.int (cf b (b.length - 1))), .no, .no, .no]) ⟨_, _, _, rfl⟩
      (fun j d ρ hd hi => by
        obtain ⟨hj, rfl⟩ := rng0_get hd
        obtain ⟨y4, y5, y6, rfl⟩ := hi
        exact ⟨_, .inl (fr_step hsa hsb ha hb hl (by omega) hla hst y4 y5 y6), _, _, _, rfl⟩)
    rw [rngL_length] at eq
    simp [m_false_rest, c_false_rest, h, ixl, hr, eq]
theorem divides_ok {a b : List Int} {s t : Nat} (hsa : SzP s a) (hsb : SzP t b) (ha : Tr a) (hb : b ≠ []) (hla : a.length ≤ 1000) (hlb : b.length ≤ 1000) (hst : s + 1001 * (t + 1) ≤ 10000000) :
    m_divides [pD b, pD a] = .ok (.sh (.bool (decide (frP a b = [])))) := by
  have f := false_rest_c hsa hsb ha hb hla hlb hst
  have e : (!(!(frP a b).isEmpty)) = decide (frP a b = []) := by cases frP a b <;> simp
  simp [m_divides, c_divides, f]
  cases frP a b <;> simp
theorem lrest_step {a b : List Int} {s t j : Nat} (hsa : SzP s a) (hsb : SzP t b) (ha : Tr a) (hb : b ≠ []) (hl : b.length ≤ a.length) (hj : j ≤ a.length - b.length) (hla : a.length ≤ 1000) (hst : s + 1001 * (t + 1) ≤ 10000000) (w3 w4 w5 : SD) :
    ∃ y4 y5, gTo (gSet 3) b__law_rest_1 (.int (j : Int)) [.sh (pD a), .sh (pD b), .sh (pD (frN a b j)), w3, w4, w5]
      = .nx [.sh (pD a), .sh (pD b), .sh (pD (frN a b (j + 1))), .sh (.int (j : Int)), y4, y5] := by
  have lb : 0 < b.length := List.length_pos_iff.mpr hb
  have fz := frN_sz hsa hsb j
  have jm : j * (t + 1) ≤ 1000 * (t + 1) := Nat.mul_le_mul_right _ (by omega)
  have fl' := frN_len ha hb hl (j := j) (by omega)
  obtain ⟨k, hk⟩ : ∃ k, k = a.length - b.length - j := ⟨_, rfl⟩
  obtain ⟨c, hc⟩ : ∃ c, c = cf (frN a b j) (k + b.length - 1) := ⟨_, rfl⟩
  have e5 : (a.length : Int) - (b.length : Int) - (j : Int) = (k : Int) := by omega
  have e6 : (k : Int) + (b.length : Int) - 1 = ((k + b.length - 1 : Nat) : Int) := by omega
  have ixl := ix_last (l := b) (n := b.length - 1) (by omega)
  have rp := rep_ok (n := k) (z := (k : Int)) rfl (by omega)
  have ca : addD (pD (fl k fun _ => 0)) (pD b) = some (pD ((fl k fun _ => 0) ++ b)) := by
    unfold pD
    rw [r_addL, r_cat (slB (by simp; omega)), List.map_append]; rfl
  have esh : (fl k fun _ => 0) ++ b = shP b k := by unfold shP; rw [if_neg hb]
  rw [esh] at ca
  have shl := sh_len b k
  have cs : Sz (s + j * (t + 1)) c := by rw [hc]; exact fz.cf _
  have t1 := ltimes_number_ok fz (hsb.cf (b.length - 1)) (by omega) (by omega)
  have t2 := ltimes_number_ok (hsb.sh k) cs.neg (by omega) (by omega)
  have scl := scale_len (frN a b j) (cf b (b.length - 1))
  have scl2 := scale_len (shP b k) (-c)
  have ad := ladd_ok (a := scaleP (frN a b j) (cf b (b.length - 1))) (b := scaleP (shP b k) (-c)) (by omega) (by omega)
  have en : addP (scaleP (frN a b j) (cf b (b.length - 1))) (scaleP (shP b k) (-c)) = frN a b (j + 1) := by
    refine (tr_add _ _).uniq (frN_tr ha _) fun n => ?_
    rw [frN, cf_add, cf_scale, cf_scale, cf_sh, cf_st, ← hk, ← hc]
    split
    · simp
    · rw [Int.mul_neg]; omega
  rw [en] at ad
  generalize frN a b (j + 1) = R' at *
  by_cases h : k + b.length - 1 < (frN a b j).length
  · have h' : ((k + b.length - 1 : Nat) : Int) < ((frN a b j).length : Int) := by omega
    have ix := p_ixc h
    rw [← hc] at ix
    rw [← e6] at h' ix
    generalize frN a b j = R at *
    exact ⟨_, _, by simp [b__law_rest_1, e5, h', ix, ixl, rp, ca, t1, t2, ad, -Out.nx.injEq] <;> rfl⟩
  · have h' : ¬ ((k : Int) + (b.length : Int) - 1 < ((frN a b j).length : Int)) := by omega
    have c0 : c = 0 := by rw [hc]; exact cf_out (by omega)
    rw [c0] at t2 ad
    simp only [Int.neg_zero] at t2 ad
    generalize frN a b j = R at *
    exact ⟨_, _, by simp [b__law_rest_1, e5, h', ixl, rp, ca, t1, t2, ad, -Out.nx.injEq] <;> rfl⟩
theorem lrest_ok {a b : List Int} {s t : Nat} (hsa : SzP s a) (hsb : SzP t b) (ha : Tr a) (hb : b ≠ []) (hla : a.length ≤ 1000) (hlb : b.length ≤ 1000) (hst : s + 1001 * (t + 1) ≤ 10000000) :
    m__law_rest [pD a, pD b] = .ok (.sh (pD (frP a b))) := by
  have lb : 0 < b.length := List.length_pos_iff.mpr hb
  have hr := range1_ok (x := (a.length : Int) - (b.length : Int) + 1) (by omega) (by omega)
  by_cases h : a.length < b.length
  · have e : frP a b = a := by unfold frP; rw [if_pos h]
    rw [e]
    have et : ((a.length : Int) - (b.length : Int) + 1).toNat = 0 := by omega
    rw [et] at hr
    have z : rngL 0 1 0 = [] := rfl
    simp [m__law_rest, c__law_rest, hr, z, forO]
  · have e : frP a b = frN a b (a.length - b.length + 1) := by unfold frP; rw [if_neg h]
    rw [e]
    have et : ((a.length : Int) - (b.length : Int) + 1).toNat = a.length - b.length + 1 := by omega
    rw [et] at hr
    obtain ⟨ρ', eq, y3, y4, y5, rfl⟩ := forO_inv (F := gTo (gSet 3) b__law_rest_1) (l := rngL 0 1 (a.length - b.length + 1))
      (fun j ρ => ∃ y3 y4 y5, ρ = [.sh (pD a), .sh (pD b), .sh (pD (frN a b j)), y3, y4, y5])
      (ρ := [.sh (pD a), .sh (pD b), .sh (pD a), .no, .no, .no]) ⟨_, _, _, rfl⟩
      (fun j d ρ hd hi => by
        obtain ⟨hj, rfl⟩ := rng0_get hd
        obtain ⟨y3, y4, y5, rfl⟩ := hi
        obtain ⟨z4, z5, st⟩ := lrest_step hsa hsb ha hb (by omega) (by omega : j ≤ a.length - b.length) hla hst y3 y4 y5
        exact ⟨_, .inl st, _, _, _, rfl⟩)
    rw [rngL_length] at eq
    simp [m__law_rest, c__law_rest, hr, eq]
/-! plain forms -/
def plC (a : List Int) : Int := if cf a (a.length - 1) < 0 then -(contN a : Int) else (contN a : Int)
def plainP (a : List Int) : List Int := a.map fun x => x.fdiv (plC a)
theorem contN_ne {a : List Int} (ha : Tr a) (h : a ≠ []) : contN a ≠ 0 := by
  intro z
  have l : 0 < a.length := List.length_pos_iff.mpr h
  have h1 := contN_dvd (cf_mem (l := a) (k := a.length - 1) (by omega))
  rw [z] at h1
  exact ha (a.length - 1) (by omega) (Int.zero_dvd.mp h1)
theorem plC_ne {a : List Int} (ha : Tr a) (h : a ≠ []) : plC a ≠ 0 := by
  have := contN_ne ha h
  unfold plC; split <;> omega
theorem plC_sz {a : List Int} {s : Nat} (h : SzP s a) : Sz s (plC a) := by
  unfold plC; split
  · exact (contN_sz h).neg
  · exact contN_sz h
theorem plain_ok {a : List Int} {s : Nat} (ha : Tr a) (hs : SzP s a) (hsz : s ≤ 9000) (hl : a.length ≤ 10000) : m_plain [pD a] = .ok (.ow ((plainP a).map .int)) := by
  by_cases h : a = []
  · subst h; simp [m_plain, c_plain, plainP]
  · have l : 0 < a.length := List.length_pos_iff.mpr h
    have ixl := ix_last (l := a) (n := a.length - 1) (by omega)
    have od : ∀ x, okDiv x (plC a) = true := fun x => okDiv_of ((plC_sz hs).mono hsz) (plC_ne ha h)
    have te : (!(a.isEmpty)) = true := by cases a <;> simp_all
    have hls : a.length ≤ sizeLine := slB (by omega)
    have hc : ∀ a1 a2 : SD, compR (compS [2] (gSet 2) (cst true) (e2 fdivD (eOwn 2) (eOwn 1)) [a1, .sh (.int (plC a)), a2]) (a.map .int) = .ok ((plainP a).map .int) := fun a1 a2 => by
      unfold plainP
      rw [List.map_map]
      exact compR_map' fun x hx => by simp [compS, od]
    have he : a.isEmpty = false := by cases a <;> simp_all
    by_cases g : cf a (a.length - 1) < 0
    · have e : plC a = -(contN a : Int) := by unfold plC; rw [if_pos g]
      rw [e] at hc
      simp [m_plain, c_plain, h, he, content_ok, ixl, g, hls, hc]
    · have e : plC a = (contN a : Int) := by unfold plC; rw [if_neg g]
      rw [e] at hc
      simp [m_plain, c_plain, h, he, content_ok, ixl, g, hls, hc]
theorem lcont_loop {s : Nat} (hs1 : s ≤ 1990) (w0 : SD) (a : List Int) : ∀ (g : Nat) (j : SD), SzP s a → Sz s (g : Int) → ∃ j', forO (gTo (gSet 2) b__law_content_1) (a.map .int) [w0, .sh (.int (g : Int)), j] = .nx [w0, .sh (.int ((a.foldl (fun g c => Nat.gcd g c.natAbs) g : Nat) : Int)), j'] := by
  induction a with
  | nil => exact fun g j _ _ => ⟨j, rfl⟩
  | cons c a ih =>
    intro g j hs hg
    have hc := hs c (by simp)
    have gk := gcd_ok (hg.mono hs1) (hc.mono hs1)
    have sg : Sz s ((Nat.gcd g c.natAbs : Nat) : Int) := by
      by_cases z : g = 0
      · subst z
        rw [Nat.gcd_zero_left]
        exact hc.of_le (by simp)
      · refine hg.of_le ?_
        have := Nat.gcd_le_left c.natAbs (Nat.pos_of_ne_zero z)
        simpa using this
    obtain ⟨j', e⟩ := ih (Nat.gcd g c.natAbs) (.sh (.int c)) (fun x hx => hs x (by simp [hx])) sg
    have st : gTo (gSet 2) b__law_content_1 (.int c) [w0, .sh (.int (g : Int)), j] = .nx [w0, .sh (.int ((Nat.gcd g c.natAbs : Nat) : Int)), .sh (.int c)] := by
      have gk' : m__law_gcd [.int (g : Int), .int c] = .ok (.sh (.int ((Nat.gcd g c.natAbs : Nat) : Int))) := by simpa using gk
      simp [b__law_content_1, gk']
    refine ⟨j', ?_⟩
    rw [List.map_cons, List.foldl_cons, forO, st]
    exact e
theorem lcontent_ok {a : List Int} {s : Nat} (hs : SzP s a) (hs1 : s ≤ 1990) : m__law_content [pD a] = .ok (.sh (.int (contN a : Int))) := by
  obtain ⟨j, e⟩ := lcont_loop hs1 (.sh (pD a)) a 0 .no hs (sz0 _)
  have e' : forO (gTo (gSet 2) b__law_content_1) (a.map .int) [.sh (pD a), .sh (.int 0), .no] = .nx [.sh (pD a), .sh (.int (contN a : Int)), j] := e
  simp [m__law_content, c__law_content, e']
theorem lplain_ok {a : List Int} {s : Nat} (ha : Tr a) (hs : SzP s a) (hsz : s ≤ 1990) (hl : a.length ≤ 10000) : m__law_plain [pD a] = .ok (.ow ((plainP a).map .int)) := by
  by_cases h : a = []
  · subst h; simp [m__law_plain, c__law_plain, plainP]
  · have l : 0 < a.length := List.length_pos_iff.mpr h
    have ixl := ix_last (l := a) (n := a.length - 1) (by omega)
    have od : ∀ x, okDiv x (plC a) = true := fun x => okDiv_of ((plC_sz hs).mono (by omega)) (plC_ne ha h)
    have hls : a.length ≤ sizeLine := slB (by omega)
    have lc := lcontent_ok hs hsz
    have l0 : ¬ ((a.length : Int) = 0) := by omega
    have hc : ∀ a1 a2 : SD, compR (compS [2] (gSet 2) (cst true) (e2 fdivD (eOwn 2) (eOwn 1)) [a1, .sh (.int (plC a)), a2]) (a.map .int) = .ok ((plainP a).map .int) := fun a1 a2 => by
      unfold plainP
      rw [List.map_map]
      exact compR_map' fun x hx => by simp [compS, od]
    by_cases g : cf a (a.length - 1) < 0
    · have e : plC a = -(contN a : Int) := by unfold plC; rw [if_pos g]
      rw [e] at hc
      simp [m__law_plain, c__law_plain, h, lc, ixl, g, hls, hc]
    · have e : plC a = (contN a : Int) := by unfold plC; rw [if_neg g]
      rw [e] at hc
      simp [m__law_plain, c__law_plain, h, lc, ixl, g, hls, hc]
end W

set_option Elab.async false
set_option linter.all false
set_option maxRecDepth 100000
set_option autoImplicit false
namespace W
open PySem PySem.Spec PyProof.Rows L2 VL
/-! ### plain polynomials stand for their rays -/
structure Prim (p : List Int) : Prop where
  tr : Tr p
  ne : p ≠ []
  one : contN p = 1
  pos : 0 < cf p (p.length - 1)
theorem cont_map (c : Int) : ∀ (a : List Int) (g : Nat), ((a.map fun x => c * x).foldl (fun g c => Nat.gcd g c.natAbs) (c.natAbs * g)) = c.natAbs * a.foldl (fun g c => Nat.gcd g c.natAbs) g
  | [], g => rfl
  | x :: a, g => by
    rw [List.map_cons, List.foldl_cons, List.foldl_cons, Int.natAbs_mul, Nat.gcd_mul_left, cont_map c a]
theorem contN_map (c : Int) (a : List Int) : contN (a.map fun x => c * x) = c.natAbs * contN a := cont_map c a 0
theorem cf_plain {a : List Int} (h : a ≠ []) (ha : Tr a) (k : Nat) : cf a k = plC a * cf (plainP a) k := by
  unfold plainP
  rw [cf_map (f := fun x => x.fdiv (plC a)) (by simp)]
  have hd : plC a ∣ cf a k := by
    have : (contN a : Int) ∣ cf a k := by
      by_cases hk : k < a.length
      · exact contN_dvd (cf_mem hk)
      · rw [cf_out (by omega)]; exact Int.dvd_zero _
    unfold plC
    split
    · exact Int.neg_dvd.mpr this
    · exact this
  obtain ⟨y, hy⟩ := hd
  rw [hy, Int.mul_fdiv_cancel_left y (plC_ne ha h)]
theorem plain_len (a : List Int) : (plainP a).length = a.length := by simp [plainP]
theorem plain_prim {a : List Int} (ha : Tr a) (h : a ≠ []) : Prim (plainP a) := by
  have l : 0 < a.length := List.length_pos_iff.mpr h
  have c0 := plC_ne ha h
  have e : a = (plainP a).map fun x => plC a * x := cf_ext (by simp [plainP]) fun k _ => by
    rw [cf_map (f := fun x => plC a * x) (by simp), ← cf_plain h ha]
  have hl := ha (a.length - 1) (by omega)
  have hl' := cf_plain h ha (a.length - 1)
  have one : contN (plainP a) = 1 := by
    have h1 := contN_map (plC a) (plainP a)
    rw [← e] at h1
    have h2 : (plC a).natAbs = contN a := by unfold plC; split <;> omega
    rw [h2] at h1
    have h3 := contN_ne ha h
    have : contN a * contN (plainP a) = contN a * 1 := by omega
    exact Nat.eq_of_mul_eq_mul_left (by omega) this
  refine ⟨fun m hm => ?_, by rw [← List.length_pos_iff, plain_len]; exact l, one, ?_⟩
  · rw [plain_len] at hm
    have := cf_plain h ha m
    intro z
    rw [z, Int.mul_zero] at this
    exact ha m hm this
  · rw [plain_len]
    have h3 := contN_ne ha h
    generalize cf (plainP a) (a.length - 1) = y at hl' ⊢
    unfold plC at hl'
    split at hl'
    · rename_i g
      rw [Int.neg_mul] at hl'
      have : 0 < (contN a : Int) * y := by omega
      exact Int.pos_of_mul_pos_right this (by omega)
    · rename_i g
      have : 0 < (contN a : Int) * y := by omega
      exact Int.pos_of_mul_pos_right this (by omega)
theorem ray_len {p q : List Int} (hp : Tr p) (hq : Tr q) {u v : Int} (hu : u ≠ 0) (hv : v ≠ 0) (h : ∀ k, u * cf p k = v * cf q k) : p.length = q.length := by
  have h1 : p.length ≤ q.length := len_of_zero hp fun k hk => by
    have := h k
    rw [cf_out (l := q) hk, Int.mul_zero] at this
    exact (Int.mul_eq_zero.mp this).resolve_left hu
  have h2 : q.length ≤ p.length := len_of_zero hq fun k hk => by
    have := h k
    rw [cf_out (l := p) hk, Int.mul_zero] at this
    exact (Int.mul_eq_zero.mp this.symm).resolve_left hv
  omega
theorem prim_uniq {p q : List Int} (hp : Prim p) (hq : Prim q) {u v : Int} (hu : u ≠ 0) (hv : v ≠ 0) (h : ∀ k, u * cf p k = v * cf q k) : p = q := by
  have hl := ray_len hp.tr hq.tr hu hv h
  have e : (p.map fun x => u * x) = q.map fun x => v * x := cf_ext (by simp [hl]) fun k _ => by
    rw [cf_map (f := fun x => u * x) (by simp), cf_map (f := fun x => v * x) (by simp), h]
  have e1' := contN_map u p
  have e2' := contN_map v q
  rw [e, e2', hp.one, hq.one] at e1'
  have huv : u = v ∨ u = -v := by omega
  rcases huv with g | g
  · subst g
    exact cf_ext hl fun k _ => Int.eq_of_mul_eq_mul_left hu (h k)
  · exfalso
    have h1 := h (p.length - 1)
    have h2 := hp.pos
    have h3 := hq.pos
    rw [← hl] at h3
    rw [g, Int.neg_mul] at h1
    have h4 : v * (cf p (p.length - 1) + cf q (p.length - 1)) = 0 := by rw [Int.mul_add]; omega
    have := (Int.mul_eq_zero.mp h4).resolve_left hv
    omega
theorem plain_ray {a b : List Int} (ha : Tr a) (hb : Tr b) (na : a ≠ []) (nb : b ≠ []) {u v : Int} (hu : u ≠ 0) (hv : v ≠ 0) (h : ∀ k, u * cf a k = v * cf b k) : plainP a = plainP b :=
  prim_uniq (plain_prim ha na) (plain_prim hb nb) (u := u * plC a) (v := v * plC b) (Int.mul_ne_zero hu (plC_ne ha na)) (Int.mul_ne_zero hv (plC_ne hb nb)) fun k => by
    rw [Int.mul_assoc, Int.mul_assoc, ← cf_plain na ha, ← cf_plain nb hb]; exact h k
theorem plain_self {p : List Int} (h : Prim p) : plainP p = p :=
  prim_uniq (plain_prim h.tr h.ne) h (u := plC p) (v := 1) (plC_ne h.tr h.ne) (by decide) fun k => by rw [← cf_plain h.ne h.tr, Int.one_mul]
theorem SzP.plain {a : List Int} {s : Nat} (h : SzP s a) : SzP s (plainP a) := fun x hx => by
  obtain ⟨y, hy, rfl⟩ := List.mem_map.mp hx
  exact (h y hy).fdiv
/-- proportional by values -/
theorem ray_ev {a b : List Int} {u v : Int} (h : ∀ x, (u : Rat) * evP a x = (v : Rat) * evP b x) : ∀ k, u * cf a k = v * cf b k := fun k => by
  have em : ∀ (c : Int) (q : List Int) (x : Rat), evP (q.map fun y => c * y) x = (c : Rat) * evP q x := fun c q x => by
    rw [evP_S _ x q.length (by simp), evP_S q x q.length (Nat.le_refl _), ← evS_mul]
    exact evS_congr fun k _ => cf_map (f := fun y => c * y) (by simp) k
  have := evP_inj (a := a.map fun y => u * y) (b := b.map fun y => v * y) (fun x => by rw [em, em, h]) k
  rwa [cf_map (f := fun y => u * y) (by simp), cf_map (f := fun y => v * y) (by simp)] at this
/-! ### the quotient -/
def topN (a b : List Int) (j : Nat) : Int := cf (frN a b j) (a.length - b.length - j + b.length - 1)
theorem qN_cf {a b : List Int} : ∀ (J n : Nat), J ≤ a.length - b.length + 1 → cf (qN a b J) n = if n ≤ a.length - b.length ∧ a.length - b.length - n < J then topN a b (a.length - b.length - n) * (cf b (b.length - 1)) ^ (J - 1 - (a.length - b.length - n)) else 0
  | 0, n, _ => by
    rw [if_neg (by omega)]
    show cf [] n = 0
    simp
  | J + 1, n, hJ => by
    rw [qN, cf_add, cf_scale, qN_cf J n (by omega), cf_sh]
    by_cases e : n = a.length - b.length - J
    · rw [if_neg (show ¬ (n ≤ a.length - b.length ∧ a.length - b.length - n < J) by omega), if_neg (show ¬ n < a.length - b.length - J by omega), if_pos (show n ≤ a.length - b.length ∧ a.length - b.length - n < J + 1 by omega), show n - (a.length - b.length - J) = 0 by omega, cf_zero, show a.length - b.length - n = J by omega, show J + 1 - 1 - J = 0 by omega, Int.pow_zero]
      unfold topN
      omega
    · by_cases h : n ≤ a.length - b.length ∧ a.length - b.length - n < J
      · rw [if_pos h, if_neg (show ¬ n < a.length - b.length - J by omega), if_pos (show n ≤ a.length - b.length ∧ a.length - b.length - n < J + 1 by omega), show n - (a.length - b.length - J) = (n - (a.length - b.length - J) - 1) + 1 by omega, cf_succ, cf_nil, show J + 1 - 1 - (a.length - b.length - n) = (J - 1 - (a.length - b.length - n)) + 1 by omega, Int.pow_succ, Int.mul_assoc]
        omega
      · rw [if_neg h, if_neg (show ¬ (n ≤ a.length - b.length ∧ a.length - b.length - n < J + 1) by omega)]
        split
        · omega
        · rename_i h2
          rw [show n - (a.length - b.length - J) = (n - (a.length - b.length - J) - 1) + 1 by omega, cf_succ, cf_nil]; omega
theorem qN_tr (a b : List Int) : ∀ J, Tr (qN a b J)
  | 0 => tr_nil
  | J + 1 => tr_add _ _
def quoP (a b : List Int) : List Int := plainP (qN a b (a.length - b.length + 1))
theorem qN_ne {a b : List Int} (ha : Tr a) (hb : Tr b) (na : a ≠ []) (nb : b ≠ []) (hl : b.length ≤ a.length) : qN a b (a.length - b.length + 1) ≠ [] := by
  have l : 0 < b.length := List.length_pos_iff.mpr nb
  intro z
  have := qN_cf (a := a) (b := b) (a.length - b.length + 1) (a.length - b.length) (Nat.le_refl _)
  rw [z, cf_nil, if_pos (by omega), show a.length - b.length - (a.length - b.length) = 0 by omega] at this
  have h1 : topN a b 0 = cf a (a.length - 1) := by
    unfold topN
    rw [show a.length - b.length - 0 + b.length - 1 = a.length - 1 by omega]; rfl
  have h2 := ha (a.length - 1) (by omega)
  have h3 := hb (b.length - 1) (by omega)
  rw [h1] at this
  exact (Int.mul_ne_zero h2 (Int.pow_ne_zero h3)) this.symm
theorem qN_sz {s t : Nat} {a b : List Int} (hsa : SzP s a) (hsb : SzP t b) (ht : 1 ≤ t) : ∀ J, J ≤ a.length - b.length + 1 → SzP (s + J * (t + 1) + 1 + J) (qN a b J)
  | 0, _ => fun c hc => by cases hc
  | J + 1, hJ => by
    rw [qN, Nat.succ_mul]
    have h1 := ((qN_sz hsa hsb ht J (by omega)).scale (hsb.cf (b.length - 1))).mono (show s + J * (t + 1) + 1 + J + t ≤ s + (J * (t + 1) + (t + 1)) + 1 + J by omega)
    have h2 : SzP (s + (J * (t + 1) + (t + 1)) + 1 + J) (shP [cf (frN a b J) (a.length - b.length - J + b.length - 1)] (a.length - b.length - J)) := SzP.sh (fun c hc => by
      simp at hc; subst hc
      exact ((frN_sz hsa hsb J).cf _).mono (by omega)) _
    exact h1.add h2
def fR (n : Nat) (φ : Nat → Rat) : List D := (List.range n).map fun i => rD (φ i)
@[simp] theorem fR_len (n : Nat) (φ : Nat → Rat) : (fR n φ).length = n := by simp [fR]
theorem fR_ix {n i : Nat} {φ : Nat → Rat} {z : Int} (hz : z = i) (h : i < n) : ixD (.list (fR n φ)) (.int z) = some (rD (φ i)) := by
  subst hz
  rw [r_ix_l, r_at]; simp [fR, h]
theorem fR_congr {n : Nat} {φ ψ : Nat → Rat} (h : ∀ i, i < n → φ i = ψ i) : fR n φ = fR n ψ := List.map_congr_left fun i hi => by rw [h i (List.mem_range.mp hi)]
theorem fR_set {n p : Nat} {φ : Nat → Rat} {v : Rat} : (fR n φ).set p (rD v) = fR n (fun i => if i = p then v else φ i) := by
  refine List.ext_getElem (by simp) fun i h1 h2 => ?_
  rw [List.getElem_set]
  by_cases e : p = i
  · subst e; simp [fR]
  · rw [if_neg e]
    have : ¬ i = p := fun z => e z.symm
    simp [fR, this]
theorem fR_snoc (n : Nat) (φ : Nat → Rat) : fR n φ ++ [rD (φ n)] = fR (n + 1) φ := by simp [fR, List.range_succ]
theorem fR_rev (n : Nat) (φ : Nat → Rat) : (fR n φ).reverse = fR n fun i => φ (n - 1 - i) := by
  refine List.ext_getElem (by simp) fun i h1 h2 => ?_
  simp [fR]
def Rf (a b : List Int) (j i : Nat) : Rat := (cf (frN a b j) i : Rat) / (((cf b (b.length - 1)) ^ j : Int) : Rat)
def Ff (a b : List Int) (j : Nat) : Rat := (topN a b j : Rat) / (((cf b (b.length - 1)) ^ (j + 1) : Int) : Rat)
structure QS (s t J : Nat) (a b : List Int) : Prop where
  sa : SzP s a
  sb : SzP t b
  ta : Tr a
  tb : Tr b
  nb : b ≠ []
  na : a ≠ []
  hl : b.length ≤ a.length
  la : a.length ≤ 1000
  ht : 1 ≤ t
  hJ : a.length - b.length + 1 ≤ J
  hz : 2 * (s + J * (t + 1) + 1) + t + 10 ≤ 8000
section
variable {s t J : Nat} {a b : List Int}
theorem QS.lb (h : QS s t J a b) : 0 < b.length := List.length_pos_iff.mpr h.nb
theorem QS.lead (h : QS s t J a b) : cf b (b.length - 1) ≠ 0 := h.tb _ (by have := h.lb; omega)
theorem pow_sz {t : Nat} {x : Int} (h : Sz t x) : ∀ j, Sz (j * t + 1) (x ^ j)
  | 0 => by simpa using Sz.lit (i := 1) (a := 1) (by decide)
  | j + 1 => by
    rw [Int.pow_succ, Nat.succ_mul]
    exact ((pow_sz h j).mul h).mono (by omega)
theorem QS.jm (h : QS s t J a b) {j : Nat} (hj : j ≤ J) : j * (t + 1) ≤ J * (t + 1) ∧ j * t ≤ j * (t + 1) := ⟨Nat.mul_le_mul_right _ hj, Nat.mul_le_mul_left _ (by omega)⟩
theorem QS.rk (h : QS s t J a b) {j : Nat} (hj : j ≤ J) (i : Nat) : Rk (s + J * (t + 1) + 1) (Rf a b j i) := by
  obtain ⟨m1, m2⟩ := h.jm hj
  exact rk_div (Int.pow_ne_zero h.lead) (((frN_sz h.sa h.sb j).cf i).mono (by omega)) ((pow_sz (h.sb.cf _) j).mono (by omega))
theorem QS.fk (h : QS s t J a b) {j : Nat} (hj : j + 1 ≤ J) : Rk (s + J * (t + 1) + 1) (Ff a b j) := by
  obtain ⟨m1, m2⟩ := h.jm hj
  have m3 := Nat.le_trans m2 m1
  rw [Nat.succ_mul] at m1
  exact rk_div (Int.pow_ne_zero h.lead) (((frN_sz h.sa h.sb j).cf _).mono (by omega)) ((pow_sz (h.sb.cf _) (j + 1)).mono (by omega))
theorem QS.rf_succ (h : QS s t J a b) (j i : Nat) : Rf a b (j + 1) i = if a.length - b.length - j ≤ i ∧ i < a.length - b.length - j + b.length then Rf a b j i - Ff a b j * (cf b (i - (a.length - b.length - j)) : Rat) else Rf a b j i := by
  have hL : ((cf b (b.length - 1) : Int) : Rat) ≠ 0 := by exact_mod_cast h.lead
  have hP : (((cf b (b.length - 1)) ^ j : Int) : Rat) ≠ 0 := by exact_mod_cast Int.pow_ne_zero h.lead
  unfold Rf Ff topN
  rw [frN, cf_st, Int.pow_succ, Rat.intCast_mul]
  generalize cf (frN a b j) (a.length - b.length - j + b.length - 1) = T
  generalize cf (frN a b j) i = C
  generalize cf b (b.length - 1) ^ j = P at *
  generalize cf b (b.length - 1) = L at *
  by_cases h1 : i < a.length - b.length - j
  · rw [if_pos h1, if_neg (show ¬ (a.length - b.length - j ≤ i ∧ i < a.length - b.length - j + b.length) by omega), Int.sub_zero, Rat.intCast_mul]
    grind
  · rw [if_neg h1]
    by_cases h2 : i < a.length - b.length - j + b.length
    · rw [if_pos (show a.length - b.length - j ≤ i ∧ i < a.length - b.length - j + b.length by omega), Rat.intCast_sub, Rat.intCast_mul, Rat.intCast_mul]
      grind
    · rw [if_neg (show ¬ (a.length - b.length - j ≤ i ∧ i < a.length - b.length - j + b.length) by omega), cf_out (l := b) (k := i - (a.length - b.length - j)) (by omega), Int.zero_mul, Int.sub_zero, Rat.intCast_mul]
      grind
theorem q_inner (h : QS s t J a b) {j : Nat} (hj : j ≤ a.length - b.length) (w0 w4 w7 w8 w9 w10 w3 : SD) :
    ∃ y3 y7, forO (gTo (gTupD 2 (gsCons (gSet 7) (gsCons (gSet 3) (gsNil)))) b_quotient_1) (enuL (b.map .int)) [w0, .sh (pD b), .ow (fR a.length (Rf a b j)), w3, w4, .sh (.int ((a.length - b.length - j : Nat) : Int)), .sh (rD (Ff a b j)), w7, w8, w9, w10]
      = .nx [w0, .sh (pD b), .ow (fR a.length (Rf a b (j + 1))), y3, w4, .sh (.int ((a.length - b.length - j : Nat) : Int)), .sh (rD (Ff a b j)), y7, w8, w9, w10] := by
  have hJ := h.hJ
  obtain ⟨by_, hby⟩ : ∃ k, k = a.length - b.length - j := ⟨_, rfl⟩
  have fk := h.fk (j := j) (by omega)
  obtain ⟨ρ', e, y3, y7, rfl⟩ := forO_inv (F := gTo (gTupD 2 (gsCons (gSet 7) (gsCons (gSet 3) (gsNil)))) b_quotient_1) (l := enuL (b.map .int))
    (fun k ρ => ∃ y3 y7, ρ = [w0, .sh (pD b), .ow (fR a.length fun i => if by_ ≤ i ∧ i < by_ + k then Rf a b j i - Ff a b j * (cf b (i - by_) : Rat) else Rf a b j i), y3, w4, .sh (.int (by_ : Int)), .sh (rD (Ff a b j)), y7, w8, w9, w10])
    (ρ := [w0, .sh (pD b), .ow (fR a.length (Rf a b j)), w3, w4, .sh (.int (by_ : Int)), .sh (rD (Ff a b j)), w7, w8, w9, w10])
    ⟨w3, w7, by
      rw [fR_congr (ψ := fun i => if by_ ≤ i ∧ i < by_ + 0 then Rf a b j i - Ff a b j * (cf b (i - by_) : Rat) else Rf a b j i) (fun i _ => by rw [if_neg (by omega)])]⟩
    (fun k d ρ hd hi => by
      obtain ⟨hk, rfl⟩ := enu_get hd
      obtain ⟨y3, y7, rfl⟩ := hi
      have hl := h.hl
      have hlt : by_ + k < a.length := by omega
      have ix : ixD (.list (fR a.length fun i => if by_ ≤ i ∧ i < by_ + k then Rf a b j i - Ff a b j * (cf b (i - by_) : Rat) else Rf a b j i)) (.int ((by_ : Int) + (k : Int))) = some (rD (Rf a b j (by_ + k))) := by
        rw [fR_ix (i := by_ + k) (by omega) hlt, if_neg (by omega)]
      have sc : Rk t ((-(cf b k) : Int) : Rat) := rk_int (h.sb.cf k).neg h.ht
      have tm := times_r fk sc (by have := h.hz; omega)
      have rk := h.rk (j := j) (by omega) (by_ + k)
      have ps := plus_r rk (fk.mul sc) (by have := h.hz; omega)
      have ev : Rf a b j (by_ + k) + Ff a b j * ((-(cf b k) : Int) : Rat) = Rf a b j (by_ + k) - Ff a b j * (cf b k : Rat) := by rw [Rat.intCast_neg]; grind
      rw [ev] at ps
      have ij : ixN a.length ((by_ : Int) + (k : Int)) = some (by_ + k) := ixN_nat (i := by_ + k) hlt
      refine ⟨_, .inl (by simp [b_quotient_1, ix, rD_int, tm, ps, ij, fR_set, -Rat.intCast_neg, -r_ix_l, -Out.nx.injEq] <;> rfl), .sh (.int (cf b k)), .sh (.int (k : Int)), ?_⟩
      rw [fR_congr (φ := fun i => if i = by_ + k then Rf a b j (by_ + k) - Ff a b j * (cf b k : Rat) else if by_ ≤ i ∧ i < by_ + k then Rf a b j i - Ff a b j * (cf b (i - by_) : Rat) else Rf a b j i) (ψ := fun i => if by_ ≤ i ∧ i < by_ + (k + 1) then Rf a b j i - Ff a b j * (cf b (i - by_) : Rat) else Rf a b j i) (fun i _ => by
        by_cases e : i = by_ + k
        · subst e
          rw [if_pos rfl, if_pos (show by_ ≤ by_ + k ∧ by_ + k < by_ + (k + 1) by omega), show by_ + k - by_ = k by omega]
        · rw [if_neg e]
          by_cases g : by_ ≤ i ∧ i < by_ + k
          · rw [if_pos g, if_pos (show by_ ≤ i ∧ i < by_ + (k + 1) by omega)]
          · rw [if_neg g, if_neg (show ¬ (by_ ≤ i ∧ i < by_ + (k + 1)) by omega)])])
  rw [enu_length] at e
  refine ⟨y3, y7, ?_⟩
  rw [← hby, e, fR_congr (ψ := Rf a b (j + 1)) (fun i _ => by rw [h.rf_succ, ← hby])]
end
section
variable {s t J : Nat} {a b : List Int}
theorem q_step (h : QS s t J a b) {j : Nat} (hj : j ≤ a.length - b.length) (w3 w5 w6 w7 w8 w9 w10 : SD) :
    ∃ y3 y6 y7, gTo (gSet 5) b_quotient_2 (.int ((a.length - b.length - j : Nat) : Int)) [.sh (pD a), .sh (pD b), .ow (fR a.length (Rf a b j)), w3, .ow (fR j (Ff a b)), w5, w6, w7, w8, w9, w10]
      = .nx [.sh (pD a), .sh (pD b), .ow (fR a.length (Rf a b (j + 1))), y3, .ow (fR (j + 1) (Ff a b)), .sh (.int ((a.length - b.length - j : Nat) : Int)), y6, y7, w8, w9, w10] := by
  have hJ := h.hJ
  have hl := h.hl
  have lb := h.lb
  have hz := h.hz
  have e6 : ((a.length - b.length - j : Nat) : Int) + (b.length : Int) - 1 = ((a.length - b.length - j + b.length - 1 : Nat) : Int) := by omega
  have ix : ixD (.list (fR a.length (Rf a b j))) (.int (((a.length - b.length - j : Nat) : Int) + (b.length : Int) - 1)) = some (rD (Rf a b j (a.length - b.length - j + b.length - 1))) := fR_ix e6 (by omega)
  have ixl := ix_last (l := b) (n := b.length - 1) (by omega)
  have sl := h.sb.cf (b.length - 1)
  have nb := number_r (n := 1) (sl.mono (show t ≤ 9000 by omega)) h.lead
  have rl : Rk t (((1 : Int) : Rat) / ((cf b (b.length - 1) : Int) : Rat)) := rk_div h.lead ((Sz.lit (a := 1) (by decide)).mono h.ht) sl
  have rk := h.rk (j := j) (by omega) (a.length - b.length - j + b.length - 1)
  have tm := times_r rk rl (by omega)
  have ef : Rf a b j (a.length - b.length - j + b.length - 1) * (((1 : Int) : Rat) / ((cf b (b.length - 1) : Int) : Rat)) = Ff a b j := by
    unfold Rf Ff topN
    have hL : ((cf b (b.length - 1) : Int) : Rat) ≠ 0 := by exact_mod_cast h.lead
    have hP : (((cf b (b.length - 1)) ^ j : Int) : Rat) ≠ 0 := by exact_mod_cast Int.pow_ne_zero h.lead
    rw [Int.pow_succ, Rat.intCast_mul]
    have : ((1 : Int) : Rat) = 1 := rfl
    rw [this]
    grind
  rw [ef] at tm
  generalize ((1 : Int) : Rat) / ((cf b (b.length - 1) : Int) : Rat) = inv at nb tm
  have hs : j < sizeLine := Nat.lt_of_lt_of_le (show j < 1001 by have := h.la; omega) (by decide)
  obtain ⟨y3, y7, e⟩ := q_inner h hj (.sh (pD a)) (.ow (fR (j + 1) (Ff a b))) w7 w8 w9 w10 w3
  have hc : fR j (Ff a b) ++ [rD (Ff a b j)] = fR (j + 1) (Ff a b) := fR_snoc j (Ff a b)
  exact ⟨y3, _, y7, by simp [b_quotient_2, ix, ixl, nb, tm, hs, hc, e, -r_ix_l, -Out.nx.injEq] <;> rfl⟩
end
theorem range3_down {n : Nat} (h : n ≤ 100000) {z : Int} (hz : z = n) : range3D [.int z, .int (-1), .int (-1)] = some (rngL (n : Int) (-1) (n + 1)) := by
  subst hz
  have e : Builtin.Range.rangeSize (n : Int) (-1) (-1) = ((n + 1 : Nat) : Int) := by
    unfold Builtin.Range.rangeSize
    rw [if_neg (by decide), if_pos (by omega)]
    have : ((n : Int) - -1 - 1) = (n : Int) := by omega
    rw [this]; simp
  have sm : Builtin.Range.small (n : Int) (-1) (-1) = true := by
    unfold Builtin.Range.small
    rw [e]
    have f1 : ∀ z : Int, -100002 ≤ z → z ≤ 100002 → Builtin.Range.rangeFitsLong z = true := fun z h1 h2 => by
      unfold Builtin.Range.rangeFitsLong
      simp
      omega
    have g1 := f1 (n : Int) (by omega) (by omega)
    have g2 := f1 (-1) (by decide) (by decide)
    have g3 := f1 ((n : Int) + 1) (by omega) (by omega)
    simp [g1, g2, g3]
  have c1 : (decide ((-1 : Int) ≠ 0) && decide ((-1 : Int).natAbs < 1073741824) && Builtin.Range.small (n : Int) (-1) (-1) && decide (Builtin.Range.rangeSize (n : Int) (-1) (-1) = ((Builtin.Range.rangeSize (n : Int) (-1) (-1)).toNat : Int))) = true := by
    rw [sm, e]
    have : ((n + 1 : Nat) : Int).toNat = n + 1 := by omega
    rw [this]
    simp
  unfold range3D
  simp only
  rw [if_pos c1, e]
  have : ((n + 1 : Nat) : Int).toNat = n + 1 := by omega
  rw [this]
theorem rD_def (r : Rat) : rD r = .tuple [.int r.num, .int (r.den : Int)] := rfl
theorem lcm_fdiv (M u : Nat) : ((M : Int) * (u : Int)).fdiv ((Nat.gcd M u : Nat) : Int) = ((Nat.lcm M u : Nat) : Int) := by
  rw [← Int.natCast_mul, ← Int.ofNat_fdiv]; rfl
theorem measure_loop {Z : Nat} (hZ : Z ≤ 9000) (w0 w1 w2 w3 w4 w5 w6 w7 : SD) (rs : List Rat) : ∀ (M k : Nat) (w9 w10 : SD), (∀ r ∈ rs, Rk Z r) → 0 < M → Sz k (M : Int) → k + rs.length * Z ≤ 10000000 → ∃ (M' : Nat) (y9 y10 : SD),
    forO (gTo (gTupD 2 (gsCons (gSet 9) (gsCons (gSet 10) (gsNil)))) b_quotient_3) (rs.map rD) [w0, w1, w2, w3, w4, w5, w6, w7, .sh (.int (M : Int)), w9, w10] = .nx [w0, w1, w2, w3, w4, w5, w6, w7, .sh (.int (M' : Int)), y9, y10] ∧ 0 < M' ∧ M ∣ M' ∧ (∀ r ∈ rs, r.den ∣ M') ∧ Sz (k + rs.length * Z) (M' : Int) := by
  induction rs with
  | nil => exact fun M k w9 w10 _ h0 hs _ => ⟨M, w9, w10, rfl, h0, Nat.dvd_refl _, by simp, by simpa using hs⟩
  | cons r rs ih =>
    intro M k w9 w10 hr h0 hs hk
    rw [List.length_cons, Nat.succ_mul] at hk
    have rk := hr r (by simp)
    have sd : Sz Z (r.den : Int) := rk.s2
    have dp := r.den_pos
    have om := okMul_of hs sd (by omega)
    have gp : 0 < Nat.gcd M r.den := Nat.gcd_pos_of_pos_left _ h0
    have sg : Sz Z ((Nat.gcd M r.den : Nat) : Int) := sd.of_le (by
      have := Nat.gcd_le_right M dp
      simpa using this)
    have od : ∀ x, okDiv x ((Nat.gcd M r.den : Nat) : Int) = true := fun x => okDiv_of (sg.mono hZ) (by omega)
    have lp : 0 < Nat.lcm M r.den := Nat.lcm_pos h0 dp
    have ls : Sz (k + Z) ((Nat.lcm M r.den : Nat) : Int) := (hs.mul sd).of_le (by
      have h1 := Nat.gcd_mul_lcm M r.den
      have h2 : Nat.lcm M r.den ≤ M * r.den := by
        rw [← h1]; exact Nat.le_mul_of_pos_left _ gp
      rw [Int.natAbs_mul]
      simpa using h2)
    obtain ⟨M', y9, y10, e, p1, p2, p3, p4⟩ := ih (Nat.lcm M r.den) (k + Z) (.sh (.int r.num)) (.sh (.int (r.den : Int))) (fun q hq => hr q (by simp [hq])) lp ls (by omega)
    refine ⟨M', y9, y10, ?_, p1, Nat.dvd_trans (Nat.dvd_lcm_left _ _) p2, fun q hq => ?_, ?_⟩
    · have lf := lcm_fdiv M r.den
      have st : gTo (gTupD 2 (gsCons (gSet 9) (gsCons (gSet 10) (gsNil)))) b_quotient_3 (rD r) [w0, w1, w2, w3, w4, w5, w6, w7, .sh (.int (M : Int)), w9, w10] = .nx [w0, w1, w2, w3, w4, w5, w6, w7, .sh (.int ((Nat.lcm M r.den : Nat) : Int)), .sh (.int r.num), .sh (.int (r.den : Int))] := by
        rw [rD_def]
        simp [b_quotient_3, om, od, lf]
      rw [List.map_cons, forO, st]
      exact e
    · rcases List.mem_cons.mp hq with rfl | hq
      · exact Nat.dvd_trans (Nat.dvd_lcm_right _ _) p2
      · exact p3 q hq
    · rw [List.length_cons, Nat.succ_mul]
      exact p4.mono (by omega)
theorem num_scaled (r : Rat) {M : Nat} (h : r.den ∣ M) : (((r.num * ((M / r.den : Nat) : Int) : Int)) : Rat) = ((M : Int) : Rat) * r := by
  obtain ⟨k, rfl⟩ := h
  rw [Nat.mul_div_cancel_left _ r.den_pos, Rat.intCast_mul, num_eq r]
  have : (((r.den * k : Nat) : Int) : Rat) = ((r.den : Int) : Rat) * ((k : Int) : Rat) := by rw [Int.natCast_mul, Rat.intCast_mul]
  rw [this]; grind
section
variable {s t J : Nat} {a b : List Int}
theorem quotient_ok (h : QS s t J a b) (hJ1000 : J ≤ 1000) (hbig : (s + J * (t + 1) + 1) + 1 + J * (s + J * (t + 1) + 1) ≤ 9000) : m_quotient [pD a, pD b] = .ok (.ow ((quoP a b).map .int)) := by
  have hJ := h.hJ
  have hl := h.hl
  have lb := h.lb
  have hz := h.hz
  have hla := h.la
  obtain ⟨Z, hZ⟩ : ∃ Z, Z = s + J * (t + 1) + 1 := ⟨_, rfl⟩
  rw [← hZ] at hbig
  have hc0 : ∀ a1 a2 a3 a4 a5 a6 a7 a8 a9 a10 : SD, compR (compS [3] (gSet 3) (cst true) (eCall m_number (eCons (eVar 3) (eCons (cst (.int 1)) (cst [])))) [a1, a2, a3, a4, a5, a6, a7, a8, a9, a10, .no]) (a.map .int) = .ok (fR a.length (Rf a b 0)) := fun a1 a2 a3 a4 a5 a6 a7 a8 a9 a10 => by
    have e : fR a.length (Rf a b 0) = a.map fun (c : Int) => rD (c : Rat) := by
      refine List.ext_getElem (by simp) fun i h1 h2 => ?_
      have hi : i < a.length := by simpa using h1
      have r0 : Rf a b 0 i = (cf a i : Rat) := by
        unfold Rf
        rw [Int.pow_zero]
        show (cf a i : Rat) / ((1 : Int) : Rat) = _
        have : ((1 : Int) : Rat) = 1 := rfl
        rw [this]; grind
      simp [fR, r0, hi]
    rw [e]
    refine compR_map' fun c hc => ?_
    have n := number_r (n := c) (d := 1) ((Sz.lit (a := 1) (by decide)).mono (by decide)) (by decide)
    have e1 : (c : Rat) / ((1 : Int) : Rat) = (c : Rat) := by
      have : ((1 : Int) : Rat) = 1 := rfl
      rw [this]; grind
    rw [e1] at n
    simp [compS, n]
  obtain ⟨K, hK⟩ : ∃ K, K = a.length - b.length + 1 := ⟨_, rfl⟩
  obtain ⟨ρ', e, y3, y5, y6, y7, rfl⟩ := forO_inv (F := gTo (gSet 5) b_quotient_2) (l := rngL ((a.length - b.length : Nat) : Int) (-1) K)
    (fun j ρ => ∃ y3 y5 y6 y7, ρ = [.sh (pD a), .sh (pD b), .ow (fR a.length (Rf a b j)), y3, .ow (fR j (Ff a b)), y5, y6, y7, .no, .no, .no])
    (ρ := [.sh (pD a), .sh (pD b), .ow (fR a.length (Rf a b 0)), .no, .ow [], .no, .no, .no, .no, .no, .no]) ⟨_, _, _, _, rfl⟩
    (fun j d ρ hd hi => by
      obtain ⟨hj, rfl⟩ := rngL_get hd
      obtain ⟨y3, y5, y6, y7, rfl⟩ := hi
      have ed : ((a.length - b.length : Nat) : Int) + (j : Int) * -1 = ((a.length - b.length - j : Nat) : Int) := by omega
      rw [ed]
      obtain ⟨z3, z6, z7, st⟩ := q_step h (j := j) (by omega) y3 y5 y6 y7 .no .no .no
      exact ⟨_, .inl st, _, _, _, _, rfl⟩)
  rw [rngL_length] at e
  have r3 := range3_down (n := a.length - b.length) (by omega) (z := (a.length : Int) - (b.length : Int)) (by omega)
  rw [← hK] at r3
  have ef : fR K (Ff a b) = ((List.range K).map (Ff a b)).map rD := by unfold fR; rw [List.map_map]; rfl
  have hJm : J * Z ≤ 9000 := by omega
  have hKm : K * Z ≤ J * Z := Nat.mul_le_mul_right _ (by omega)
  obtain ⟨M, y9, y10, em2, M0, _, Md, Ms⟩ := measure_loop (Z := Z) (by omega) (.sh (pD a)) (.sh (pD b)) (.ow (fR a.length (Rf a b K))) y3 (.sh (.list (fR K (Ff a b)))) y5 y6 y7 ((List.range K).map (Ff a b)) 1 1 .no .no (fun r hr => by
    obtain ⟨j, hj, rfl⟩ := List.mem_map.mp hr
    have hj := List.mem_range.mp hj
    rw [hZ]
    exact h.fk (by omega)) (by decide) (.lit (by decide)) (by simp; omega)
  rw [← ef] at em2
  have Md' : ∀ j, j < K → (Ff a b j).den ∣ M := fun j hj => Md _ (List.mem_map.mpr ⟨j, List.mem_range.mpr hj, rfl⟩)
  have rv : (fR K (Ff a b)).reverse = ((List.range K).map fun i => Ff a b (K - 1 - i)).map rD := by
    rw [fR_rev]; unfold fR; rw [List.map_map]; rfl
  obtain ⟨Q, hQ⟩ : ∃ Q, Q = fl K fun i => (Ff a b (K - 1 - i)).num * ((M / (Ff a b (K - 1 - i)).den : Nat) : Int) := ⟨_, rfl⟩
  have Ms' : Sz (1 + K * Z) (M : Int) := by simpa using Ms
  have hc : ∀ a0 a1 a2 a3 a4 a5 a6 a7 a9 a10 : SD, compR (compS [9, 10] (gTupD 2 (gsCons (gSet 9) (gsCons (gSet 10) (gsNil)))) (cst true) (e2 mulD (eOwn 9) (e2 fdivD (eOwn 8) (eOwn 10))) [a0, a1, a2, a3, a4, a5, a6, a7, .sh (.int (M : Int)), a9, a10]) ((fR K (Ff a b)).reverse) = .ok (Q.map .int) := fun a0 a1 a2 a3 a4 a5 a6 a7 a9 a10 => by
    rw [rv, List.map_map, hQ]
    unfold fl
    rw [List.map_map]
    refine compR_map' fun i hi => ?_
    have hi := List.mem_range.mp hi
    have rk := h.fk (j := K - 1 - i) (by omega)
    rw [← hZ] at rk
    have dp := (Ff a b (K - 1 - i)).den_pos
    have od : okDiv (M : Int) ((Ff a b (K - 1 - i)).den : Int) = true := okDiv_of ((rk.s2 : Sz Z _).mono (by omega)) (by omega)
    have ed : (M : Int).fdiv ((Ff a b (K - 1 - i)).den : Int) = ((M / (Ff a b (K - 1 - i)).den : Nat) : Int) := (Int.ofNat_fdiv _ _).symm
    have sd : Sz (1 + K * Z) ((M / (Ff a b (K - 1 - i)).den : Nat) : Int) := Ms'.of_le (by
      rw [Int.natAbs_natCast, Int.natAbs_natCast]
      exact Nat.div_le_self M (Ff a b (K - 1 - i)).den)
    have om : okMul (Ff a b (K - 1 - i)).num ((M / (Ff a b (K - 1 - i)).den : Nat) : Int) = true := okMul_of (rk.s1 : Sz Z _) sd (by omega)
    simp only [Function.comp]
    rw [rD_def]
    simp [compS, od, ed, om, -Int.natCast_ediv]
  have Qc : ∀ i, (cf b (b.length - 1)) ^ K * cf Q i = (M : Int) * cf (qN a b K) i := fun i => by
    rw [qN_cf K i (by omega), hQ, cf_fl]
    by_cases hi : i < K
    · rw [if_pos hi, if_pos (show i ≤ a.length - b.length ∧ a.length - b.length - i < K by omega)]
      have ns := num_scaled (Ff a b (K - 1 - i)) (Md' (K - 1 - i) (by omega))
      have hj : a.length - b.length - i = K - 1 - i := by omega
      rw [hj]
      have hP : (((cf b (b.length - 1)) ^ (K - 1 - i + 1) : Int) : Rat) ≠ 0 := by exact_mod_cast Int.pow_ne_zero h.lead
      have hs : (cf b (b.length - 1)) ^ K = (cf b (b.length - 1)) ^ (K - 1 - i + 1) * (cf b (b.length - 1)) ^ (K - 1 - (K - 1 - i)) := by
        rw [← Int.pow_add]; congr 1; omega
      have : (((cf b (b.length - 1)) ^ K * ((Ff a b (K - 1 - i)).num * ((M / (Ff a b (K - 1 - i)).den : Nat) : Int)) : Int) : Rat) = (((M : Int) * (topN a b (K - 1 - i) * (cf b (b.length - 1)) ^ (K - 1 - (K - 1 - i))) : Int) : Rat) := by
        rw [Rat.intCast_mul, ns, hs, Rat.intCast_mul, Rat.intCast_mul, Rat.intCast_mul]
        unfold Ff
        generalize (((cf b (b.length - 1)) ^ (K - 1 - i + 1) : Int) : Rat) = P at hP ⊢
        generalize (((cf b (b.length - 1)) ^ (K - 1 - (K - 1 - i)) : Int) : Rat) = P'
        grind
      exact_mod_cast this
    · rw [if_neg hi, if_neg (show ¬ (i ≤ a.length - b.length ∧ a.length - b.length - i < K) by omega)]; simp
  have qne := qN_ne h.ta h.tb h.na h.nb hl
  rw [← hK] at qne
  have lead0 : (cf b (b.length - 1)) ^ K ≠ 0 := Int.pow_ne_zero h.lead
  have M0' : (M : Int) ≠ 0 := by omega
  have qtr := qN_tr a b K
  have qlen : (qN a b K).length = K := by
    have h1 : (qN a b K).length ≤ K := len_of_zero qtr fun k hk => by
      rw [qN_cf K k (by omega), if_neg (by omega)]
    have h2 : K ≤ (qN a b K).length := by
      apply Classical.byContradiction
      intro g
      have c0 := cf_out (l := qN a b K) (k := K - 1) (by omega)
      rw [qN_cf K (K - 1) (by omega), if_pos (show K - 1 ≤ a.length - b.length ∧ a.length - b.length - (K - 1) < K by omega)] at c0
      have t0 : topN a b (a.length - b.length - (K - 1)) = cf a (a.length - 1) := by
        unfold topN
        rw [show a.length - b.length - (K - 1) = 0 by omega, show a.length - b.length - 0 + b.length - 1 = a.length - 1 by omega]; rfl
      rw [t0] at c0
      have la1 : 0 < a.length := List.length_pos_iff.mpr h.na
      exact Int.mul_ne_zero (h.ta (a.length - 1) (by omega)) (Int.pow_ne_zero h.lead) c0
    omega
  have Qtr : Tr Q := fun m hm => by
    intro z
    have hKm : m + 1 = K := by rw [hQ] at hm; simpa using hm.symm
    have := Qc m
    rw [z, Int.mul_zero] at this
    exact Int.mul_ne_zero M0' (qtr m (by omega)) this.symm
  have Qne : Q ≠ [] := by
    rw [← List.length_pos_iff, hQ]; simp; omega
  have pr : plainP Q = quoP a b := by
    unfold quoP
    rw [← hK]
    exact plain_ray Qtr qtr Qne qne lead0 M0' Qc
  have Qs : SzP (Z + (1 + K * Z)) Q := by
    rw [hQ]
    refine SzP.fl fun i hi => ?_
    have rk := h.fk (j := K - 1 - i) (by omega)
    rw [← hZ] at rk
    exact (rk.s1 : Sz Z _).mul (Ms'.of_le (by
      rw [Int.natAbs_natCast, Int.natAbs_natCast]
      exact Nat.div_le_self M (Ff a b (K - 1 - i)).den))
  have pl := plain_ok Qtr Qs (by omega) (by rw [hQ]; simp; omega)
  rw [pr] at pl
  have hls : a.length ≤ sizeLine := slB (by omega)
  have hls2 : K ≤ sizeLine := slB (by omega)
  have em3 : forO (gTo (gTupD 2 (gsCons (gSet 9) (gsCons (gSet 10) (gsNil)))) b_quotient_3) (fR K (Ff a b)) [.sh (pD a), .sh (pD b), .ow (fR a.length (Rf a b K)), y3, .sh (.list (fR K (Ff a b))), y5, y6, y7, .sh (.int 1), .no, .no] = .nx [.sh (pD a), .sh (pD b), .ow (fR a.length (Rf a b K)), y3, .sh (.list (fR K (Ff a b))), y5, y6, y7, .sh (.int (M : Int)), y9, y10] := em2
  simp only [m_quotient, c_quotient]
  simp [hls, hc0, r3, e, em3, hls2, hc, pl]
end
end W

set_option Elab.async false
set_option linter.all false
set_option maxRecDepth 100000
set_option autoImplicit false
namespace W
open PySem PySem.Spec PyProof.Rows L2 VL
noncomputable def b_common_divisor_1 : Ev → Out := sPar 2 3 (eCons (eVar 3) (eCons (eCall m_plain (eCons (eCall m_false_rest (eCons (eVar 2) (eCons (eVar 3) (cst [])))) (cst []))) (cst [])))
noncomputable def c_common_divisor : Ev → Out := sSeq (sPar 2 3 (eCons (eCall m_plain (eCons (eVar 0) (cst []))) (eCons (eCall m_plain (eCons (eVar 1) (cst []))) (cst [])))) (sSeq (sWhile (e1 truD (eOwn 3)) b_common_divisor_1) (sRet (eVar 2)))
noncomputable def m_common_divisor : List D → R SD := runD 2 4 c_common_divisor
noncomputable def b__law_divides_1 : Ev → Out := sSeq (sSet 8 (eCall m__law_times (eCons (eVar 6) (eCons (e1 tupD (eCons (e2 ixD (eOwn 0) (eOwn 7)) (eCons (cst (.int 1)) (cst [])))) (cst []))))) (sStore 2 (e2 addD (eOwn 5) (eOwn 7)) (eCall m__law_plus (eCons (e2 ixD (eOwn 2) (e2 addD (eOwn 5) (eOwn 7))) (eCons (e1 tupD (eCons (e1 negD (e2 ixD (eOwn 8) (cst (.int 0)))) (eCons (e2 ixD (eOwn 8) (cst (.int 1))) (cst [])))) (cst [])))))
noncomputable def b__law_divides_2 : Ev → Out := sSeq (sSet 5 (e2 subD (e2 subD (e1 lenD (eCons (eOwn 1) (cst []))) (e1 lenD (eCons (eOwn 0) (cst [])))) (eOwn 4))) (sSeq (sSet 6 (eCall m__law_times (eCons (e2 ixD (eOwn 2) (e2 subD (e2 addD (eOwn 5) (e1 lenD (eCons (eOwn 0) (cst [])))) (cst (.int 1)))) (eCons (eCall m__law_number (eCons (cst (.int 1)) (eCons (e2 ixD (eOwn 0) (e1 negD (cst (.int 1)))) (cst [])))) (cst []))))) (sFor (e1 range1D (eCons (e1 lenD (eCons (eOwn 0) (cst []))) (cst []))) (gSet 7) b__law_divides_1))
noncomputable def c__law_divides : Ev → Out := sSeq (sSetO 2 (eComp [3] (e1 seqD (eVar 1)) (gSet 3) (cst true) (e1 tupD (eCons (eVar 3) (eCons (cst (.int 1)) (cst [])))))) (sSeq (sFor (e1 range1D (eCons (e2 addD (e2 subD (e1 lenD (eCons (eOwn 1) (cst []))) (e1 lenD (eCons (eOwn 0) (cst [])))) (cst (.int 1))) (cst []))) (gSet 4) b__law_divides_2) (sFz 2 (sRet (e1 allD (eCons (eLst (eComp [3] (e1 seqD (eVar 2)) (gSet 3) (cst true) (e2 eqD (e2 ixD (eOwn 3) (cst (.int 0))) (cst (.int 0))))) (cst []))))))
noncomputable def m__law_divides : List D → R SD := runD 2 9 c__law_divides
/-! ### common divisors: plain law -/
theorem evNil (x : Rat) : evP [] x = 0 := rfl
theorem evOne (c : Int) (x : Rat) : evP [c] x = (c : Rat) := by show (0 : Rat) * x + (c : Rat) = _; grind
theorem ev_cmul (c : Int) (q : List Int) (x : Rat) : evP (q.map fun y => c * y) x = (c : Rat) * evP q x := by
  rw [evP_S _ x q.length (by simp), evP_S q x q.length (Nat.le_refl _), ← evS_mul]
  exact evS_congr fun k _ => cf_map (f := fun y => c * y) (by simp) k
theorem ev_plain {a : List Int} (ha : Tr a) (h : a ≠ []) (x : Rat) : evP a x = ((plC a : Int) : Rat) * evP (plainP a) x := by
  rw [← ev_cmul]
  exact evP_ext (fun k => by rw [cf_map (f := fun y => plC a * y) (by simp), ← cf_plain h ha]) x
theorem plain_tr {a : List Int} (ha : Tr a) : Tr (plainP a) := by
  by_cases h : a = []
  · subst h; exact tr_nil
  · exact (plain_prim ha h).tr
theorem plain_nil {a : List Int} : plainP a = [] ↔ a = [] := by unfold plainP; simp
theorem tr_of_ne {a b : List Int} (hb : Tr b) (nb : b ≠ []) (h : ∀ k, cf a k = cf b k) : trimP a = b := trim_eq hb h
/-- d divides p, with whole numbers on both sides -/
def Dq (d p : List Int) : Prop := ∃ (u : Int) (q : List Int), u ≠ 0 ∧ ∀ x, (u : Rat) * evP p x = evP q x * evP d x
theorem int_ne {u : Int} (h : u ≠ 0) : (u : Rat) ≠ 0 := by exact_mod_cast h
theorem Dq.refl (d : List Int) : Dq d d := ⟨1, [1], by decide, fun x => by rw [evOne]⟩
theorem Dq.nil (d : List Int) : Dq d [] := ⟨1, [], by decide, fun x => by rw [evNil]; grind⟩
theorem Dq.trans {d e p : List Int} (h : Dq d e) (h' : Dq e p) : Dq d p := by
  obtain ⟨u, q, hu, f⟩ := h
  obtain ⟨v, r, hv, g⟩ := h'
  exact ⟨u * v, mulP r q, Int.mul_ne_zero hu hv, fun x => by
    have a := f x
    have b := g x
    rw [Rat.intCast_mul, evP_mul]
    grind⟩
/-- combinations of what d divides -/
theorem Dq.comb {d p r : List Int} (h : Dq d p) (h' : Dq d r) {w : Int} (hw : w ≠ 0) {s t z : List Int} (e : ∀ x, (w : Rat) * evP z x = evP s x * evP p x + evP t x * evP r x) : Dq d z := by
  obtain ⟨u, q, hu, f⟩ := h
  obtain ⟨v, q', hv, g⟩ := h'
  exact ⟨u * v * w, addP (scaleP (mulP s q) v) (scaleP (mulP t q') u), Int.mul_ne_zero (Int.mul_ne_zero hu hv) hw, fun x => by
    have a := f x
    have b := g x
    have c := e x
    rw [Rat.intCast_mul, Rat.intCast_mul, evP_add, ev_scale, ev_scale, evP_mul, evP_mul]
    have : (u : Rat) * (v : Rat) * (w : Rat) * evP z x = (v : Rat) * evP s x * ((u : Rat) * evP p x) + (u : Rat) * evP t x * ((v : Rat) * evP r x) := by grind
    rw [this, a, b]
    grind⟩
theorem Dq.scale {d p z : List Int} (h : Dq d p) {w v : Int} (hw : w ≠ 0) (e : ∀ x, (w : Rat) * evP z x = (v : Rat) * evP p x) : Dq d z := by
  refine h.comb (Dq.nil d) hw (s := [v]) (t := []) fun x => ?_
  rw [e, evOne, evNil]; grind
theorem Dq.plain {d a : List Int} (ha : Tr a) : Dq d (plainP a) ↔ Dq d a := by
  by_cases h : a = []
  · subst h; exact Iff.rfl
  · constructor
    · intro g; exact g.scale (w := 1) (v := plC a) (by decide) fun x => by rw [ev_plain ha h]; grind
    · intro g; exact g.scale (w := plC a) (v := 1) (plC_ne ha h) fun x => by rw [ev_plain ha h]; grind
theorem fr_rel {a b : List Int} (h : b.length ≤ a.length) (x : Rat) : (((cf b (b.length - 1)) ^ (a.length - b.length + 1) : Int) : Rat) * evP a x = evP (qN a b (a.length - b.length + 1)) x * evP b x + evP (frP a b) x := by
  have ef : frP a b = frN a b (a.length - b.length + 1) := by unfold frP; rw [if_neg (by omega)]
  rw [ef]; exact fr_eq a b x _
theorem lead_ne {b : List Int} (hb : Tr b) (nb : b ≠ []) (K : Nat) : (cf b (b.length - 1)) ^ K ≠ 0 := by
  have := List.length_pos_iff.mpr nb
  exact Int.pow_ne_zero (hb _ (by omega))
theorem dq_rest {d a b : List Int} (hb : Tr b) (nb : b ≠ []) (h1 : Dq d a) (h2 : Dq d b) : Dq d (frP a b) := by
  by_cases h : a.length < b.length
  · have ef : frP a b = a := by unfold frP; rw [if_pos h]
    rw [ef]; exact h1
  · exact h1.comb h2 (w := 1) (by decide) (s := [(cf b (b.length - 1)) ^ (a.length - b.length + 1)]) (t := scaleP (qN a b (a.length - b.length + 1)) (-1)) fun x => by
      have := fr_rel (a := a) (b := b) (by omega) x
      rw [evOne, ev_scale]
      have e1 : ((1 : Int) : Rat) = 1 := rfl
      have e2' : ((-1 : Int) : Rat) = -1 := rfl
      rw [e1, e2']
      grind
theorem dq_back {d a b : List Int} (hb : Tr b) (nb : b ≠ []) (h1 : Dq d (frP a b)) (h2 : Dq d b) : Dq d a := by
  by_cases h : a.length < b.length
  · have ef : frP a b = a := by unfold frP; rw [if_pos h]
    rw [ef] at h1; exact h1
  · exact h1.comb h2 (lead_ne hb nb (a.length - b.length + 1)) (s := [1]) (t := qN a b (a.length - b.length + 1)) fun x => by
      have := fr_rel (a := a) (b := b) (by omega) x
      rw [evOne]
      have e1 : ((1 : Int) : Rat) = 1 := rfl
      rw [e1]
      grind
theorem mul_len_eq {a b : List Int} (ha : a ≠ []) (hb : b ≠ []) : (mulP a b).length = a.length + b.length - 1 := by
  unfold mulP; rw [if_neg (by simp [ha, hb]), fl_length]
/-- a multiple of d that is shorter than d is 0 -/
theorem dq_short {d p : List Int} (hd : Tr d) (nd : d ≠ []) (hp : Tr p) (h : Dq d p) (hl : p.length < d.length) : p = [] := by
  obtain ⟨u, q, hu, f⟩ := h
  have e : scaleP p u = mulP (trimP q) d := evP_uniq (tr_scale p u) (tr_mul (tr_trim q) hd) fun x => by
    rw [ev_scale, evP_mul, evP_ext (fun k => cf_trim q k) x, ← f x]; grind
  by_cases hq : trimP q = []
  · have : scaleP p u = [] := by rw [e, hq]; unfold mulP; rw [if_pos (by simp)]
    have hz : ∀ k, cf p k = 0 := fun k => by
      have h1 := cf_scale p u k
      rw [this, cf_nil] at h1
      exact (Int.mul_eq_zero.mp h1.symm).resolve_right hu
    have := len_of_zero hp (n := 0) fun k _ => hz k
    exact List.length_eq_zero_iff.mp (by omega)
  · have h1 := mul_len_eq hq nd
    rw [← e] at h1
    have h2 := scale_len p u
    have h3 := List.length_pos_iff.mpr hq
    omega
theorem dq_iff {d p : List Int} (hd : Tr d) (nd : d ≠ []) (hp : Tr p) : Dq d p ↔ frP p d = [] := by
  constructor
  · intro h
    have h1 := dq_rest hd nd h (Dq.refl d)
    by_cases hl : p.length < d.length
    · have ef : frP p d = p := by unfold frP; rw [if_pos hl]
      rw [ef]; exact dq_short hd nd hp h hl
    · exact dq_short hd nd (fr_tr hp) h1 (fr_len hp nd (by omega))
  · intro h
    exact dq_back hd nd (by rw [h]; exact Dq.nil d) (Dq.refl d)
theorem dq_len {d p : List Int} (hd : Tr d) (nd : d ≠ []) (hp : Tr p) (np : p ≠ []) (h : Dq d p) : d.length ≤ p.length := by
  apply Classical.byContradiction
  intro g
  exact np (dq_short hd nd hp h (by omega))
/-- plain polynomials that divide each other are the same -/
theorem dq_anti {p q : List Int} (hp : Prim p) (hq : Prim q) (h : Dq p q) (h' : Dq q p) : p = q := by
  have l1 := dq_len hp.tr hp.ne hq.tr hq.ne h
  have l2 := dq_len hq.tr hq.ne hp.tr hp.ne h'
  obtain ⟨u, r, hu, f⟩ := h
  have e : scaleP q u = mulP (trimP r) p := evP_uniq (tr_scale q u) (tr_mul (tr_trim r) hp.tr) fun x => by
    rw [ev_scale, evP_mul, evP_ext (fun k => cf_trim r k) x, ← f x]; grind
  have hr : trimP r ≠ [] := by
    intro z
    have : scaleP q u = [] := by rw [e, z]; unfold mulP; rw [if_pos (by simp)]
    have h1 := cf_scale q u (q.length - 1)
    rw [this, cf_nil] at h1
    have := hq.pos
    rcases Int.mul_eq_zero.mp h1.symm with h2 | h2
    · omega
    · exact hu h2
  have h1 := mul_len_eq hr hp.ne
  rw [← e] at h1
  have h2 := scale_len q u
  have h3 := List.length_pos_iff.mpr hr
  have h4 := List.length_pos_iff.mpr hp.ne
  have hlen : (trimP r).length = 1 := by omega
  obtain ⟨c, hc⟩ : ∃ c, trimP r = [c] := by
    cases hh : trimP r with
    | nil => rw [hh] at hlen; simp at hlen
    | cons c t =>
      rw [hh] at hlen
      have : t = [] := by
        apply List.length_eq_zero_iff.mp
        simp at hlen; simpa using hlen
      exact ⟨c, by rw [this]⟩
  have c0 : c ≠ 0 := by
    have := tr_trim r 0 (by rw [hc]; rfl)
    rw [hc] at this
    simpa using this
  refine (prim_uniq hq hp hu c0 (ray_ev fun x => ?_)).symm
  have := f x
  rw [← evP_ext (fun k => cf_trim r k) x, hc, evOne] at this
  exact this
/-! ### Euclid's way -/
def gcS : Nat → List Int → List Int → List Int
  | 0, f, _ => f
  | n + 1, f, s => if s = [] then f else gcS n s (plainP (frP f s))
def gcP (a b : List Int) : List Int := gcS (b.length + 2) (plainP a) (plainP b)
theorem fr_swap {f s : List Int} (h : f.length < s.length) : frP f s = f := by unfold frP; rw [if_pos h]
/-- fuel: so many turns are enough -/
def Fuel (n : Nat) (f s : List Int) : Prop := s = [] ∨ (s.length ≤ f.length ∧ s.length + 1 ≤ n) ∨ s.length + f.length + 2 ≤ n
theorem gc_spec : ∀ (n : Nat) (f s : List Int), Tr f → Tr s → (s.length < n ∨ (f.length < s.length ∧ f.length + 1 < n) ) →
    (∀ d, Dq d f → Dq d s → Dq d (gcS n f s)) ∧ Dq (gcS n f s) f ∧ Dq (gcS n f s) s ∧ Tr (gcS n f s) ∧
    (∃ (w : Int) (u v : List Int), w ≠ 0 ∧ ∀ x, (w : Rat) * evP (gcS n f s) x = evP u x * evP f x + evP v x * evP s x) ∧
    (gcS n f s = [] → f = [] ∧ s = []) ∧ ((f = [] ∨ Prim f) → (s = [] ∨ Prim s) → gcS n f s = [] ∨ Prim (gcS n f s))
  | 0, f, s, tf, ts, h => by omega
  | n + 1, f, s, tf, ts, h => by
    by_cases hs : s = []
    · have e : gcS (n + 1) f s = f := by rw [gcS, if_pos hs]
      rw [e]
      subst hs
      exact ⟨fun d h1 _ => h1, Dq.refl f, Dq.nil f, tf, ⟨1, [1], [], by decide, fun x => by rw [evOne, evNil]; grind⟩, fun z => ⟨z, rfl⟩, fun h1 _ => h1⟩
    · have e : gcS (n + 1) f s = gcS n s (plainP (frP f s)) := by rw [gcS, if_neg hs]
      have tr := fr_tr (b := s) tf
      have ls := List.length_pos_iff.mpr hs
      obtain ⟨i1, i2, i3, i4, ⟨w, u, v, hw, hc⟩, i6, i7⟩ := gc_spec n s (plainP (frP f s)) ts (plain_tr tr) (by
        rw [plain_len]
        by_cases hl : f.length < s.length
        · rw [fr_swap hl]
          rcases h with h | h
          · left; omega
          · left; omega
        · have := fr_len (b := s) tf hs (by omega)
          left; omega)
      rw [e]
      refine ⟨fun d h1 h2 => i1 d h2 ((Dq.plain tr).mpr (dq_rest ts hs h1 h2)), dq_back ts hs ((Dq.plain tr).mp i3) i2, i2, i4, ?_, fun z => ?_, fun h1 h2 => i7 h2 ?_⟩
      · -- the combination
        by_cases hr : frP f s = []
        · have hp : plainP (frP f s) = [] := plain_nil.mpr hr
          rw [hp] at hc ⊢
          exact ⟨w, [], u, hw, fun x => by rw [hc x, evNil]; grind⟩
        · by_cases hl : f.length < s.length
          · have ef := fr_swap hl
            rw [ef] at hr hc ⊢
            refine ⟨w * plC f, v, scaleP u (plC f), Int.mul_ne_zero hw (plC_ne tf hr), fun x => ?_⟩
            have h1 := hc x
            have h2 := ev_plain tf hr x
            rw [Rat.intCast_mul, ev_scale, h2]
            grind
          · refine ⟨w * plC (frP f s), scaleP v ((cf s (s.length - 1)) ^ (f.length - s.length + 1)), subP (scaleP u (plC (frP f s))) (mulP v (qN f s (f.length - s.length + 1))), Int.mul_ne_zero hw (plC_ne tr hr), fun x => ?_⟩
            have h1 := hc x
            have h2 := ev_plain tr hr x
            have h3 := fr_rel (a := f) (b := s) (by omega) x
            rw [Rat.intCast_mul, ev_scale, ev_sub, ev_scale, evP_mul]
            grind
      · have := (i6 z).1
        exact absurd this hs
      · by_cases hr : frP f s = []
        · left; exact plain_nil.mpr hr
        · right; exact plain_prim tr hr
/-! the program's function -/
theorem p3_pos (n : Nat) : 0 < 3 ^ n := Nat.pow_pos (by decide)
theorem lin_pow : ∀ k : Nat, k + 2 ≤ 2 * 3 ^ k ∧ (1 ≤ k → k + 2 ≤ 3 ^ k)
  | 0 => by decide
  | 1 => by decide
  | k + 2 => by
    have := (lin_pow (k + 1)).2 (by omega)
    have e : 3 ^ (k + 2) = 3 * 3 ^ (k + 1) := by rw [Nat.pow_succ, Nat.mul_comm]
    omega
theorem gc_turn {f s : List Int} {X : Nat} (tf : Tr f) (ts : Tr s) (hs : s ≠ []) (sf : SzP (X - 1) f) (ss : SzP (X - 1) s) (hX : 1 ≤ X) (hX2 : X ≤ 9000) (lf : f.length ≤ 100) (ls : s.length ≤ 100) {X' : Nat} (hx : SzP X' (frP f s)) (hX' : X' ≤ 9000) (w0 w1 : SD) :
    b_common_divisor_1 [w0, w1, .sh (pD f), .sh (pD s)] = .nx [w0, w1, .sh (pD s), .sh (pD (plainP (frP f s)))] := by
  have fr := false_rest_c sf ss tf hs (by omega) (by omega) (by omega)
  have fl : (frP f s).length ≤ 100 := by
    by_cases h : f.length < s.length
    · rw [fr_swap h]; exact lf
    · have := fr_len (b := s) tf hs (by omega); omega
  have pl := plain_ok (fr_tr (b := s) tf) hx hX' (by omega)
  simp [b_common_divisor_1, fr, pl]
theorem frP_sz {f s : List Int} {X : Nat} (hX : 1 ≤ X) (sf : SzP (X - 1) f) (ss : SzP (X - 1) s) (hl : s.length ≤ f.length) : SzP ((f.length - s.length + 2) * X - 1) (frP f s) := by
  have ef : frP f s = frN f s (f.length - s.length + 1) := by unfold frP; rw [if_neg (by omega)]
  rw [ef]
  refine (frN_sz sf ss _).mono ?_
  rw [show X - 1 + 1 = X by omega, show f.length - s.length + 2 = (f.length - s.length + 1) + 1 by omega, Nat.succ_mul (f.length - s.length + 1)]
  omega
theorem gc_loop {C L : Nat} (hC : C * 3 ^ L ≤ 81000) (w0 w1 : SD) : ∀ (n : Nat) (f s : List Int) (X : Nat), Tr f → Tr s → s.length < n → s.length < f.length → f.length ≤ 100 → 1 ≤ X → SzP (X - 1) f → SzP (X - 1) s → X * 3 ^ f.length ≤ C * 3 ^ L →
    whileO (e1 truD (eOwn 3)) b_common_divisor_1 (n + 1) [w0, w1, .sh (pD f), .sh (pD s)] = .nx [w0, w1, .sh (pD (gcS n f s)), .sh (pD [])]
  | 0, f, s, X, _, _, h, _, _, _, _, _, _ => by omega
  | n + 1, f, s, X, tf, ts, hn, hl, hf, hX, sf, ss, hx => by
    by_cases hs : s = []
    · subst hs
      rw [whileO, gcS, if_pos rfl]
      simp
    · have ls := List.length_pos_iff.mpr hs
      have h3 : X * 3 ^ f.length = X * (3 ^ (f.length - s.length) * 3 ^ s.length) := by rw [← Nat.pow_add]; congr 2; omega
      have k1 := (lin_pow (f.length - s.length)).2 (by omega)
      have k2 : (f.length - s.length + 2) * X * 3 ^ s.length ≤ X * 3 ^ f.length := by
        rw [h3, Nat.mul_comm _ X, Nat.mul_assoc]
        exact Nat.mul_le_mul_left _ (Nat.mul_le_mul_right _ k1)
      have fz := frP_sz hX sf ss (by omega)
      have flen := fr_len (b := s) tf hs (by omega)
      have X9 : X ≤ 9000 := by
        have h1 : 3 ^ 2 ≤ 3 ^ f.length := Nat.pow_le_pow_right (by decide) (by omega)
        have h2 : X * 3 ^ 2 ≤ X * 3 ^ f.length := Nat.mul_le_mul_left _ h1
        omega
      have tn : b_common_divisor_1 [w0, w1, .sh (pD f), .sh (pD s)] = .nx [w0, w1, .sh (pD s), .sh (pD (plainP (frP f s)))] := by
        by_cases h1 : frP f s = []
        · exact gc_turn tf ts hs sf ss hX X9 hf (by omega) (X' := 0) (by rw [h1]; exact fun c hc => by cases hc) (by decide) w0 w1
        · have l2 : 2 ≤ s.length := by have := List.length_pos_iff.mpr h1; omega
          have h1 : 3 ^ 2 ≤ 3 ^ s.length := Nat.pow_le_pow_right (by decide) l2
          have h2 : (f.length - s.length + 2) * X * 3 ^ 2 ≤ (f.length - s.length + 2) * X * 3 ^ s.length := Nat.mul_le_mul_left _ h1
          exact gc_turn tf ts hs sf ss hX X9 hf (by omega) fz (by omega) w0 w1
      have c1 : X ≤ (f.length - s.length + 2) * X := Nat.le_mul_of_pos_left _ (by omega)
      have ih := gc_loop hC w0 w1 n s (plainP (frP f s)) ((f.length - s.length + 2) * X) ts (plain_tr (fr_tr tf)) (by rw [plain_len]; omega) (by rw [plain_len]; omega) (by omega) (by omega) (ss.mono (by omega)) fz.plain (by omega)
      have he : s.isEmpty = false := by cases s <;> simp_all
      rw [whileO, gcS, if_neg hs]
      simp [he, tn, ih]
theorem common_ok {a b : List Int} {L z : Nat} (ta : Tr a) (tb : Tr b) (sa : SzP z a) (sb : SzP z b) (la : a.length ≤ L) (lb : b.length ≤ L) (hL : L ≤ 100) (hz8 : 2 * (z + 1) ≤ 9000) (hz : 2 * (z + 1) * 3 ^ L ≤ 81000) :
    m_common_divisor [pD a, pD b] = .ok (.sh (pD (gcP a b))) := by
  have z9 : z ≤ 9000 := by omega
  have pa := plain_ok ta sa z9 (by omega)
  have pb := plain_ok tb sb z9 (by omega)
  have main : ∀ w0 w1 : SD, whileO (e1 truD (eOwn 3)) b_common_divisor_1 (b.length + 2 + 1) [w0, w1, .sh (pD (plainP a)), .sh (pD (plainP b))] = .nx [w0, w1, .sh (pD (gcP a b)), .sh (pD [])] := fun w0 w1 => by
    unfold gcP
    have lpa := plain_len a
    have lpb := plain_len b
    have tpa := plain_tr ta
    have tpb := plain_tr tb
    have spa := sa.plain
    have spb := sb.plain
    generalize plainP a = f at *
    generalize plainP b = s at *
    by_cases hs : s = []
    · subst hs
      rw [whileO, gcS, if_pos rfl]
      simp
    · have ls := List.length_pos_iff.mpr hs
      have he : s.isEmpty = false := by cases s <;> simp_all
      have up : ∀ (Y m : Nat), m ≤ L → Y * 3 ^ m ≤ Y * 3 ^ L := fun Y m hm => Nat.mul_le_mul_left _ (Nat.pow_le_pow_right (by decide) hm)
      by_cases h1 : s.length < f.length
      · have u := up (z + 1) f.length (by omega)
        have u2 : (z + 1) * 3 ^ L ≤ 2 * (z + 1) * 3 ^ L := Nat.mul_le_mul_right _ (by omega)
        exact gc_loop (C := 2 * (z + 1)) (L := L) hz w0 w1 (b.length + 2) f s (z + 1) tpa tpb (by omega) h1 (by omega) (by omega) spa spb (by omega)
      · by_cases h2 : f.length < s.length
        · have tn := gc_turn (X := z + 1) tpa tpb hs spa spb (by omega) (by omega) (by omega) (by omega) (X' := z) (by rw [fr_swap h2]; exact spa) z9 w0 w1
          have u := up (z + 1) s.length (by omega)
          have u2 : (z + 1) * 3 ^ L ≤ 2 * (z + 1) * 3 ^ L := Nat.mul_le_mul_right _ (by omega)
          have ih := gc_loop (C := 2 * (z + 1)) (L := L) hz w0 w1 (b.length + 1) s (plainP (frP f s)) (z + 1) tpb (plain_tr (fr_tr tpa)) (by rw [plain_len, fr_swap h2]; omega) (by rw [plain_len, fr_swap h2]; omega) (by omega) (by omega) spb (by rw [fr_swap h2]; exact spa.plain) (by omega)
          rw [whileO, gcS, if_neg hs]
          simp [he, tn, ih]
        · have hlen : f.length = s.length := by omega
          have fz := frP_sz (X := z + 1) (by omega) spa spb (by omega)
          have e2' : f.length - s.length + 2 = 2 := by omega
          rw [e2'] at fz
          have flen := fr_len (b := s) tpa hs (by omega)
          have tn := gc_turn (X := z + 1) tpa tpb hs spa spb (by omega) (by omega) (by omega) (by omega) fz (by omega) w0 w1
          have u := up (2 * (z + 1)) s.length (by omega)
          have ih := gc_loop (C := 2 * (z + 1)) (L := L) hz w0 w1 (b.length + 1) s (plainP (frP f s)) (2 * (z + 1)) tpb (plain_tr (fr_tr tpa)) (by rw [plain_len]; omega) (by rw [plain_len]; omega) (by omega) (by omega) (spb.mono (by omega)) fz.plain u
          rw [whileO, gcS, if_neg hs]
          simp [he, tn, ih]
  have e := sWhile_eq (main (.sh (pD a)) (.sh (pD b))) (by simp)
  simp [m_common_divisor, c_common_divisor, pa, pb, e]
structure Gc (a b g : List Int) : Prop where
  tr : Tr g
  all : ∀ d, Dq d a → Dq d b → Dq d g
  left : Dq g a
  right : Dq g b
  nil : g = [] → a = [] ∧ b = []
  prim : g = [] ∨ Prim g
  bez : ∃ (w : Int) (u v : List Int), w ≠ 0 ∧ ∀ x, (w : Rat) * evP g x = evP u x * evP a x + evP v x * evP b x
theorem gcP_spec {a b : List Int} (ta : Tr a) (tb : Tr b) : Gc a b (gcP a b) := by
  obtain ⟨h1, h2, h3, h4, ⟨w, u, v, hw, hc⟩, h6, h7⟩ := gc_spec (b.length + 2) (plainP a) (plainP b) (plain_tr ta) (plain_tr tb) (.inl (by rw [plain_len]; omega))
  have pp : ∀ {c : List Int}, Tr c → plainP c = [] ∨ Prim (plainP c) := fun {c} tc => by
    by_cases h : c = []
    · left; exact plain_nil.mpr h
    · right; exact plain_prim tc h
  refine ⟨h4, fun d d1 d2 => h1 d ((Dq.plain ta).mpr d1) ((Dq.plain tb).mpr d2), (Dq.plain ta).mp h2, (Dq.plain tb).mp h3, fun z => ⟨plain_nil.mp (h6 z).1, plain_nil.mp (h6 z).2⟩, h7 (pp ta) (pp tb), ?_⟩
  have sc : ∀ {c : List Int}, Tr c → ∃ (z : Int), z ≠ 0 ∧ ∀ x, (z : Rat) * evP (plainP c) x = evP c x := fun {c} tc => by
    by_cases h : c = []
    · subst h; exact ⟨1, by decide, fun x => by show _ * evP [] x = evP [] x; rw [evNil]; grind⟩
    · exact ⟨plC c, plC_ne tc h, fun x => (ev_plain tc h x).symm⟩
  obtain ⟨za, na, ea⟩ := sc ta
  obtain ⟨zb, nb, eb⟩ := sc tb
  refine ⟨w * za * zb, scaleP u zb, scaleP v za, Int.mul_ne_zero (Int.mul_ne_zero hw na) nb, fun x => ?_⟩
  have := hc x
  rw [Rat.intCast_mul, Rat.intCast_mul, ev_scale, ev_scale, ← ea x, ← eb x]
  show (w : Rat) * (za : Rat) * (zb : Rat) * evP (gcS (b.length + 2) (plainP a) (plainP b)) x = _
  grind
theorem gcP_comm {a b : List Int} (ta : Tr a) (tb : Tr b) : gcP a b = gcP b a := by
  have g := gcP_spec ta tb
  have h := gcP_spec tb ta
  rcases g.prim with p | p
  · obtain ⟨rfl, rfl⟩ := g.nil p
    rfl
  · rcases h.prim with q | q
    · obtain ⟨rfl, rfl⟩ := h.nil q
      rfl
    · exact dq_anti p q (h.all _ g.right g.left) (g.all _ h.right h.left)
theorem gcP_nil (a : List Int) : gcP a [] = plainP a := by
  unfold gcP
  have : plainP [] = [] := rfl
  rw [this]
  show gcS 2 (plainP a) [] = _
  rw [gcS, if_pos rfl]
/-- how great the numbers in a common divisor are -/
theorem gcS_sz {C L : Nat} : ∀ (n : Nat) (f s : List Int) (X : Nat), Tr f → Tr s → s.length < n → s.length < f.length → 1 ≤ X → SzP (X - 1) f → SzP (X - 1) s → X * 3 ^ f.length ≤ C * 3 ^ L →
    ∃ Y, 1 ≤ Y ∧ SzP (Y - 1) (gcS n f s) ∧ Y * 3 ^ (gcS n f s).length ≤ C * 3 ^ L
  | 0, f, s, X, _, _, h, _, _, _, _, _ => by omega
  | n + 1, f, s, X, tf, ts, hn, hl, hX, sf, ss, hx => by
    by_cases hs : s = []
    · subst hs
      rw [gcS, if_pos rfl]
      exact ⟨X, hX, sf, hx⟩
    · have ls := List.length_pos_iff.mpr hs
      have h3 : X * 3 ^ f.length = X * (3 ^ (f.length - s.length) * 3 ^ s.length) := by rw [← Nat.pow_add]; congr 2; omega
      have k1 := (lin_pow (f.length - s.length)).2 (by omega)
      have k2 : (f.length - s.length + 2) * X * 3 ^ s.length ≤ X * 3 ^ f.length := by
        rw [h3, Nat.mul_comm _ X, Nat.mul_assoc]
        exact Nat.mul_le_mul_left _ (Nat.mul_le_mul_right _ k1)
      have fz := frP_sz hX sf ss (by omega)
      have flen := fr_len (b := s) tf hs (by omega)
      have c1 : X ≤ (f.length - s.length + 2) * X := Nat.le_mul_of_pos_left _ (by omega)
      rw [gcS, if_neg hs]
      exact gcS_sz n s (plainP (frP f s)) ((f.length - s.length + 2) * X) ts (plain_tr (fr_tr tf)) (by rw [plain_len]; omega) (by rw [plain_len]; omega) (by omega) (ss.mono (by omega)) fz.plain (by omega)
theorem gcP_sz {a b : List Int} {L z : Nat} (ta : Tr a) (tb : Tr b) (sa : SzP z a) (sb : SzP z b) (la : a.length ≤ L) (lb : b.length ≤ L) : ∃ Y, 1 ≤ Y ∧ SzP (Y - 1) (gcP a b) ∧ Y * 3 ^ (gcP a b).length ≤ 2 * (z + 1) * 3 ^ L := by
  unfold gcP
  have lpa := plain_len a
  have lpb := plain_len b
  have tpa := plain_tr ta
  have tpb := plain_tr tb
  have spa := sa.plain
  have spb := sb.plain
  generalize plainP a = f at *
  generalize plainP b = s at *
  have up : ∀ (Y m : Nat), m ≤ L → Y * 3 ^ m ≤ Y * 3 ^ L := fun Y m hm => Nat.mul_le_mul_left _ (Nat.pow_le_pow_right (by decide) hm)
  have u2 : (z + 1) * 3 ^ L ≤ 2 * (z + 1) * 3 ^ L := Nat.mul_le_mul_right _ (by omega)
  by_cases hs : s = []
  · subst hs
    rw [gcS, if_pos rfl]
    have u := up (z + 1) f.length (by omega)
    exact ⟨z + 1, by omega, spa, by omega⟩
  · have ls := List.length_pos_iff.mpr hs
    by_cases h1 : s.length < f.length
    · have u := up (z + 1) f.length (by omega)
      exact gcS_sz (C := 2 * (z + 1)) (L := L) (b.length + 2) f s (z + 1) tpa tpb (by omega) h1 (by omega) spa spb (by omega)
    · rw [gcS, if_neg hs]
      by_cases h2 : f.length < s.length
      · have u := up (z + 1) s.length (by omega)
        exact gcS_sz (C := 2 * (z + 1)) (L := L) (b.length + 1) s (plainP (frP f s)) (z + 1) tpb (plain_tr (fr_tr tpa)) (by rw [plain_len, fr_swap h2]; omega) (by rw [plain_len, fr_swap h2]; omega) (by omega) spb (by rw [fr_swap h2]; exact spa.plain) (by omega)
      · have fz := frP_sz (X := z + 1) (by omega) spa spb (by omega)
        have e2' : f.length - s.length + 2 = 2 := by omega
        rw [e2'] at fz
        have flen := fr_len (b := s) tpa hs (by omega)
        have u := up (2 * (z + 1)) s.length (by omega)
        exact gcS_sz (C := 2 * (z + 1)) (L := L) (b.length + 1) s (plainP (frP f s)) (2 * (z + 1)) tpb (plain_tr (fr_tr tpa)) (by rw [plain_len]; omega) (by rw [plain_len]; omega) (by omega) (spb.mono (by omega)) fz.plain u
theorem prim_one {p : List Int} (h : Prim p) (hl : p.length = 1) : p = [1] := by
  match p, hl, h with
  | [c], _, h =>
    have h1 : c.natAbs = 1 := by
      have := h.one
      unfold contN at this
      simpa using this
    have h2 : 0 < c := h.pos
    have : c = 1 := by omega
    rw [this]
/-! the law's own division -/
structure LS (s t J : Nat) (a b : List Int) : Prop where
  q : QS s t J a b
  z : 2 * (s + J * (t + 1) + 1) + t + 10 ≤ 1900
section
variable {s t J : Nat} {a b : List Int}
theorem ld_inner (h : LS s t J a b) {j : Nat} (hj : j ≤ a.length - b.length) (w1 w3 w4 w7 w8 : SD) :
    ∃ y7 y8, forO (gTo (gSet 7) b__law_divides_1) (rngL 0 1 b.length) [.sh (pD b), w1, .ow (fR a.length (Rf a b j)), w3, w4, .sh (.int ((a.length - b.length - j : Nat) : Int)), .sh (rD (Ff a b j)), w7, w8]
      = .nx [.sh (pD b), w1, .ow (fR a.length (Rf a b (j + 1))), w3, w4, .sh (.int ((a.length - b.length - j : Nat) : Int)), .sh (rD (Ff a b j)), y7, y8] := by
  have hJ := h.q.hJ
  have hz := h.z
  obtain ⟨by_, hby⟩ : ∃ k, k = a.length - b.length - j := ⟨_, rfl⟩
  have fk := h.q.fk (j := j) (by omega)
  obtain ⟨ρ', e, y7, y8, rfl⟩ := forO_inv (F := gTo (gSet 7) b__law_divides_1) (l := rngL 0 1 b.length)
    (fun k ρ => ∃ y7 y8, ρ = [.sh (pD b), w1, .ow (fR a.length fun i => if by_ ≤ i ∧ i < by_ + k then Rf a b j i - Ff a b j * (cf b (i - by_) : Rat) else Rf a b j i), w3, w4, .sh (.int (by_ : Int)), .sh (rD (Ff a b j)), y7, y8])
    (ρ := [.sh (pD b), w1, .ow (fR a.length (Rf a b j)), w3, w4, .sh (.int (by_ : Int)), .sh (rD (Ff a b j)), w7, w8])
    ⟨w7, w8, by
      rw [fR_congr (ψ := fun i => if by_ ≤ i ∧ i < by_ + 0 then Rf a b j i - Ff a b j * (cf b (i - by_) : Rat) else Rf a b j i) (fun i _ => by rw [if_neg (by omega)])]⟩
    (fun k d ρ hd hi => by
      obtain ⟨hk, rfl⟩ := rng0_get hd
      obtain ⟨y7, y8, rfl⟩ := hi
      have hl := h.q.hl
      have hlt : by_ + k < a.length := by omega
      have ix : ixD (.list (fR a.length fun i => if by_ ≤ i ∧ i < by_ + k then Rf a b j i - Ff a b j * (cf b (i - by_) : Rat) else Rf a b j i)) (.int ((by_ : Int) + (k : Int))) = some (rD (Rf a b j (by_ + k))) := by
        rw [fR_ix (i := by_ + k) (by omega) hlt, if_neg (by omega)]
      have ixb : ixD (pD b) (.int (k : Int)) = some (.int (cf b k)) := p_ixc hk
      have sc : Rk t ((cf b k : Int) : Rat) := rk_int (h.q.sb.cf k) h.q.ht
      have tm := ltimes_r fk sc (by omega)
      have rk := h.q.rk (j := j) (by omega) (by_ + k)
      have ps := lplus_r rk (fk.mul sc).neg (by omega)
      have ev : Rf a b j (by_ + k) + -(Ff a b j * (cf b k : Rat)) = Rf a b j (by_ + k) - Ff a b j * (cf b k : Rat) := by grind
      rw [ev] at ps
      have ij : ixN a.length ((by_ : Int) + (k : Int)) = some (by_ + k) := ixN_nat (i := by_ + k) hlt
      refine ⟨_, .inl (by simp [b__law_divides_1, ixb, ix, rD_int, tm, neg_fold, ps, ij, fR_set, -r_ix_l, -Out.nx.injEq] <;> rfl), .sh (.int (k : Int)), .sh (rD (Ff a b j * (cf b k : Rat))), ?_⟩
      rw [fR_congr (φ := fun i => if i = by_ + k then Rf a b j (by_ + k) - Ff a b j * (cf b k : Rat) else if by_ ≤ i ∧ i < by_ + k then Rf a b j i - Ff a b j * (cf b (i - by_) : Rat) else Rf a b j i) (ψ := fun i => if by_ ≤ i ∧ i < by_ + (k + 1) then Rf a b j i - Ff a b j * (cf b (i - by_) : Rat) else Rf a b j i) (fun i _ => by
        by_cases e : i = by_ + k
        · subst e
          rw [if_pos rfl, if_pos (show by_ ≤ by_ + k ∧ by_ + k < by_ + (k + 1) by omega), show by_ + k - by_ = k by omega]
        · rw [if_neg e]
          by_cases g : by_ ≤ i ∧ i < by_ + k
          · rw [if_pos g, if_pos (show by_ ≤ i ∧ i < by_ + (k + 1) by omega)]
          · rw [if_neg g, if_neg (show ¬ (by_ ≤ i ∧ i < by_ + (k + 1)) by omega)])])
  rw [rngL_length] at e
  refine ⟨y7, y8, ?_⟩
  rw [← hby, e, fR_congr (ψ := Rf a b (j + 1)) (fun i _ => by rw [h.q.rf_succ, ← hby])]
theorem ld_step (h : LS s t J a b) {j : Nat} (hj : j ≤ a.length - b.length) (w3 w4 w5 w6 w7 w8 : SD) :
    ∃ y6 y7 y8, gTo (gSet 4) b__law_divides_2 (.int (j : Int)) [.sh (pD b), .sh (pD a), .ow (fR a.length (Rf a b j)), w3, w4, w5, w6, w7, w8]
      = .nx [.sh (pD b), .sh (pD a), .ow (fR a.length (Rf a b (j + 1))), w3, .sh (.int (j : Int)), .sh (.int ((a.length - b.length - j : Nat) : Int)), y6, y7, y8] := by
  have hJ := h.q.hJ
  have hl := h.q.hl
  have lb := h.q.lb
  have hz := h.z
  have hla := h.q.la
  have e5 : (a.length : Int) - (b.length : Int) - (j : Int) = ((a.length - b.length - j : Nat) : Int) := by omega
  have e6 : ((a.length - b.length - j : Nat) : Int) + (b.length : Int) - 1 = ((a.length - b.length - j + b.length - 1 : Nat) : Int) := by omega
  have ix : ixD (.list (fR a.length (Rf a b j))) (.int (((a.length - b.length - j : Nat) : Int) + (b.length : Int) - 1)) = some (rD (Rf a b j (a.length - b.length - j + b.length - 1))) := fR_ix e6 (by omega)
  have ixl := ix_last (l := b) (n := b.length - 1) (by omega)
  have sl := h.q.sb.cf (b.length - 1)
  have nb := lnumber_r (n := 1) ((Sz.lit (a := 1) (by decide)).mono (by decide)) (sl.mono (show t ≤ 1990 by omega)) h.q.lead
  have rl : Rk t (((1 : Int) : Rat) / ((cf b (b.length - 1) : Int) : Rat)) := rk_div h.q.lead ((Sz.lit (a := 1) (by decide)).mono h.q.ht) sl
  have rk := h.q.rk (j := j) (by omega) (a.length - b.length - j + b.length - 1)
  have tm := ltimes_r rk rl (by omega)
  have ef : Rf a b j (a.length - b.length - j + b.length - 1) * (((1 : Int) : Rat) / ((cf b (b.length - 1) : Int) : Rat)) = Ff a b j := by
    unfold Rf Ff topN
    have hL : ((cf b (b.length - 1) : Int) : Rat) ≠ 0 := by exact_mod_cast h.q.lead
    have hP : (((cf b (b.length - 1)) ^ j : Int) : Rat) ≠ 0 := by exact_mod_cast Int.pow_ne_zero h.q.lead
    rw [Int.pow_succ, Rat.intCast_mul]
    have : ((1 : Int) : Rat) = 1 := rfl
    rw [this]
    grind
  rw [ef] at tm
  generalize ((1 : Int) : Rat) / ((cf b (b.length - 1) : Int) : Rat) = inv at nb tm
  obtain ⟨y7, y8, e⟩ := ld_inner h hj (.sh (pD a)) w3 (.sh (.int (j : Int))) w7 w8
  have hr := range1_ok (x := (b.length : Int)) (by omega) (by omega)
  exact ⟨_, y7, y8, by simp [b__law_divides_2, e5, ix, ixl, nb, tm, hr, e, -r_ix_l, -Out.nx.injEq] <;> rfl⟩
end
theorem ld_fin {n : Nat} {φ : Nat → Rat} (hn : n ≤ 1000) (a0 a1 a2 a3 a4 a5 a6 a7 a8 : SD) : compR (compS [3] (gSet 3) (cst true) (e2 eqD (e2 ixD (eOwn 3) (cst (.int 0))) (cst (.int 0))) [a0, a1, a2, a3, a4, a5, a6, a7, a8]) (fR n φ) = .ok (((List.range n).map fun i => decide (φ i = 0)).map .bool) := by
  unfold fR
  rw [List.map_map]
  refine compR_map' fun i _ => ?_
  have e : decide ((φ i).num = 0) = decide (φ i = 0) := by
    rw [Bool.eq_iff_iff, decide_eq_true_eq, decide_eq_true_eq]; exact Rat.num_eq_zero
  simp [compS, e]
theorem law_divides_ok {a b : List Int} {s t J : Nat} (sa : SzP s a) (sb : SzP t b) (ta : Tr a) (tb : Tr b) (nb : b ≠ []) (la : a.length ≤ 100) (lb' : b.length ≤ 100) (ht : 1 ≤ t) (hJ : a.length + 1 ≤ J) (hz : 2 * (s + J * (t + 1) + 1) + t + 10 ≤ 1900) :
    m__law_divides [pD b, pD a] = .ok (.sh (.bool (decide (frP a b = [])))) := by
  have lb := List.length_pos_iff.mpr nb
  have hr := range1_ok (x := (a.length : Int) - (b.length : Int) + 1) (by omega) (by omega)
  have hc0 : ∀ a0 a1 a2 a3 a4 a5 a6 a7 a8 : SD, compR (compS [3] (gSet 3) (cst true) (e1 tupD (eCons (eVar 3) (eCons (cst (.int 1)) (cst [])))) [a0, a1, a2, a3, a4, a5, a6, a7, a8]) (a.map .int) = .ok (fR a.length (Rf a b 0)) := fun a0 a1 a2 a3 a4 a5 a6 a7 a8 => by
    have e : fR a.length (Rf a b 0) = a.map fun (c : Int) => rD (c : Rat) := by
      refine List.ext_getElem (by simp) fun i h1 h2 => ?_
      have hi : i < a.length := by simpa using h1
      have r0 : Rf a b 0 i = (cf a i : Rat) := by
        unfold Rf
        rw [Int.pow_zero]
        show (cf a i : Rat) / ((1 : Int) : Rat) = _
        have : ((1 : Int) : Rat) = 1 := rfl
        rw [this]; grind
      simp [fR, r0, hi]
    rw [e]
    exact compR_map' fun c hc => by simp [compS, rD_int]
  have hls : a.length ≤ sizeLine := slB (by omega)
  have fin : ∀ (K : Nat), (decide (frP a b = []) = ((List.range a.length).map fun i => decide (Rf a b K i = 0)).all id) → (∃ y3 y4 y5 y6 y7 y8, forO (gTo (gSet 4) b__law_divides_2) (rngL 0 1 ((a.length : Int) - (b.length : Int) + 1).toNat) [.sh (pD b), .sh (pD a), .ow (fR a.length (Rf a b 0)), .no, .no, .no, .no, .no, .no] = .nx [.sh (pD b), .sh (pD a), .ow (fR a.length (Rf a b K)), y3, y4, y5, y6, y7, y8]) → m__law_divides [pD b, pD a] = .ok (.sh (.bool (decide (frP a b = [])))) := fun K hK ⟨y3, y4, y5, y6, y7, y8, e⟩ => by
    have hf := fun a0 a1 a2 a3 a4 a5 a6 a7 a8 => ld_fin (n := a.length) (φ := Rf a b K) (by omega) a0 a1 a2 a3 a4 a5 a6 a7 a8
    rw [hK]
    simp only [m__law_divides, c__law_divides]
    simp [hls, hc0, hr, e, hf, -List.map_map, -List.all_map]
  have allz : ∀ K, (∀ n, a.length ≤ n → cf (frN a b K) n = 0) → Tr (frN a b K) → frP a b = frN a b K → cf b (b.length - 1) ≠ 0 → decide (frP a b = []) = ((List.range a.length).map fun i => decide (Rf a b K i = 0)).all id := fun K hz tr ef hL => by
    rw [ef, List.all_map, Bool.eq_iff_iff, decide_eq_true_eq, List.all_eq_true]
    have hP : (((cf b (b.length - 1)) ^ K : Int) : Rat) ≠ 0 := by exact_mod_cast Int.pow_ne_zero hL
    constructor
    · intro h i _
      show decide (Rf a b K i = 0) = true
      unfold Rf
      rw [h, cf_nil]
      simp
      grind
    · intro h
      have hcf : ∀ k, cf (frN a b K) k = 0 := fun k => by
        by_cases hk : k < a.length
        · have h1 : decide (Rf a b K k = 0) = true := h k (List.mem_range.mpr hk)
          have h1 := of_decide_eq_true h1
          unfold Rf at h1
          have : ((cf (frN a b K) k : Int) : Rat) = 0 := by grind
          exact_mod_cast this
        · exact hz k (by omega)
      have := len_of_zero tr (n := 0) fun k _ => hcf k
      exact List.length_eq_zero_iff.mp (by omega)
  have hL := tb (b.length - 1) (by omega)
  by_cases h : a.length < b.length
  · have ef := fr_swap h
    refine fin 0 (allz 0 (fun n hn => cf_out hn) ta ef hL) ?_
    have et : ((a.length : Int) - (b.length : Int) + 1).toNat = 0 := by omega
    rw [et]
    exact ⟨_, _, _, _, _, _, rfl⟩
  · have na : a ≠ [] := by rintro rfl; simp at h; exact nb h
    have ls : LS s t J a b := ⟨⟨sa, sb, ta, tb, nb, na, by omega, by omega, ht, by omega, by omega⟩, hz⟩
    have ef : frP a b = frN a b (a.length - b.length + 1) := by unfold frP; rw [if_neg h]
    refine fin (a.length - b.length + 1) (allz _ (fun n hn => frN_zero nb (by omega) _ (Nat.le_refl _) n (by omega)) (frN_tr ta _) ef hL) ?_
    have et : ((a.length : Int) - (b.length : Int) + 1).toNat = a.length - b.length + 1 := by omega
    rw [et]
    obtain ⟨ρ', e, y4, y5, y6, y7, y8, rfl⟩ := forO_inv (F := gTo (gSet 4) b__law_divides_2) (l := rngL 0 1 (a.length - b.length + 1))
      (fun j ρ => ∃ y4 y5 y6 y7 y8, ρ = [.sh (pD b), .sh (pD a), .ow (fR a.length (Rf a b j)), .no, y4, y5, y6, y7, y8])
      (ρ := [.sh (pD b), .sh (pD a), .ow (fR a.length (Rf a b 0)), .no, .no, .no, .no, .no, .no]) ⟨_, _, _, _, _, rfl⟩
      (fun j d ρ hd hi => by
        obtain ⟨hj, rfl⟩ := rng0_get hd
        obtain ⟨y4, y5, y6, y7, y8, rfl⟩ := hi
        obtain ⟨z6, z7, z8, st⟩ := ld_step ls (j := j) (by omega) .no y4 y5 y6 y7 y8
        exact ⟨_, .inl st, _, _, _, _, _, rfl⟩)
    rw [rngL_length] at e
    exact ⟨_, _, _, _, _, _, e⟩
end W

set_option Elab.async false
set_option linter.all false
set_option maxRecDepth 100000
set_option autoImplicit false
namespace W
open PySem PySem.Spec PyProof.Rows L2 VL
noncomputable def c__law_polynomial_k04 : Ev → Out := sSeq (sSet 1 (e2 modD (e1 intD (eCons (e2 ixD (eOwn 0) (cst (.int 0))) (cst []))) (cst (.int 8)))) (sSeq (sSet 2 (e2 modD (e1 intD (eCons (e2 ixD (eOwn 0) (cst (.int 1))) (cst []))) (cst (.int 6)))) (sSeq (sIf (e1 bOf (e2 eqD (eOwn 1) (cst (.int 7)))) (sRetO (eCallO m__law_trim (eCons (eLst (eComp [3] (e1 range1D (eCons (eOwn 2) (cst []))) (gSet 3) (cst true) (e2 subD (e2 mulD (e1 intD (eCons (e2 ixD (eOwn 0) (e2 addD (cst (.int 2)) (eOwn 3))) (cst []))) (cst (.int 1000003))) (e2 mulD (e1 intD (eCons (e2 ixD (eOwn 0) (cst (.int 7))) (cst []))) (cst (.int 4019)))))) (cst [])))) (sNil)) (sRetO (eCallO m__law_trim (eCons (eLst (eComp [3] (e1 range1D (eCons (eOwn 2) (cst []))) (gSet 3) (cst true) (e2 subD (e2 modD (e1 intD (eCons (e2 ixD (eOwn 0) (e2 addD (cst (.int 2)) (eOwn 3))) (cst []))) (e2 addD (cst (.int 2)) (e2 mulD (cst (.int 3)) (eOwn 1)))) (e2 addD (cst (.int 1)) (eOwn 1))))) (cst []))))))
noncomputable def m__law_polynomial_k04 : List D → R SD := runD 1 4 c__law_polynomial_k04
theorem draws_p (ns : List Int) (hn : ns.length ≤ 63) (hb : ∀ z ∈ ns, Builtin.Int.intBits z ≤ 1048576) (z : Int) (c : Nat) (hz : z = c) (hc : c ≤ 100000) : ∃ xs : List Int, m__law_draws [pD ns, .int z] = .ok (.ow (xs.map .int)) ∧ IsDraws c xs := draws_ok ns hn hb z c hz hc
theorem cut_p {c : Nat} {xs : List Int} (h : IsDraws c xs) {a b : Int} (m : Nat) (h0 : 0 ≤ a) (h1 : b ≤ c) (h2 : b = a + m) : ∃ ys, cutI xs (some a) (some b) = ys ∧ IsDraws m ys := by
  have q := h.sub a.toNat b.toNat (by omega) (by omega)
  rw [show b.toNat - a.toNat = m by omega] at q
  refine ⟨_, ?_, q⟩
  unfold cutI
  rw [h.len, sIx_in h0 (by omega), sIx_in (by omega) h1, show b.toNat - a.toNat = m by omega]
theorem polyk_ok {xs : List Int} (h : IsDraws 8 xs) : ∃ a, m__law_polynomial_k04 [pD xs] = .ok (.ow (a.map .int)) ∧ Tr a ∧ SzP 45 a ∧ a.length ≤ 5 := by
  have g := h.get
  have lo := h.glo
  have hi := h.ghi
  obtain ⟨k0, k1⟩ := fmod_rng (a := gI xs 0) (b := 8) (by decide)
  obtain ⟨m0, m1⟩ := fmod_rng (a := gI xs 1) (b := 6) (by decide)
  obtain ⟨n, hn⟩ : ∃ n : Nat, (gI xs 1).fmod 6 = n := ⟨((gI xs 1).fmod 6).toNat, by omega⟩
  have hn5 : n ≤ 5 := by omega
  have hr := range1_ok (x := (n : Int)) (by omega) (by omega)
  have ix : ∀ k : Nat, k < 6 → ixD (pD xs) (.int (2 + (k : Int))) = some (.int (gI xs (2 + k))) := fun k hk => by
    have := p_ixn xs (2 + k)
    rw [g _ (by omega)] at this
    rw [show (2 : Int) + (k : Int) = ((2 + k : Nat) : Int) by omega]; exact this
  have ix7 : ixD (pD xs) (.int 7) = some (.int (gI xs 7)) := by simp [p_ix, g]
  have fin : ∀ φ : Nat → Int, (∀ k, k < n → Sz 45 (φ k)) → ∃ a, m__law_trim [pD (fl n φ)] = .ok (.ow (a.map .int)) ∧ Tr a ∧ SzP 45 a ∧ a.length ≤ 5 := fun φ hφ =>
    ⟨_, ltrim_ok (fl n φ) (by simp; omega), tr_trim _, SzP.trim (SzP.fl hφ), Nat.le_trans (trim_le _) (by simpa using hn5)⟩
  have hs : n ≤ sizeLine := slB (by omega)
  by_cases e7 : (gI xs 0).fmod 8 = 7
  · obtain ⟨a, f1, f2⟩ := fin (fun k => gI xs (2 + k) * 1000003 - gI xs 7 * 4019) fun k hk => by
      have := lo (2 + k); have := hi (2 + k); have := lo 7; have := hi 7
      exact .of 2000000000000 (by omega) (by omega) (by decide)
    have hc := compR_map' (F := fun k : Nat => .int (k : Int)) (step := compS [3] (gSet 3) (cst true) (e2 subD (e2 mulD (e1 intD (eCons (e2 ixD (eOwn 0) (e2 addD (cst (.int 2)) (eOwn 3))) (cst []))) (cst (.int 1000003))) (e2 mulD (e1 intD (eCons (e2 ixD (eOwn 0) (cst (.int 7))) (cst []))) (cst (.int 4019)))) [.sh (pD xs), .sh (.int 7), .sh (.int (n : Int)), .no]) (l := List.range n) (φ := fun k => .int (gI xs (2 + k) * 1000003 - gI xs 7 * 4019)) fun k hk => by
      have hk' := List.mem_range.mp hk
      have := lo (2 + k); have := hi (2 + k); have := lo 7; have := hi 7
      simp (disch := omega) [compS, ix k (by omega), ix7, r_mulS]
    rw [← rng0, show (List.range n).map (fun k => PyData.int (gI xs (2 + k) * 1000003 - gI xs 7 * 4019)) = (fl n fun k => gI xs (2 + k) * 1000003 - gI xs 7 * 4019).map .int by rw [fl, List.map_map]; rfl] at hc
    exact ⟨a, by simp [m__law_polynomial_k04, c__law_polynomial_k04, p_ix, g, e7, hn, hr, rngL_length, hs, hc, f1], f2⟩
  · obtain ⟨k, hk⟩ : ∃ k : Nat, (gI xs 0).fmod 8 = k := ⟨((gI xs 0).fmod 8).toNat, by omega⟩
    obtain ⟨a, f1, f2⟩ := fin (fun i => (gI xs (2 + i)).fmod (2 + 3 * (k : Int)) - (1 + (k : Int))) fun i hi => by
      obtain ⟨u0, u1⟩ := fmod_rng (a := gI xs (2 + i)) (b := 2 + 3 * (k : Int)) (by omega)
      exact .of 2000000000000 (by omega) (by omega) (by decide)
    have hc := compR_map' (F := fun k : Nat => .int (k : Int)) (step := compS [3] (gSet 3) (cst true) (e2 subD (e2 modD (e1 intD (eCons (e2 ixD (eOwn 0) (e2 addD (cst (.int 2)) (eOwn 3))) (cst []))) (e2 addD (cst (.int 2)) (e2 mulD (cst (.int 3)) (eOwn 1)))) (e2 addD (cst (.int 1)) (eOwn 1))) [.sh (pD xs), .sh (.int (k : Int)), .sh (.int (n : Int)), .no]) (l := List.range n) (φ := fun i => .int ((gI xs (2 + i)).fmod (2 + 3 * (k : Int)) - (1 + (k : Int)))) fun i hi => by
      have hi' := List.mem_range.mp hi
      simp (disch := omega) [compS, ix i (by omega), r_mulS]
    rw [← rng0, show (List.range n).map (fun i => PyData.int ((gI xs (2 + i)).fmod (2 + 3 * (k : Int)) - (1 + (k : Int)))) = (fl n fun i => (gI xs (2 + i)).fmod (2 + 3 * (k : Int)) - (1 + (k : Int))).map .int by rw [fl, List.map_map]; rfl] at hc
    have e7' : ¬ ((k : Int) = 7) := by omega
    exact ⟨a, by simp [m__law_polynomial_k04, c__law_polynomial_k04, p_ix, g, hk, e7', hn, hr, rngL_length, hs, hc, f1], f2⟩
end W

set_option Elab.async false
set_option linter.all false
set_option maxRecDepth 100000
set_option autoImplicit false
namespace W
open PySem PySem.Spec PyProof.Rows L2 VL
/-! ### pigeons -/
theorem flt_split {α : Type} (p : α → Bool) (L : List α) : (L.filter p).length + (L.filter fun x => !p x).length = L.length := by
  induction L with
  | nil => rfl
  | cons x L ih =>
    rw [List.filter_cons, List.filter_cons]
    cases p x <;> simp <;> omega
theorem fiber {α : Type} (φ : α → Int) (lo : Int) (t : Nat) : ∀ (r : Nat) (L : List α), (∀ x ∈ L, lo ≤ φ x ∧ φ x < lo + (r : Int)) → r * t < L.length → ∃ v, t < (L.filter fun x => decide (φ x = v)).length
  | 0, L, h, hl => by
    cases L with
    | nil => simp at hl
    | cons x L => have := h x (by simp); omega
  | r + 1, L, h, hl => by
    by_cases c : t < (L.filter fun x => decide (φ x = lo + (r : Int))).length
    · exact ⟨_, c⟩
    · have e := flt_split (fun x => decide (φ x = lo + (r : Int))) L
      obtain ⟨v, hv⟩ := fiber φ lo t r (L.filter fun x => !decide (φ x = lo + (r : Int))) (fun x hx => by
        obtain ⟨h1, h2⟩ := List.mem_filter.mp hx
        have h3 := h x h1
        have h4 : φ x ≠ lo + (r : Int) := by simpa using h2
        omega) (by rw [Nat.succ_mul] at hl; omega)
      exact ⟨v, Nat.lt_of_lt_of_le hv (List.Sublist.length_le (List.Sublist.filter _ (List.filter_sublist)))⟩
theorem fibers {α : Type} (φ : Nat → α → Int) (lo : Int) (r : Nat) : ∀ (M : Nat) (L : List α), (∀ k, k < M → ∀ x ∈ L, lo ≤ φ k x ∧ φ k x < lo + (r : Int)) → r ^ M < L.length →
    ∃ L' : List α, L'.Sublist L ∧ 1 < L'.length ∧ ∀ k, k < M → ∀ x ∈ L', ∀ y ∈ L', φ k x = φ k y
  | 0, L, _, h => ⟨L, List.Sublist.refl _, by simpa using h, fun k hk => by omega⟩
  | M + 1, L, h, hl => by
    obtain ⟨v, hv⟩ := fiber (φ M) lo (r ^ M) r L (h M (by omega)) (by rw [Nat.pow_succ, Nat.mul_comm] at hl; exact hl)
    obtain ⟨L', h1, h2, h3⟩ := fibers φ lo r M (L.filter fun x => decide (φ M x = v)) (fun k hk x hx => h k (by omega) x (List.mem_filter.mp hx).1) hv
    refine ⟨L', h1.trans List.filter_sublist, h2, fun k hk x hx y hy => ?_⟩
    by_cases e : k = M
    · subst e
      have a := (List.mem_filter.mp (h1.subset hx)).2
      have b := (List.mem_filter.mp (h1.subset hy)).2
      simp at a b
      rw [a, b]
    · exact h3 k (by omega) x hx y hy
/-! digits -/
def dig (m i j : Nat) : Nat := i / m ^ j % m
theorem dig_inj {m : Nat} (hm : 0 < m) : ∀ (N i i' : Nat), i < m ^ N → i' < m ^ N → (∀ j, j < N → dig m i j = dig m i' j) → i = i'
  | 0, i, i', h, h', _ => by simp at h h'; omega
  | N + 1, i, i', h, h', hd => by
    have e0 := hd 0 (by omega)
    unfold dig at e0
    rw [Nat.pow_zero, Nat.div_one, Nat.div_one] at e0
    have r1 : i / m < m ^ N := (Nat.div_lt_iff_lt_mul hm).mpr (by rw [Nat.pow_succ] at h; exact h)
    have r2 : i' / m < m ^ N := (Nat.div_lt_iff_lt_mul hm).mpr (by rw [Nat.pow_succ] at h'; exact h')
    have ih := dig_inj hm N (i / m) (i' / m) r1 r2 fun j hj => by
      have := hd (j + 1) (by omega)
      unfold dig at this ⊢
      rw [Nat.div_div_eq_div_mul, Nat.div_div_eq_div_mul, ← Nat.pow_succ']
      exact this
    have a := Nat.div_add_mod i m
    have b := Nat.div_add_mod i' m
    rw [← a, ← b, ih, e0]
theorem sumN_sub (f g : Nat → Int) : ∀ n, sumN n (fun i => f i - g i) = sumN n f - sumN n g
  | 0 => rfl
  | n + 1 => by
    have := sumN_sub f g n
    simp only [sumN]
    omega
theorem sumN_abs {f : Nat → Int} {B : Nat} : ∀ {n : Nat}, (∀ i, i < n → (f i).natAbs ≤ B) → (sumN n f).natAbs ≤ n * B
  | 0, _ => by simp [sumN]
  | n + 1, h => by
    have a := sumN_abs (n := n) fun i hi => h i (by omega)
    have b := h n (by omega)
    simp only [sumN]
    rw [Nat.succ_mul]
    omega
/-- fewer equations than unknowns: a small answer -/
theorem siegel {N M X : Nat} (C : Nat → Nat → Int) (hC : ∀ k j, (C k j).natAbs ≤ X) (h : M < N) :
    ∃ x : Nat → Int, (∃ j, j < N ∧ x j ≠ 0) ∧ (∀ j, (x j).natAbs ≤ (2 * (N * X) + 1) ^ M) ∧ ∀ k, k < M → sumN N (fun j => C k j * x j) = 0 := by
  obtain ⟨H, hH⟩ : ∃ H, H = (2 * (N * X) + 1) ^ M := ⟨_, rfl⟩
  obtain ⟨Y, hY⟩ : ∃ Y, Y = N * X := ⟨_, rfl⟩
  rw [← hH]
  rw [← hY] at hH
  have H1 : 1 ≤ H := by rw [hH]; exact Nat.pow_pos (by omega)
  have big : (2 * (Y * H) + 1) ^ M < (H + 1) ^ N := by
    have p1 : (H + 1) ^ (M + 1) ≤ (H + 1) ^ N := Nat.pow_le_pow_right (by omega) (by omega)
    by_cases z : M = 0
    · subst z
      have : (H + 1) ^ (0 + 1) = H + 1 := by simp
      rw [Nat.pow_zero]; omega
    · have a : 2 * (Y * H) + 1 < (2 * Y + 1) * (H + 1) := by
        have : (2 * Y + 1) * (H + 1) = 2 * (Y * H) + 2 * Y + H + 1 := by
          rw [Nat.add_mul, Nat.mul_add, Nat.mul_assoc]; omega
        omega
      have b : (2 * (Y * H) + 1) ^ M < ((2 * Y + 1) * (H + 1)) ^ M := Nat.pow_lt_pow_left a z
      rw [Nat.mul_pow, ← hH] at b
      have c : H * (H + 1) ^ M ≤ (H + 1) ^ (M + 1) := by
        rw [Nat.pow_succ, Nat.mul_comm]; exact Nat.mul_le_mul_left _ (by omega)
      omega
  obtain ⟨L', s1, s2, s3⟩ := fibers (fun k i => sumN N fun j => C k j * ((dig (H + 1) i j : Nat) : Int)) (-((Y * H : Nat) : Int)) (2 * (Y * H) + 1) M (List.range ((H + 1) ^ N)) (fun k hk i _ => by
    have dl : ∀ j, dig (H + 1) i j ≤ H := fun j => by have := Nat.mod_lt (i / (H + 1) ^ j) (show 0 < H + 1 by omega); unfold dig; omega
    have := sumN_abs (f := fun j => C k j * ((dig (H + 1) i j : Nat) : Int)) (B := X * H) (n := N) fun j _ => by
      rw [Int.natAbs_mul]
      exact Nat.mul_le_mul (hC k j) (by simpa using dl j)
    rw [← Nat.mul_assoc, ← hY] at this
    omega) (by rw [List.length_range]; exact big)
  have nd : L'.Nodup := List.nodup_range.sublist s1
  match L', s1, s2, s3, nd with
  | a :: b :: r, s1, _, s3, nd =>
    have hab : a ≠ b := by
      intro e
      subst e
      simp at nd
    have ha : a < (H + 1) ^ N := List.mem_range.mp (s1.subset (by simp))
    have hb : b < (H + 1) ^ N := List.mem_range.mp (s1.subset (by simp))
    have dl : ∀ i j, dig (H + 1) i j ≤ H := fun i j => by have := Nat.mod_lt (i / (H + 1) ^ j) (show 0 < H + 1 by omega); unfold dig; omega
    refine ⟨fun j => ((dig (H + 1) a j : Nat) : Int) - ((dig (H + 1) b j : Nat) : Int), ?_, fun j => ?_, fun k hk => ?_⟩
    · apply Classical.byContradiction
      intro z
      refine hab (dig_inj (by omega) N a b ha hb fun j hj => ?_)
      apply Classical.byContradiction
      intro y
      exact z ⟨j, hj, by dsimp only; omega⟩
    · have := dl a j
      have := dl b j
      dsimp only
      omega
    · have e := s3 k hk a (by simp) b (by simp)
      have : (fun j => C k j * (((dig (H + 1) a j : Nat) : Int) - ((dig (H + 1) b j : Nat) : Int))) = fun j => C k j * ((dig (H + 1) a j : Nat) : Int) - C k j * ((dig (H + 1) b j : Nat) : Int) := by
        funext j; rw [Int.mul_sub]
      rw [this, sumN_sub, e]
      omega
end W

set_option Elab.async false
set_option linter.all false
set_option maxRecDepth 100000
set_option autoImplicit false
set_option maxHeartbeats 4000000
namespace W
open PySem PySem.Spec PyProof.Rows L2 VL
/-! ### Euclid's way with cofactors -/
structure Chn (a b f s : List Int) : Prop where
  ex : ∃ (w0 w c : Int) (U0 V0 U V : List Int), w0 ≠ 0 ∧ w ≠ 0 ∧ c ≠ 0 ∧ (∀ x, (w0 : Rat) * evP f x = evP U0 x * evP a x + evP V0 x * evP b x) ∧
    (∀ x, (w : Rat) * evP s x = evP U x * evP a x + evP V x * evP b x) ∧ (∀ x, evP U0 x * evP V x - evP U x * evP V0 x = (c : Rat)) ∧
    U0.length ≤ b.length + 1 - s.length ∧ V0.length ≤ a.length + 1 - s.length ∧ U.length ≤ b.length + 1 - f.length ∧ V.length ≤ a.length + 1 - f.length
theorem chn_start (a b : List Int) : Chn a b a b := ⟨1, 1, 1, [1], [], [], [1], by decide, by decide, by decide, fun x => by rw [evOne, evNil]; grind, fun x => by rw [evOne, evNil]; grind, fun x => by rw [evOne, evNil]; grind, by simp, by simp, by simp, by simp⟩
theorem qN_len (a b : List Int) : (qN a b (a.length - b.length + 1)).length ≤ a.length - b.length + 1 := len_of_zero (qN_tr a b _) fun k hk => by
  rw [qN_cf _ _ (Nat.le_refl _), if_neg (by omega)]
theorem mul_len1 {q u : List Int} {n m : Nat} (hq : q.length ≤ n) (hu : u.length ≤ m) : (mulP q u).length ≤ n + m - 1 := by
  by_cases h : q = [] ∨ u = []
  · have : mulP q u = [] := by unfold mulP; rw [if_pos h]
    rw [this]; simp
  · rw [not_or] at h
    rw [mul_len_eq h.1 h.2]; omega
theorem mul_lenU {q u : List Int} {n m : Nat} (hq : q.length ≤ n) (hu : u.length ≤ m) : (mulP q u).length ≤ if m = 0 then 0 else n + m - 1 := by
  by_cases h : m = 0
  · subst h
    have : u = [] := List.length_eq_zero_iff.mp (by omega)
    subst this
    have e : mulP q [] = [] := by unfold mulP; rw [if_pos (.inr rfl)]
    rw [e]; simp
  · rw [if_neg h]; exact mul_len1 hq hu
theorem sub_len (a b : List Int) : (subP a b).length ≤ max a.length b.length := by
  unfold subP
  have h1 := add_len a (scaleP b (-1))
  have h2 := scale_len b (-1)
  omega
theorem chn_step {a b f s : List Int} (h : Chn a b f s) (tf : Tr f) (ts : Tr s) (ns : s ≠ []) (hl : s.length ≤ f.length) (nr : frP f s ≠ []) : Chn a b s (plainP (frP f s)) := by
  obtain ⟨w0, w, c, U0, V0, U, V, n0, n1, nc, e0, e1, ed, l1, l2, l3, l4⟩ := h.ex
  have tr := fr_tr (b := s) tf
  have ls := List.length_pos_iff.mpr ns
  have rl := fr_len (b := s) tf ns hl
  have rel := fun x => fr_rel (a := f) (b := s) hl x
  have pl := fun x => ev_plain tr nr x
  have ql := qN_len f s
  have Ln : (cf s (s.length - 1)) ^ (f.length - s.length + 1) ≠ 0 := lead_ne ts ns _
  have gn := plC_ne tr nr
  generalize (cf s (s.length - 1)) ^ (f.length - s.length + 1) = L at *
  generalize qN f s (f.length - s.length + 1) = q at *
  generalize plC (frP f s) = g at *
  have len : ∀ (A B : List Int) (n : Nat), A.length ≤ n + 1 - s.length → B.length ≤ n + 1 - f.length → (subP (scaleP A (w * L)) (scaleP (mulP q B) w0)).length ≤ n + 1 - s.length := fun A B n hA hB => by
    have h1 := sub_len (scaleP A (w * L)) (scaleP (mulP q B) w0)
    have h2 := scale_len A (w * L)
    have h3 := scale_len (mulP q B) w0
    have h4 := mul_lenU ql hB
    split at h4 <;> omega
  refine ⟨w, w0 * w * g, -(w * L * c), U, V, subP (scaleP U0 (w * L)) (scaleP (mulP q U) w0), subP (scaleP V0 (w * L)) (scaleP (mulP q V) w0), n1, Int.mul_ne_zero (Int.mul_ne_zero n0 n1) gn, ?_, e1, fun x => ?_, fun x => ?_, ?_, ?_, len U0 U b.length l1 l3, len V0 V a.length l2 l4⟩
  · have := Int.mul_ne_zero (Int.mul_ne_zero n1 Ln) nc
    omega
  · have r := rel x
    have p := pl x
    have a0 := e0 x
    have a1 := e1 x
    rw [ev_sub, ev_sub, ev_scale, ev_scale, ev_scale, ev_scale, evP_mul, evP_mul, Rat.intCast_mul, Rat.intCast_mul, Rat.intCast_mul]
    have : (w0 : Rat) * (w : Rat) * (g : Rat) * evP (plainP (frP f s)) x = (w : Rat) * (L : Rat) * ((w0 : Rat) * evP f x) - (w0 : Rat) * evP q x * ((w : Rat) * evP s x) := by
      rw [p] at r
      grind
    rw [this, a0, a1]
    grind
  · have d := ed x
    rw [ev_sub, ev_sub, ev_scale, ev_scale, ev_scale, ev_scale, evP_mul, evP_mul, Rat.intCast_neg, Rat.intCast_mul, Rat.intCast_mul, ← d]
    grind
  · rw [plain_len]; omega
  · rw [plain_len]; omega
/-! ### its members are small -/
theorem sumN_split (f : Nat → Int) (n : Nat) : ∀ m, sumN (n + m) f = sumN n f + sumN m (fun i => f (n + i))
  | 0 => by simp [sumN]
  | m + 1 => by
    rw [← Nat.add_assoc, sumN, sumN_split f n m, sumN]
    omega
theorem dq_same {p R : List Int} (hp : Prim p) (tR : Tr R) (nR : R ≠ []) (h : Dq p R) (hl : R.length ≤ p.length) : plainP R = p := by
  have l1 := dq_len hp.tr hp.ne tR nR h
  obtain ⟨u, r, hu, f⟩ := h
  have e : scaleP R u = mulP (trimP r) p := evP_uniq (tr_scale R u) (tr_mul (tr_trim r) hp.tr) fun x => by
    rw [ev_scale, evP_mul, evP_ext (fun k => cf_trim r k) x, ← f x]; grind
  have hr : trimP r ≠ [] := by
    intro z
    have : scaleP R u = [] := by rw [e, z]; unfold mulP; rw [if_pos (by simp)]
    have h1 := cf_scale R u (R.length - 1)
    rw [this, cf_nil] at h1
    have lR := List.length_pos_iff.mpr nR
    have := tR (R.length - 1) (by omega)
    rcases Int.mul_eq_zero.mp h1.symm with h2 | h2
    · exact this h2
    · exact hu h2
  have h1 := mul_len_eq hr hp.ne
  rw [← e] at h1
  have h2 := scale_len R u
  have h3 := List.length_pos_iff.mpr hr
  have h4 := List.length_pos_iff.mpr hp.ne
  have hlen : (trimP r).length = 1 := by omega
  obtain ⟨c, hc⟩ : ∃ c, trimP r = [c] := by
    cases hh : trimP r with
    | nil => rw [hh] at hlen; simp at hlen
    | cons c t =>
      rw [hh] at hlen
      have : t = [] := List.length_eq_zero_iff.mp (by simpa using hlen)
      exact ⟨c, by rw [this]⟩
  have c0 : c ≠ 0 := by
    have := tr_trim r 0 (by rw [hc]; rfl)
    rw [hc] at this
    simpa using this
  refine prim_uniq (plain_prim tR nR) hp (u := u * plC R) (v := c) (Int.mul_ne_zero hu (plC_ne tR nR)) c0 (ray_ev fun x => ?_)
  have := f x
  rw [← evP_ext (fun k => cf_trim r k) x, hc, evOne] at this
  rw [Rat.intCast_mul, ← this, ev_plain tR nR x]
  grind
theorem ring2 (w S u v U V U0 V0 R : Rat) (a1 : w * S * u = U * R) (a2 : w * S * v = V * R) : (U0 * V - U * V0) * R = (U0 * v - V0 * u) * w * S := by
  have : (U0 * V - U * V0) * R = U0 * (V * R) - V0 * (U * R) := by grind
  rw [this, ← a1, ← a2]
  grind
theorem chn_sz {a b f s : List Int} {z l N : Nat} (h : Chn a b f s) (ps : Prim s) (na : a ≠ []) (nb : b ≠ []) (ta : Tr a) (tb : Tr b) (sa : SzP z a) (sb : SzP z b) (hl : s.length < f.length) (la : s.length ≤ a.length) (lb : s.length ≤ b.length)
    (hN : (b.length - s.length) + (a.length - s.length) = N) (hN2 : N ≤ 2 ^ l) : SzP ((l + z + 1) * N) s := by
  obtain ⟨w0, w, c, U0, V0, U, V, n0, n1, nc, e0, e1, ed, l1, l2, l3, l4⟩ := h.ex
  have ls := List.length_pos_iff.mpr ps.ne
  have lna := List.length_pos_iff.mpr na
  have lnb := List.length_pos_iff.mpr nb
  have evz : ∀ {p : List Int}, (∀ x, evP p x = 0) → ∀ k, cf p k = 0 := fun h => evP_zero h
  have N1 : 1 ≤ N := by
    apply Classical.byContradiction
    intro g
    have hU : U = [] := List.length_eq_zero_iff.mp (by omega)
    have hV : V = [] := List.length_eq_zero_iff.mp (by omega)
    subst hU; subst hV
    have zz : ∀ k, cf s k = 0 := evz fun x => by
      have := e1 x
      rw [evNil] at this
      have hw := int_ne n1
      have q : (w : Rat) * evP s x = 0 := by rw [this]; grind
      rcases Rat.mul_eq_zero.mp q with q | q
      · exact (hw q).elim
      · exact q
    exact ps.tr (s.length - 1) (by omega) (zz _)
  obtain ⟨X, hX⟩ : ∃ X, X = 2 ^ z - 1 := ⟨_, rfl⟩
  have p2 : 1 ≤ 2 ^ z := Nat.two_pow_pos z
  have bX : ∀ {p : List Int}, SzP z p → ∀ k, (cf p k).natAbs ≤ X := fun hp k => by have := (hp.cf k).lt; omega
  obtain ⟨nb', hnb⟩ : ∃ n, n = b.length - s.length := ⟨_, rfl⟩
  obtain ⟨na', hna⟩ : ∃ n, n = a.length - s.length := ⟨_, rfl⟩
  -- the coefficient of x j in the coefficient k of u a + v b
  obtain ⟨C, hC⟩ : ∃ C : Nat → Nat → Int, C = fun k j => if j < nb' then (if j ≤ k then cf a (k - j) else 0) else (if j - nb' ≤ k then cf b (k - (j - nb')) else 0) := ⟨_, rfl⟩
  have CX : ∀ k j, (C k j).natAbs ≤ X := fun k j => by
    rw [hC]
    dsimp only
    split
    · split
      · exact bX sa _
      · simp
    · split
      · exact bX sb _
      · simp
  obtain ⟨x, ⟨j0, hj0, hx0⟩, hxH, hx⟩ := siegel (N := N) (M := N - 1) (X := X) (fun k j => C (s.length + k) j) (fun k j => CX _ _) (by omega)
  obtain ⟨u, hu⟩ : ∃ u, u = fl nb' x := ⟨_, rfl⟩
  obtain ⟨v, hv⟩ : ∃ v, v = fl na' (fun j => x (nb' + j)) := ⟨_, rfl⟩
  have ul : u.length = nb' := by rw [hu]; simp
  have vl : v.length = na' := by rw [hv]; simp
  have Rcf : ∀ k, cf (addP (mulP u a) (mulP v b)) k = sumN N (fun j => C k j * x j) := fun k => by
    rw [cf_add, cf_mul, cf_mul, show N = nb' + na' by omega, sumN_split]
    unfold cv
    rw [ul, vl]
    congr 1
    · refine sumN_congr fun i hi => ?_
      unfold tm
      rw [hC, hu, cf_fl, if_pos hi]
      dsimp only
      rw [if_pos hi]
      split
      · exact Int.mul_comm _ _
      · simp
    · refine sumN_congr fun i hi => ?_
      unfold tm
      rw [hC, hv, cf_fl, if_pos hi]
      dsimp only
      rw [if_neg (show ¬ nb' + i < nb' by omega), show nb' + i - nb' = i by omega]
      split
      · exact Int.mul_comm _ _
      · simp
  obtain ⟨R, hR⟩ : ∃ R, R = addP (mulP u a) (mulP v b) := ⟨_, rfl⟩
  rw [← hR] at Rcf
  have tR : Tr R := by rw [hR]; exact tr_add _ _
  have eR : ∀ y, evP R y = evP u y * evP a y + evP v y * evP b y := fun y => by rw [hR, evP_add, evP_mul, evP_mul]
  have lR : R.length ≤ s.length := len_of_zero tR fun k hk => by
    by_cases hk2 : k < s.length + (N - 1)
    · rw [Rcf, show k = s.length + (k - s.length) by omega]
      exact hx (k - s.length) (by omega)
    · rw [hR, cf_add, cf_mul, cf_mul, cv_out (by rw [ul]; omega), cv_out (by rw [vl]; omega)]; rfl
  -- both cofactors
  have key : ∀ (A B p q P Q : List Int) (m : Nat), A ≠ [] → Tr A → (∀ y, evP R y = evP p y * evP B y + evP q y * evP A y) → (∀ y, (w : Rat) * evP s y = evP P y * evP B y + evP Q y * evP A y) → p.length = m → P.length ≤ m → A.length = m + s.length →
      ∀ y, (w : Rat) * evP s y * evP p y = evP P y * evP R y := fun A B p q P Q m nA tA r1 r2 lp lP lA => by
    have Z : subP (scaleP (mulP p s) w) (mulP P R) = [] := by
      refine dq_short tA nA (tr_add _ _) ⟨1, subP (mulP p Q) (mulP P q), by decide, fun y => ?_⟩ ?_
      · have a1 := r1 y
        have a2 := r2 y
        rw [ev_sub, ev_sub, ev_scale, evP_mul, evP_mul, evP_mul, evP_mul]
        have : ((1 : Int) : Rat) = 1 := rfl
        rw [this, a1, show evP p y * evP s y * (w : Rat) = evP p y * ((w : Rat) * evP s y) by grind, a2]
        grind
      · have h1 := sub_len (scaleP (mulP p s) w) (mulP P R)
        have h2 := scale_len (mulP p s) w
        have h3 : (mulP p s).length ≤ if m = 0 then 0 else s.length + m - 1 := by
          have := mul_lenU (q := s) (u := p) (n := s.length) (m := m) (Nat.le_refl _) (by omega)
          by_cases g : m = 0
          · have e : p = [] := List.length_eq_zero_iff.mp (by omega)
            subst e
            have : mulP [] s = [] := by unfold mulP; rw [if_pos (.inl rfl)]
            rw [this, if_pos g]; simp
          · rw [if_neg g]
            have := mul_len1 (q := p) (u := s) (n := m) (m := s.length) (by omega) (Nat.le_refl _)
            omega
        have h4 : (mulP P R).length ≤ if m = 0 then 0 else s.length + m - 1 := by
          by_cases g : m = 0
          · have e : P = [] := List.length_eq_zero_iff.mp (by omega)
            subst e
            have : mulP [] R = [] := by unfold mulP; rw [if_pos (.inl rfl)]
            rw [this, if_pos g]; simp
          · rw [if_neg g]
            have := mul_len1 (q := P) (u := R) (n := m) (m := s.length) lP lR
            omega
        split at h3 <;> rename_i g <;> simp only [g, if_true, if_false] at h4 <;> omega
    intro y
    have : evP (subP (scaleP (mulP p s) w) (mulP P R)) y = 0 := by rw [Z]; rfl
    rw [ev_sub, ev_scale, evP_mul, evP_mul] at this
    grind
  have ku := key b a u v U V nb' nb tb eR e1 ul (by omega) (by omega)
  have kv := key a b v u V U na' na ta (fun y => by rw [eR y]; grind) (fun y => by rw [e1 y]; grind) vl (by omega) (by omega)
  have nR : R ≠ [] := by
    intro hz
    have van : ∀ (p : List Int), (∀ y, (w : Rat) * evP s y * evP p y = 0) → ∀ k, cf p k = 0 := fun p hp k => by
      have e : mulP (trimP p) s = [] := evP_uniq (tr_mul (tr_trim p) ps.tr) tr_nil fun y => by
        have := hp y
        rw [evP_mul, evP_ext (fun k => cf_trim p k) y, evNil]
        have hw := int_ne n1
        grind
      rw [← cf_trim p k]
      by_cases g : trimP p = []
      · rw [g, cf_nil]
      · have := mul_len_eq g ps.ne
        rw [e] at this
        have := List.length_pos_iff.mpr g
        simp at *
        omega
    have zu := van u fun y => by rw [ku y, hz, evNil]; grind
    have zv := van v fun y => by rw [kv y, hz, evNil]; grind
    by_cases g : j0 < nb'
    · have := zu j0
      rw [hu, cf_fl, if_pos g] at this
      exact hx0 this
    · have := zv (j0 - nb')
      rw [hv, cf_fl, if_pos (by omega), show nb' + (j0 - nb') = j0 by omega] at this
      exact hx0 this
  have dv : Dq s R := ⟨c, scaleP (subP (mulP U0 v) (mulP V0 u)) w, nc, fun y => by
    have a1 := ku y
    have a2 := kv y
    have d := ed y
    rw [ev_scale, ev_sub, evP_mul, evP_mul, ← d]
    exact ring2 _ _ _ _ _ _ _ _ _ a1 a2⟩
  have pR := dq_same ps tR nR dv lR
  have gR := plC_ne tR nR
  intro y hy
  obtain ⟨k, hk, rfl⟩ : ∃ k, k < s.length ∧ cf s k = y := by
    obtain ⟨k, hk⟩ := List.getElem?_of_mem hy
    have hk' := (List.getElem?_eq_some_iff.mp hk).1
    refine ⟨k, hk', ?_⟩
    rw [cf_get hk'] at hk
    exact Option.some.inj hk
  have c1 := cf_plain nR tR k
  rw [pR, Rcf] at c1
  have b1 := sumN_abs (f := fun j => C k j * x j) (B := X * (2 * (N * X) + 1) ^ (N - 1)) (n := N) fun j _ => by
    rw [Int.natAbs_mul]
    exact Nat.mul_le_mul (CX k j) (hxH j)
  rw [c1, Int.natAbs_mul] at b1
  have g1 : 1 ≤ (plC R).natAbs := by omega
  have b2 : (cf s k).natAbs ≤ (plC R).natAbs * (cf s k).natAbs := Nat.le_mul_of_pos_left _ g1
  have b3 : N * (X * (2 * (N * X) + 1) ^ (N - 1)) ≤ (2 * (N * X) + 1) ^ N := by
    rw [← Nat.mul_assoc, show (2 * (N * X) + 1) ^ N = (2 * (N * X) + 1) ^ (N - 1) * (2 * (N * X) + 1) by rw [← Nat.pow_succ]; congr 1; omega, Nat.mul_comm]
    exact Nat.mul_le_mul_left _ (by omega)
  have b4 : 2 * (N * X) + 1 < 2 ^ (l + z + 1) := by
    have : N * X ≤ 2 ^ l * X := Nat.mul_le_mul_right _ hN2
    have e : 2 ^ (l + z + 1) = 2 * (2 ^ l * 2 ^ z) := by rw [Nat.pow_succ, Nat.pow_add]; omega
    have m : 2 ^ l * X = 2 ^ l * 2 ^ z - 2 ^ l := by rw [hX, Nat.mul_sub, Nat.mul_one]
    have q : 2 ^ l ≤ 2 ^ l * 2 ^ z := Nat.le_mul_of_pos_right _ p2
    have pl : 1 ≤ 2 ^ l := Nat.two_pow_pos l
    omega
  have b5 : (2 * (N * X) + 1) ^ N < (2 ^ (l + z + 1)) ^ N := Nat.pow_lt_pow_left b4 (by omega)
  rw [← Nat.pow_mul] at b5
  exact ⟨by omega⟩
end W

set_option Elab.async false
set_option linter.all false
set_option maxRecDepth 100000
set_option autoImplicit false
set_option maxHeartbeats 4000000
namespace W
open PySem PySem.Spec PyProof.Rows L2 VL
/-! ### common divisors of greater polynomials -/
theorem okDiv_big {i j : Int} (h : Sz 13500 i) (hj : j ≠ 0) : okDiv i j = true := by
  unfold okDiv Builtin.divisionGoesByPylong
  have e : ¬ ((if (i == 0) = true then 0 else i.natAbs.log2 / 30 + 1) > (if (j == 0) = true then 0 else j.natAbs.log2 / 30 + 1) + 150 ∧ (if (j == 0) = true then 0 else j.natAbs.log2 / 30 + 1) > 300) := by
    by_cases z : i = 0
    · subst z; simp
    · have hz : i.natAbs ≠ 0 := by omega
      have := (Nat.log2_lt hz).mpr h.lt
      have e0 : (i == 0) = false := by simpa using z
      rw [e0]
      simp only [Bool.false_eq_true, if_false]
      omega
  have d : decide (j ≠ 0) = true := decide_eq_true hj
  rw [d, Bool.true_and, Bool.not_eq_true', Bool.and_eq_false_iff]
  by_cases c : (if (j == 0) = true then 0 else j.natAbs.log2 / 30 + 1) > 300
  · exact .inr (decide_eq_false fun x => e ⟨x, c⟩)
  · exact .inl (decide_eq_false c)
theorem plain_okB {a : List Int} (ha : Tr a) (hs : SzP 13500 a) (hl : a.length ≤ 10000) : m_plain [pD a] = .ok (.ow ((plainP a).map .int)) := by
  by_cases h : a = []
  · subst h; simp [m_plain, c_plain, plainP]
  · have l : 0 < a.length := List.length_pos_iff.mpr h
    have ixl := ix_last (l := a) (n := a.length - 1) (by omega)
    have te : (!(a.isEmpty)) = true := by cases a <;> simp_all
    have hls : a.length ≤ sizeLine := slB (by omega)
    have hc : ∀ a1 a2 : SD, compR (compS [2] (gSet 2) (cst true) (e2 fdivD (eOwn 2) (eOwn 1)) [a1, .sh (.int (plC a)), a2]) (a.map .int) = .ok ((plainP a).map .int) := fun a1 a2 => by
      unfold plainP
      rw [List.map_map]
      exact compR_map' fun x hx => by
        have od := okDiv_big (hs x hx) (plC_ne ha h)
        simp [compS, od]
    have he : a.isEmpty = false := by cases a <;> simp_all
    by_cases g : cf a (a.length - 1) < 0
    · have e : plC a = -(contN a : Int) := by unfold plC; rw [if_pos g]
      rw [e] at hc
      simp [m_plain, c_plain, h, he, content_ok, ixl, g, hls, hc]
    · have e : plC a = (contN a : Int) := by unfold plC; rw [if_neg g]
      rw [e] at hc
      simp [m_plain, c_plain, h, he, content_ok, ixl, g, hls, hc]
theorem gc_turnB {f s : List Int} {X : Nat} (tf : Tr f) (ts : Tr s) (hs : s ≠ []) (sf : SzP X f) (ss : SzP X s) (hX : X ≤ 9000) (lf : f.length ≤ 100) (ls : s.length ≤ 100) (hx : SzP 13500 (frP f s)) (w0 w1 : SD) :
    b_common_divisor_1 [w0, w1, .sh (pD f), .sh (pD s)] = .nx [w0, w1, .sh (pD s), .sh (pD (plainP (frP f s)))] := by
  have fr := false_rest_c sf ss tf hs (by omega) (by omega) (by omega)
  have fl : (frP f s).length ≤ 100 := by
    by_cases h : f.length < s.length
    · rw [fr_swap h]; exact lf
    · have := fr_len (b := s) tf hs (by omega); omega
  have pl := plain_okB (fr_tr (b := s) tf) hx (by omega)
  simp [b_common_divisor_1, fr, pl]
theorem frP_szB {f s : List Int} {X : Nat} (sf : SzP X f) (ss : SzP X s) (hl : s.length ≤ f.length) : SzP ((f.length - s.length + 2) * (X + 1)) (frP f s) := by
  have := frP_sz (X := X + 1) (by omega) sf ss hl
  exact this.mono (by omega)
/-- what the greatest common divisor divides it is not longer than -/
theorem gcS_len {n : Nat} {f s : List Int} (tf : Tr f) (ts : Tr s) (h : s.length < n) (hs : s ≠ []) : (gcS n f s).length ≤ s.length ∧ gcS n f s ≠ [] := by
  obtain ⟨_, _, i3, i4, _, i6, _⟩ := gc_spec n f s tf ts (.inl h)
  have ne : gcS n f s ≠ [] := fun z => hs (i6 z).2
  exact ⟨dq_len i4 ne ts hs i3, ne⟩
section
variable {A B : List Int} {z l N Bd : Nat}
structure CO (z l N Bd : Nat) (A B : List Int) : Prop where
  na : A ≠ []
  nb : B ≠ []
  ta : Tr A
  tb : Tr B
  sa : SzP z A
  sb : SzP z B
  la : A.length ≤ 100
  lb : B.length ≤ 100
  n2 : N ≤ 2 ^ l
  zb : z ≤ Bd
  bd : (l + z + 1) * N ≤ Bd
  big : (N + 2) * (Bd + 1) ≤ 13500
theorem CO.swap (h : CO z l N Bd A B) : CO z l N Bd B A := ⟨h.nb, h.na, h.tb, h.ta, h.sb, h.sa, h.lb, h.la, h.n2, h.zb, h.bd, h.big⟩
theorem CO.b9 (h : CO z l N Bd A B) : Bd ≤ 9000 := by
  have := h.big
  have : 2 * (Bd + 1) ≤ (N + 2) * (Bd + 1) := Nat.mul_le_mul_right _ (by omega)
  omega
theorem gc_loopB (co : CO z l N Bd A B) (w0 w1 : SD) : ∀ (n : Nat) (f s : List Int), Chn A B f s → Tr f → (s = [] ∨ Prim s) → s.length < n → s.length < f.length → f.length ≤ 100 → (s ≠ [] → f.length ≤ A.length ∨ f.length ≤ B.length) → s.length ≤ A.length → s.length ≤ B.length → SzP Bd f → A.length + B.length ≤ N + 2 * (gcS n f s).length →
    whileO (e1 truD (eOwn 3)) b_common_divisor_1 (n + 1) [w0, w1, .sh (pD f), .sh (pD s)] = .nx [w0, w1, .sh (pD (gcS n f s)), .sh (pD [])] ∧ SzP Bd (gcS n f s)
  | 0, f, s, _, _, _, h, _, _, _, _, _, _, _ => by omega
  | n + 1, f, s, ch, tf, hs, hn, hl, hf, hfl, hA, hB, sf, hN => by
    by_cases e : s = []
    · subst e
      rw [whileO, gcS, if_pos rfl]
      rw [gcS, if_pos rfl] at hN
      exact ⟨by simp, sf⟩
    · have ps := hs.resolve_left e
      have ts := ps.tr
      have ls := List.length_pos_iff.mpr e
      obtain ⟨gl, gn⟩ := gcS_len tf ts hn e
      have lg := List.length_pos_iff.mpr gn
      have b9 := co.b9
      have cN : (l + z + 1) * ((B.length - s.length) + (A.length - s.length)) ≤ (l + z + 1) * N := Nat.mul_le_mul_left _ (by omega)
      have ss : SzP Bd s := (chn_sz (l := l) ch ps co.na co.nb co.ta co.tb co.sa co.sb hl hA hB rfl (Nat.le_trans (by omega) co.n2)).mono (Nat.le_trans cN co.bd)
      have fz := frP_szB sf ss (by omega)
      have flen := fr_len (b := s) tf e (by omega)
      have fN : f.length - s.length + 2 ≤ N + 2 := by
        rcases hfl e with h | h <;> omega
      have fz2 : SzP 13500 (frP f s) := fz.mono (Nat.le_trans (Nat.mul_le_mul_right _ fN) co.big)
      have tn := gc_turnB tf ts e sf ss b9 hf (by omega) fz2 w0 w1
      have he : s.isEmpty = false := by cases s <;> simp_all
      rw [whileO, gcS, if_neg e]
      rw [gcS, if_neg e] at hN
      by_cases r0 : frP f s = []
      · have p0 : plainP (frP f s) = [] := plain_nil.mpr r0
        rw [p0] at tn ⊢
        have e0 : gcS n s [] = s := by
          cases n with
          | zero => rfl
          | succ n => rw [gcS, if_pos rfl]
        rw [e0]
        refine ⟨?_, ss⟩
        simp only [he, tn, whileO]
        have w : ∀ k : Nat, whileO (e1 truD (eOwn 3)) b_common_divisor_1 (k + 1) [w0, w1, .sh (pD s), .sh (pD [])] = .nx [w0, w1, .sh (pD s), .sh (pD [])] := fun k => by rw [whileO]; simp
        have := w n
        simp [he, tn, this]
      · have ch' := chn_step ch tf ts e (by omega) r0
        have pr := plain_prim (fr_tr (b := s) tf) r0
        have ih := gc_loopB co w0 w1 n s (plainP (frP f s)) ch' ts (.inr pr) (by rw [plain_len]; omega) (by rw [plain_len]; omega) (by omega) (fun _ => .inl hA) (by rw [plain_len]; omega) (by rw [plain_len]; omega) ss hN
        refine ⟨?_, ih.2⟩
        simp [he, tn, ih.1]
/-- the program's common divisor; N is what the greatest common divisor leaves over -/
theorem common_okB {a b : List Int} (ta : Tr a) (tb : Tr b) (co : CO z l N Bd (plainP a) (plainP b)) (sa : SzP 13500 a) (sb : SzP 13500 b) (hN : a.length + b.length ≤ N + 2 * (gcP a b).length) :
    m_common_divisor [pD a, pD b] = .ok (.sh (pD (gcP a b))) ∧ SzP Bd (gcP a b) := by
  have la := co.la
  have lb := co.lb
  have b9 := co.b9
  rw [plain_len] at la lb
  have pa := plain_okB ta sa (by omega)
  have pb := plain_okB tb sb (by omega)
  have na : a ≠ [] := fun z => co.na (by rw [z]; rfl)
  have nb : b ≠ [] := fun z => co.nb (by rw [z]; rfl)
  have ppa := plain_prim ta na
  have ppb := plain_prim tb nb
  have main : ∀ w0 w1 : SD, whileO (e1 truD (eOwn 3)) b_common_divisor_1 (b.length + 2 + 1) [w0, w1, .sh (pD (plainP a)), .sh (pD (plainP b))] = .nx [w0, w1, .sh (pD (gcP a b)), .sh (pD [])] ∧ SzP Bd (gcP a b) := fun w0 w1 => by
    unfold gcP
    unfold gcP at hN
    have lpa := plain_len a
    have lpb := plain_len b
    have hN : (plainP a).length + (plainP b).length ≤ N + 2 * (gcS (b.length + 2) (plainP a) (plainP b)).length := by rw [lpa, lpb]; exact hN
    have co' := co
    generalize plainP a = f at *
    generalize plainP b = s at *
    have sf : SzP Bd f := co.sa.mono co.zb
    have ss : SzP Bd s := co.sb.mono co.zb
    have ls := List.length_pos_iff.mpr co.nb
    have lf := List.length_pos_iff.mpr co.na
    have he : s.isEmpty = false := by have := co.nb; cases s <;> simp_all
    by_cases h1 : s.length < f.length
    · exact gc_loopB co w0 w1 (b.length + 2) f s (chn_start f s) ppa.tr (.inr ppb) (by omega) h1 co.la (fun _ => .inl (Nat.le_refl _)) (by omega) (Nat.le_refl _) sf hN
    · by_cases h2 : f.length < s.length
      · have e : plainP (frP f s) = f := by rw [fr_swap h2]; exact plain_self ppa
        have tn := gc_turnB ppa.tr ppb.tr co.nb sf ss b9 co.la co.lb (by rw [fr_swap h2]; exact sf.mono (by omega)) w0 w1
        rw [e] at tn
        have eg : gcS (b.length + 2) f s = gcS (b.length + 1) s f := by rw [gcS, if_neg co.nb, e]
        rw [eg] at hN ⊢
        have ih := gc_loopB co.swap w0 w1 (b.length + 1) s f (chn_start s f) ppb.tr (.inr ppa) (by omega) h2 co.lb (fun _ => .inl (Nat.le_refl _)) (by omega) (Nat.le_refl _) ss (by omega)
        refine ⟨?_, ih.2⟩
        rw [whileO]
        simp [he, tn, ih.1]
      · have hlen : f.length = s.length := by omega
        have eg : gcS (b.length + 2) f s = gcS (b.length + 1) s (plainP (frP f s)) := by rw [gcS, if_neg co.nb]
        obtain ⟨gl, gn⟩ := gcS_len ppa.tr ppb.tr (n := b.length + 2) (by omega) co.nb
        have lg := List.length_pos_iff.mpr gn
        have fz := frP_szB sf ss (by omega)
        have e2 : f.length - s.length + 2 = 2 := by omega
        rw [e2] at fz
        have big := co.big
        have c2 : 2 * (Bd + 1) ≤ (N + 2) * (Bd + 1) := Nat.mul_le_mul_right _ (by omega)
        have tn := gc_turnB ppa.tr ppb.tr co.nb sf ss b9 co.la co.lb (fz.mono (by omega)) w0 w1
        have flen := fr_len (b := s) ppa.tr co.nb (by omega)
        rw [eg] at hN ⊢
        rw [whileO]
        by_cases r0 : frP f s = []
        · have p0 : plainP (frP f s) = [] := plain_nil.mpr r0
          rw [p0] at tn ⊢
          have e0 : gcS (b.length + 1) s [] = s := by rw [gcS, if_pos rfl]
          rw [e0]
          refine ⟨?_, ss⟩
          have w : whileO (e1 truD (eOwn 3)) b_common_divisor_1 (b.length + 2) [w0, w1, .sh (pD s), .sh (pD [])] = .nx [w0, w1, .sh (pD s), .sh (pD [])] := by rw [whileO]; simp
          simp [he, tn, w]
        · have ch' := chn_step (chn_start f s) ppa.tr ppb.tr co.nb (by omega) r0
          have pr := plain_prim (fr_tr (b := s) ppa.tr) r0
          have ih := gc_loopB co w0 w1 (b.length + 1) s (plainP (frP f s)) ch' ppb.tr (.inr pr) (by rw [plain_len]; omega) (by rw [plain_len]; omega) co.lb (fun _ => .inr (Nat.le_refl _)) (by rw [plain_len]; omega) (by rw [plain_len]; omega) ss hN
          refine ⟨?_, ih.2⟩
          simp [he, tn, ih.1]
  obtain ⟨m1, m2⟩ := main (.sh (pD a)) (.sh (pD b))
  have e := sWhile_eq m1 (by simp)
  exact ⟨by simp [m_common_divisor, c_common_divisor, pa, pb, e], m2⟩
end
end W

set_option Elab.async false
set_option linter.all false
set_option maxRecDepth 100000
set_option autoImplicit false
set_option maxHeartbeats 4000000
namespace W
open PySem PySem.Spec PyProof.Rows L2 VL
/-! ### derivatives of products -/
theorem der_ext {a b : List Int} (h : ∀ k, cf a k = cf b k) (x : Rat) : evP (derP a) x = evP (derP b) x := evP_ext (fun k => by rw [cf_der, cf_der, h]) x
theorem pow_one' (y : Rat) : y ^ 1 = y := by
  have := rpow_add y 1 0
  simp at this ⊢
theorem der_cons (c : Int) (a : List Int) (y : Rat) : evP (derP (c :: a)) y = evP a y + y * evP (derP a) y := by
  have e : ∀ k, cf (derP (c :: a)) k = cf (addP a (shP (derP a) 1)) k := fun k => by
    rw [cf_der, cf_succ, cf_add, cf_sh, cf_der]
    by_cases h : k < 1
    · rw [if_pos h, show k = 0 by omega]; omega
    · obtain ⟨m, rfl⟩ : ∃ m, k = m + 1 := ⟨k - 1, by omega⟩
      rw [if_neg h, show m + 1 - 1 = m by omega, show ((m + 1 : Nat) : Int) + 1 = (m : Int) + 1 + 1 by omega, Int.mul_add]
      omega
  rw [evP_ext e, evP_add, ev_sh, pow_one']
theorem der_add (a b : List Int) (y : Rat) : evP (derP (addP a b)) y = evP (derP a) y + evP (derP b) y := by
  have e : ∀ k, cf (derP (addP a b)) k = cf (addP (derP a) (derP b)) k := fun k => by
    rw [cf_der, cf_add, cf_add, cf_der, cf_der, Int.add_mul]
  rw [evP_ext e, evP_add]
theorem der_scale (a : List Int) (c : Int) (y : Rat) : evP (derP (scaleP a c)) y = evP (derP a) y * (c : Rat) := by
  have e : ∀ k, cf (derP (scaleP a c)) k = cf (scaleP (derP a) c) k := fun k => by
    rw [cf_der, cf_scale, cf_scale, cf_der, Int.mul_assoc, Int.mul_assoc, Int.mul_comm c]
  rw [evP_ext e, ev_scale]
theorem der_sh1 (p : List Int) (y : Rat) : evP (derP (shP p 1)) y = evP p y + y * evP (derP p) y := by
  have e : ∀ k, cf (shP p 1) k = cf (0 :: p) k := fun k => by
    rw [cf_sh]
    cases k with
    | zero => simp
    | succ k => rw [if_neg (by omega), cf_succ, show k + 1 - 1 = k by omega]
  rw [der_ext e, der_cons]
theorem mul_cons_cf (c : Int) (a b : List Int) (k : Nat) : cf (mulP (c :: a) b) k = cf (addP (scaleP b c) (shP (mulP a b) 1)) k := by
  rw [cf_mul, cv_cons, cf_add, cf_scale, cf_sh, cf_mul]
  by_cases h : k = 0
  · subst h; simp [Int.mul_comm]
  · rw [if_neg h, if_neg (by omega), Int.mul_comm]
theorem evCons (c : Int) (a : List Int) (y : Rat) : evP (c :: a) y = evP a y * y + (c : Rat) := rfl
theorem der_mul : ∀ (a b : List Int) (y : Rat), evP (derP (mulP a b)) y = evP (derP a) y * evP b y + evP a y * evP (derP b) y
  | [], b, y => by
    have e : mulP [] b = [] := by unfold mulP; rw [if_pos (.inl rfl)]
    rw [e]
    show (0 : Rat) = 0 * _ + 0 * _
    grind
  | c :: a, b, y => by
    have ih := der_mul a b y
    rw [der_ext (mul_cons_cf c a b), der_add, der_scale, der_sh1, der_cons, ih, evP_mul, evCons]
    grind
/-! ### polynomials without a common divisor -/
def Cop (p q : List Int) : Prop := ∃ (u v : List Int) (c : Int), 0 < c ∧ ∀ x, evP u x * evP p x + evP v x * evP q x = (c : Rat)
theorem Cop.symm {p q : List Int} (h : Cop p q) : Cop q p := by
  obtain ⟨u, v, c, hc, e⟩ := h
  exact ⟨v, u, c, hc, fun x => by rw [← e x]; grind⟩
theorem Cop.ev {p q r : List Int} (h : Cop p q) (e : ∀ x, evP r x = evP q x) : Cop p r := by
  obtain ⟨u, v, c, hc, e'⟩ := h
  exact ⟨u, v, c, hc, fun x => by rw [e x, e' x]⟩
theorem Cop.mul {p q r : List Int} (h : Cop p q) (h' : Cop p r) : Cop p (mulP q r) := by
  obtain ⟨u, v, c, hc, e⟩ := h
  obtain ⟨u', v', c', hc', e'⟩ := h'
  refine ⟨addP (mulP u (addP (mulP u' p) (mulP v' r))) (mulP (mulP v q) u'), mulP v v', c * c', Int.mul_pos hc hc', fun x => ?_⟩
  have a := e x
  have b := e' x
  rw [evP_add, evP_mul, evP_add, evP_mul, evP_mul, evP_mul, evP_mul, evP_mul, evP_mul, Rat.intCast_mul, ← a, ← b]
  grind
theorem Cop.one (p : List Int) : Cop p [1] := ⟨[], [1], 1, by decide, fun x => by rw [evNil, evOne]; grind⟩
/-- a number that is not 0 -/
theorem cop_of {p q u v : List Int} {c : Int} (hc : c ≠ 0) (e : ∀ x, evP u x * evP p x + evP v x * evP q x = (c : Rat)) : Cop p q := by
  by_cases h : 0 < c
  · exact ⟨u, v, c, h, e⟩
  · refine ⟨scaleP u (-1), scaleP v (-1), -c, by omega, fun x => ?_⟩
    have := e x
    have m : ((-1 : Int) : Rat) = -1 := rfl
    rw [ev_scale, ev_scale, m, Rat.intCast_neg, ← this]
    grind
theorem Cop.prod {p : List Int} : ∀ {ps : List (List Int)} {acc : List Int}, Cop p acc → (∀ q ∈ ps, Cop p q) → Cop p (ps.foldl mulP acc)
  | [], _, h, _ => h
  | q :: ps, acc, h, hq => Cop.prod (acc := mulP acc q) (h.mul (hq q (by simp))) fun r hr => hq r (by simp [hr])
/-- what divides both of them divides a number -/
theorem Cop.dq {p q g d : List Int} (h : Cop p q) {z : Int} (hz : z ≠ 0) {a b : List Int} (ea : ∀ x, evP a x = (z : Rat) * evP p x * evP g x) (eb : ∀ x, evP b x = (z : Rat) * evP g x * evP q x) (h1 : Dq d a) (h2 : Dq d b) : Dq d g := by
  obtain ⟨u, v, c, hc, e⟩ := h
  refine h1.comb h2 (w := z * c) (Int.mul_ne_zero hz (by omega)) (s := u) (t := v) fun x => ?_
  have := e x
  rw [ea, eb, Rat.intCast_mul, ← this]
  grind
end W

set_option Elab.async false
set_option linter.all false
set_option maxRecDepth 100000
set_option autoImplicit false
set_option maxHeartbeats 4000000
namespace W
open PySem PySem.Spec PyProof.Rows L2 VL
noncomputable def c_square_free : Ev → Out := sRetO (eCallO m_quotient (eCons (eVar 0) (eCons (eCall m_common_divisor (eCons (eVar 0) (eCons (eCall m_derivative (eCons (eVar 0) (cst []))) (cst [])))) (cst []))))
noncomputable def m_square_free : List D → R SD := runD 1 1 c_square_free
noncomputable def c__law_factor : Ev → Out := sSeq (sIf (e1 bOf (e2 eqD (e2 modD (e1 intD (eCons (e2 ixD (eOwn 0) (cst (.int 0))) (cst []))) (cst (.int 3))) (cst (.int 2)))) (sRetO (e1 lim (eCons (e2 ixD (eLst (e1 lim (eCons (e1 negD (cst (.int 2))) (eCons (e1 negD (cst (.int 3))) (eCons (e1 negD (cst (.int 5))) (eCons (cst (.int 1)) (eCons (cst (.int 2)) (eCons (cst (.int 3)) (cst []))))))))) (e2 modD (e1 intD (eCons (e2 ixD (eOwn 0) (cst (.int 1))) (cst []))) (cst (.int 6)))) (eCons (cst (.int 0)) (eCons (cst (.int 1)) (cst [])))))) (sNil)) (sRetO (e1 lim (eCons (e2 subD (e2 modD (e1 intD (eCons (e2 ixD (eOwn 0) (cst (.int 1))) (cst []))) (cst (.int 9))) (cst (.int 4))) (eCons (cst (.int 1)) (cst [])))))
noncomputable def m__law_factor : List D → R SD := runD 1 1 c__law_factor
noncomputable def b_law_1 : Ev → Out := sSet 2 (eCall m__law_multiply (eCons (eVar 2) (eCons (eVar 5) (cst []))))
noncomputable def b_law_2 : Ev → Out := sSeq (sSet 5 (eCall m__law_factor (eCons (e3 sliceD (eOwn 1) (e1 intOf (e2 mulD (cst (.int 3)) (eOwn 4))) (e1 intOf (e2 addD (e2 mulD (cst (.int 3)) (eOwn 4)) (cst (.int 2))))) (cst [])))) (sSeq (sFor (e1 range1D (eCons (e2 addD (cst (.int 1)) (e2 modD (e1 intD (eCons (e2 ixD (eOwn 1) (e2 addD (e2 mulD (cst (.int 3)) (eOwn 4)) (cst (.int 2)))) (cst []))) (cst (.int 3)))) (cst []))) (gSet 6) b_law_1) (sIf (e1 bOf (e2 nmemD (eOwn 5) (eOwn 3))) (sApp 3 (eVar 5)) (sNil)))
noncomputable def b_law_3 : Ev → Out := sSet 7 (eCall m__law_multiply (eCons (eVar 7) (eCons (eVar 5) (cst []))))
noncomputable def b_law_4 : Ev → Out := sSeq (sSetO 3 (e1 lim (cst []))) (sSeq (sFor (e1 range1D (eCons (e2 modD (e1 intD (eCons (e2 ixD (eOwn 1) (cst (.int 18))) (cst []))) (cst (.int 5))) (cst []))) (gSet 4) b_law_2) (sSeq (sSet 7 (eLst (e1 lim (eCons (cst (.int 1)) (cst []))))) (sSeq (sFz 3 (sFor (e1 seqD (eVar 3)) (gSet 5) b_law_3)) (sSeq (sSet 8 (eLst (e1 listO (eCons (eOwn 2) (cst []))))) (sSeq (sSet 9 (eCall m_square_free (eCons (eVar 2) (cst [])))) (sSeq (sIf (eOr (eNot (e1 truD (eCall m__law_is_polynomial (eCons (eVar 9) (cst []))))) (eOr (e1 bOf (e2 neD (eOwn 9) (eOwn 7))) (e1 bOf (e2 neD (eOwn 2) (eOwn 8))))) (sRet (cst (.bool false))) (sNil)) (sRet (e2 eqD (eCall m_square_free (eCons (eVar 9) (cst []))) (eOwn 7)))))))))
noncomputable def c_law : Ev → Out := sSeq (sSet 1 (eCall m__law_draws (eCons (eVar 0) (eCons (cst (.int 20)) (cst []))))) (sSeq (sSet 2 (eLst (e1 lim (eCons (e2 addD (cst (.int 1)) (e2 modD (e1 intD (eCons (e2 ixD (eOwn 1) (cst (.int 16))) (cst []))) (cst (.int 9)))) (cst []))))) (sSeq (sIf (e1 bOf (e2 eqD (e2 modD (e1 intD (eCons (e2 ixD (eOwn 1) (cst (.int 17))) (cst []))) (cst (.int 2))) (cst (.int 1)))) (sSet 2 (eLst (e1 lim (eCons (e1 negD (e2 ixD (eOwn 2) (cst (.int 0)))) (cst []))))) (sNil)) (b_law_4)))
noncomputable def m_law : List D → R SD := runD 1 10 c_law
/-! ### the drawn factors -/
def Fct (f : List Int) : Prop := (∃ e : Int, -4 ≤ e ∧ e ≤ 4 ∧ f = [e, 1]) ∨ (∃ c : Int, (c = -2 ∨ c = -3 ∨ c = -5 ∨ c = 1 ∨ c = 2 ∨ c = 3) ∧ f = [c, 0, 1])
theorem ev2 (e : Int) (x : Rat) : evP [e, 1] x = x + (e : Rat) := by rw [evCons, evOne]; have : ((1 : Int) : Rat) = 1 := rfl; rw [this]; grind
theorem ev3 (c : Int) (x : Rat) : evP [c, 0, 1] x = x * x + (c : Rat) := by
  rw [evCons, evCons, evOne]
  have : ((1 : Int) : Rat) = 1 := rfl
  have : ((0 : Int) : Rat) = 0 := rfl
  grind
structure Mon (p : List Int) : Prop where
  tr : Tr p
  ne : p ≠ []
  one : cf p (p.length - 1) = 1
theorem Mon.len {p : List Int} (h : Mon p) : 0 < p.length := List.length_pos_iff.mpr h.ne
theorem Mon.prim {p : List Int} (h : Mon p) : Prim p := ⟨h.tr, h.ne, by
  have l := h.len
  have d := contN_dvd (cf_mem (l := p) (k := p.length - 1) (by omega))
  rw [h.one] at d
  have := Int.natAbs_dvd_natAbs.mpr d
  simpa using this, by rw [h.one]; decide⟩
theorem Mon.mul {p q : List Int} (h : Mon p) (h' : Mon q) : Mon (mulP p q) := by
  have l := h.len
  have l' := h'.len
  have e := mul_len_eq h.ne h'.ne
  refine ⟨tr_mul h.tr h'.tr, by rw [← List.length_pos_iff]; omega, ?_⟩
  rw [e, cf_mul, show p.length + q.length - 1 - 1 = (p.length - 1) + (q.length - 1) by omega, cv_last (m := p.length - 1) (n := q.length - 1) (by omega) (by omega), h.one, h'.one]; rfl
theorem mon_one : Mon [1] := ⟨tr_one, by simp, rfl⟩
theorem Fct.mon {f : List Int} (h : Fct f) : Mon f := by
  rcases h with ⟨e, _, _, rfl⟩ | ⟨c, _, rfl⟩
  · exact ⟨fun m h => by simp at h; subst h; simp [cf], by simp, rfl⟩
  · exact ⟨fun m h => by simp at h; subst h; simp [cf], by simp, rfl⟩
theorem Fct.len {f : List Int} (h : Fct f) : 2 ≤ f.length ∧ f.length ≤ 3 := by
  rcases h with ⟨e, _, _, rfl⟩ | ⟨c, _, rfl⟩ <;> simp
theorem fct_cop {f g : List Int} (h : Fct f) (h' : Fct g) (hne : f ≠ g) : Cop f g := by
  have m1 : ((-1 : Int) : Rat) = -1 := rfl
  have o1 : ((1 : Int) : Rat) = 1 := rfl
  rcases h with ⟨e, e1, e2, rfl⟩ | ⟨c, hc, rfl⟩
  · rcases h' with ⟨e', e1', e2', rfl⟩ | ⟨c', hc', rfl⟩
    · refine cop_of (u := [1]) (v := [-1]) (c := e - e') (fun z => hne (by rw [show e = e' by omega])) fun x => ?_
      rw [ev2, ev2, evOne, evOne, Rat.intCast_sub, m1, o1]; grind
    · refine cop_of (u := [e, -1]) (v := [1]) (c := c' + e * e) (fun z => ?_) fun x => ?_
      · have : e = -4 ∨ e = -3 ∨ e = -2 ∨ e = -1 ∨ e = 0 ∨ e = 1 ∨ e = 2 ∨ e = 3 ∨ e = 4 := by omega
        rcases this with rfl | rfl | rfl | rfl | rfl | rfl | rfl | rfl | rfl <;> omega
      · rw [ev2, ev3, evOne, evCons, evOne, Rat.intCast_add, Rat.intCast_mul, m1, o1]; grind
  · rcases h' with ⟨e', e1', e2', rfl⟩ | ⟨c', hc', rfl⟩
    · refine cop_of (u := [1]) (v := [e', -1]) (c := c + e' * e') (fun z => ?_) fun x => ?_
      · have : e' = -4 ∨ e' = -3 ∨ e' = -2 ∨ e' = -1 ∨ e' = 0 ∨ e' = 1 ∨ e' = 2 ∨ e' = 3 ∨ e' = 4 := by omega
        rcases this with rfl | rfl | rfl | rfl | rfl | rfl | rfl | rfl | rfl <;> omega
      · rw [ev2, ev3, evOne, evCons, evOne, Rat.intCast_add, Rat.intCast_mul, m1, o1]; grind
    · refine cop_of (u := [1]) (v := [-1]) (c := c - c') (fun z => hne (by rw [show c = c' by omega])) fun x => ?_
      rw [ev3, ev3, evOne, evOne, Rat.intCast_sub, m1, o1]; grind
theorem fct_der {f : List Int} (h : Fct f) : Cop f (derP f) := by
  have m1 : ((-1 : Int) : Rat) = -1 := rfl
  have o1 : ((1 : Int) : Rat) = 1 := rfl
  have o2 : ((2 : Int) : Rat) = 2 := rfl
  have o0 : ((0 : Int) : Rat) = 0 := rfl
  rcases h with ⟨e, e1, e2, rfl⟩ | ⟨c, hc, rfl⟩
  · have d : derP [e, 1] = [1] := rfl
    rw [d]; exact Cop.one _
  · have d : derP [c, 0, 1] = [0, 2] := rfl
    rw [d]
    refine cop_of (u := [2]) (v := [0, -1]) (c := 2 * c) (by omega) fun x => ?_
    rw [ev3, evOne, evCons, evOne, evCons, evOne, Rat.intCast_mul, m1, o2, o0]; grind
/-! sizes -/
def B6 (m n : Nat) (p : List Int) : Prop := ∀ k, (cf p k).natAbs ≤ m * 6 ^ n
theorem B6.up {m n : Nat} {p : List Int} (h : B6 m n p) : B6 m (n + 1) p := fun k => Nat.le_trans (h k) (by
  rw [Nat.pow_succ]; exact Nat.mul_le_mul_left _ (by omega))
theorem B6.mono {m n n' : Nat} {p : List Int} (h : B6 m n p) (e : n ≤ n') : B6 m n' p := fun k => Nat.le_trans (h k) (Nat.mul_le_mul_left _ (Nat.pow_le_pow_right (by decide) e))
theorem B6.sz {m n s : Nat} {p : List Int} (h : B6 m n p) (e : m * 6 ^ n < 2 ^ s) : SzP s p := fun c hc => by
  obtain ⟨k, hk⟩ := List.getElem?_of_mem hc
  have hk' := (List.getElem?_eq_some_iff.mp hk).1
  rw [cf_get hk'] at hk
  have := h k
  rw [Option.some.inj hk] at this
  exact ⟨by omega⟩
theorem tmb {f p : List Int} {M : Nat} (h : ∀ k, (cf p k).natAbs ≤ M) (k i : Nat) : (tm f p k i).natAbs ≤ (cf f i).natAbs * M := by
  unfold tm
  split
  · rw [Int.natAbs_mul]; exact Nat.mul_le_mul_left _ (h _)
  · simp
theorem b6_mul {m n : Nat} {p f : List Int} (h : B6 m n p) (hf : Fct f) : B6 m (n + 1) (mulP p f) := fun k => by
  rw [cf_mul, cv_comm]
  unfold cv
  obtain ⟨M, hM⟩ : ∃ M, M = m * 6 ^ n := ⟨_, rfl⟩
  have hk : ∀ k, (cf p k).natAbs ≤ M := fun k => by rw [hM]; exact h k
  have e : m * 6 ^ (n + 1) = 6 * M := by rw [Nat.pow_succ, hM, ← Nat.mul_assoc, Nat.mul_comm]
  rw [e]
  rcases hf with ⟨e, e1, e2, rfl⟩ | ⟨c, hc, rfl⟩
  · have a := tmb (f := [e, 1]) hk k 0
    have b := tmb (f := [e, 1]) hk k 1
    have c0 : (cf [e, 1] 0).natAbs * M ≤ 4 * M := Nat.mul_le_mul_right _ (by simp [cf]; omega)
    have c1 : (cf [e, 1] 1).natAbs * M = 1 * M := by simp [cf]
    simp only [List.length_cons, List.length_nil, sumN]
    omega
  · have a := tmb (f := [c, 0, 1]) hk k 0
    have b := tmb (f := [c, 0, 1]) hk k 1
    have d := tmb (f := [c, 0, 1]) hk k 2
    have c0 : (cf [c, 0, 1] 0).natAbs * M ≤ 5 * M := Nat.mul_le_mul_right _ (by simp [cf]; omega)
    have c1 : (cf [c, 0, 1] 1).natAbs * M = 0 := by simp [cf]
    have c2 : (cf [c, 0, 1] 2).natAbs * M = 1 * M := by simp [cf]
    simp only [List.length_cons, List.length_nil, sumN]
    omega
theorem prod_snoc (ps : List (List Int)) (g : List Int) : prodP (ps ++ [g]) = mulP (prodP ps) g := by simp [prodP, List.foldl_append]
/-! ### what is known of the product -/
structure SF (c : Int) (n : Nat) (w : List Int) (ps : List (List Int)) : Prop where
  tr : Tr w
  bd : B6 c.natAbs n w
  ln : w.length ≤ 2 * n + 1
  fct : ∀ f ∈ ps, Fct f
  mon : Mon (prodP ps)
  pb : B6 1 ps.length (prodP ps) ∧ (prodP ps).length ≤ 2 * ps.length + 1
  ex : ∃ G W : List Int, Mon G ∧ B6 1 n G ∧ (∀ x, evP w x = (c : Rat) * evP (prodP ps) x * evP G x) ∧ (∀ x, evP (derP w) x = (c : Rat) * evP G x * evP W x) ∧
    ∀ f ∈ ps, ∃ (e k : Int) (Q K : List Int), 0 < e ∧ 0 < k ∧ (∀ x, evP (prodP ps) x = evP f x * evP Q x) ∧ Cop f Q ∧ ∀ x, (k : Rat) * evP W x = (e : Rat) * evP Q x * evP (derP f) x + evP f x * evP K x
theorem sf_start {c : Int} (hc : c ≠ 0) : SF c 0 [c] [] := ⟨fun m h => by simp at h; subst h; simpa [cf] using hc, fun k => by
    cases k with
    | zero => simp [cf]
    | succ k => rw [cf_succ, cf_nil]; simp, by simp, by simp, mon_one, ⟨fun k => by
    cases k with
    | zero => simp [cf, prodP]
    | succ k => show (cf [1] (k + 1)).natAbs ≤ _; rw [cf_succ, cf_nil]; simp, by simp [prodP]⟩, [1], [], mon_one, fun k => by
    cases k with
    | zero => simp [cf]
    | succ k => rw [cf_succ, cf_nil]; simp, fun x => by
    show evP [c] x = (c : Rat) * evP [1] x * evP [1] x
    have : ((1 : Int) : Rat) = 1 := rfl
    rw [evOne, evOne, this]; grind, fun x => by
    have d : derP [c] = [] := rfl
    rw [d, evNil]; grind, by simp⟩
theorem sf_new {c : Int} {n : Nat} {w : List Int} {ps : List (List Int)} {g : List Int} (h : SF c n w ps) (hg : Fct g) (hn : g ∉ ps) : SF c (n + 1) (mulP w g) (ps ++ [g]) := by
  obtain ⟨G, W, gm, gb, e1, e2, fs⟩ := h.ex
  have gl := hg.len
  have mm := h.mon.mul hg.mon
  refine ⟨tr_mul h.tr hg.mon.tr, b6_mul h.bd hg, ?_, fun f hf => ?_, by rw [prod_snoc]; exact mm, ?_, G, addP (mulP W g) (mulP (prodP ps) (derP g)), gm, gb.up, fun x => ?_, fun x => ?_, fun f hf => ?_⟩
  · have := mul_len1 (q := w) (u := g) h.ln gl.2; omega
  · rcases List.mem_append.mp hf with hf | hf
    · exact h.fct f hf
    · simp at hf; subst hf; exact hg
  · rw [prod_snoc, List.length_append, List.length_singleton]
    have := mul_len1 (q := prodP ps) (u := g) h.pb.2 gl.2
    exact ⟨b6_mul h.pb.1 hg, by omega⟩
  · rw [prod_snoc, evP_mul, evP_mul, e1]; grind
  · rw [der_mul, evP_add, evP_mul, evP_mul, e1, e2]; grind
  · rw [prod_snoc]
    have one : ((1 : Int) : Rat) = 1 := rfl
    rcases List.mem_append.mp hf with hf | hf
    · obtain ⟨e, k, Q, K, he, hk, q1, q2, q3⟩ := fs f hf
      have ne : f ≠ g := fun z => hn (z ▸ hf)
      refine ⟨e, k, mulP Q g, addP (mulP K g) (scaleP (mulP Q (derP g)) k), he, hk, fun x => ?_, q2.mul (fct_cop (h.fct f hf) hg ne), fun x => ?_⟩
      · rw [evP_mul, evP_mul, q1]; grind
      · have a := q3 x
        have b := q1 x
        rw [evP_add, evP_mul, evP_mul, evP_mul, evP_add, evP_mul, ev_scale, evP_mul, b]
        have : (k : Rat) * (evP W x * evP g x + evP f x * evP Q x * evP (derP g) x) = ((k : Rat) * evP W x) * evP g x + (k : Rat) * (evP f x * evP Q x * evP (derP g) x) := by grind
        rw [this, a]; grind
    · simp at hf
      subst hf
      refine ⟨1, 1, prodP ps, W, by decide, by decide, fun x => ?_, Cop.prod (Cop.one _) fun q hq => fct_cop hg (h.fct q hq) fun z => hn (z ▸ hq), fun x => ?_⟩
      · rw [evP_mul]; grind
      · rw [evP_add, evP_mul, evP_mul, one]; grind
theorem ring6 (d e k u v F F' Gg Q Qg K W P g' : Rat) (a : k * W = e * Q * F' + F * K) (b : u * F + v * Gg = d) (p1 : P = F * Q) (p2 : P = Gg * Qg) : d * k * (W + Qg * g') = d * e * Q * F' + F * (K * d + (u * Qg + v * Q) * g' * k) := by
  have : d * Qg = F * (u * Qg + v * Q) := by rw [← b]; grind
  have : d * k * (W + Qg * g') = d * (k * W) + k * (d * Qg) * g' := by grind
  rw [this, a]
  grind
theorem sf_mul {c : Int} {n : Nat} {w : List Int} {ps : List (List Int)} {g : List Int} (h : SF c n w ps) (hg : g ∈ ps) : SF c (n + 1) (mulP w g) ps := by
  obtain ⟨G, W, gm, gb, e1, e2, fs⟩ := h.ex
  have fg := h.fct g hg
  have gl := fg.len
  obtain ⟨eg, kg, Qg, Kg, heg, hkg, r1, r2, r3⟩ := fs g hg
  refine ⟨tr_mul h.tr fg.mon.tr, b6_mul h.bd fg, ?_, h.fct, h.mon, h.pb, mulP G g, addP W (mulP Qg (derP g)), gm.mul fg.mon, b6_mul gb fg, fun x => ?_, fun x => ?_, fun f hf => ?_⟩
  · have := mul_len1 (q := w) (u := g) h.ln gl.2; omega
  · rw [evP_mul, evP_mul, e1]; grind
  · rw [der_mul, evP_add, evP_mul, evP_mul, e1, e2, r1 x]; grind
  · by_cases z : f = g
    · subst z
      refine ⟨eg + kg, kg, Qg, Kg, by omega, hkg, r1, r2, fun x => ?_⟩
      have a := r3 x
      rw [evP_add, evP_mul, Rat.intCast_add]
      have : (kg : Rat) * (evP W x + evP Qg x * evP (derP f) x) = (kg : Rat) * evP W x + (kg : Rat) * (evP Qg x * evP (derP f) x) := by grind
      rw [this, a]; grind
    · obtain ⟨e, k, Q, K, he, hk, q1, q2, q3⟩ := fs f hf
      obtain ⟨u, v, d, hd, b⟩ := fct_cop (h.fct f hf) fg z
      refine ⟨d * e, d * k, Q, addP (scaleP K d) (scaleP (mulP (addP (mulP u Qg) (mulP v Q)) (derP g)) k), Int.mul_pos hd he, Int.mul_pos hd hk, q1, q2, fun x => ?_⟩
      rw [evP_add, evP_mul, evP_add, ev_scale, ev_scale, evP_mul, evP_add, evP_mul, evP_mul, Rat.intCast_mul, Rat.intCast_mul]
      exact ring6 _ _ _ _ _ _ _ _ _ _ _ _ _ _ (q3 x) (b x) (q1 x) (r1 x)
theorem SF.cop {c : Int} {n : Nat} {w : List Int} {ps : List (List Int)} (h : SF c n w ps) {W : List Int} (fs : ∀ f ∈ ps, ∃ (e k : Int) (Q K : List Int), 0 < e ∧ 0 < k ∧ (∀ x, evP (prodP ps) x = evP f x * evP Q x) ∧ Cop f Q ∧ ∀ x, (k : Rat) * evP W x = (e : Rat) * evP Q x * evP (derP f) x + evP f x * evP K x) : Cop (prodP ps) W := by
  refine Cop.symm (Cop.prod (Cop.one _) fun f hf => Cop.symm ?_)
  obtain ⟨e, k, Q, K, he, hk, q1, q2, q3⟩ := fs f hf
  obtain ⟨u, v, d, hd, b⟩ := q2.mul (fct_der (h.fct f hf))
  refine ⟨subP (scaleP u e) (mulP v K), scaleP v k, e * d, Int.mul_pos he hd, fun x => ?_⟩
  have a := q3 x
  have b := b x
  rw [evP_mul] at b
  rw [ev_sub, ev_scale, evP_mul, ev_scale, Rat.intCast_mul, ← b]
  have : evP v x * (k : Rat) * evP W x = evP v x * ((k : Rat) * evP W x) := by grind
  rw [this, a]; grind
/-! ### square_free -/
theorem sqf_ok {c : Int} {n : Nat} {w : List Int} {ps : List (List Int)} (h : SF c n w ps) (c0 : c ≠ 0) (c9 : c.natAbs ≤ 9) (hn : n ≤ 12) (hp : ps.length ≤ 4) : m_square_free [pD w] = .ok (.ow ((prodP ps).map .int)) := by
  obtain ⟨G, W, gm, gb, e1, e2, fs⟩ := h.ex
  have cop := h.cop fs
  have pm := h.mon
  have pl := pm.len
  have gl := gm.len
  have wl := h.ln
  -- lengths
  have lw : w.length = (prodP ps).length + G.length - 1 := by
    rw [← mul_len_eq pm.ne gm.ne]
    exact ray_len h.tr (tr_mul pm.tr gm.tr) (u := 1) (v := c) (by decide) c0 (ray_ev fun x => by
      have : ((1 : Int) : Rat) = 1 := rfl
      rw [evP_mul, this, e1]; grind)
  have nw : w ≠ [] := by rw [← List.length_pos_iff]; omega
  have p9 : (prodP ps).length ≤ 9 := by have := h.pb.2; omega
  -- sizes
  have six : 6 ^ n ≤ 6 ^ 12 := Nat.pow_le_pow_right (by decide) hn
  have sw : SzP 35 w := h.bd.sz (Nat.lt_of_le_of_lt (Nat.mul_le_mul c9 six) (by decide))
  have sG : SzP 35 G := gb.sz (Nat.lt_of_le_of_lt (Nat.mul_le_mul_left _ six) (by decide))
  have sd : SzP 40 (derP w) := SzP.fl fun k hk => (sw.cf _).mul (Sz.of (k := 5) 32 (by omega) (by omega) (by decide))
  have td := tr_der h.tr
  have dl := der_len w
  have dv := derivative_ok sw (by decide) (by omega)
  -- the divisor
  have dG1 : Dq G w := ⟨1, scaleP (prodP ps) c, by decide, fun x => by
    have : ((1 : Int) : Rat) = 1 := rfl
    rw [ev_scale, e1, this]; grind⟩
  have dG2 : Dq G (derP w) := ⟨1, scaleP W c, by decide, fun x => by
    have : ((1 : Int) : Rat) = 1 := rfl
    rw [ev_scale, e2, this]; grind⟩
  have sp := gcP_spec h.tr td
  have gn : gcP w (derP w) ≠ [] := fun z => nw (sp.nil z).1
  have gp : Prim (gcP w (derP w)) := sp.prim.resolve_left gn
  have gG : gcP w (derP w) = G := dq_anti gp gm.prim (cop.dq c0 e1 e2 sp.left sp.right) (sp.all _ dG1 dG2)
  have cd : m_common_divisor [pD w, pD (derP w)] = .ok (.sh (pD G)) := by
    by_cases z : derP w = []
    · rw [z] at gG ⊢
      have l1 : w.length = 1 := by rw [z] at dl; simp at dl; omega
      have := common_ok (L := 1) (z := 35) h.tr tr_nil sw (fun c hc => by cases hc) (by omega) (by simp) (by decide) (by decide) (by decide)
      rw [gG] at this
      exact this
    · have ppw := plain_prim h.tr nw
      have ppd := plain_prim td z
      have := common_okB (z := 40) (l := 4) (N := 15) (Bd := 675) h.tr td ⟨ppw.ne, ppd.ne, ppw.tr, ppd.tr, sw.plain.mono (by decide), sd.plain, by rw [plain_len]; omega, by rw [plain_len]; omega, by decide, by decide, by decide, by decide⟩ (sw.mono (by decide)) (sd.mono (by decide)) (by rw [gG, dl]; omega)
      rw [gG] at this
      exact this.1
  -- the quotient
  have qs : QS 35 35 9 w G := ⟨sw, sG, h.tr, gm.tr, gm.ne, nw, by omega, by omega, by decide, by omega, by decide⟩
  have qo := quotient_ok qs (by decide) (by decide)
  have fr := (dq_iff gm.tr gm.ne h.tr).mp dG1
  have qP : quoP w G = prodP ps := by
    unfold quoP
    have qn := qN_ne h.tr gm.tr nw gm.ne (by omega)
    refine prim_uniq (plain_prim (qN_tr _ _ _) qn) pm.prim (u := plC (qN w G (w.length - G.length + 1))) (v := c) (plC_ne (qN_tr _ _ _) qn) c0 (ray_ev fun x => ?_)
    rw [← ev_plain (qN_tr _ _ _) qn]
    -- both times G are w
    have key : mulP (subP (qN w G (w.length - G.length + 1)) (scaleP (prodP ps) c)) G = [] := evP_uniq (tr_mul (tr_add _ _) gm.tr) tr_nil fun y => by
      have r := fr_rel (a := w) (b := G) (by omega) y
      have o : (((cf G (G.length - 1)) ^ (w.length - G.length + 1) : Int) : Rat) = 1 := by rw [gm.one, Int.one_pow]; rfl
      have z0 : evP (frP w G) y = 0 := by rw [fr]; rfl
      rw [o, z0] at r
      rw [evP_mul, ev_sub, ev_scale, evNil]
      have := e1 y
      grind
    have z : subP (qN w G (w.length - G.length + 1)) (scaleP (prodP ps) c) = [] := by
      apply Classical.byContradiction
      intro g
      have := mul_len_eq g gm.ne
      rw [key] at this
      have := List.length_pos_iff.mpr g
      simp at *
      omega
    have : evP (subP (qN w G (w.length - G.length + 1)) (scaleP (prodP ps) c)) x = 0 := by rw [z]; rfl
    rw [ev_sub, ev_scale] at this
    grind
  rw [qP] at qo
  simp [m_square_free, c_square_free, dv, cd, qo]
/-! ### the law -/
theorem sf_more : ∀ (qs ps : List (List Int)), SF 1 ps.length (prodP ps) ps → (∀ f ∈ qs, Fct f) → (ps ++ qs).Nodup → SF 1 (ps ++ qs).length (prodP (ps ++ qs)) (ps ++ qs)
  | [], ps, h, _, _ => by rw [List.append_nil]; exact h
  | g :: qs, ps, h, hf, hn => by
    have hg : g ∉ ps := fun z => by
      rw [List.nodup_append] at hn
      exact hn.2.2 g z g (by simp) rfl
    have e : ps ++ g :: qs = (ps ++ [g]) ++ qs := by simp
    have s1 := sf_new h (hf g (by simp)) hg
    rw [← prod_snoc] at s1
    have l : (ps ++ [g]).length = ps.length + 1 := by simp
    rw [← l] at s1
    rw [e]
    exact sf_more qs (ps ++ [g]) s1 (fun f h => hf f (by simp [h])) (by rw [← e]; exact hn)
theorem sf_due {ps : List (List Int)} (h : ∀ f ∈ ps, Fct f) (hn : ps.Nodup) : SF 1 ps.length (prodP ps) ps := sf_more ps [] (sf_start (by decide)) h hn
theorem factor_ok {ys : List Int} (h : IsDraws 2 ys) : ∃ f, m__law_factor [pD ys] = .ok (.ow (f.map .int)) ∧ Fct f := by
  have i0 : ixD (pD ys) (.int 0) = some (.int (gI ys 0)) := p_ixc (n := 0) (by rw [h.len]; omega)
  have i1 : ixD (pD ys) (.int 1) = some (.int (gI ys 1)) := p_ixc (n := 1) (by rw [h.len]; omega)
  obtain ⟨a0, a1⟩ := fmod_rng (a := gI ys 0) (b := 3) (by decide)
  have mo : modD (.int (gI ys 0)) (.int 3) = some (.int ((gI ys 0).fmod 3)) := r_mod (by decide)
  by_cases c : (gI ys 0).fmod 3 = 2
  · obtain ⟨b0, b1⟩ := fmod_rng (a := gI ys 1) (b := 6) (by decide)
    have mo6 : modD (.int (gI ys 1)) (.int 6) = some (.int ((gI ys 1).fmod 6)) := r_mod (by decide)
    obtain ⟨v, hv, hc⟩ : ∃ v : Int, ixD (.list [.int (-2), .int (-3), .int (-5), .int 1, .int 2, .int 3]) (.int ((gI ys 1).fmod 6)) = some (.int v) ∧ (v = -2 ∨ v = -3 ∨ v = -5 ∨ v = 1 ∨ v = 2 ∨ v = 3) := by
      have : (gI ys 1).fmod 6 = 0 ∨ (gI ys 1).fmod 6 = 1 ∨ (gI ys 1).fmod 6 = 2 ∨ (gI ys 1).fmod 6 = 3 ∨ (gI ys 1).fmod 6 = 4 ∨ (gI ys 1).fmod 6 = 5 := by omega
      rcases this with e | e | e | e | e | e <;> rw [e]
      · exact ⟨_, rfl, by decide⟩
      · exact ⟨_, rfl, by decide⟩
      · exact ⟨_, rfl, by decide⟩
      · exact ⟨_, rfl, by decide⟩
      · exact ⟨_, rfl, by decide⟩
      · exact ⟨_, rfl, by decide⟩
    refine ⟨[v, 0, 1], ?_, .inr ⟨v, hc, rfl⟩⟩
    simp [m__law_factor, c__law_factor, i0, i1, mo, c, mo6, hv, -r_ix_l]
  · obtain ⟨b0, b1⟩ := fmod_rng (a := gI ys 1) (b := 9) (by decide)
    have mo9 : modD (.int (gI ys 1)) (.int 9) = some (.int ((gI ys 1).fmod 9)) := r_mod (by decide)
    refine ⟨[(gI ys 1).fmod 9 - 4, 1], ?_, .inl ⟨_, by omega, by omega, rfl⟩⟩
    simp [m__law_factor, c__law_factor, i0, i1, mo, c, mo9, -r_ix_l]
theorem b6_lit {m n : Nat} {p : List Int} (h : B6 m n p) (hm : m ≤ 9) (hn : n ≤ 12) : SzP 35 p := h.sz (Nat.lt_of_le_of_lt (Nat.mul_le_mul hm (Nat.pow_le_pow_right (by decide) hn)) (by decide))
theorem Fct.sz {f : List Int} (h : Fct f) : SzP 3 f := by
  rcases h with ⟨e, e1, e2, rfl⟩ | ⟨c, hc, rfl⟩
  · intro x hx
    simp at hx
    rcases hx with rfl | rfl
    · exact .of 8 (by omega) (by omega) (by decide)
    · exact .of 8 (by omega) (by omega) (by decide)
  · intro x hx
    simp at hx
    rcases hx with rfl | rfl | rfl
    · exact .of 8 (by omega) (by omega) (by decide)
    · exact .of 8 (by omega) (by omega) (by decide)
    · exact .of 8 (by omega) (by omega) (by decide)
/-- one factor, so often -/
theorem turn1_ok {c : Int} {n : Nat} {w : List Int} {qs : List (List Int)} {g : List Int} (hg : Fct g) (c9 : c.natAbs ≤ 9) (h : SF c n w qs) (hn : n ≤ 12) (x0 x1 x3 x4 x7 x8 x9 y6 : SD) (d : D) : gTo (gSet 6) b_law_1 d [x0, x1, .sh (pD w), x3, x4, .sh (pD g), y6, x7, x8, x9] = .nx [x0, x1, .sh (pD (mulP w g)), x3, x4, .sh (pD g), .sh d, x7, x8, x9] := by
  have lm := lmultiply_ok (b6_lit h.bd c9 (by omega)) hg.sz (by decide) (by have := h.ln; omega) (by have := hg.len; omega) h.tr hg.mon.tr
  simp [b_law_1, lm]
theorem turns_ok {c : Int} {g : List Int} (hg : Fct g) (c9 : c.natAbs ≤ 9) (x0 x1 x3 x4 x7 x8 x9 : SD) {qs : List (List Int)} (hq : g ∈ qs) {n : Nat} {w : List Int} {l : List D} (y6 : SD) (h : SF c n w qs) (hn : n + l.length ≤ 12) :
    ∃ w' y, forO (gTo (gSet 6) b_law_1) l [x0, x1, .sh (pD w), x3, x4, .sh (pD g), y6, x7, x8, x9] = .nx [x0, x1, .sh (pD w'), x3, x4, .sh (pD g), y, x7, x8, x9] ∧ SF c (n + l.length) w' qs := by
  obtain ⟨ρ', e, w', y, rfl, s⟩ := forO_inv (F := gTo (gSet 6) b_law_1) (l := l) (fun i ρ => ∃ w' y, ρ = [x0, x1, .sh (pD w'), x3, x4, .sh (pD g), y, x7, x8, x9] ∧ SF c (n + i) w' qs) ⟨w, y6, rfl, h⟩ fun i d ρ hd hi => by
    obtain ⟨w', y, rfl, s⟩ := hi
    have hi' := (List.getElem?_eq_some_iff.mp hd).1
    exact ⟨_, .inl (turn1_ok hg c9 s (by omega) x0 x1 x3 x4 x7 x8 x9 y d), _, _, rfl, sf_mul s hq⟩
  exact ⟨w', y, e, s⟩
def ins (g : List Int) (ps : List (List Int)) : List (List Int) := if g ∈ ps then ps else ps ++ [g]
theorem inner_ok {c : Int} {g : List Int} (hg : Fct g) (c9 : c.natAbs ≤ 9) (x0 x1 x3 x4 x7 x8 x9 : SD) {ps : List (List Int)} {n : Nat} {w : List Int} {l : List D} (y6 : SD) (h : SF c n w ps) (hl : l ≠ []) (hn : n + l.length ≤ 12) :
    ∃ w' y, forO (gTo (gSet 6) b_law_1) l [x0, x1, .sh (pD w), x3, x4, .sh (pD g), y6, x7, x8, x9] = .nx [x0, x1, .sh (pD w'), x3, x4, .sh (pD g), y, x7, x8, x9] ∧ SF c (n + l.length) w' (ins g ps) := by
  unfold ins
  by_cases hq : g ∈ ps
  · rw [if_pos hq]
    exact turns_ok hg c9 x0 x1 x3 x4 x7 x8 x9 hq y6 h hn
  · rw [if_neg hq]
    match l, hl, hn with
    | d :: l, _, hn =>
      rw [List.length_cons] at hn
      have st := turn1_ok hg c9 h (by omega) x0 x1 x3 x4 x7 x8 x9 y6 d
      obtain ⟨w', y, e, s⟩ := turns_ok (l := l) hg c9 x0 x1 x3 x4 x7 x8 x9 (qs := ps ++ [g]) (by simp) (.sh d) (sf_new h hg hq) (by omega)
      refine ⟨w', y, ?_, by rw [List.length_cons, show n + (l.length + 1) = n + 1 + l.length by omega]; exact s⟩
      rw [forO, st]
      exact e
theorem rng_ne {n : Nat} (h : 0 < n) : rngL 0 1 n ≠ [] := by rw [← List.length_pos_iff, rngL_length]; exact h
def St6 (x0 : SD) (xs : List Int) (c : Int) (i : Nat) (ρ : Ev) : Prop := ∃ (w : List Int) (ps : List (List Int)) (n : Nat) (y4 y5 y6 : SD), ρ = [x0, .sh (pD xs), .sh (pD w), .ow (ps.map pD), y4, y5, y6, .no, .no, .no] ∧ SF c n w ps ∧ n ≤ 3 * i ∧ ps.length ≤ i ∧ ps.Nodup
theorem step6 {x0 : SD} {xs : List Int} {c : Int} {i : Nat} {ρ : Ev} (hx : IsDraws 20 xs) (c9 : c.natAbs ≤ 9) (hi : i < 4) (h : St6 x0 xs c i ρ) : ∃ ρ', gTo (gSet 4) b_law_2 (.int (i : Int)) ρ = .nx ρ' ∧ St6 x0 xs c (i + 1) ρ' := by
  obtain ⟨w, ps, n, y4, y5, y6, rfl, hs, hn, hp, hd⟩ := h
  obtain ⟨ys, hc, hys⟩ := cut_p hx (a := 3 * (i : Int)) (b := 3 * (i : Int) + 2) 2 (by omega) (by omega) rfl
  obtain ⟨g, fo, hg⟩ := factor_ok hys
  have ix : ixD (pD xs) (.int (3 * (i : Int) + 2)) = some (.int (gI xs (3 * i + 2))) := by
    have := p_ixc (l := xs) (n := 3 * i + 2) (by rw [hx.len]; omega)
    rw [← show ((3 * i + 2 : Nat) : Int) = 3 * (i : Int) + 2 by omega]; exact this
  obtain ⟨b0, b1⟩ := fmod_rng (a := gI xs (3 * i + 2)) (b := 3) (by decide)
  have mo : modD (.int (gI xs (3 * i + 2))) (.int 3) = some (.int ((gI xs (3 * i + 2)).fmod 3)) := r_mod (by decide)
  obtain ⟨m, hm⟩ : ∃ m : Nat, 1 + (gI xs (3 * i + 2)).fmod 3 = (m : Int) := ⟨(1 + (gI xs (3 * i + 2)).fmod 3).toNat, by omega⟩
  have rg : range1D [.int (m : Int)] = some (rngL 0 1 m) := by rw [range1_ok (by omega) (by omega)]; simp
  have ml : mulD (.int 3) (.int (i : Int)) = some (.int (3 * (i : Int))) := r_mulS (by decide) (by decide) (by omega) (by omega)
  obtain ⟨w', y, e, s⟩ := inner_ok (l := rngL 0 1 m) hg c9 x0 (.sh (pD xs)) (.ow (ps.map pD)) (.sh (.int (i : Int))) .no .no .no y6 hs (rng_ne (by omega)) (by rw [rngL_length]; omega)
  rw [rngL_length] at s
  have nm := nmem_p (f := g) (fs := ps)
  have fl : (ps.map pD).length < sizeLine := by rw [List.length_map]; exact Nat.lt_of_le_of_lt (by omega : ps.length ≤ 4) (by decide)
  by_cases hq : g ∈ ps
  · unfold ins at s
    rw [if_pos hq] at s
    rw [decide_eq_true hq] at nm
    refine ⟨_, by simp [b_law_2, ml, hc, fo, ix, mo, hm, rg, e, nm, -Out.nx.injEq] <;> rfl, w', ps, n + m, _, _, _, rfl, s, by omega, by omega, hd⟩
  · unfold ins at s
    rw [if_neg hq] at s
    rw [decide_eq_false hq] at nm
    refine ⟨[x0, .sh (pD xs), .sh (pD w'), .ow ((ps ++ [g]).map pD), .sh (.int (i : Int)), .sh (pD g), y, .no, .no, .no], ?_, w', ps ++ [g], n + m, _, _, _, rfl, s, by omega, by simp; omega, ?_⟩
    · rw [List.map_append, List.map_singleton]
      simp [b_law_2, ml, hc, fo, ix, mo, hm, rg, e, nm, onOw, fl, -List.length_map]
    · rw [List.nodup_append]
      exact ⟨hd, by simp, fun a ha b hb z => by simp at hb; subst hb; subst z; exact hq ha⟩
theorem due_ok {ps : List (List Int)} (h : ∀ f ∈ ps, Fct f) (hn : ps.Nodup) (hl : ps.length ≤ 4) (x0 x1 x2 x3 x4 x5 x6 : SD) : ∃ y5, forO (gTo (gSet 5) b_law_3) (ps.map pD) [x0, x1, x2, x3, x4, x5, x6, .sh (pD [1]), .no, .no] = .nx [x0, x1, x2, x3, x4, y5, x6, .sh (pD (prodP ps)), .no, .no] := by
  obtain ⟨ρ', e, y, rfl⟩ := forO_inv (F := gTo (gSet 5) b_law_3) (l := ps.map pD) (fun i ρ => ∃ y, ρ = [x0, x1, x2, x3, x4, y, x6, .sh (pD (prodP (ps.take i))), .no, .no]) (ρ := [x0, x1, x2, x3, x4, x5, x6, .sh (pD [1]), .no, .no]) ⟨x5, rfl⟩ fun i d ρ hd hi => by
    obtain ⟨y, rfl⟩ := hi
    rw [List.getElem?_map] at hd
    obtain ⟨g, hg, rfl⟩ := Option.map_eq_some_iff.mp hd
    have gm := List.mem_of_getElem? hg
    have hlt := (List.getElem?_eq_some_iff.mp hg).1
    have tk : ps.take (i + 1) = ps.take i ++ [g] := by rw [List.take_add_one, hg]; rfl
    have hs := sf_due (ps := ps.take i) (fun f hf => h f (List.mem_of_mem_take hf)) (hn.sublist (List.take_sublist _ _))
    have tl : (ps.take i).length ≤ 4 := by rw [List.length_take]; omega
    have lm := lmultiply_ok (b6_lit hs.bd (by decide) (by omega)) (h g gm).sz (by decide) (by have := hs.ln; omega) (by have := (h g gm).len; omega) hs.tr (h g gm).mon.tr
    refine ⟨_, .inl ?_, .sh (pD g), rfl⟩
    rw [tk, prod_snoc]
    simp [b_law_3, lm]
  rw [List.length_map, List.take_length] at e
  exact ⟨y, e⟩
theorem main6 {xs : List Int} (hx : IsDraws 20 xs) {c : Int} (c0 : c ≠ 0) (c9 : c.natAbs ≤ 9) (x0 : SD) : ∃ ps : List (List Int), ∃ w y3 y4 y5 y6, forO (gTo (gSet 4) b_law_2) (rngL 0 1 ((gI xs 18).fmod 5).toNat) [x0, .sh (pD xs), .sh (pD [c]), .ow [], .no, .no, .no, .no, .no, .no] = .nx [x0, .sh (pD xs), .sh (pD w), .ow (ps.map pD), y4, y5, y6, .no, .no, .no] ∧ y3 = (.no : SD) ∧ m_square_free [pD w] = .ok (.ow ((prodP ps).map .int)) ∧ m_square_free [pD (prodP ps)] = .ok (.ow ((prodP ps).map .int)) ∧ (∀ f ∈ ps, Fct f) ∧ ps.Nodup ∧ ps.length ≤ 4 ∧ Mon (prodP ps) ∧ (prodP ps).length ≤ 9 ∧ w.length ≤ 100 := by
  obtain ⟨b0, b1⟩ := fmod_rng (a := gI xs 18) (b := 5) (by decide)
  obtain ⟨ρ', e, w, ps, n, y4, y5, y6, rfl, hs, hn, hp, hd⟩ := forO_inv (F := gTo (gSet 4) b_law_2) (l := rngL 0 1 ((gI xs 18).fmod 5).toNat) (St6 x0 xs c) (ρ := [x0, .sh (pD xs), .sh (pD [c]), .ow [], .no, .no, .no, .no, .no, .no]) ⟨[c], [], 0, _, _, _, rfl, sf_start c0, by omega, by simp, by simp⟩ fun i d ρ hd hi => by
    obtain ⟨hi', rfl⟩ := rng0_get hd
    obtain ⟨ρ', e, h⟩ := step6 hx c9 (by omega) hi
    exact ⟨ρ', .inl e, h⟩
  rw [rngL_length] at hn hp
  have p4 : ps.length ≤ 4 := by omega
  have s2 := sf_due hs.fct hd
  have pl := hs.pb.2
  have wl := hs.ln
  exact ⟨ps, w, _, y4, y5, y6, e, rfl, sqf_ok hs c0 c9 (by omega) p4, sqf_ok s2 (by decide) (by decide) (by omega) p4, hs.fct, hd, p4, hs.mon, by omega, by omega⟩
theorem law_true (ns : List Int) (hn : ns.length ≤ 63) (hb : ∀ z ∈ ns, Builtin.Int.intBits z ≤ 1048576) : m_law [.list (ns.map .int)] = .ok (.sh (.bool true)) := by
  obtain ⟨xs, e, hx⟩ := draws_p ns hn hb 20 20 rfl (by decide)
  have ix : ∀ n : Nat, n < 20 → ixD (pD xs) (.int (n : Int)) = some (.int (gI xs n)) := fun n h => p_ixc (n := n) (by rw [hx.len]; omega)
  have i16 : ixD (pD xs) (.int 16) = some (.int (gI xs 16)) := ix 16 (by decide)
  have i17 : ixD (pD xs) (.int 17) = some (.int (gI xs 17)) := ix 17 (by decide)
  have i18 : ixD (pD xs) (.int 18) = some (.int (gI xs 18)) := ix 18 (by decide)
  obtain ⟨a0, a1⟩ := fmod_rng (a := gI xs 16) (b := 9) (by decide)
  obtain ⟨b0, b1⟩ := fmod_rng (a := gI xs 17) (b := 2) (by decide)
  obtain ⟨d0, d1⟩ := fmod_rng (a := gI xs 18) (b := 5) (by decide)
  have m9 : modD (.int (gI xs 16)) (.int 9) = some (.int ((gI xs 16).fmod 9)) := r_mod (by decide)
  have m2 : modD (.int (gI xs 17)) (.int 2) = some (.int ((gI xs 17).fmod 2)) := r_mod (by decide)
  have m5 : modD (.int (gI xs 18)) (.int 5) = some (.int ((gI xs 18).fmod 5)) := r_mod (by decide)
  have rg := range1_ok (x := (gI xs 18).fmod 5) (by omega) (by omega)
  have eL : PyData.list [.int 1] = pD [1] := rfl
  have fin : ∀ c : Int, c ≠ 0 → c.natAbs ≤ 9 → b_law_4 [.sh (pD ns), .sh (pD xs), .sh (pD [c]), .no, .no, .no, .no, .no, .no, .no] = .rt (.sh (.bool true)) := fun c c0 c9 => by
    obtain ⟨ps, w, _, y4, y5, y6, f1, _, f2, f3, f4, f5, f6, f7, f8, f9⟩ := main6 hx c0 c9 (.sh (pD ns))
    have du := fun x0 x1 x2 x3 x4 x5 x6 => due_ok f4 f5 f6 x0 x1 x2 x3 x4 x5 x6
    obtain ⟨z5, du⟩ := du (.sh (pD ns)) (.sh (pD xs)) (.sh (pD w)) (.sh (.list (ps.map pD))) y4 y5 y6
    have ip := lis_poly_ok f7.tr (by omega)
    have lo : listO [pD w] = some (w.map .int) := by unfold pD; exact r_listO
    have lw : w.length ≤ sizeLine := slB (by omega)
    have n1 : ∀ p : List Int, neD (pD p) (pD p) = some (.bool false) := fun p => by rw [p_ne]; simp
    have q1 : ∀ p : List Int, eqD (pD p) (pD p) = some (.bool true) := fun p => by rw [p_eq]; simp
    generalize prodP ps = P at *
    generalize ps.map pD = PS at *
    simp [b_law_4, i18, m5, rg, f1, eL, du, lo, lw, f2, f3, ip, n1, q1]
  show m_law [pD ns] = _
  have eC : ∀ c : Int, PyData.list [.int c] = pD [c] := fun _ => rfl
  have i0 : ∀ c : Int, ixD (pD [c]) (.int 0) = some (.int c) := fun c => p_ixc (l := [c]) (n := 0) (by simp)
  by_cases c : (gI xs 17).fmod 2 = 1
  · have h := fin (-(1 + (gI xs 16).fmod 9)) (by omega) (by omega)
    simp [m_law, c_law, e, i16, i17, m9, m2, c, eC, i0, h]
  · have h := fin (1 + (gI xs 16).fmod 9) (by omega) (by omega)
    simp [m_law, c_law, e, i16, i17, m9, m2, c, eC, i0, h]
end W

namespace W
open PySem PySem.Spec PyProof.Rows L2 VL
def topS (i : Nat) : Stmt := PySem.Challenge.pw_wheretrue_k06_square_free_parts.main.body.getD i (.Pass ⟨0, 0, 0, 0⟩)
/-! _law_draws -/
abbrev ws__law_draws : Stmt := topS 20
abbrev wN__law_draws : List Str := ["_law_script", "_law_count", "_law_rests", "_law_cell", "_law_draws_here", "_law_k", "_law_value", "_law_at_here", "_law_mixed"]
theorem wsc__law_draws : FnScope wN__law_draws ["_law_script", "_law_count"] (defScope ws__law_draws) := ⟨rfl, rfl, rfl, by decide +kernel, rfl, by decide +kernel, by decide +kernel⟩
theorem wd__law_draws {P : Program} {w : World} {K : Fg} {mg : Str → Option Value} {base : Heap} (Fn : Df K mg "_law_draws" ws__law_draws ["_law_script", "_law_count"]) (z_range : mg "range" = none) (z_len : mg "len" = none) (z_int : mg "int" = none) : Cl P w K mg base 1 "_law_draws" ["_law_script", "_law_count"] m__law_draws :=
  cl_ok Fn wsc__law_draws fun f cdv A outer s H E I => by
    unfold c__law_draws b__law_draws_1
    exact (vss_cons (vs_compO (own := [("_law_cell", 3)]) (ts := [3]) (i := 2) rfl wsc__law_draws.nd rfl rfl (sw_true rfl rfl rfl (by decide +kernel)) (vi_seq (ve_var 0 (pv 0))) (blkOk_by (N := wN__law_draws) (sc := defScope ws__law_draws) (by decide +kernel)) (fun _ _ _ _ _ => vg_name (pg_name (i := 3) wsc__law_draws.nd rfl (by first | exact Or.inl rfl | exact Or.inr rfl))) (fun _ _ _ _ _ => vts_nil) (fun _ _ _ _ _ => ve_var 3 (pv 3))) (vss_cons (vs_setO (i := 4) wsc__law_draws.nd rfl (by first | exact Or.inl rfl | exact Or.inr rfl) (vo_lst (va_nil))) (vss_cons (vs_for I.hp rfl (vi_range1 rfl z_range (vap_cons (vp_var 1 (pv 1)) (vap_nil))) (vg_name (pg_name (i := 5) wsc__law_draws.nd rfl (by first | exact Or.inl rfl | exact Or.inr rfl))) (vss_cons (vs_set (i := 6) wsc__law_draws.nd rfl (by first | exact Or.inl rfl | exact Or.inr rfl) (ve_int)) (vss_cons (vs_if (t_cmp d_gt (VE.vp (v_blt c_len rfl z_len b_len (vap_cons (vp_var 2 (pv 2)) (vap_nil)))) (VE.vp (ve_int))) (vss_cons (vs_set (i := 7) wsc__law_draws.nd rfl (by first | exact Or.inl rfl | exact Or.inr rfl) (v_op d_mod (VE.vp (v_typ c_int rfl z_int b_int (vap_cons (vp_var 5 (pv 5)) (vap_nil)))) (VE.vp (v_blt c_len rfl z_len b_len (vap_cons (vp_var 2 (pv 2)) (vap_nil)))))) (vss_one (vs_if (t_cmp d_ge (VE.vp (v_ix d_ix (vp_var 2 (pv 2)) (vp_var 7 (pv 7)))) (VE.vp (v_op d_pow (VE.vp (ve_int)) (VE.vp (ve_int))))) (vss_cons (vs_set (i := 6) wsc__law_draws.nd rfl (by first | exact Or.inl rfl | exact Or.inr rfl) (v_op d_mod (VE.vp (v_typ c_int rfl z_int b_int (vap_cons (VE.vp (v_ix d_ix (vp_var 2 (pv 2)) (vp_var 7 (pv 7)))) (vap_nil)))) (VE.vp (ve_int)))) (vss_one (vs_store 2 (pv 2) (ve_var 7 (pv 7)) (v_op d_fdiv (VE.vp (v_ix d_ix (vp_var 2 (pv 2)) (vp_var 7 (pv 7)))) (VE.vp (ve_int)))))) (vss_cons (vs_set (i := 8) wsc__law_draws.nd rfl (by first | exact Or.inl rfl | exact Or.inr rfl) (v_op d_mod (VE.vp (v_typ c_int rfl z_int b_int (vap_cons (VE.vp (v_op d_add (VE.vp (v_op d_add (VE.vp (v_op d_mul (VE.vp (v_ix d_ix (vp_var 2 (pv 2)) (vp_var 7 (pv 7)))) (VE.vp (ve_int)))) (VE.vp (v_op d_mul (vp_var 5 (pv 5)) (VE.vp (ve_int)))))) (VE.vp (ve_int)))) (vap_nil)))) (VE.vp (ve_int)))) (vss_cons (vs_set (i := 8) wsc__law_draws.nd rfl (by first | exact Or.inl rfl | exact Or.inr rfl) (v_op d_mod (VE.vp (v_typ c_int rfl z_int b_int (vap_cons (VE.vp (v_op d_add (VE.vp (v_op d_mul (vp_var 8 (pv 8)) (VE.vp (ve_int)))) (vp_var 7 (pv 7)))) (vap_nil)))) (VE.vp (ve_int)))) (vss_one (vs_set (i := 6) wsc__law_draws.nd rfl (by first | exact Or.inl rfl | exact Or.inr rfl) (v_op d_mod (VE.vp (v_typ c_int rfl z_int b_int (vap_cons (VE.vp (v_op d_fdiv (vp_var 8 (pv 8)) (VE.vp (ve_int)))) (vap_nil)))) (VE.vp (ve_int)))))))))) (vss_nil)) (vss_one (vs_app 4 (pv 4) (ve_var 6 (pv 6))))))) (vss_one (vs_retV 4 (pv 4))))))
/-! content -/
abbrev ws_content : Stmt := topS 12
abbrev wN_content : List Str := ["a", "found", "coefficient"]
theorem wsc_content : FnScope wN_content ["a"] (defScope ws_content) := ⟨rfl, rfl, rfl, by decide +kernel, rfl, by decide +kernel, by decide +kernel⟩
theorem wd_content {P : Program} {w : World} {K : Fg} {mg : Str → Option Value} {base : Heap} (Fn : Df K mg "content" ws_content ["a"]) (G_gcd : mg "gcd" = some (.builtin "math.gcd")) : Cl P w K mg base 1 "content" ["a"] m_content :=
  cl_ok Fn wsc_content fun f cdv A outer s H E I => by
    unfold c_content b_content_1
    exact (vss_cons (vs_set (i := 1) wsc_content.nd rfl (by first | exact Or.inl rfl | exact Or.inr rfl) (ve_int)) (vss_cons (vs_for I.hp rfl (vi_seq (ve_var 0 (pv 0))) (vg_name (pg_name (i := 2) wsc_content.nd rfl (by first | exact Or.inl rfl | exact Or.inr rfl))) (vss_one (vs_set (i := 1) wsc_content.nd rfl (by first | exact Or.inl rfl | exact Or.inr rfl) (v_fun c_gcd rfl G_gcd (vap_cons (vp_var 1 (pv 1)) (vap_cons (vp_var 2 (pv 2)) (vap_nil))))))) (vss_one (vs_ret (ve_var 1 (pv 1))))))
/-! plain -/
abbrev ws_plain : Stmt := topS 13
abbrev wN_plain : List Str := ["a", "common", "coefficient"]
theorem wsc_plain : FnScope wN_plain ["a"] (defScope ws_plain) := ⟨rfl, rfl, rfl, by decide +kernel, rfl, by decide +kernel, by decide +kernel⟩
theorem wd_plain {P : Program} {w : World} {K : Fg} {mg : Str → Option Value} {base : Heap} (Fn : Df K mg "plain" ws_plain ["a"]) (C_content : Cl P w K mg base 1 "content" ["a"] m_content) : Cl P w K mg base 2 "plain" ["a"] m_plain :=
  cl_ok Fn wsc_plain fun f cdv A outer s H E I => by
    unfold c_plain
    exact (vss_cons (vs_if (vt_not (t_tru (vp_var 0 (pv 0)))) (vss_one (vs_retO (vo_lst (va_nil)))) (vss_nil)) (vss_cons (vs_set (i := 1) wsc_plain.nd rfl (by first | exact Or.inl rfl | exact Or.inr rfl) (v_calC C_content I.hr I.gd I.tk (va_cons (ve_var 0 (pv 0)) (va_nil)))) (vss_cons (vs_if (t_cmp d_lt (VE.vp (v_ix d_ix (vp_var 0 (pv 0)) (VE.vp (v_un d_neg (VE.vp (ve_int)))))) (VE.vp (ve_int))) (vss_one (vs_set (i := 1) wsc_plain.nd rfl (by first | exact Or.inl rfl | exact Or.inr rfl) (v_un d_neg (vp_var 1 (pv 1))))) (vss_nil)) (vss_one (vs_retO (vo_comp (own := [("coefficient", 2)]) (ts := [2]) rfl wsc_plain.nd (vi_seq (ve_var 0 (pv 0))) (blkOk_by (N := wN_plain) (sc := defScope ws_plain) (by decide +kernel)) (fun _ _ _ _ _ => vg_name (pg_name (i := 2) wsc_plain.nd rfl (by first | exact Or.inl rfl | exact Or.inr rfl))) (fun _ _ _ _ _ => vts_nil) (fun _ _ _ _ _ => v_op d_fdiv (vp_var 2 (pv 2)) (vp_var 1 (pv 1)))))))))
/-! number -/
abbrev ws_number : Stmt := topS 2
abbrev wN_number : List Str := ["n", "d", "common"]
theorem wsc_number : FnScope wN_number ["n", "d"] (defScope ws_number) := ⟨rfl, rfl, rfl, by decide +kernel, rfl, by decide +kernel, by decide +kernel⟩
theorem wd_number {P : Program} {w : World} {K : Fg} {mg : Str → Option Value} {base : Heap} (Fn : Df K mg "number" ws_number ["n", "d"]) (G_gcd : mg "gcd" = some (.builtin "math.gcd")) : Cl P w K mg base 1 "number" ["n", "d"] m_number :=
  cl_ok Fn wsc_number fun f cdv A outer s H E I => by
    unfold c_number
    exact (vss_cons (vs_if (t_cmp d_lt (vp_var 1 (pv 1)) (VE.vp (ve_int))) (vss_one (vs_par (i := 0) (j := 1) rfl wsc_number.nd rfl rfl (by decide) rfl rfl (va_cons (v_un d_neg (vp_var 0 (pv 0))) (va_cons (v_un d_neg (vp_var 1 (pv 1))) (va_nil))) (by rfl))) (vss_nil)) (vss_cons (vs_set (i := 2) wsc_number.nd rfl (by first | exact Or.inl rfl | exact Or.inr rfl) (v_fun c_gcd rfl G_gcd (vap_cons (vp_var 0 (pv 0)) (vap_cons (vp_var 1 (pv 1)) (vap_nil))))) (vss_one (vs_ret (ve_tup (va_cons (v_op d_fdiv (vp_var 0 (pv 0)) (vp_var 2 (pv 2))) (va_cons (v_op d_fdiv (vp_var 1 (pv 1)) (vp_var 2 (pv 2))) (va_nil))))))))
/-! times -/
abbrev ws_times : Stmt := topS 4
abbrev wN_times : List Str := ["a", "b"]
theorem wsc_times : FnScope wN_times ["a", "b"] (defScope ws_times) := ⟨rfl, rfl, rfl, by decide +kernel, rfl, by decide +kernel, by decide +kernel⟩
theorem wd_times {P : Program} {w : World} {K : Fg} {mg : Str → Option Value} {base : Heap} (Fn : Df K mg "times" ws_times ["a", "b"]) (C_number : Cl P w K mg base 1 "number" ["n", "d"] m_number) : Cl P w K mg base 2 "times" ["a", "b"] m_times :=
  cl_ok Fn wsc_times fun f cdv A outer s H E I => by
    unfold c_times
    exact (vss_one (vs_ret (v_calC C_number I.hr I.gd I.tk (va_cons (v_op d_mul (VE.vp (v_ix d_ix (vp_var 0 (pv 0)) (VE.vp (ve_int)))) (VE.vp (v_ix d_ix (vp_var 1 (pv 1)) (VE.vp (ve_int))))) (va_cons (v_op d_mul (VE.vp (v_ix d_ix (vp_var 0 (pv 0)) (VE.vp (ve_int)))) (VE.vp (v_ix d_ix (vp_var 1 (pv 1)) (VE.vp (ve_int))))) (va_nil))))))
/-! plus -/
abbrev ws_plus : Stmt := topS 3
abbrev wN_plus : List Str := ["a", "b"]
theorem wsc_plus : FnScope wN_plus ["a", "b"] (defScope ws_plus) := ⟨rfl, rfl, rfl, by decide +kernel, rfl, by decide +kernel, by decide +kernel⟩
theorem wd_plus {P : Program} {w : World} {K : Fg} {mg : Str → Option Value} {base : Heap} (Fn : Df K mg "plus" ws_plus ["a", "b"]) (C_number : Cl P w K mg base 1 "number" ["n", "d"] m_number) : Cl P w K mg base 2 "plus" ["a", "b"] m_plus :=
  cl_ok Fn wsc_plus fun f cdv A outer s H E I => by
    unfold c_plus
    exact (vss_one (vs_ret (v_calC C_number I.hr I.gd I.tk (va_cons (v_op d_add (VE.vp (v_op d_mul (VE.vp (v_ix d_ix (vp_var 0 (pv 0)) (VE.vp (ve_int)))) (VE.vp (v_ix d_ix (vp_var 1 (pv 1)) (VE.vp (ve_int)))))) (VE.vp (v_op d_mul (VE.vp (v_ix d_ix (vp_var 1 (pv 1)) (VE.vp (ve_int)))) (VE.vp (v_ix d_ix (vp_var 0 (pv 0)) (VE.vp (ve_int))))))) (va_cons (v_op d_mul (VE.vp (v_ix d_ix (vp_var 0 (pv 0)) (VE.vp (ve_int)))) (VE.vp (v_ix d_ix (vp_var 1 (pv 1)) (VE.vp (ve_int))))) (va_nil))))))
/-! quotient -/
abbrev ws_quotient : Stmt := topS 17
abbrev wN_quotient : List Str := ["a", "b", "rest", "coefficient", "found", "by", "factor", "k", "measure", "top", "under"]
theorem wsc_quotient : FnScope wN_quotient ["a", "b"] (defScope ws_quotient) := ⟨rfl, rfl, rfl, by decide +kernel, rfl, by decide +kernel, by decide +kernel⟩
theorem wd_quotient {P : Program} {w : World} {K : Fg} {mg : Str → Option Value} {base : Heap} (Fn : Df K mg "quotient" ws_quotient ["a", "b"]) (C_number : Cl P w K mg base 1 "number" ["n", "d"] m_number) (C_times : Cl P w K mg base 2 "times" ["a", "b"] m_times) (C_plus : Cl P w K mg base 2 "plus" ["a", "b"] m_plus) (C_plain : Cl P w K mg base 2 "plain" ["a"] m_plain) (z_range : mg "range" = none) (z_len : mg "len" = none) (z_enumerate : mg "enumerate" = none) (G_gcd : mg "gcd" = some (.builtin "math.gcd")) : Cl P w K mg base 3 "quotient" ["a", "b"] m_quotient :=
  cl_ok Fn wsc_quotient fun f cdv A outer s H E I => by
    unfold c_quotient b_quotient_3 b_quotient_2 b_quotient_1
    exact (vss_cons (vs_compO (own := [("coefficient", 3)]) (ts := [3]) (i := 2) rfl wsc_quotient.nd rfl rfl (sw_true rfl rfl rfl (by decide +kernel)) (vi_seq (ve_var 0 (pv 0))) (blkOk_by (N := wN_quotient) (sc := defScope ws_quotient) (by decide +kernel)) (fun _ _ _ _ _ => vg_name (pg_name (i := 3) wsc_quotient.nd rfl (by first | exact Or.inl rfl | exact Or.inr rfl))) (fun _ _ _ _ _ => vts_nil) (fun _ _ _ _ _ => v_calC C_number I.hr I.gd takes0 (va_cons (ve_var 3 (pv 3)) (va_cons (ve_int) (va_nil))))) (vss_cons (vs_setO (i := 4) wsc_quotient.nd rfl (by first | exact Or.inl rfl | exact Or.inr rfl) (vo_lst (va_nil))) (vss_cons (vs_for I.hp rfl (vi_range3 rfl z_range (vap_cons (VE.vp (v_op d_sub (VE.vp (v_blt c_len rfl z_len b_len (vap_cons (vp_var 0 (pv 0)) (vap_nil)))) (VE.vp (v_blt c_len rfl z_len b_len (vap_cons (vp_var 1 (pv 1)) (vap_nil)))))) (vap_cons (VE.vp (v_un d_neg (VE.vp (ve_int)))) (vap_cons (VE.vp (v_un d_neg (VE.vp (ve_int)))) (vap_nil))))) (vg_name (pg_name (i := 5) wsc_quotient.nd rfl (by first | exact Or.inl rfl | exact Or.inr rfl))) (vss_cons (vs_set (i := 6) wsc_quotient.nd rfl (by first | exact Or.inl rfl | exact Or.inr rfl) (v_calC C_times I.hr I.gd I.tk (va_cons (v_ix d_ix (vp_var 2 (pv 2)) (VE.vp (v_op d_sub (VE.vp (v_op d_add (vp_var 5 (pv 5)) (VE.vp (v_blt c_len rfl z_len b_len (vap_cons (vp_var 1 (pv 1)) (vap_nil)))))) (VE.vp (ve_int))))) (va_cons (v_calC C_number I.hr I.gd I.tk (va_cons (ve_int) (va_cons (v_ix d_ix (vp_var 1 (pv 1)) (VE.vp (v_un d_neg (VE.vp (ve_int))))) (va_nil)))) (va_nil))))) (vss_cons (vs_app 4 (pv 4) (ve_var 6 (pv 6))) (vss_one (vs_for I.hp rfl (vi_enum rfl z_enumerate (va_cons (ve_var 1 (pv 1)) (va_nil))) (vg_tup rfl (vgs_cons (vg_name (pg_name (i := 7) wsc_quotient.nd rfl (by first | exact Or.inl rfl | exact Or.inr rfl))) (vgs_cons (vg_name (pg_name (i := 3) wsc_quotient.nd rfl (by first | exact Or.inl rfl | exact Or.inr rfl))) (vgs_nil)))) (vss_one (vs_store 2 (pv 2) (v_op d_add (vp_var 5 (pv 5)) (vp_var 7 (pv 7))) (v_calC C_plus I.hr I.gd I.tk (va_cons (v_ix d_ix (vp_var 2 (pv 2)) (VE.vp (v_op d_add (vp_var 5 (pv 5)) (vp_var 7 (pv 7))))) (va_cons (v_calC C_times I.hr I.gd I.tk (va_cons (ve_var 6 (pv 6)) (va_cons (ve_tup (va_cons (v_un d_neg (vp_var 3 (pv 3))) (va_cons (ve_int) (va_nil)))) (va_nil)))) (va_nil))))))))))) (vss_cons (vs_set (i := 8) wsc_quotient.nd rfl (by first | exact Or.inl rfl | exact Or.inr rfl) (ve_int)) (vss_cons (vs_fz 4 (vs_for I.hp rfl (vi_seq (ve_var 4 (pv 4))) (vg_tup rfl (vgs_cons (vg_name (pg_name (i := 9) wsc_quotient.nd rfl (by first | exact Or.inl rfl | exact Or.inr rfl))) (vgs_cons (vg_name (pg_name (i := 10) wsc_quotient.nd rfl (by first | exact Or.inl rfl | exact Or.inr rfl))) (vgs_nil)))) (vss_one (vs_set (i := 8) wsc_quotient.nd rfl (by first | exact Or.inl rfl | exact Or.inr rfl) (v_op d_fdiv (VE.vp (v_op d_mul (vp_var 8 (pv 8)) (vp_var 10 (pv 10)))) (VE.vp (v_fun c_gcd rfl G_gcd (vap_cons (vp_var 8 (pv 8)) (vap_cons (vp_var 10 (pv 10)) (vap_nil)))))))))) (vss_one (vs_retO (v_calCO C_plain I.hr I.gd I.tk (va_cons (VO.ve (vo_comp (own := [("top", 9), ("under", 10)]) (ts := [9, 10]) rfl wsc_quotient.nd (vi_seq (VO.ve (v_revO (vp_var 4 (pv 4))))) (blkOk_by (N := wN_quotient) (sc := defScope ws_quotient) (by decide +kernel)) (fun _ _ _ _ _ => vg_tup rfl (vgs_cons (vg_name (pg_name (i := 9) wsc_quotient.nd rfl (by first | exact Or.inl rfl | exact Or.inr rfl))) (vgs_cons (vg_name (pg_name (i := 10) wsc_quotient.nd rfl (by first | exact Or.inl rfl | exact Or.inr rfl))) (vgs_nil)))) (fun _ _ _ _ _ => vts_nil) (fun _ _ _ _ _ => v_op d_mul (vp_var 9 (pv 9)) (VE.vp (v_op d_fdiv (vp_var 8 (pv 8)) (vp_var 10 (pv 10))))))) (va_nil))))))))))
/-! coefficient_of -/
abbrev ws_coefficient_of : Stmt := topS 7
abbrev wN_coefficient_of : List Str := ["a", "power"]
theorem wsc_coefficient_of : FnScope wN_coefficient_of ["a", "power"] (defScope ws_coefficient_of) := ⟨rfl, rfl, rfl, by decide +kernel, rfl, by decide +kernel, by decide +kernel⟩
theorem wd_coefficient_of {P : Program} {w : World} {K : Fg} {mg : Str → Option Value} {base : Heap} (Fn : Df K mg "coefficient_of" ws_coefficient_of ["a", "power"]) (z_len : mg "len" = none) : Cl P w K mg base 1 "coefficient_of" ["a", "power"] m_coefficient_of :=
  cl_ok Fn wsc_coefficient_of fun f cdv A outer s H E I => by
    unfold c_coefficient_of
    exact (vss_one (vs_ret (ve_ifExp (t_cmp d_lt (vp_var 1 (pv 1)) (VE.vp (v_blt c_len rfl z_len b_len (vap_cons (vp_var 0 (pv 0)) (vap_nil))))) (v_ix d_ix (vp_var 0 (pv 0)) (vp_var 1 (pv 1))) (ve_int))))
/-! trimmed -/
abbrev ws_trimmed : Stmt := topS 6
abbrev wN_trimmed : List Str := ["coefficients", "many"]
theorem wsc_trimmed : FnScope wN_trimmed ["coefficients"] (defScope ws_trimmed) := ⟨rfl, rfl, rfl, by decide +kernel, rfl, by decide +kernel, by decide +kernel⟩
theorem wd_trimmed {P : Program} {w : World} {K : Fg} {mg : Str → Option Value} {base : Heap} (Fn : Df K mg "trimmed" ws_trimmed ["coefficients"]) (z_len : mg "len" = none) : Cl P w K mg base 1 "trimmed" ["coefficients"] m_trimmed :=
  cl_ok Fn wsc_trimmed fun f cdv A outer s H E I => by
    unfold c_trimmed b_trimmed_1
    exact (vss_cons (vs_set (i := 1) wsc_trimmed.nd rfl (by first | exact Or.inl rfl | exact Or.inr rfl) (v_blt c_len rfl z_len b_len (vap_cons (vp_var 0 (pv 0)) (vap_nil)))) (vss_cons (vs_while I.hp (VW.vt (vw_and (t_cmp d_gt (vp_var 1 (pv 1)) (VE.vp (ve_int))) (vw_and1 (t_cmp (d_eq I.hr.units) (VE.vp (v_ix d_ix (vp_var 0 (pv 0)) (VE.vp (v_op d_sub (vp_var 1 (pv 1)) (VE.vp (ve_int)))))) (VE.vp (ve_int)))))) (vss_one (vs_aug (i := 1) wsc_trimmed.nd rfl (by first | exact Or.inl rfl | exact Or.inr rfl) (VE.vp (ve_int)) dip_sub))) (vss_one (vs_ret (v_slice (vp_var 0 (pv 0)) (vpo_none) (vpo_some (ve_var 1 (pv 1))))))))
/-! add -/
abbrev ws_add : Stmt := topS 8
abbrev wN_add : List Str := ["a", "b", "many", "k"]
theorem wsc_add : FnScope wN_add ["a", "b"] (defScope ws_add) := ⟨rfl, rfl, rfl, by decide +kernel, rfl, by decide +kernel, by decide +kernel⟩
theorem wd_add {P : Program} {w : World} {K : Fg} {mg : Str → Option Value} {base : Heap} (Fn : Df K mg "add" ws_add ["a", "b"]) (C_trimmed : Cl P w K mg base 1 "trimmed" ["coefficients"] m_trimmed) (C_coefficient_of : Cl P w K mg base 1 "coefficient_of" ["a", "power"] m_coefficient_of) (z_max : mg "max" = none) (z_len : mg "len" = none) (z_range : mg "range" = none) : Cl P w K mg base 2 "add" ["a", "b"] m_add :=
  cl_ok Fn wsc_add fun f cdv A outer s H E I => by
    unfold c_add
    exact (vss_cons (vs_set (i := 2) wsc_add.nd rfl (by first | exact Or.inl rfl | exact Or.inr rfl) (v_blt (c_max rfl) rfl z_max b_max (vap_cons (VE.vp (v_blt c_len rfl z_len b_len (vap_cons (vp_var 0 (pv 0)) (vap_nil)))) (vap_cons (VE.vp (v_blt c_len rfl z_len b_len (vap_cons (vp_var 1 (pv 1)) (vap_nil)))) (vap_nil))))) (vss_one (vs_ret (v_calC C_trimmed I.hr I.gd I.tk (va_cons (VO.ve (vo_comp (own := [("k", 3)]) (ts := [3]) rfl wsc_add.nd (vi_range1 rfl z_range (vap_cons (vp_var 2 (pv 2)) (vap_nil))) (blkOk_by (N := wN_add) (sc := defScope ws_add) (by decide +kernel)) (fun _ _ _ _ _ => vg_name (pg_name (i := 3) wsc_add.nd rfl (by first | exact Or.inl rfl | exact Or.inr rfl))) (fun _ _ _ _ _ => vts_nil) (fun _ _ _ _ _ => v_op d_add (VE.vp (v_calC C_coefficient_of I.hr I.gd takes0 (va_cons (ve_var 0 (pv 0)) (va_cons (ve_var 3 (pv 3)) (va_nil))))) (VE.vp (v_calC C_coefficient_of I.hr I.gd takes0 (va_cons (ve_var 1 (pv 1)) (va_cons (ve_var 3 (pv 3)) (va_nil)))))))) (va_nil))))))
/-! scale -/
abbrev ws_scale : Stmt := topS 9
abbrev wN_scale : List Str := ["a", "factor", "coefficient"]
theorem wsc_scale : FnScope wN_scale ["a", "factor"] (defScope ws_scale) := ⟨rfl, rfl, rfl, by decide +kernel, rfl, by decide +kernel, by decide +kernel⟩
theorem wd_scale {P : Program} {w : World} {K : Fg} {mg : Str → Option Value} {base : Heap} (Fn : Df K mg "scale" ws_scale ["a", "factor"]) (C_trimmed : Cl P w K mg base 1 "trimmed" ["coefficients"] m_trimmed) : Cl P w K mg base 2 "scale" ["a", "factor"] m_scale :=
  cl_ok Fn wsc_scale fun f cdv A outer s H E I => by
    unfold c_scale
    exact (vss_one (vs_ret (v_calC C_trimmed I.hr I.gd I.tk (va_cons (VO.ve (vo_comp (own := [("coefficient", 2)]) (ts := [2]) rfl wsc_scale.nd (vi_seq (ve_var 0 (pv 0))) (blkOk_by (N := wN_scale) (sc := defScope ws_scale) (by decide +kernel)) (fun _ _ _ _ _ => vg_name (pg_name (i := 2) wsc_scale.nd rfl (by first | exact Or.inl rfl | exact Or.inr rfl))) (fun _ _ _ _ _ => vts_nil) (fun _ _ _ _ _ => v_op d_mul (vp_var 2 (pv 2)) (vp_var 1 (pv 1))))) (va_nil)))))
/-! subtract -/
abbrev ws_subtract : Stmt := topS 10
abbrev wN_subtract : List Str := ["a", "b"]
theorem wsc_subtract : FnScope wN_subtract ["a", "b"] (defScope ws_subtract) := ⟨rfl, rfl, rfl, by decide +kernel, rfl, by decide +kernel, by decide +kernel⟩
theorem wd_subtract {P : Program} {w : World} {K : Fg} {mg : Str → Option Value} {base : Heap} (Fn : Df K mg "subtract" ws_subtract ["a", "b"]) (C_add : Cl P w K mg base 2 "add" ["a", "b"] m_add) (C_scale : Cl P w K mg base 2 "scale" ["a", "factor"] m_scale) : Cl P w K mg base 3 "subtract" ["a", "b"] m_subtract :=
  cl_ok Fn wsc_subtract fun f cdv A outer s H E I => by
    unfold c_subtract
    exact (vss_one (vs_ret (v_calC C_add I.hr I.gd I.tk (va_cons (ve_var 0 (pv 0)) (va_cons (v_calC C_scale I.hr I.gd I.tk (va_cons (ve_var 1 (pv 1)) (va_cons (v_un d_neg (VE.vp (ve_int))) (va_nil)))) (va_nil))))))
/-! shifted -/
abbrev ws_shifted : Stmt := topS 14
abbrev wN_shifted : List Str := ["a", "by"]
theorem wsc_shifted : FnScope wN_shifted ["a", "by"] (defScope ws_shifted) := ⟨rfl, rfl, rfl, by decide +kernel, rfl, by decide +kernel, by decide +kernel⟩
theorem wd_shifted {P : Program} {w : World} {K : Fg} {mg : Str → Option Value} {base : Heap} (Fn : Df K mg "shifted" ws_shifted ["a", "by"]) : Cl P w K mg base 1 "shifted" ["a", "by"] m_shifted :=
  cl_ok Fn wsc_shifted fun f cdv A outer s H E I => by
    unfold c_shifted
    exact (vss_one (vs_ret (ve_ifExp (t_tru (vp_var 0 (pv 0))) (v_op d_add (VE.vp (v_op d_mul (VE.vp (VO.ve (vo_lst (va_cons (ve_int) (va_nil))))) (vp_var 1 (pv 1)))) (vp_var 0 (pv 0))) (VO.ve (vo_lst (va_nil))))))
/-! false_rest -/
abbrev ws_false_rest : Stmt := topS 15
abbrev wN_false_rest : List Str := ["a", "b", "rest", "lead", "step", "by", "top"]
theorem wsc_false_rest : FnScope wN_false_rest ["a", "b"] (defScope ws_false_rest) := ⟨rfl, rfl, rfl, by decide +kernel, rfl, by decide +kernel, by decide +kernel⟩
theorem wd_false_rest {P : Program} {w : World} {K : Fg} {mg : Str → Option Value} {base : Heap} (Fn : Df K mg "false_rest" ws_false_rest ["a", "b"]) (C_coefficient_of : Cl P w K mg base 1 "coefficient_of" ["a", "power"] m_coefficient_of) (C_subtract : Cl P w K mg base 3 "subtract" ["a", "b"] m_subtract) (C_shifted : Cl P w K mg base 1 "shifted" ["a", "by"] m_shifted) (C_scale : Cl P w K mg base 2 "scale" ["a", "factor"] m_scale) (z_len : mg "len" = none) (z_list : mg "list" = none) (z_range : mg "range" = none) : Cl P w K mg base 4 "false_rest" ["a", "b"] m_false_rest :=
  cl_ok Fn wsc_false_rest fun f cdv A outer s H E I => by
    unfold c_false_rest b_false_rest_1
    exact (vss_cons (vs_if (t_cmp d_lt (VE.vp (v_blt c_len rfl z_len b_len (vap_cons (vp_var 0 (pv 0)) (vap_nil)))) (VE.vp (v_blt c_len rfl z_len b_len (vap_cons (vp_var 1 (pv 1)) (vap_nil))))) (vss_one (vs_retO (v_typO c_listO rfl z_list b_list (vap_cons (vp_var 0 (pv 0)) (vap_nil))))) (vss_nil)) (vss_cons (vs_set (i := 2) wsc_false_rest.nd rfl (by first | exact Or.inl rfl | exact Or.inr rfl) (VO.ve (v_typO c_listO rfl z_list b_list (vap_cons (vp_var 0 (pv 0)) (vap_nil))))) (vss_cons (vs_set (i := 3) wsc_false_rest.nd rfl (by first | exact Or.inl rfl | exact Or.inr rfl) (v_ix d_ix (vp_var 1 (pv 1)) (VE.vp (v_un d_neg (VE.vp (ve_int)))))) (vss_cons (vs_for I.hp rfl (vi_range1 rfl z_range (vap_cons (VE.vp (v_op d_add (VE.vp (v_op d_sub (VE.vp (v_blt c_len rfl z_len b_len (vap_cons (vp_var 0 (pv 0)) (vap_nil)))) (VE.vp (v_blt c_len rfl z_len b_len (vap_cons (vp_var 1 (pv 1)) (vap_nil)))))) (VE.vp (ve_int)))) (vap_nil))) (vg_name (pg_name (i := 4) wsc_false_rest.nd rfl (by first | exact Or.inl rfl | exact Or.inr rfl))) (vss_cons (vs_set (i := 5) wsc_false_rest.nd rfl (by first | exact Or.inl rfl | exact Or.inr rfl) (v_op d_sub (VE.vp (v_op d_sub (VE.vp (v_blt c_len rfl z_len b_len (vap_cons (vp_var 0 (pv 0)) (vap_nil)))) (VE.vp (v_blt c_len rfl z_len b_len (vap_cons (vp_var 1 (pv 1)) (vap_nil)))))) (vp_var 4 (pv 4)))) (vss_cons (vs_set (i := 6) wsc_false_rest.nd rfl (by first | exact Or.inl rfl | exact Or.inr rfl) (v_calC C_coefficient_of I.hr I.gd I.tk (va_cons (ve_var 2 (pv 2)) (va_cons (v_op d_sub (VE.vp (v_op d_add (vp_var 5 (pv 5)) (VE.vp (v_blt c_len rfl z_len b_len (vap_cons (vp_var 1 (pv 1)) (vap_nil)))))) (VE.vp (ve_int))) (va_nil))))) (vss_one (vs_set (i := 2) wsc_false_rest.nd rfl (by first | exact Or.inl rfl | exact Or.inr rfl) (v_calC C_subtract I.hr I.gd I.tk (va_cons (v_calC C_scale I.hr I.gd I.tk (va_cons (ve_var 2 (pv 2)) (va_cons (ve_var 3 (pv 3)) (va_nil)))) (va_cons (v_calC C_shifted I.hr I.gd I.tk (va_cons (v_calC C_scale I.hr I.gd I.tk (va_cons (ve_var 1 (pv 1)) (va_cons (ve_var 6 (pv 6)) (va_nil)))) (va_cons (ve_var 5 (pv 5)) (va_nil)))) (va_nil))))))))) (vss_one (vs_ret (ve_var 2 (pv 2))))))))
/-! common_divisor -/
abbrev ws_common_divisor : Stmt := topS 16
abbrev wN_common_divisor : List Str := ["a", "b", "first", "second"]
theorem wsc_common_divisor : FnScope wN_common_divisor ["a", "b"] (defScope ws_common_divisor) := ⟨rfl, rfl, rfl, by decide +kernel, rfl, by decide +kernel, by decide +kernel⟩
theorem wd_common_divisor {P : Program} {w : World} {K : Fg} {mg : Str → Option Value} {base : Heap} (Fn : Df K mg "common_divisor" ws_common_divisor ["a", "b"]) (C_plain : Cl P w K mg base 2 "plain" ["a"] m_plain) (C_false_rest : Cl P w K mg base 4 "false_rest" ["a", "b"] m_false_rest) : Cl P w K mg base 5 "common_divisor" ["a", "b"] m_common_divisor :=
  cl_ok Fn wsc_common_divisor fun f cdv A outer s H E I => by
    unfold c_common_divisor b_common_divisor_1
    exact (vss_cons (vs_par (i := 2) (j := 3) rfl wsc_common_divisor.nd rfl rfl (by decide) rfl rfl (va_cons (v_calC C_plain I.hr I.gd I.tk (va_cons (ve_var 0 (pv 0)) (va_nil))) (va_cons (v_calC C_plain I.hr I.gd I.tk (va_cons (ve_var 1 (pv 1)) (va_nil))) (va_nil))) (by rfl)) (vss_cons (vs_while I.hp (t_tru (vp_var 3 (pv 3))) (vss_one (vs_par (i := 2) (j := 3) rfl wsc_common_divisor.nd rfl rfl (by decide) rfl rfl (va_cons (ve_var 3 (pv 3)) (va_cons (v_calC C_plain I.hr I.gd I.tk (va_cons (v_calC C_false_rest I.hr I.gd I.tk (va_cons (ve_var 2 (pv 2)) (va_cons (ve_var 3 (pv 3)) (va_nil)))) (va_nil))) (va_nil))) (by rfl)))) (vss_one (vs_ret (ve_var 2 (pv 2))))))
/-! derivative -/
abbrev ws_derivative : Stmt := topS 11
abbrev wN_derivative : List Str := ["a", "power"]
theorem wsc_derivative : FnScope wN_derivative ["a"] (defScope ws_derivative) := ⟨rfl, rfl, rfl, by decide +kernel, rfl, by decide +kernel, by decide +kernel⟩
theorem wd_derivative {P : Program} {w : World} {K : Fg} {mg : Str → Option Value} {base : Heap} (Fn : Df K mg "derivative" ws_derivative ["a"]) (z_range : mg "range" = none) (z_len : mg "len" = none) : Cl P w K mg base 1 "derivative" ["a"] m_derivative :=
  cl_ok Fn wsc_derivative fun f cdv A outer s H E I => by
    unfold c_derivative
    exact (vss_one (vs_retO (vo_comp (own := [("power", 1)]) (ts := [1]) rfl wsc_derivative.nd (vi_range2 rfl z_range (vap_cons (VE.vp (ve_int)) (vap_cons (VE.vp (v_blt c_len rfl z_len b_len (vap_cons (vp_var 0 (pv 0)) (vap_nil)))) (vap_nil)))) (blkOk_by (N := wN_derivative) (sc := defScope ws_derivative) (by decide +kernel)) (fun _ _ _ _ _ => vg_name (pg_name (i := 1) wsc_derivative.nd rfl (by first | exact Or.inl rfl | exact Or.inr rfl))) (fun _ _ _ _ _ => vts_nil) (fun _ _ _ _ _ => v_op d_mul (VE.vp (v_ix d_ix (vp_var 0 (pv 0)) (vp_var 1 (pv 1)))) (vp_var 1 (pv 1))))))
/-! square_free -/
abbrev ws_square_free : Stmt := topS 18
abbrev wN_square_free : List Str := ["a"]
theorem wsc_square_free : FnScope wN_square_free ["a"] (defScope ws_square_free) := ⟨rfl, rfl, rfl, by decide +kernel, rfl, by decide +kernel, by decide +kernel⟩
theorem wd_square_free {P : Program} {w : World} {K : Fg} {mg : Str → Option Value} {base : Heap} (Fn : Df K mg "square_free" ws_square_free ["a"]) (C_quotient : Cl P w K mg base 3 "quotient" ["a", "b"] m_quotient) (C_common_divisor : Cl P w K mg base 5 "common_divisor" ["a", "b"] m_common_divisor) (C_derivative : Cl P w K mg base 1 "derivative" ["a"] m_derivative) : Cl P w K mg base 6 "square_free" ["a"] m_square_free :=
  cl_ok Fn wsc_square_free fun f cdv A outer s H E I => by
    unfold c_square_free
    exact (vss_one (vs_retO (v_calCO C_quotient I.hr I.gd I.tk (va_cons (ve_var 0 (pv 0)) (va_cons (v_calC C_common_divisor I.hr I.gd I.tk (va_cons (ve_var 0 (pv 0)) (va_cons (v_calC C_derivative I.hr I.gd I.tk (va_cons (ve_var 0 (pv 0)) (va_nil))) (va_nil)))) (va_nil))))))
/-! _law_factor -/
abbrev ws__law_factor : Stmt := topS 38
abbrev wN__law_factor : List Str := ["_law_draws_here"]
theorem wsc__law_factor : FnScope wN__law_factor ["_law_draws_here"] (defScope ws__law_factor) := ⟨rfl, rfl, rfl, by decide +kernel, rfl, by decide +kernel, by decide +kernel⟩
theorem wd__law_factor {P : Program} {w : World} {K : Fg} {mg : Str → Option Value} {base : Heap} (Fn : Df K mg "_law_factor" ws__law_factor ["_law_draws_here"]) (z_int : mg "int" = none) : Cl P w K mg base 1 "_law_factor" ["_law_draws_here"] m__law_factor :=
  cl_ok Fn wsc__law_factor fun f cdv A outer s H E I => by
    unfold c__law_factor
    exact (vss_cons (vs_if (t_cmp (d_eq I.hr.units) (VE.vp (v_op d_mod (VE.vp (v_typ c_int rfl z_int b_int (vap_cons (VE.vp (v_ix d_ix (vp_var 0 (pv 0)) (VE.vp (ve_int)))) (vap_nil)))) (VE.vp (ve_int)))) (VE.vp (ve_int))) (vss_one (vs_retO (vo_lst (va_cons (v_ix d_ix (VE.vp (VO.ve (vo_lst (va_cons (v_un d_neg (VE.vp (ve_int))) (va_cons (v_un d_neg (VE.vp (ve_int))) (va_cons (v_un d_neg (VE.vp (ve_int))) (va_cons (ve_int) (va_cons (ve_int) (va_cons (ve_int) (va_nil)))))))))) (VE.vp (v_op d_mod (VE.vp (v_typ c_int rfl z_int b_int (vap_cons (VE.vp (v_ix d_ix (vp_var 0 (pv 0)) (VE.vp (ve_int)))) (vap_nil)))) (VE.vp (ve_int))))) (va_cons (ve_int) (va_cons (ve_int) (va_nil))))))) (vss_nil)) (vss_one (vs_retO (vo_lst (va_cons (v_op d_sub (VE.vp (v_op d_mod (VE.vp (v_typ c_int rfl z_int b_int (vap_cons (VE.vp (v_ix d_ix (vp_var 0 (pv 0)) (VE.vp (ve_int)))) (vap_nil)))) (VE.vp (ve_int)))) (VE.vp (ve_int))) (va_cons (ve_int) (va_nil)))))))
/-! _law_trim -/
abbrev ws__law_trim : Stmt := topS 30
abbrev wN__law_trim : List Str := ["_law_row", "_law_step"]
theorem wsc__law_trim : FnScope wN__law_trim ["_law_row"] (defScope ws__law_trim) := ⟨rfl, rfl, rfl, by decide +kernel, rfl, by decide +kernel, by decide +kernel⟩
theorem wd__law_trim {P : Program} {w : World} {K : Fg} {mg : Str → Option Value} {base : Heap} (Fn : Df K mg "_law_trim" ws__law_trim ["_law_row"]) (z_list : mg "list" = none) (z_range : mg "range" = none) (z_len : mg "len" = none) : Cl P w K mg base 1 "_law_trim" ["_law_row"] m__law_trim :=
  cl_ok Fn wsc__law_trim fun f cdv A outer s H E I => by
    unfold c__law_trim b__law_trim_1
    exact (vss_cons (vs_setO (i := 0) wsc__law_trim.nd rfl (by first | exact Or.inl rfl | exact Or.inr rfl) (v_typO c_listO rfl z_list b_list (vap_cons (vp_var 0 (pv 0)) (vap_nil)))) (vss_cons (vs_for I.hp rfl (vi_range1 rfl z_range (vap_cons (VE.vp (v_blt c_len rfl z_len b_len (vap_cons (vp_var 0 (pv 0)) (vap_nil)))) (vap_nil))) (vg_name (pg_name (i := 1) wsc__law_trim.nd rfl (by first | exact Or.inl rfl | exact Or.inr rfl))) (vss_cons (vs_if (t_cmp (d_ne I.hr.units) (VE.vp (v_ix d_ix (vp_var 0 (pv 0)) (VE.vp (v_un d_neg (VE.vp (ve_int)))))) (VE.vp (ve_int))) (vss_one (vs_break)) (vss_nil)) (vss_one (vs_popX 0 (pv 0))))) (vss_one (vs_retV 0 (pv 0)))))
/-! _law_multiply -/
abbrev ws__law_multiply : Stmt := topS 33
abbrev wN__law_multiply : List Str := ["_law_a", "_law_b", "_law_found", "_law_i", "_law_j"]
theorem wsc__law_multiply : FnScope wN__law_multiply ["_law_a", "_law_b"] (defScope ws__law_multiply) := ⟨rfl, rfl, rfl, by decide +kernel, rfl, by decide +kernel, by decide +kernel⟩
theorem wd__law_multiply {P : Program} {w : World} {K : Fg} {mg : Str → Option Value} {base : Heap} (Fn : Df K mg "_law_multiply" ws__law_multiply ["_law_a", "_law_b"]) (C__law_trim : Cl P w K mg base 1 "_law_trim" ["_law_row"] m__law_trim) (z_len : mg "len" = none) (z_range : mg "range" = none) : Cl P w K mg base 2 "_law_multiply" ["_law_a", "_law_b"] m__law_multiply :=
  cl_ok Fn wsc__law_multiply fun f cdv A outer s H E I => by
    unfold c__law_multiply b__law_multiply_2 b__law_multiply_1
    exact (vss_cons (vs_setO (i := 2) wsc__law_multiply.nd rfl (by first | exact Or.inl rfl | exact Or.inr rfl) (v_opO d_mulO (VE.vp (VO.ve (vo_lst (va_cons (ve_int) (va_nil))))) (VE.vp (v_op d_add (VE.vp (v_op d_add (VE.vp (v_blt c_len rfl z_len b_len (vap_cons (vp_var 0 (pv 0)) (vap_nil)))) (VE.vp (v_blt c_len rfl z_len b_len (vap_cons (vp_var 1 (pv 1)) (vap_nil)))))) (VE.vp (ve_int)))))) (vss_cons (vs_for I.hp rfl (vi_range1 rfl z_range (vap_cons (VE.vp (v_blt c_len rfl z_len b_len (vap_cons (vp_var 0 (pv 0)) (vap_nil)))) (vap_nil))) (vg_name (pg_name (i := 3) wsc__law_multiply.nd rfl (by first | exact Or.inl rfl | exact Or.inr rfl))) (vss_one (vs_for I.hp rfl (vi_range1 rfl z_range (vap_cons (VE.vp (v_blt c_len rfl z_len b_len (vap_cons (vp_var 1 (pv 1)) (vap_nil)))) (vap_nil))) (vg_name (pg_name (i := 4) wsc__law_multiply.nd rfl (by first | exact Or.inl rfl | exact Or.inr rfl))) (vss_one (vs_store 2 (pv 2) (v_op d_add (vp_var 3 (pv 3)) (vp_var 4 (pv 4))) (v_op d_add (VE.vp (v_ix d_ix (vp_var 2 (pv 2)) (VE.vp (v_op d_add (vp_var 3 (pv 3)) (vp_var 4 (pv 4)))))) (VE.vp (v_op d_mul (VE.vp (v_ix d_ix (vp_var 0 (pv 0)) (vp_var 3 (pv 3)))) (VE.vp (v_ix d_ix (vp_var 1 (pv 1)) (vp_var 4 (pv 4)))))))))))) (vss_one (vs_fz 2 (vs_retO (v_calCO C__law_trim I.hr I.gd I.tk (va_cons (ve_var 2 (pv 2)) (va_nil))))))))
/-! _law_is_polynomial -/
abbrev ws__law_is_polynomial : Stmt := topS 36
abbrev wN__law_is_polynomial : List Str := ["_law_actual", "_law_one"]
theorem wsc__law_is_polynomial : FnScope wN__law_is_polynomial ["_law_actual"] (defScope ws__law_is_polynomial) := ⟨rfl, rfl, rfl, by decide +kernel, rfl, by decide +kernel, by decide +kernel⟩
theorem wd__law_is_polynomial {P : Program} {w : World} {K : Fg} {mg : Str → Option Value} {base : Heap} (Fn : Df K mg "_law_is_polynomial" ws__law_is_polynomial ["_law_actual"]) (z_isinstance : mg "isinstance" = none) (z_list : mg "list" = none) (z_bool : mg "bool" = none) (z_int : mg "int" = none) (z_len : mg "len" = none) : Cl P w K mg base 1 "_law_is_polynomial" ["_law_actual"] m__law_is_polynomial :=
  cl_ok Fn wsc__law_is_polynomial fun f cdv A outer s H E I => by
    unfold c__law_is_polynomial b__law_is_polynomial_1
    exact (vss_cons (vs_if (vt_not (t_tru (VE.vp (v_isi rfl z_isinstance b_isinstance (vp_var 0 (pv 0)) (pe_bltn rfl z_list b_list rfl))))) (vss_one (vs_ret (ve_bl))) (vss_nil)) (vss_cons (vs_for I.hp rfl (vi_seq (ve_var 0 (pv 0))) (vg_name (pg_name (i := 1) wsc__law_is_polynomial.nd rfl (by first | exact Or.inl rfl | exact Or.inr rfl))) (vss_one (vs_if (VW.vt (vw_or (vt_not (t_tru (VE.vp (v_isi rfl z_isinstance b_isinstance (vp_var 1 (pv 1)) (pe_bltn rfl z_int b_int rfl))))) (vw_or1 (t_tru (VE.vp (v_isi rfl z_isinstance b_isinstance (vp_var 1 (pv 1)) (pe_bltn rfl z_bool b_bool rfl))))))) (vss_one (vs_ret (ve_bl))) (vss_nil)))) (vss_one (vs_ret (v_or (v_cmp (d_eq I.hr.units) (VE.vp (v_blt c_len rfl z_len b_len (vap_cons (vp_var 0 (pv 0)) (vap_nil)))) (VE.vp (ve_int))) (v_or1 (v_cmp (d_ne I.hr.units) (VE.vp (v_ix d_ix (vp_var 0 (pv 0)) (VE.vp (v_un d_neg (VE.vp (ve_int)))))) (VE.vp (ve_int)))))))))
/-! law -/
abbrev ws_law : Stmt := topS 39
abbrev wN_law : List Str := ["_law_script", "_law_draws_here", "_law_whole", "_law_parts", "_law_k", "_law_factor_here", "_law_turn", "_law_due", "_law_kept", "_law_actual"]
theorem wsc_law : FnScope wN_law ["_law_script"] (defScope ws_law) := ⟨rfl, rfl, rfl, by decide +kernel, rfl, by decide +kernel, by decide +kernel⟩
theorem wd_law {P : Program} {w : World} {K : Fg} {mg : Str → Option Value} {base : Heap} {f : Addr} {fd : FuncData} (Fn : Fun K "law" "law" ws_law f fd) (C__law_draws : Cl P w K mg base 1 "_law_draws" ["_law_script", "_law_count"] m__law_draws) (C__law_factor : Cl P w K mg base 1 "_law_factor" ["_law_draws_here"] m__law_factor) (C__law_multiply : Cl P w K mg base 2 "_law_multiply" ["_law_a", "_law_b"] m__law_multiply) (C_square_free : Cl P w K mg base 6 "square_free" ["a"] m_square_free) (C__law_is_polynomial : Cl P w K mg base 1 "_law_is_polynomial" ["_law_actual"] m__law_is_polynomial) (z_int : mg "int" = none) (z_range : mg "range" = none) (z_list : mg "list" = none) : DOk P w K mg base 7 f fd ["_law_script"] m_law :=
  def_ok Fn wsc_law fun cdv A outer s H E I => by
    unfold c_law b_law_4 b_law_3 b_law_2 b_law_1
    exact (vss_cons (vs_set (i := 1) wsc_law.nd rfl (by first | exact Or.inl rfl | exact Or.inr rfl) (v_calC C__law_draws I.hr I.gd I.tk (va_cons (ve_var 0 (pv 0)) (va_cons (ve_int) (va_nil))))) (vss_cons (vs_set (i := 2) wsc_law.nd rfl (by first | exact Or.inl rfl | exact Or.inr rfl) (VO.ve (vo_lst (va_cons (v_op d_add (VE.vp (ve_int)) (VE.vp (v_op d_mod (VE.vp (v_typ c_int rfl z_int b_int (vap_cons (VE.vp (v_ix d_ix (vp_var 1 (pv 1)) (VE.vp (ve_int)))) (vap_nil)))) (VE.vp (ve_int))))) (va_nil))))) (vss_cons (vs_if (t_cmp (d_eq I.hr.units) (VE.vp (v_op d_mod (VE.vp (v_typ c_int rfl z_int b_int (vap_cons (VE.vp (v_ix d_ix (vp_var 1 (pv 1)) (VE.vp (ve_int)))) (vap_nil)))) (VE.vp (ve_int)))) (VE.vp (ve_int))) (vss_one (vs_set (i := 2) wsc_law.nd rfl (by first | exact Or.inl rfl | exact Or.inr rfl) (VO.ve (vo_lst (va_cons (v_un d_neg (VE.vp (v_ix d_ix (vp_var 2 (pv 2)) (VE.vp (ve_int))))) (va_nil)))))) (vss_nil)) (vss_cons (vs_setO (i := 3) wsc_law.nd rfl (by first | exact Or.inl rfl | exact Or.inr rfl) (vo_lst (va_nil))) (vss_cons (vs_for I.hp rfl (vi_range1 rfl z_range (vap_cons (VE.vp (v_op d_mod (VE.vp (v_typ c_int rfl z_int b_int (vap_cons (VE.vp (v_ix d_ix (vp_var 1 (pv 1)) (VE.vp (ve_int)))) (vap_nil)))) (VE.vp (ve_int)))) (vap_nil))) (vg_name (pg_name (i := 4) wsc_law.nd rfl (by first | exact Or.inl rfl | exact Or.inr rfl))) (vss_cons (vs_set (i := 5) wsc_law.nd rfl (by first | exact Or.inl rfl | exact Or.inr rfl) (v_calC C__law_factor I.hr I.gd I.tk (va_cons (v_slice (vp_var 1 (pv 1)) (vpo_some (v_op d_mul (VE.vp (ve_int)) (vp_var 4 (pv 4)))) (vpo_some (v_op d_add (VE.vp (v_op d_mul (VE.vp (ve_int)) (vp_var 4 (pv 4)))) (VE.vp (ve_int))))) (va_nil)))) (vss_cons (vs_for I.hp rfl (vi_range1 rfl z_range (vap_cons (VE.vp (v_op d_add (VE.vp (ve_int)) (VE.vp (v_op d_mod (VE.vp (v_typ c_int rfl z_int b_int (vap_cons (VE.vp (v_ix d_ix (vp_var 1 (pv 1)) (VE.vp (v_op d_add (VE.vp (v_op d_mul (VE.vp (ve_int)) (vp_var 4 (pv 4)))) (VE.vp (ve_int)))))) (vap_nil)))) (VE.vp (ve_int)))))) (vap_nil))) (vg_name (pg_name (i := 6) wsc_law.nd rfl (by first | exact Or.inl rfl | exact Or.inr rfl))) (vss_one (vs_set (i := 2) wsc_law.nd rfl (by first | exact Or.inl rfl | exact Or.inr rfl) (v_calC C__law_multiply I.hr I.gd I.tk (va_cons (ve_var 2 (pv 2)) (va_cons (ve_var 5 (pv 5)) (va_nil))))))) (vss_one (vs_if (t_cmp (d_notin (u65 I.hr)) (vp_var 5 (pv 5)) (vp_var 3 (pv 3))) (vss_one (vs_app 3 (pv 3) (ve_var 5 (pv 5)))) (vss_nil)))))) (vss_cons (vs_set (i := 7) wsc_law.nd rfl (by first | exact Or.inl rfl | exact Or.inr rfl) (VO.ve (vo_lst (va_cons (ve_int) (va_nil))))) (vss_cons (vs_fz 3 (vs_for I.hp rfl (vi_seq (ve_var 3 (pv 3))) (vg_name (pg_name (i := 5) wsc_law.nd rfl (by first | exact Or.inl rfl | exact Or.inr rfl))) (vss_one (vs_set (i := 7) wsc_law.nd rfl (by first | exact Or.inl rfl | exact Or.inr rfl) (v_calC C__law_multiply I.hr I.gd I.tk (va_cons (ve_var 7 (pv 7)) (va_cons (ve_var 5 (pv 5)) (va_nil)))))))) (vss_cons (vs_set (i := 8) wsc_law.nd rfl (by first | exact Or.inl rfl | exact Or.inr rfl) (VO.ve (v_typO c_listO rfl z_list b_list (vap_cons (vp_var 2 (pv 2)) (vap_nil))))) (vss_cons (vs_set (i := 9) wsc_law.nd rfl (by first | exact Or.inl rfl | exact Or.inr rfl) (v_calC C_square_free I.hr I.gd I.tk (va_cons (ve_var 2 (pv 2)) (va_nil)))) (vss_cons (vs_if (VW.vt (vw_or (vt_not (t_tru (VE.vp (v_calC C__law_is_polynomial I.hr I.gd I.tk (va_cons (ve_var 9 (pv 9)) (va_nil)))))) (vw_or (t_cmp (d_ne I.hr.units) (vp_var 9 (pv 9)) (vp_var 7 (pv 7))) (vw_or1 (t_cmp (d_ne I.hr.units) (vp_var 2 (pv 2)) (vp_var 8 (pv 8))))))) (vss_one (vs_ret (ve_bl))) (vss_nil)) (vss_one (vs_ret (v_cmp (d_eq I.hr.units) (VE.vp (v_calC C_square_free I.hr I.gd I.tk (va_cons (ve_var 9 (pv 9)) (va_nil)))) (vp_var 7 (pv 7)))))))))))))))
/-! the end -/
theorem all_mk {P : Program} {w : World} {K : Fg} {h : Heap} {mg : Str → Option Value} {fa : Addr} (X : K.In h) (G : h.Ns mainGlobals mg) (hfa : mg "law" = some (.ref fa))
    {f0 : Addr} {od0 an0 : Option Addr} {sl0 : Array (Option Value)} {oc0 kV0 dc0 pm0 cd0 ct0 : Value}
    (a0 : PySem.W.nsIn K mainGlobals "_law_draws" = some (some (.ref f0))) (l0 : K.lookup f0 = some ⟨oc0, od0, .func (PySem.W.fnOf "_law_draws" "_law_draws" (defArgs ws__law_draws) (defBody ws__law_draws) (defScope ws__law_draws) .none kV0 dc0 pm0 an0 cd0 ct0), sl0⟩) (c0 : PySem.W.codeIn K cd0 "_law_draws" = true) (k0 : PySem.W.keepIn K (.ref f0) = true)
    {f1 : Addr} {od1 an1 : Option Addr} {sl1 : Array (Option Value)} {oc1 kV1 dc1 pm1 cd1 ct1 : Value}
    (a1 : PySem.W.nsIn K mainGlobals "content" = some (some (.ref f1))) (l1 : K.lookup f1 = some ⟨oc1, od1, .func (PySem.W.fnOf "content" "content" (defArgs ws_content) (defBody ws_content) (defScope ws_content) .none kV1 dc1 pm1 an1 cd1 ct1), sl1⟩) (c1 : PySem.W.codeIn K cd1 "content" = true) (k1 : PySem.W.keepIn K (.ref f1) = true)
    {f2 : Addr} {od2 an2 : Option Addr} {sl2 : Array (Option Value)} {oc2 kV2 dc2 pm2 cd2 ct2 : Value}
    (a2 : PySem.W.nsIn K mainGlobals "plain" = some (some (.ref f2))) (l2 : K.lookup f2 = some ⟨oc2, od2, .func (PySem.W.fnOf "plain" "plain" (defArgs ws_plain) (defBody ws_plain) (defScope ws_plain) .none kV2 dc2 pm2 an2 cd2 ct2), sl2⟩) (c2 : PySem.W.codeIn K cd2 "plain" = true) (k2 : PySem.W.keepIn K (.ref f2) = true)
    {f3 : Addr} {od3 an3 : Option Addr} {sl3 : Array (Option Value)} {oc3 kV3 dc3 pm3 cd3 ct3 : Value}
    (a3 : PySem.W.nsIn K mainGlobals "number" = some (some (.ref f3))) (l3 : K.lookup f3 = some ⟨oc3, od3, .func (PySem.W.fnOf "number" "number" (defArgs ws_number) (defBody ws_number) (defScope ws_number) .none kV3 dc3 pm3 an3 cd3 ct3), sl3⟩) (c3 : PySem.W.codeIn K cd3 "number" = true) (k3 : PySem.W.keepIn K (.ref f3) = true)
    {f4 : Addr} {od4 an4 : Option Addr} {sl4 : Array (Option Value)} {oc4 kV4 dc4 pm4 cd4 ct4 : Value}
    (a4 : PySem.W.nsIn K mainGlobals "times" = some (some (.ref f4))) (l4 : K.lookup f4 = some ⟨oc4, od4, .func (PySem.W.fnOf "times" "times" (defArgs ws_times) (defBody ws_times) (defScope ws_times) .none kV4 dc4 pm4 an4 cd4 ct4), sl4⟩) (c4 : PySem.W.codeIn K cd4 "times" = true) (k4 : PySem.W.keepIn K (.ref f4) = true)
    {f5 : Addr} {od5 an5 : Option Addr} {sl5 : Array (Option Value)} {oc5 kV5 dc5 pm5 cd5 ct5 : Value}
    (a5 : PySem.W.nsIn K mainGlobals "plus" = some (some (.ref f5))) (l5 : K.lookup f5 = some ⟨oc5, od5, .func (PySem.W.fnOf "plus" "plus" (defArgs ws_plus) (defBody ws_plus) (defScope ws_plus) .none kV5 dc5 pm5 an5 cd5 ct5), sl5⟩) (c5 : PySem.W.codeIn K cd5 "plus" = true) (k5 : PySem.W.keepIn K (.ref f5) = true)
    {f6 : Addr} {od6 an6 : Option Addr} {sl6 : Array (Option Value)} {oc6 kV6 dc6 pm6 cd6 ct6 : Value}
    (a6 : PySem.W.nsIn K mainGlobals "quotient" = some (some (.ref f6))) (l6 : K.lookup f6 = some ⟨oc6, od6, .func (PySem.W.fnOf "quotient" "quotient" (defArgs ws_quotient) (defBody ws_quotient) (defScope ws_quotient) .none kV6 dc6 pm6 an6 cd6 ct6), sl6⟩) (c6 : PySem.W.codeIn K cd6 "quotient" = true) (k6 : PySem.W.keepIn K (.ref f6) = true)
    {f7 : Addr} {od7 an7 : Option Addr} {sl7 : Array (Option Value)} {oc7 kV7 dc7 pm7 cd7 ct7 : Value}
    (a7 : PySem.W.nsIn K mainGlobals "coefficient_of" = some (some (.ref f7))) (l7 : K.lookup f7 = some ⟨oc7, od7, .func (PySem.W.fnOf "coefficient_of" "coefficient_of" (defArgs ws_coefficient_of) (defBody ws_coefficient_of) (defScope ws_coefficient_of) .none kV7 dc7 pm7 an7 cd7 ct7), sl7⟩) (c7 : PySem.W.codeIn K cd7 "coefficient_of" = true) (k7 : PySem.W.keepIn K (.ref f7) = true)
    {f8 : Addr} {od8 an8 : Option Addr} {sl8 : Array (Option Value)} {oc8 kV8 dc8 pm8 cd8 ct8 : Value}
    (a8 : PySem.W.nsIn K mainGlobals "trimmed" = some (some (.ref f8))) (l8 : K.lookup f8 = some ⟨oc8, od8, .func (PySem.W.fnOf "trimmed" "trimmed" (defArgs ws_trimmed) (defBody ws_trimmed) (defScope ws_trimmed) .none kV8 dc8 pm8 an8 cd8 ct8), sl8⟩) (c8 : PySem.W.codeIn K cd8 "trimmed" = true) (k8 : PySem.W.keepIn K (.ref f8) = true)
    {f9 : Addr} {od9 an9 : Option Addr} {sl9 : Array (Option Value)} {oc9 kV9 dc9 pm9 cd9 ct9 : Value}
    (a9 : PySem.W.nsIn K mainGlobals "add" = some (some (.ref f9))) (l9 : K.lookup f9 = some ⟨oc9, od9, .func (PySem.W.fnOf "add" "add" (defArgs ws_add) (defBody ws_add) (defScope ws_add) .none kV9 dc9 pm9 an9 cd9 ct9), sl9⟩) (c9 : PySem.W.codeIn K cd9 "add" = true) (k9 : PySem.W.keepIn K (.ref f9) = true)
    {f10 : Addr} {od10 an10 : Option Addr} {sl10 : Array (Option Value)} {oc10 kV10 dc10 pm10 cd10 ct10 : Value}
    (a10 : PySem.W.nsIn K mainGlobals "scale" = some (some (.ref f10))) (l10 : K.lookup f10 = some ⟨oc10, od10, .func (PySem.W.fnOf "scale" "scale" (defArgs ws_scale) (defBody ws_scale) (defScope ws_scale) .none kV10 dc10 pm10 an10 cd10 ct10), sl10⟩) (c10 : PySem.W.codeIn K cd10 "scale" = true) (k10 : PySem.W.keepIn K (.ref f10) = true)
    {f11 : Addr} {od11 an11 : Option Addr} {sl11 : Array (Option Value)} {oc11 kV11 dc11 pm11 cd11 ct11 : Value}
    (a11 : PySem.W.nsIn K mainGlobals "subtract" = some (some (.ref f11))) (l11 : K.lookup f11 = some ⟨oc11, od11, .func (PySem.W.fnOf "subtract" "subtract" (defArgs ws_subtract) (defBody ws_subtract) (defScope ws_subtract) .none kV11 dc11 pm11 an11 cd11 ct11), sl11⟩) (c11 : PySem.W.codeIn K cd11 "subtract" = true) (k11 : PySem.W.keepIn K (.ref f11) = true)
    {f12 : Addr} {od12 an12 : Option Addr} {sl12 : Array (Option Value)} {oc12 kV12 dc12 pm12 cd12 ct12 : Value}
    (a12 : PySem.W.nsIn K mainGlobals "shifted" = some (some (.ref f12))) (l12 : K.lookup f12 = some ⟨oc12, od12, .func (PySem.W.fnOf "shifted" "shifted" (defArgs ws_shifted) (defBody ws_shifted) (defScope ws_shifted) .none kV12 dc12 pm12 an12 cd12 ct12), sl12⟩) (c12 : PySem.W.codeIn K cd12 "shifted" = true) (k12 : PySem.W.keepIn K (.ref f12) = true)
    {f13 : Addr} {od13 an13 : Option Addr} {sl13 : Array (Option Value)} {oc13 kV13 dc13 pm13 cd13 ct13 : Value}
    (a13 : PySem.W.nsIn K mainGlobals "false_rest" = some (some (.ref f13))) (l13 : K.lookup f13 = some ⟨oc13, od13, .func (PySem.W.fnOf "false_rest" "false_rest" (defArgs ws_false_rest) (defBody ws_false_rest) (defScope ws_false_rest) .none kV13 dc13 pm13 an13 cd13 ct13), sl13⟩) (c13 : PySem.W.codeIn K cd13 "false_rest" = true) (k13 : PySem.W.keepIn K (.ref f13) = true)
    {f14 : Addr} {od14 an14 : Option Addr} {sl14 : Array (Option Value)} {oc14 kV14 dc14 pm14 cd14 ct14 : Value}
    (a14 : PySem.W.nsIn K mainGlobals "common_divisor" = some (some (.ref f14))) (l14 : K.lookup f14 = some ⟨oc14, od14, .func (PySem.W.fnOf "common_divisor" "common_divisor" (defArgs ws_common_divisor) (defBody ws_common_divisor) (defScope ws_common_divisor) .none kV14 dc14 pm14 an14 cd14 ct14), sl14⟩) (c14 : PySem.W.codeIn K cd14 "common_divisor" = true) (k14 : PySem.W.keepIn K (.ref f14) = true)
    {f15 : Addr} {od15 an15 : Option Addr} {sl15 : Array (Option Value)} {oc15 kV15 dc15 pm15 cd15 ct15 : Value}
    (a15 : PySem.W.nsIn K mainGlobals "derivative" = some (some (.ref f15))) (l15 : K.lookup f15 = some ⟨oc15, od15, .func (PySem.W.fnOf "derivative" "derivative" (defArgs ws_derivative) (defBody ws_derivative) (defScope ws_derivative) .none kV15 dc15 pm15 an15 cd15 ct15), sl15⟩) (c15 : PySem.W.codeIn K cd15 "derivative" = true) (k15 : PySem.W.keepIn K (.ref f15) = true)
    {f16 : Addr} {od16 an16 : Option Addr} {sl16 : Array (Option Value)} {oc16 kV16 dc16 pm16 cd16 ct16 : Value}
    (a16 : PySem.W.nsIn K mainGlobals "square_free" = some (some (.ref f16))) (l16 : K.lookup f16 = some ⟨oc16, od16, .func (PySem.W.fnOf "square_free" "square_free" (defArgs ws_square_free) (defBody ws_square_free) (defScope ws_square_free) .none kV16 dc16 pm16 an16 cd16 ct16), sl16⟩) (c16 : PySem.W.codeIn K cd16 "square_free" = true) (k16 : PySem.W.keepIn K (.ref f16) = true)
    {f17 : Addr} {od17 an17 : Option Addr} {sl17 : Array (Option Value)} {oc17 kV17 dc17 pm17 cd17 ct17 : Value}
    (a17 : PySem.W.nsIn K mainGlobals "_law_factor" = some (some (.ref f17))) (l17 : K.lookup f17 = some ⟨oc17, od17, .func (PySem.W.fnOf "_law_factor" "_law_factor" (defArgs ws__law_factor) (defBody ws__law_factor) (defScope ws__law_factor) .none kV17 dc17 pm17 an17 cd17 ct17), sl17⟩) (c17 : PySem.W.codeIn K cd17 "_law_factor" = true) (k17 : PySem.W.keepIn K (.ref f17) = true)
    {f18 : Addr} {od18 an18 : Option Addr} {sl18 : Array (Option Value)} {oc18 kV18 dc18 pm18 cd18 ct18 : Value}
    (a18 : PySem.W.nsIn K mainGlobals "_law_trim" = some (some (.ref f18))) (l18 : K.lookup f18 = some ⟨oc18, od18, .func (PySem.W.fnOf "_law_trim" "_law_trim" (defArgs ws__law_trim) (defBody ws__law_trim) (defScope ws__law_trim) .none kV18 dc18 pm18 an18 cd18 ct18), sl18⟩) (c18 : PySem.W.codeIn K cd18 "_law_trim" = true) (k18 : PySem.W.keepIn K (.ref f18) = true)
    {f19 : Addr} {od19 an19 : Option Addr} {sl19 : Array (Option Value)} {oc19 kV19 dc19 pm19 cd19 ct19 : Value}
    (a19 : PySem.W.nsIn K mainGlobals "_law_multiply" = some (some (.ref f19))) (l19 : K.lookup f19 = some ⟨oc19, od19, .func (PySem.W.fnOf "_law_multiply" "_law_multiply" (defArgs ws__law_multiply) (defBody ws__law_multiply) (defScope ws__law_multiply) .none kV19 dc19 pm19 an19 cd19 ct19), sl19⟩) (c19 : PySem.W.codeIn K cd19 "_law_multiply" = true) (k19 : PySem.W.keepIn K (.ref f19) = true)
    {f20 : Addr} {od20 an20 : Option Addr} {sl20 : Array (Option Value)} {oc20 kV20 dc20 pm20 cd20 ct20 : Value}
    (a20 : PySem.W.nsIn K mainGlobals "_law_is_polynomial" = some (some (.ref f20))) (l20 : K.lookup f20 = some ⟨oc20, od20, .func (PySem.W.fnOf "_law_is_polynomial" "_law_is_polynomial" (defArgs ws__law_is_polynomial) (defBody ws__law_is_polynomial) (defScope ws__law_is_polynomial) .none kV20 dc20 pm20 an20 cd20 ct20), sl20⟩) (c20 : PySem.W.codeIn K cd20 "_law_is_polynomial" = true) (k20 : PySem.W.keepIn K (.ref f20) = true)
    {f21 : Addr} {od21 an21 : Option Addr} {sl21 : Array (Option Value)} {oc21 kV21 dc21 pm21 cd21 ct21 : Value}
    (a21 : PySem.W.nsIn K mainGlobals "law" = some (some (.ref f21))) (l21 : K.lookup f21 = some ⟨oc21, od21, .func (PySem.W.fnOf "law" "law" (defArgs ws_law) (defBody ws_law) (defScope ws_law) .none kV21 dc21 pm21 an21 cd21 ct21), sl21⟩) (c21 : PySem.W.codeIn K cd21 "law" = true) (k21 : PySem.W.keepIn K (.ref f21) = true)
    (zz_range : PySem.W.nsIn K mainGlobals "range" = some none)
    (zz_len : PySem.W.nsIn K mainGlobals "len" = some none)
    (zz_int : PySem.W.nsIn K mainGlobals "int" = some none)
    (zz_enumerate : PySem.W.nsIn K mainGlobals "enumerate" = some none)
    (zz_max : PySem.W.nsIn K mainGlobals "max" = some none)
    (zz_list : PySem.W.nsIn K mainGlobals "list" = some none)
    (zz_isinstance : PySem.W.nsIn K mainGlobals "isinstance" = some none)
    (zz_bool : PySem.W.nsIn K mainGlobals "bool" = some none)
    (gg_gcd : PySem.W.nsIn K mainGlobals "gcd" = some (some (.builtin "math.gcd"))) :
    ∃ fd : FuncData, (∀ (s : Shared) (u : Value), BindsTo s fd ⟨[u], []⟩ [("_law_script", u)]) ∧ ∀ base, DOk P w K mg base 7 fa fd ["_law_script"] m_law := by
  have F0 := fun_mk (st := ws__law_draws) l0 c0 k0
  have D__law_draws : Df K mg "_law_draws" ws__law_draws ["_law_script", "_law_count"] := ⟨_, _, F0, PySem.W.mg_of X G a0, F0.binds (ps := ["_law_script", "_law_count"]) fun _ _ _ _ _ _ us hl => match us, hl with | [_, _], _ => rfl⟩
  have F1 := fun_mk (st := ws_content) l1 c1 k1
  have D_content : Df K mg "content" ws_content ["a"] := ⟨_, _, F1, PySem.W.mg_of X G a1, F1.binds (ps := ["a"]) fun _ _ _ _ _ _ us hl => match us, hl with | [_], _ => rfl⟩
  have F2 := fun_mk (st := ws_plain) l2 c2 k2
  have D_plain : Df K mg "plain" ws_plain ["a"] := ⟨_, _, F2, PySem.W.mg_of X G a2, F2.binds (ps := ["a"]) fun _ _ _ _ _ _ us hl => match us, hl with | [_], _ => rfl⟩
  have F3 := fun_mk (st := ws_number) l3 c3 k3
  have D_number : Df K mg "number" ws_number ["n", "d"] := ⟨_, _, F3, PySem.W.mg_of X G a3, F3.binds (ps := ["n", "d"]) fun _ _ _ _ _ _ us hl => match us, hl with | [_, _], _ => rfl⟩
  have F4 := fun_mk (st := ws_times) l4 c4 k4
  have D_times : Df K mg "times" ws_times ["a", "b"] := ⟨_, _, F4, PySem.W.mg_of X G a4, F4.binds (ps := ["a", "b"]) fun _ _ _ _ _ _ us hl => match us, hl with | [_, _], _ => rfl⟩
  have F5 := fun_mk (st := ws_plus) l5 c5 k5
  have D_plus : Df K mg "plus" ws_plus ["a", "b"] := ⟨_, _, F5, PySem.W.mg_of X G a5, F5.binds (ps := ["a", "b"]) fun _ _ _ _ _ _ us hl => match us, hl with | [_, _], _ => rfl⟩
  have F6 := fun_mk (st := ws_quotient) l6 c6 k6
  have D_quotient : Df K mg "quotient" ws_quotient ["a", "b"] := ⟨_, _, F6, PySem.W.mg_of X G a6, F6.binds (ps := ["a", "b"]) fun _ _ _ _ _ _ us hl => match us, hl with | [_, _], _ => rfl⟩
  have F7 := fun_mk (st := ws_coefficient_of) l7 c7 k7
  have D_coefficient_of : Df K mg "coefficient_of" ws_coefficient_of ["a", "power"] := ⟨_, _, F7, PySem.W.mg_of X G a7, F7.binds (ps := ["a", "power"]) fun _ _ _ _ _ _ us hl => match us, hl with | [_, _], _ => rfl⟩
  have F8 := fun_mk (st := ws_trimmed) l8 c8 k8
  have D_trimmed : Df K mg "trimmed" ws_trimmed ["coefficients"] := ⟨_, _, F8, PySem.W.mg_of X G a8, F8.binds (ps := ["coefficients"]) fun _ _ _ _ _ _ us hl => match us, hl with | [_], _ => rfl⟩
  have F9 := fun_mk (st := ws_add) l9 c9 k9
  have D_add : Df K mg "add" ws_add ["a", "b"] := ⟨_, _, F9, PySem.W.mg_of X G a9, F9.binds (ps := ["a", "b"]) fun _ _ _ _ _ _ us hl => match us, hl with | [_, _], _ => rfl⟩
  have F10 := fun_mk (st := ws_scale) l10 c10 k10
  have D_scale : Df K mg "scale" ws_scale ["a", "factor"] := ⟨_, _, F10, PySem.W.mg_of X G a10, F10.binds (ps := ["a", "factor"]) fun _ _ _ _ _ _ us hl => match us, hl with | [_, _], _ => rfl⟩
  have F11 := fun_mk (st := ws_subtract) l11 c11 k11
  have D_subtract : Df K mg "subtract" ws_subtract ["a", "b"] := ⟨_, _, F11, PySem.W.mg_of X G a11, F11.binds (ps := ["a", "b"]) fun _ _ _ _ _ _ us hl => match us, hl with | [_, _], _ => rfl⟩
  have F12 := fun_mk (st := ws_shifted) l12 c12 k12
  have D_shifted : Df K mg "shifted" ws_shifted ["a", "by"] := ⟨_, _, F12, PySem.W.mg_of X G a12, F12.binds (ps := ["a", "by"]) fun _ _ _ _ _ _ us hl => match us, hl with | [_, _], _ => rfl⟩
  have F13 := fun_mk (st := ws_false_rest) l13 c13 k13
  have D_false_rest : Df K mg "false_rest" ws_false_rest ["a", "b"] := ⟨_, _, F13, PySem.W.mg_of X G a13, F13.binds (ps := ["a", "b"]) fun _ _ _ _ _ _ us hl => match us, hl with | [_, _], _ => rfl⟩
  have F14 := fun_mk (st := ws_common_divisor) l14 c14 k14
  have D_common_divisor : Df K mg "common_divisor" ws_common_divisor ["a", "b"] := ⟨_, _, F14, PySem.W.mg_of X G a14, F14.binds (ps := ["a", "b"]) fun _ _ _ _ _ _ us hl => match us, hl with | [_, _], _ => rfl⟩
  have F15 := fun_mk (st := ws_derivative) l15 c15 k15
  have D_derivative : Df K mg "derivative" ws_derivative ["a"] := ⟨_, _, F15, PySem.W.mg_of X G a15, F15.binds (ps := ["a"]) fun _ _ _ _ _ _ us hl => match us, hl with | [_], _ => rfl⟩
  have F16 := fun_mk (st := ws_square_free) l16 c16 k16
  have D_square_free : Df K mg "square_free" ws_square_free ["a"] := ⟨_, _, F16, PySem.W.mg_of X G a16, F16.binds (ps := ["a"]) fun _ _ _ _ _ _ us hl => match us, hl with | [_], _ => rfl⟩
  have F17 := fun_mk (st := ws__law_factor) l17 c17 k17
  have D__law_factor : Df K mg "_law_factor" ws__law_factor ["_law_draws_here"] := ⟨_, _, F17, PySem.W.mg_of X G a17, F17.binds (ps := ["_law_draws_here"]) fun _ _ _ _ _ _ us hl => match us, hl with | [_], _ => rfl⟩
  have F18 := fun_mk (st := ws__law_trim) l18 c18 k18
  have D__law_trim : Df K mg "_law_trim" ws__law_trim ["_law_row"] := ⟨_, _, F18, PySem.W.mg_of X G a18, F18.binds (ps := ["_law_row"]) fun _ _ _ _ _ _ us hl => match us, hl with | [_], _ => rfl⟩
  have F19 := fun_mk (st := ws__law_multiply) l19 c19 k19
  have D__law_multiply : Df K mg "_law_multiply" ws__law_multiply ["_law_a", "_law_b"] := ⟨_, _, F19, PySem.W.mg_of X G a19, F19.binds (ps := ["_law_a", "_law_b"]) fun _ _ _ _ _ _ us hl => match us, hl with | [_, _], _ => rfl⟩
  have F20 := fun_mk (st := ws__law_is_polynomial) l20 c20 k20
  have D__law_is_polynomial : Df K mg "_law_is_polynomial" ws__law_is_polynomial ["_law_actual"] := ⟨_, _, F20, PySem.W.mg_of X G a20, F20.binds (ps := ["_law_actual"]) fun _ _ _ _ _ _ us hl => match us, hl with | [_], _ => rfl⟩
  have F21 := fun_mk (st := ws_law) l21 c21 k21
  have e := hfa.symm.trans (PySem.W.mg_of X G a21)
  cases e
  have z_range : mg "range" = none := PySem.W.mg_none_of X G zz_range
  have z_len : mg "len" = none := PySem.W.mg_none_of X G zz_len
  have z_int : mg "int" = none := PySem.W.mg_none_of X G zz_int
  have z_enumerate : mg "enumerate" = none := PySem.W.mg_none_of X G zz_enumerate
  have z_max : mg "max" = none := PySem.W.mg_none_of X G zz_max
  have z_list : mg "list" = none := PySem.W.mg_none_of X G zz_list
  have z_isinstance : mg "isinstance" = none := PySem.W.mg_none_of X G zz_isinstance
  have z_bool : mg "bool" = none := PySem.W.mg_none_of X G zz_bool
  have G_gcd : mg "gcd" = some (.builtin "math.gcd") := PySem.W.mg_of X G gg_gcd
  have C__law_draws := fun base => wd__law_draws (P := P) (w := w) (base := base) D__law_draws z_range z_len z_int
  have C_content := fun base => wd_content (P := P) (w := w) (base := base) D_content G_gcd
  have C_plain := fun base => wd_plain (P := P) (w := w) (base := base) D_plain (C_content base)
  have C_number := fun base => wd_number (P := P) (w := w) (base := base) D_number G_gcd
  have C_times := fun base => wd_times (P := P) (w := w) (base := base) D_times (C_number base)
  have C_plus := fun base => wd_plus (P := P) (w := w) (base := base) D_plus (C_number base)
  have C_quotient := fun base => wd_quotient (P := P) (w := w) (base := base) D_quotient (C_number base) (C_times base) (C_plus base) (C_plain base) z_range z_len z_enumerate G_gcd
  have C_coefficient_of := fun base => wd_coefficient_of (P := P) (w := w) (base := base) D_coefficient_of z_len
  have C_trimmed := fun base => wd_trimmed (P := P) (w := w) (base := base) D_trimmed z_len
  have C_add := fun base => wd_add (P := P) (w := w) (base := base) D_add (C_trimmed base) (C_coefficient_of base) z_max z_len z_range
  have C_scale := fun base => wd_scale (P := P) (w := w) (base := base) D_scale (C_trimmed base)
  have C_subtract := fun base => wd_subtract (P := P) (w := w) (base := base) D_subtract (C_add base) (C_scale base)
  have C_shifted := fun base => wd_shifted (P := P) (w := w) (base := base) D_shifted
  have C_false_rest := fun base => wd_false_rest (P := P) (w := w) (base := base) D_false_rest (C_coefficient_of base) (C_subtract base) (C_shifted base) (C_scale base) z_len z_list z_range
  have C_common_divisor := fun base => wd_common_divisor (P := P) (w := w) (base := base) D_common_divisor (C_plain base) (C_false_rest base)
  have C_derivative := fun base => wd_derivative (P := P) (w := w) (base := base) D_derivative z_range z_len
  have C_square_free := fun base => wd_square_free (P := P) (w := w) (base := base) D_square_free (C_quotient base) (C_common_divisor base) (C_derivative base)
  have C__law_factor := fun base => wd__law_factor (P := P) (w := w) (base := base) D__law_factor z_int
  have C__law_trim := fun base => wd__law_trim (P := P) (w := w) (base := base) D__law_trim z_list z_range z_len
  have C__law_multiply := fun base => wd__law_multiply (P := P) (w := w) (base := base) D__law_multiply (C__law_trim base) z_len z_range
  have C__law_is_polynomial := fun base => wd__law_is_polynomial (P := P) (w := w) (base := base) D__law_is_polynomial z_isinstance z_list z_bool z_int z_len
  have C_law := fun base => wd_law (P := P) (w := w) (base := base) F21 (C__law_draws base) (C__law_factor base) (C__law_multiply base) (C_square_free base) (C__law_is_polynomial base) z_int z_range z_list
  exact ⟨PySem.W.fnOf "law" "law" (defArgs ws_law) (defBody ws_law) (defScope ws_law) .none kV21 dc21 pm21 an21 cd21 ct21, fun s u => .of_eq rfl, C_law⟩
end W
open PySem PySem.W PyProof.Rows VL
set_option maxHeartbeats 0 in
theorem PySem.Challenge.cw_wheretrue_k06_square_free_parts_holds : PySem.Challenge.rw_wheretrue_k06_square_free_parts.Holds := by
  w_on; o_law; k_head; (case hw => w_witness2)
  k_fill
  refine VL.law_end (l := PySem.Challenge.rw_wheretrue_k06_square_free_parts) (k := 7) (x := "_law_script") (m := W.m_law) rfl rfl ⟨rfl, by decide, by decide⟩ (fun w h Y => PySem.W.kIn_of Y) W.law_true ?F
  case F =>
    intro w mg fa h KX G hmg
    refine' W.all_mk KX G hmg ?a0 ?l0 ?c0 ?k0 ?a1 ?l1 ?c1 ?k1 ?a2 ?l2 ?c2 ?k2 ?a3 ?l3 ?c3 ?k3 ?a4 ?l4 ?c4 ?k4 ?a5 ?l5 ?c5 ?k5 ?a6 ?l6 ?c6 ?k6 ?a7 ?l7 ?c7 ?k7 ?a8 ?l8 ?c8 ?k8 ?a9 ?l9 ?c9 ?k9 ?a10 ?l10 ?c10 ?k10 ?a11 ?l11 ?c11 ?k11 ?a12 ?l12 ?c12 ?k12 ?a13 ?l13 ?c13 ?k13 ?a14 ?l14 ?c14 ?k14 ?a15 ?l15 ?c15 ?k15 ?a16 ?l16 ?c16 ?k16 ?a17 ?l17 ?c17 ?k17 ?a18 ?l18 ?c18 ?k18 ?a19 ?l19 ?c19 ?k19 ?a20 ?l20 ?c20 ?k20 ?a21 ?l21 ?c21 ?k21 ?zz_range ?zz_len ?zz_int ?zz_enumerate ?zz_max ?zz_list ?zz_isinstance ?zz_bool ?gg_gcd
    (case a0 => k_is); (case l0 => k_is); (case c0 => k_is); (case k0 => k_is); (case a1 => k_is); (case l1 => k_is); (case c1 => k_is); (case k1 => k_is); (case a2 => k_is); (case l2 => k_is); (case c2 => k_is); (case k2 => k_is); (case a3 => k_is); (case l3 => k_is); (case c3 => k_is); (case k3 => k_is); (case a4 => k_is); (case l4 => k_is); (case c4 => k_is); (case k4 => k_is); (case a5 => k_is); (case l5 => k_is); (case c5 => k_is); (case k5 => k_is); (case a6 => k_is); (case l6 => k_is); (case c6 => k_is); (case k6 => k_is); (case a7 => k_is); (case l7 => k_is); (case c7 => k_is); (case k7 => k_is); (case a8 => k_is); (case l8 => k_is); (case c8 => k_is); (case k8 => k_is); (case a9 => k_is); (case l9 => k_is); (case c9 => k_is); (case k9 => k_is); (case a10 => k_is); (case l10 => k_is); (case c10 => k_is); (case k10 => k_is); (case a11 => k_is); (case l11 => k_is); (case c11 => k_is); (case k11 => k_is); (case a12 => k_is); (case l12 => k_is); (case c12 => k_is); (case k12 => k_is); (case a13 => k_is); (case l13 => k_is); (case c13 => k_is); (case k13 => k_is); (case a14 => k_is); (case l14 => k_is); (case c14 => k_is); (case k14 => k_is); (case a15 => k_is); (case l15 => k_is); (case c15 => k_is); (case k15 => k_is); (case a16 => k_is); (case l16 => k_is); (case c16 => k_is); (case k16 => k_is); (case a17 => k_is); (case l17 => k_is); (case c17 => k_is); (case k17 => k_is); (case a18 => k_is); (case l18 => k_is); (case c18 => k_is); (case k18 => k_is); (case a19 => k_is); (case l19 => k_is); (case c19 => k_is); (case k19 => k_is); (case a20 => k_is); (case l20 => k_is); (case c20 => k_is); (case k20 => k_is); (case a21 => k_is); (case l21 => k_is); (case c21 => k_is); (case k21 => k_is); (case zz_range => k_is); (case zz_len => k_is); (case zz_int => k_is); (case zz_enumerate => k_is); (case zz_max => k_is); (case zz_list => k_is); (case zz_isinstance => k_is); (case zz_bool => k_is); (case gg_gcd => k_is)
