import PyProof.Rows.All
import HandS.ForMost
import HandS.ForExc
import HandS.Wide
import HandS.WideBits
import HandS.Gcd
import HandS.IsInst
import HandS.ExcCtx
import HandS.Style
import HandS.Deep
import HandS.TupAny
import HandS.TryOnly
import HandS.Flow
import HandS.RaiseMore
import HandS.EndBits
import HandS.Dict
import PyProof.P3Eq
import PyProof.ReprLen
import HandS.ExcInit
import KE.KExcSuper
import KE.KSuper
import HandS.ExcIs
import HandS.HotCalls
import KE.KExcLine
import PySem.Challenge.RW_wheretrue_k76_checks_of_families
set_option Elab.async false
set_option linter.all false
set_option maxRecDepth 100000
set_option maxHeartbeats 4000000
set_option Elab.async false
set_option linter.all false
set_option maxRecDepth 100000
namespace VL
open PySem PySem.Spec PyProof.Rows L2

abbrev D := PyData
abbrev Fg := PySem.W.Frag
abbrev Sg := L2.St
set_option autoImplicit false

/-! ### data in a heap -/
/-- the data of a list that was made new; of a list that stays as it is -/
def tg (l : List D) : D := .dict [(.int 0, .list l)]
def tf (l : List D) : D := .dict [(.int 1, .list l)]
/-- a dict with text keys -/
def dkD (ks : List Str) (ds : List D) : D := .dict ((PyData.str "", PyData.none) :: (ks.map fun k => PyData.str k).zip ds)
/-- the exception that is handled, of the class of that name, at that address -/
def exD (n : Str) (a : Addr) : D := .dict [(.int 2, .str n), (.int 3, .int a)]
/-- a list that is never changed -/
def OldL (K : Fg) (H : Hp) (a : Addr) (xs : List V) : Prop :=
  (∃ o, H a = some (.frz o (.lst xs))) ∨
    ∃ (o : Obj) (its : Array Value) (n : Nat), K.lookup a = some o ∧ o.cls = .type "list" ∧ o.dict = none ∧ o.data = .seq its n ∧ its.size ≤ sizeLine ∧ Vals xs its.toList
mutual
inductive Rp (K : Fg) (H : Hp) : D → V → Prop
  | non : Rp K H .none .non
  | bl (b : Bool) : Rp K H (.bool b) (.bl b)
  | int (i : Int) : Rp K H (.int i) (.int i)
  | str (x : Str) : Rp K H (.str x) (.str x)
  | lst {a : Addr} {xs : List V} {ds : List D} : SqL K H a xs → RpL K H ds xs → Rp K H (.list ds) (.ref a)
  | tup {a : Addr} {xs : List V} {ds : List D} : SqT K H a xs → RpL K H ds xs → Rp K H (.tuple ds) (.ref a)
  | nl {a : Addr} {xs : List V} {ds : List D} : H a = some (.lst xs) → RpL K H ds xs → Rp K H (tg ds) (.ref a)
  | fl {a : Addr} {xs : List V} {ds : List D} : OldL K H a xs → RpL K H ds xs → Rp K H (tf ds) (.ref a)
  | dk {a : Addr} {ks : List Str} {vs : List V} {ds : List D} : H a = some (.dK (mergeK [] ((ks.zip vs).map fun p => ((Sum.inr p.1 : Key), p.2)))) → vs.length = ks.length → RpL K H ds vs → Rp K H (dkD ks ds) (.ref a)
  | exn (a : Addr) (n : Str) : Rp K H (exD n a) (.ref a)
inductive RpL (K : Fg) (H : Hp) : List D → List V → Prop
  | nil : RpL K H [] []
  | cons {v : V} {vs : List V} {d : D} {ds : List D} : Rp K H d v → RpL K H ds vs → RpL K H (d :: ds) (v :: vs)
end

theorem Rd.mono {H H' : Hp} {a : Addr} {u : HO} (e : Same H H') (h : Rd H a u) : Rd H' a u := by
  rcases h with h | ⟨o, h⟩
  · exact .inl (e _ _ h)
  · exact .inr ⟨o, e _ _ h⟩
theorem OldL.mono {K : Fg} {H H' : Hp} {a : Addr} {xs : List V} (e : Same H H') (h : OldL K H a xs) : OldL K H' a xs := by
  rcases h with ⟨o, h⟩ | h
  · exact .inl ⟨o, e _ _ h⟩
  · exact .inr h
theorem OldL.seq {K : Fg} {H : Hp} {a : Addr} {xs : List V} (h : OldL K H a xs) : SqL K H a xs := by
  rcases h with ⟨o, h⟩ | h
  · exact .inl (.inr ⟨o, h⟩)
  · exact .inr h
theorem SqT.mono {K : Fg} {H H' : Hp} {a : Addr} {xs : List V} (e : Same H H') (h : SqT K H a xs) : SqT K H' a xs := by
  rcases h with h | h
  · exact .inl (Rd.mono e h)
  · exact .inr h
section
variable {K : Fg} {H H' : Hp}
mutual
theorem Rp.mono (e : Same H H') : ∀ {d : D} {v : V}, Rp K H d v → Rp K H' d v
  | _, _, .non => .non
  | _, _, .bl b => .bl b
  | _, _, .int i => .int i
  | _, _, .str x => .str x
  | _, _, .lst h r => .lst (Same.seq e h) (RpL.mono e r)
  | _, _, .tup h r => .tup (SqT.mono e h) (RpL.mono e r)
  | _, _, .nl h r => .nl (e _ _ h) (RpL.mono e r)
  | _, _, .fl h r => .fl (OldL.mono e h) (RpL.mono e r)
  | _, _, .dk h l r => .dk (e _ _ h) l (RpL.mono e r)
  | _, _, .exn a n => .exn a n
theorem RpL.mono (e : Same H H') : ∀ {d : List D} {v : List V}, RpL K H d v → RpL K H' d v
  | _, _, .nil => .nil
  | _, _, .cons h r => .cons (Rp.mono e h) (RpL.mono e r)
end
theorem nodict_all : ∀ {l : List D}, PyData.hasDictAll l = false → ∀ d ∈ l, d.hasDict = false
  | [], _, d, hd => by simp at hd
  | x :: l, h, d, hd => by
    unfold PyData.hasDictAll at h
    rw [Bool.or_eq_false_iff] at h
    rcases List.mem_cons.mp hd with rfl | hd
    · exact h.1
    · exact nodict_all h.2 d hd
theorem nodict_list {l : List D} (h : (PyData.list l).hasDict = false) : ∀ d ∈ l, d.hasDict = false := nodict_all (by unfold PyData.hasDict at h; exact h)
theorem nodict_tup {l : List D} (h : (PyData.tuple l).hasDict = false) : ∀ d ∈ l, d.hasDict = false := nodict_all (by unfold PyData.hasDict at h; exact h)
theorem nodict_of {d : D} (h : SeqAt.shaped d = true) : d.hasDict = false := PyData.hasDict_of_canLay d (SeqAt.canLay_of_shaped h)
mutual
theorem Rp.dp : ∀ {d : D} {v : V}, Rp K H d v → d.hasDict = false → Dp K H v d
  | _, _, .non, _ => .non
  | _, _, .bl b, _ => .bl b
  | _, _, .int i, _ => .int i
  | _, _, .str x, _ => .str x
  | _, _, .lst h r, n => .lst h (RpL.dp r (nodict_list n))
  | _, _, .tup h r, n => .tup h (RpL.dp r (nodict_tup n))
  | _, _, .nl h r, n => by simp [tg, PyData.hasDict] at n
  | _, _, .fl h r, n => by simp [tf, PyData.hasDict] at n
  | _, _, .dk h l r, n => by simp [dkD, PyData.hasDict] at n
  | _, _, .exn a x, n => by simp [exD, PyData.hasDict] at n
theorem RpL.dp : ∀ {d : List D} {v : List V}, RpL K H d v → (∀ x ∈ d, x.hasDict = false) → DpAll K H v d
  | _, _, .nil, _ => .nil
  | _, _, .cons h r, n => .cons (Rp.dp h (n _ (by simp))) (RpL.dp r (fun x hx => n x (by simp [hx])))
end
theorem RpL.length : ∀ {ds : List D} {vs : List V}, RpL K H ds vs → ds.length = vs.length
  | _, _, .nil => rfl
  | _, _, .cons _ r => congrArg (· + 1) (RpL.length r)
theorem RpL.get : ∀ {ds : List D} {vs : List V} {i : Nat} {d : D}, RpL K H ds vs → ds[i]? = some d → ∃ v, vs[i]? = some v ∧ Rp K H d v
  | _, _, _, _, .nil, e => by simp at e
  | _, _, 0, _, .cons h _, e => by simp at e; subst e; exact ⟨_, rfl, h⟩
  | _, _, i + 1, _, .cons _ r, e => by
    obtain ⟨v, h1, h2⟩ := RpL.get (i := i) r (by simpa using e)
    exact ⟨v, by simpa using h1, h2⟩
theorem RpL.append : ∀ {ds es : List D} {vs ws : List V}, RpL K H ds vs → RpL K H es ws → RpL K H (ds ++ es) (vs ++ ws)
  | _, _, _, _, .nil, s => s
  | _, _, _, _, .cons h r, s => .cons h (RpL.append r s)
theorem RpL.take : ∀ {ds : List D} {vs : List V} (n : Nat), RpL K H ds vs → RpL K H (ds.take n) (vs.take n)
  | _, _, 0, _ => .nil
  | _, _, _ + 1, .nil => .nil
  | _, _, n + 1, .cons h r => .cons h (RpL.take n r)
theorem RpL.drop : ∀ {ds : List D} {vs : List V} (n : Nat), RpL K H ds vs → RpL K H (ds.drop n) (vs.drop n)
  | _, _, 0, r => r
  | _, _, _ + 1, .nil => .nil
  | _, _, n + 1, .cons _ r => RpL.drop n r
theorem RpL.set {d : D} {v : V} (q : Rp K H d v) : ∀ {ds : List D} {vs : List V} (i : Nat), RpL K H ds vs → RpL K H (ds.set i d) (vs.set i v)
  | _, _, _, .nil => .nil
  | _, _, 0, .cons _ r => .cons q r
  | _, _, i + 1, .cons h r => .cons h (RpL.set q i r)
theorem RpL.reverse {ds : List D} {vs : List V} (r : RpL K H ds vs) : RpL K H ds.reverse vs.reverse := by
  induction ds generalizing vs with
  | nil => cases r; exact .nil
  | cons d ds ih =>
    cases r with
    | cons h r =>
      rw [List.reverse_cons, List.reverse_cons]
      exact (ih r).append (.cons h .nil)
theorem RpL.dropLast {ds : List D} {vs : List V} (r : RpL K H ds vs) : RpL K H ds.dropLast vs.dropLast := by
  rw [List.dropLast_eq_take, List.dropLast_eq_take, r.length]
  exact r.take _
theorem RpL.replicate {ds : List D} {vs : List V} (r : RpL K H ds vs) : ∀ n : Nat, RpL K H (List.replicate n ds).flatten (List.replicate n vs).flatten
  | 0 => .nil
  | n + 1 => by
    rw [List.replicate_succ, List.replicate_succ, List.flatten_cons, List.flatten_cons]
    exact r.append (RpL.replicate r n)
theorem RpL.ints : ∀ {ns : List Int} {vs : List V}, RpL K H (ns.map PyData.int) vs → vs = ns.map V.int
  | [], _, r => by cases r; rfl
  | n :: ns, _, r => by
    cases r with
    | cons h r => cases h; rw [RpL.ints r]; rfl
theorem RpL.of_ints : ∀ (ns : List Int), RpL K H (ns.map PyData.int) (ns.map V.int)
  | [] => .nil
  | n :: ns => .cons (.int n) (RpL.of_ints ns)
end

/-! ### the frozen part and the whole -/
/-- from (Hs, H) to (Hs', H'): nothing that stood is changed, what is newly frozen is new -/
structure Ext (Hs H Hs' H' : Hp) : Prop where
  sub : Same Hs' H'
  same : Same H H'
  grow : Same Hs Hs'
  fresh : ∀ p o, Hs' p = some o → Hs p = none → H p = none
theorem Ext.refl {Hs H : Hp} (h : Same Hs H) : Ext Hs H Hs H := ⟨h, .refl _, .refl _, fun p o a b => by rw [a] at b; cases b⟩
theorem Ext.trans {Hs H Hs1 H1 Hs2 H2 : Hp} (a : Ext Hs H Hs1 H1) (b : Ext Hs1 H1 Hs2 H2) : Ext Hs H Hs2 H2 where
  sub := b.sub
  same := a.same.trans b.same
  grow := a.grow.trans b.grow
  fresh := fun p o h1 h2 => by
    cases e : Hs1 p with
    | none => exact a.same.free (b.fresh p o h1 e)
    | some u => exact a.fresh p u e h2
/-- a new object, frozen at once -/
theorem Ext.new {Hs H : Hp} {p : Addr} {o : HO} (h : Same Hs H) (hp : H p = none) : Ext Hs H (upd Hs p o) (upd H p o) where
  sub := fun b u e => by
    by_cases hb : b = p
    · subst hb; rw [upd_same] at e ⊢; exact e
    · rw [upd_ne hb] at e ⊢; exact h b u e
  same := fun b u e => by rw [upd_ne (ne_of_none e hp)]; exact e
  grow := fun b u e => by rw [upd_ne (ne_of_none (h b u e) hp)]; exact e
  fresh := fun b u e n => by
    by_cases hb : b = p
    · subst hb; exact hp
    · rw [upd_ne hb] at e; rw [e] at n; cases n
/-- a new object, not frozen -/
theorem Ext.hid {Hs H : Hp} {p : Addr} {o : HO} (h : Same Hs H) (hp : H p = none) : Ext Hs H Hs (upd H p o) where
  sub := fun b u e => by rw [upd_ne (ne_of_none (h b u e) hp)]; exact h b u e
  same := fun b u e => by rw [upd_ne (ne_of_none e hp)]; exact e
  grow := .refl _
  fresh := fun b u e n => by rw [e] at n; cases n
/-- what was new and not frozen is frozen -/
theorem Ext.frz {Hs H Hs' H' : Hp} {p : Addr} {o : HO} (e : Ext Hs H Hs' H') (h0 : H p = none) (h1 : H' p = some o) (h2 : Hs' p = none) : Ext Hs H (upd Hs' p o) H' where
  sub := fun b u q => by
    by_cases hb : b = p
    · subst hb; rw [upd_same] at q; cases q; exact h1
    · rw [upd_ne hb] at q; exact e.sub b u q
  same := e.same
  grow := e.grow.trans fun b u q => by rw [upd_ne (ne_of_none q h2)]; exact q
  fresh := fun b u q n => by
    by_cases hb : b = p
    · subst hb; exact h0
    · rw [upd_ne hb] at q; exact e.fresh b u q n

/-! ### slots -/
inductive SD where
  | no
  | sh (d : D)
  | ow (l : List D)
  | bo (l : List D)
abbrev Ev := List SD
/-- the heap at the start, without the list that is lent; that list's address -/
structure Gx where
  h : Hp
  b : Nat → Option Addr

def RelS (K : Fg) (G : Gx) (Hs H : Hp) (i : Nat) : SD → Option (Option V) → Prop
  | .no, _ => True
  | .sh d, x => ∃ v, x = some (some v) ∧ Rp K Hs d v
  | .ow l, x => ∃ p vs, x = some (some (.ref p)) ∧ G.h p = none ∧ Hs p = none ∧ H p = some (.lst vs) ∧ RpL K Hs l vs ∧ ∀ j, G.b j ≠ some p
  | .bo l, x => ∃ p vs, x = some (some (.ref p)) ∧ G.b i = some p ∧ H p = some (.lst vs) ∧ RpL K Hs l vs

structure RelE (K : Fg) (S : Hp) (G : Gx) (Hs H : Hp) (σ : Sg) (ρ : Ev) : Prop where
  sub : Same Hs H
  old : Same G.h H
  ext : Same S Hs
  new : ∀ p o, Hs p = some o → S p = none → G.h p = none
  len : ρ.length = σ.length
  slot : ∀ (i : Nat) (r : SD), ρ[i]? = some r → RelS K G Hs H i r σ[i]?
  bor : ∀ (i : Nat) (p : Addr), G.b i = some p → G.h p = none ∧ Hs p = none ∧ H p ≠ none
  one : ∀ (i j : Nat) (p : Addr), G.b i = some p → G.b j = some p → i = j
  dis : ∀ (i j : Nat) (l m : List D) (p : Addr), ρ[i]? = some (.ow l) → ρ[j]? = some (.ow m) → σ[i]? = some (some (.ref p)) → σ[j]? = some (some (.ref p)) → i = j

section
variable {K : Fg} {S Hs H Hs' H' : Hp} {G : Gx} {σ : Sg} {ρ : Ev}
theorem RelE.step (r : RelE K S G Hs H σ ρ) (e : Ext Hs H Hs' H') : RelE K S G Hs' H' σ ρ where
  sub := e.sub
  old := r.old.trans e.same
  ext := r.ext.trans e.grow
  new := fun p o a b => by
    cases q : Hs p with
    | none => exact r.old.free (e.fresh p o a q)
    | some u => exact r.new p u q b
  len := r.len
  slot := fun i s hs => by
    have q := r.slot i s hs
    cases s with
    | no => trivial
    | sh d =>
      obtain ⟨v, e1, e2⟩ := q
      exact ⟨v, e1, e2.mono e.grow⟩
    | ow l =>
      obtain ⟨p, vs, e1, e2, e3, e4, e5, e6⟩ := q
      refine ⟨p, vs, e1, e2, ?_, e.same _ _ e4, e5.mono e.grow, e6⟩
      cases q : Hs' p with
      | none => rfl
      | some u =>
        have := e.fresh p u q e3
        rw [e4] at this; cases this
    | bo l =>
      obtain ⟨p, vs, e1, e2, e3, e4⟩ := q
      exact ⟨p, vs, e1, e2, e.same _ _ e3, e4.mono e.grow⟩
  dis := r.dis
  bor := fun i p hp => by
    obtain ⟨h1, h2, h3⟩ := r.bor i p hp
    refine ⟨h1, ?_, fun z => h3 (e.same.free z)⟩
    cases q : Hs' p with
    | none => rfl
    | some u => exact (h3 (e.fresh p u q h2)).elim
  one := r.one
theorem RelE.get {i : Nat} {d : D} (r : RelE K S G Hs H σ ρ) (h : ρ[i]? = some (.sh d)) : ∃ v, σ[i]? = some (some v) ∧ Rp K Hs d v := r.slot i _ h
theorem RelE.own' {i : Nat} {l : List D} (r : RelE K S G Hs H σ ρ) (h : ρ[i]? = some (.ow l)) : ∃ p vs, σ[i]? = some (some (.ref p)) ∧ G.h p = none ∧ Hs p = none ∧ H p = some (.lst vs) ∧ RpL K Hs l vs ∧ ∀ j, G.b j ≠ some p := r.slot i _ h
theorem RelE.own {i : Nat} {l : List D} (r : RelE K S G Hs H σ ρ) (h : ρ[i]? = some (.ow l)) : ∃ p vs, σ[i]? = some (some (.ref p)) ∧ G.h p = none ∧ Hs p = none ∧ H p = some (.lst vs) ∧ RpL K Hs l vs :=
  let ⟨p, vs, e1, e2, e3, e4, e5, _⟩ := r.own' h
  ⟨p, vs, e1, e2, e3, e4, e5⟩
theorem RelE.lent {i : Nat} {l : List D} (r : RelE K S G Hs H σ ρ) (h : ρ[i]? = some (.bo l)) : ∃ p vs, σ[i]? = some (some (.ref p)) ∧ G.b i = some p ∧ H p = some (.lst vs) ∧ RpL K Hs l vs := r.slot i _ h

theorem set_get {α : Type} {l : List α} {i j : Nat} {x y : α} (h : (l.set i x)[j]? = some y) : (j = i ∧ i < l.length ∧ y = x) ∨ (j ≠ i ∧ l[j]? = some y) := by
  by_cases e : j = i
  · subst e
    by_cases hl : j < l.length
    · rw [List.getElem?_set_self hl] at h
      exact .inl ⟨rfl, hl, (Option.some.inj h).symm⟩
    · rw [List.getElem?_eq_none (by simpa using hl)] at h; cases h
  · rw [List.getElem?_set_ne (Ne.symm e)] at h
    exact .inr ⟨e, h⟩
/-- a slot is forgotten, or what stands there is shared data -/
theorem RelE.set {i : Nat} {d : D} {v : V} (r : RelE K S G Hs H σ ρ) (h : Rp K Hs d v) : RelE K S G Hs H (σ.set i (some v)) (ρ.set i (.sh d)) where
  sub := r.sub
  old := r.old
  ext := r.ext
  new := r.new
  len := by simpa using r.len
  slot := fun j s hs => by
    rcases set_get hs with ⟨rfl, hl, rfl⟩ | ⟨hj, hs⟩
    · exact ⟨v, by rw [List.getElem?_set_self (by rw [← r.len]; exact hl)], h⟩
    · rw [List.getElem?_set_ne (Ne.symm hj)]
      exact r.slot j s hs
  dis := fun j k l m p a b c d' => by
    rcases set_get a with ⟨_, _, e⟩ | ⟨hj, a⟩
    · cases e
    · rcases set_get b with ⟨_, _, e⟩ | ⟨hk, b⟩
      · cases e
      · rw [List.getElem?_set_ne (Ne.symm hj)] at c
        rw [List.getElem?_set_ne (Ne.symm hk)] at d'
        exact r.dis j k l m p a b c d'
  bor := r.bor
  one := r.one
theorem RelE.setNo {i : Nat} {v : Option V} (r : RelE K S G Hs H σ ρ) : RelE K S G Hs H (σ.set i v) (ρ.set i .no) where
  sub := r.sub
  old := r.old
  ext := r.ext
  new := r.new
  len := by simpa using r.len
  slot := fun j s hs => by
    rcases set_get hs with ⟨rfl, hl, rfl⟩ | ⟨hj, hs⟩
    · trivial
    · rw [List.getElem?_set_ne (Ne.symm hj)]
      exact r.slot j s hs
  dis := fun j k l m p a b c d' => by
    rcases set_get a with ⟨_, _, e⟩ | ⟨hj, a⟩
    · cases e
    · rcases set_get b with ⟨_, _, e⟩ | ⟨hk, b⟩
      · cases e
      · rw [List.getElem?_set_ne (Ne.symm hj)] at c
        rw [List.getElem?_set_ne (Ne.symm hk)] at d'
        exact r.dis j k l m p a b c d'
  bor := r.bor
  one := r.one
/-- a new list of one's own -/
theorem RelE.setOw {i : Nat} {l : List D} {p : Addr} {vs : List V} (r : RelE K S G Hs H σ ρ) (e : Ext Hs H Hs' H') (h0 : H p = none) (h1 : Hs' p = none) (h2 : H' p = some (.lst vs)) (h3 : RpL K Hs' l vs) :
    RelE K S G Hs' H' (σ.set i (some (.ref p))) (ρ.set i (.ow l)) := by
  have r' := r.step e
  have nb : ∀ j, G.b j ≠ some p := fun j z => (r.bor j p z).2.2 h0
  have away : ∀ (j : Nat) (m : List D), ρ[j]? = some (.ow m) → σ[j]? = some (some (.ref p)) → False := fun j m hj hs => by
    obtain ⟨q, ws, e1, _, _, e4, _⟩ := r.own hj
    rw [hs] at e1; cases e1
    rw [h0] at e4; cases e4
  refine ⟨r'.sub, r'.old, r'.ext, r'.new, by simpa using r.len, fun j s hs => ?_, r'.bor, r'.one, fun j k l m q a b c d' => ?_⟩
  · rcases set_get hs with ⟨rfl, hl, rfl⟩ | ⟨hj, hs⟩
    · exact ⟨p, vs, by rw [List.getElem?_set_self (by rw [← r.len]; exact hl)], r.old.free h0, h1, h2, h3, nb⟩
    · rw [List.getElem?_set_ne (Ne.symm hj)]
      exact r'.slot j s hs
  · rcases set_get a with ⟨rfl, hl, e⟩ | ⟨hj, a'⟩
    · rcases set_get b with ⟨rfl, _, e⟩ | ⟨hk, b'⟩
      · rfl
      · rw [List.getElem?_set_self (by rw [← r.len]; exact hl)] at c
        rw [List.getElem?_set_ne (Ne.symm hk)] at d'
        cases c
        exact (away k m b' d').elim
    · rcases set_get b with ⟨rfl, hl, e⟩ | ⟨hk, b'⟩
      · rw [List.getElem?_set_self (by rw [← r.len]; exact hl)] at d'
        rw [List.getElem?_set_ne (Ne.symm hj)] at c
        cases d'
        exact (away j l a' c).elim
      · rw [List.getElem?_set_ne (Ne.symm hj)] at c
        rw [List.getElem?_set_ne (Ne.symm hk)] at d'
        exact r.dis j k l m q a' b' c d'
/-- a list of one's own is changed -/
theorem RelE.wr {i : Nat} {l l' : List D} {p : Addr} {ws : List V} (r : RelE K S G Hs H σ ρ) (hi : ρ[i]? = some (.ow l)) (hs : σ[i]? = some (some (.ref p))) (h : RpL K Hs l' ws) :
    RelE K S G Hs (upd H p (.lst ws)) σ (ρ.set i (.ow l')) := by
  obtain ⟨q, us, e1, e2, e3, e4, e5, e6⟩ := r.own' hi
  rw [hs] at e1; cases e1
  refine ⟨fun b u e => ?_, fun b u e => ?_, r.ext, r.new, by simpa using r.len, fun j s hj => ?_, fun jj a ha => ?_, r.one, fun j k m n q a b c d' => ?_⟩
  · rw [upd_ne (ne_of_none e e3)]; exact r.sub b u e
  · rw [upd_ne (ne_of_none e e2)]; exact r.old b u e
  · rcases set_get hj with ⟨rfl, hl, rfl⟩ | ⟨hj', hj⟩
    · exact ⟨p, ws, hs, e2, e3, upd_same, h, e6⟩
    · have q := r.slot j s hj
      cases s with
      | no => trivial
      | sh d => exact q
      | ow m =>
        obtain ⟨q, xs, f1, f2, f3, f4, f5, f6⟩ := q
        refine ⟨q, xs, f1, f2, f3, ?_, f5, f6⟩
        rw [upd_ne]
        · exact f4
        · rintro rfl
          exact hj' (r.dis j i m l q hj hi f1 hs)
      | bo m =>
        obtain ⟨q, xs, f1, f2, f3, f4⟩ := q
        refine ⟨q, xs, f1, f2, ?_, f4⟩
        rw [upd_ne]
        · exact f3
        · rintro rfl
          exact e6 j f2
  · obtain ⟨h1, h2, h3⟩ := r.bor jj a ha
    refine ⟨h1, h2, ?_⟩
    rw [upd_ne]
    · exact h3
    · rintro rfl
      exact e6 jj ha
  · have go : ∀ (j : Nat) (m : List D), (ρ.set i (.ow l'))[j]? = some (.ow m) → ∃ m', ρ[j]? = some (.ow m') := fun j m h => by
      rcases set_get h with ⟨rfl, _, _⟩ | ⟨_, h⟩
      · exact ⟨l, hi⟩
      · exact ⟨m, h⟩
    obtain ⟨m', a'⟩ := go j m a
    obtain ⟨n', b'⟩ := go k n b
    exact r.dis j k m' n' q a' b' c d'
/-- the lent list is changed -/
theorem RelE.wrB {i : Nat} {l l' : List D} {p : Addr} {ws : List V} (r : RelE K S G Hs H σ ρ) (hi : ρ[i]? = some (.bo l)) (hs : σ[i]? = some (some (.ref p))) (h : RpL K Hs l' ws) :
    RelE K S G Hs (upd H p (.lst ws)) σ (ρ.set i (.bo l')) := by
  obtain ⟨q, us, e1, e6, e4, e5⟩ := r.lent hi
  rw [hs] at e1; cases e1
  obtain ⟨e2, e3, _⟩ := r.bor i p e6
  refine ⟨fun b u e => ?_, fun b u e => ?_, r.ext, r.new, by simpa using r.len, fun j s hj => ?_, fun jj a ha => ?_, r.one, fun j k m n q a b c d' => ?_⟩
  · rw [upd_ne (ne_of_none e e3)]; exact r.sub b u e
  · rw [upd_ne (ne_of_none e e2)]; exact r.old b u e
  · rcases set_get hj with ⟨rfl, hl, rfl⟩ | ⟨hj', hj⟩
    · exact ⟨p, ws, hs, e6, upd_same, h⟩
    · have q := r.slot j s hj
      cases s with
      | no => trivial
      | sh d => exact q
      | ow m =>
        obtain ⟨q, xs, f1, f2, f3, f4, f5, f6⟩ := q
        refine ⟨q, xs, f1, f2, f3, ?_, f5, f6⟩
        rw [upd_ne]
        · exact f4
        · rintro rfl
          exact f6 i e6
      | bo m =>
        obtain ⟨q, xs, f1, f2, f3, f4⟩ := q
        refine ⟨q, xs, f1, f2, ?_, f4⟩
        rw [upd_ne]
        · exact f3
        · rintro rfl
          exact hj' (r.one j i q f2 e6)
  · obtain ⟨h1, h2, h3⟩ := r.bor jj a ha
    refine ⟨h1, h2, ?_⟩
    by_cases z : a = p
    · subst z; rw [upd_same]; simp
    · rw [upd_ne z]; exact h3
  · rcases set_get a with ⟨_, _, e⟩ | ⟨_, a⟩
    · cases e
    · rcases set_get b with ⟨_, _, e⟩ | ⟨_, b⟩
      · cases e
      · exact r.dis j k m n q a b c d'
/-- a list of one's own is frozen -/
theorem RelE.fz {i : Nat} {l : List D} (r : RelE K S G Hs H σ ρ) (hi : ρ[i]? = some (.ow l)) : ∃ Hs', Same Hs Hs' ∧ RelE K S G Hs' H σ (ρ.set i (.sh (.list l))) := by
  obtain ⟨p, vs, e1, e2, e3, e4, e5, e6⟩ := r.own' hi
  have g : Same Hs (upd Hs p (.lst vs)) := fun b u q => by rw [upd_ne (ne_of_none q e3)]; exact q
  refine ⟨upd Hs p (.lst vs), g, fun b u q => ?_, r.old, r.ext.trans g, fun b u q n => ?_, by simpa using r.len, fun j s hj => ?_, fun jj a ha => ?_, r.one, fun j k m n q a b c d' => ?_⟩
  · by_cases hb : b = p
    · subst hb; rw [upd_same] at q; cases q; exact e4
    · rw [upd_ne hb] at q; exact r.sub b u q
  · by_cases hb : b = p
    · subst hb; exact e2
    · rw [upd_ne hb] at q; exact r.new b u q n
  · rcases set_get hj with ⟨rfl, hl, rfl⟩ | ⟨hj', hj⟩
    · exact ⟨_, e1, .lst (.inl (.inl upd_same)) (e5.mono g)⟩
    · have q := r.slot j s hj
      cases s with
      | no => trivial
      | sh d =>
        obtain ⟨v, q1, q2⟩ := q
        exact ⟨v, q1, q2.mono g⟩
      | ow m =>
        obtain ⟨q, xs, f1, f2, f3, f4, f5, f6⟩ := q
        refine ⟨q, xs, f1, f2, ?_, f4, f5.mono g, f6⟩
        rw [upd_ne]
        · exact f3
        · rintro rfl
          exact hj' (r.dis j i m l q hj hi f1 e1)
      | bo m =>
        obtain ⟨q, xs, f1, f2, f3, f4⟩ := q
        exact ⟨q, xs, f1, f2, f3, f4.mono g⟩
  · obtain ⟨h1, h2, h3⟩ := r.bor jj a ha
    refine ⟨h1, ?_, h3⟩
    rw [upd_ne]
    · exact h2
    · rintro rfl
      exact e6 jj ha
  · rcases set_get a with ⟨_, _, e⟩ | ⟨hj, a⟩
    · cases e
    · rcases set_get b with ⟨_, _, e⟩ | ⟨hk, b⟩
      · cases e
      · exact r.dis j k m n q a b c d'
end

/-! ### outcomes -/
/-- an exception: its class's name, its fields -/
structure Xn where
  name : Str
  flds : List (Str × D) := []
inductive R (α : Type) where
  | ok (a : α)
  | ex (x : Xn)
  | bad
def R.bind {α β : Type} (r : R α) (f : α → R β) : R β := match r with
  | .ok a => f a
  | .ex x => .ex x
  | .bad => .bad
instance : Monad R where
  pure := .ok
  bind := R.bind
inductive Out where
  | nx (ρ : Ev)
  | rt (r : SD)
  | rtB (r : SD) (ρ : Ev)
  | bk (ρ : Ev)
  | ct (ρ : Ev)
  | ex (x : Xn) (ρ : Ev)
  | bad
end VL

set_option Elab.async false
set_option linter.all false
set_option maxRecDepth 100000
set_option autoImplicit false
namespace VL
open PySem PySem.Spec PyProof.Rows L2

/-! ### what is wanted behind an evaluation -/
/-- the exception told by x, as it lies -/
def XRp (K : Fg) (mg : Str → Option Value) (H : Hp) (x : Xn) (cls : Value) (dd : Option Addr) : Prop :=
  mg x.name = some cls ∧ ((x.flds = [] ∧ dd = none) ∨ x.flds ≠ [] ∧ ∃ a vs, dd = some a ∧ H a = some (.xd vs) ∧ vs.map (·.1) = x.flds.map (·.1) ∧ RpL K H (x.flds.map (·.2)) (vs.map (·.2)))

def Post {α : Type} (K : Fg) (mg : Str → Option Value) (W : WX) (Hs H : Hp) (σ : Sg) : R α → (α → Hp → Hp → Prop) → Prop
  | .ok a, P => ∀ Hs' H', Ext Hs H Hs' H' → P a Hs' H'
  | .ex x, _ => ∀ Hs' H' cls dd, Ext Hs H Hs' H' → XRp K mg H' x cls dd → W cls dd σ H'
  | .bad, _ => False

section
variable {K : Fg} {mg : Str → Option Value} {W : WX} {Hs H Hs1 H1 : Hp} {σ : Sg} {α β : Type}
theorem Post.up {r : R α} {P : α → Hp → Hp → Prop} (e : Ext Hs H Hs1 H1) (h : Post K mg W Hs H σ r P) : Post K mg W Hs1 H1 σ r P := by
  cases r with
  | ok a => exact fun Hs' H' e' => h Hs' H' (e.trans e')
  | ex x => exact fun Hs' H' cls dd e' hx => h Hs' H' cls dd (e.trans e') hx
  | bad => exact h
theorem Post.imp {r : R α} {P P' : α → Hp → Hp → Prop} (h : Post K mg W Hs H σ r P) (hp : ∀ a Hs' H', Ext Hs H Hs' H' → P a Hs' H' → P' a Hs' H') : Post K mg W Hs H σ r P' := by
  cases r with
  | ok a => exact fun Hs' H' e' => hp _ _ _ e' (h Hs' H' e')
  | ex x => exact h
  | bad => exact h
theorem Post.bind {r : R α} {f : α → R β} {P : β → Hp → Hp → Prop} (h : Post K mg W Hs H σ (r.bind f) P) : Post K mg W Hs H σ r (fun a Hs' H' => Post K mg W Hs' H' σ (f a) P) := by
  cases r with
  | ok a => exact fun Hs' H' e => Post.up e h
  | ex x => exact h
  | bad => exact h
theorem Post.now {a : α} {P : α → Hp → Hp → Prop} (hs : Same Hs H) (h : Post K mg W Hs H σ (.ok a) P) : P a Hs H := h Hs H (.refl hs)
end

/-! ### the readings -/
/-- read at once: a list whose items are frozen, or frozen data -/
def Pk (K : Fg) (Hs H : Hp) (d : D) (v : V) : Prop := Rp K Hs d v ∨ ∃ l a xs, d = .list l ∧ v = .ref a ∧ SqL K H a xs ∧ RpL K Hs l xs
theorem Pk.up {K : Fg} {Hs H Hs1 H1 : Hp} {d : D} {v : V} (h : Pk K Hs H d v) (e : Ext Hs H Hs1 H1) : Pk K Hs1 H1 d v := by
  rcases h with h | ⟨l, a, xs, h1, h2, h3, h4⟩
  · exact .inl (h.mono e.grow)
  · exact .inr ⟨l, a, xs, h1, h2, Same.seq e.same h3, h4.mono e.grow⟩
theorem Pk.rp {K : Fg} {Hs H : Hp} {d : D} {v : V} (h : Pk K Hs H d v) (e : Same Hs H) : Rp K H d v := by
  rcases h with h | ⟨l, a, xs, rfl, rfl, h3, h4⟩
  · exact h.mono e
  · exact .lst h3 (h4.mono e)
theorem Pk.list {K : Fg} {Hs H : Hp} {l : List D} {v : V} (h : Pk K Hs H (.list l) v) (e : Same Hs H) : ∃ a xs, v = .ref a ∧ SqL K H a xs ∧ RpL K Hs l xs := by
  rcases h with h | ⟨l', a, xs, h1, h2, h3, h4⟩
  · cases h with
    | lst h1 h2 => exact ⟨_, _, rfl, Same.seq e h1, h2⟩
  · cases h1
    exact ⟨a, xs, h2, h3, h4⟩
theorem Pk.tup {K : Fg} {Hs H : Hp} {l : List D} {v : V} (h : Pk K Hs H (.tuple l) v) (e : Same Hs H) : ∃ a xs, v = .ref a ∧ SqT K H a xs ∧ RpL K Hs l xs := by
  rcases h with h | ⟨l', a, xs, h1, h2, h3, h4⟩
  · cases h with
    | tup h1 h2 => exact ⟨_, _, rfl, SqT.mono e h1, h2⟩
  · cases h1
theorem Pk.int {K : Fg} {Hs H : Hp} {i : Int} {v : V} (h : Pk K Hs H (.int i) v) : v = .int i := by
  rcases h with h | ⟨l', a, xs, h1, h2, h3, h4⟩
  · cases h; rfl
  · cases h1
theorem Pk.bl {K : Fg} {Hs H : Hp} {i : Bool} {v : V} (h : Pk K Hs H (.bool i) v) : v = .bl i := by
  rcases h with h | ⟨l', a, xs, h1, h2, h3, h4⟩
  · cases h; rfl
  · cases h1
theorem Pk.str {K : Fg} {Hs H : Hp} {i : Str} {v : V} (h : Pk K Hs H (.str i) v) : v = .str i := by
  rcases h with h | ⟨l', a, xs, h1, h2, h3, h4⟩
  · cases h; rfl
  · cases h1
theorem Pk.non {K : Fg} {Hs H : Hp} {v : V} (h : Pk K Hs H .none v) : v = .non := by
  rcases h with h | ⟨l', a, xs, h1, h2, h3, h4⟩
  · cases h; rfl
  · cases h1

def tE (K : Fg) (mg : Str → Option Value) (W : WX) (f : Ev → R D) : TE := fun σ H Q => ∃ S G Hs ρ, RelE K S G Hs H σ ρ ∧ Post K mg W Hs H σ (f ρ) (fun d Hs' H' => ∀ v, Rp K Hs' d v → Q v H')
/-- read at once -/
def tPk (K : Fg) (mg : Str → Option Value) (W : WX) (f : Ev → R D) : TE := fun σ H Q => ∃ S G Hs ρ, RelE K S G Hs H σ ρ ∧ Post K mg W Hs H σ (f ρ) (fun d Hs' H' => ∀ v, Pk K Hs' H' d v → Q v H')
/-- a new list -/
def tO (K : Fg) (mg : Str → Option Value) (W : WX) (f : Ev → R (List D)) : TE := fun σ H Q => ∃ S G Hs ρ, RelE K S G Hs H σ ρ ∧
  Post K mg W Hs H σ (f ρ) (fun l Hs' H' => ∀ p vs, H p = none → Hs' p = none → H' p = some (.lst vs) → RpL K Hs' l vs → Q (.ref p) H')
def tT (K : Fg) (mg : Str → Option Value) (W : WX) (f : Ev → R Bool) : TT := fun σ H Q => ∃ S G Hs ρ, RelE K S G Hs H σ ρ ∧ Post K mg W Hs H σ (f ρ) (fun b _ H' => Q b H')
def tA (K : Fg) (mg : Str → Option Value) (W : WX) (f : Ev → R (List D)) : TA := fun σ H Q => ∃ S G Hs ρ, RelE K S G Hs H σ ρ ∧ Post K mg W Hs H σ (f ρ) (fun ds Hs' H' => ∀ vs, RpL K Hs' ds vs → Q vs H')

def VE (X : Cx) (W : WX) (e : Expr) (f : Ev → R D) : Prop := PE X e (tE X.K X.mg W f)
def VP (X : Cx) (W : WX) (e : Expr) (f : Ev → R D) : Prop := PE X e (tPk X.K X.mg W f)
def VO (X : Cx) (W : WX) (e : Expr) (f : Ev → R (List D)) : Prop := PE X e (tO X.K X.mg W f)
def VT (X : Cx) (W : WX) (e : Expr) (f : Ev → R Bool) : Prop := PT X e (tT X.K X.mg W f)
def VW (X : Cx) (W : WX) (e : Expr) (f : Ev → R Bool) : Prop := PW X e (tT X.K X.mg W f)
def VA (X : Cx) (W : WX) (es : List Expr) (f : Ev → R (List D)) : Prop := PA X es (tA X.K X.mg W f)

theorem PE.imp {X : Cx} {e : Expr} {t t' : TE} (h : PE X e t) (i : ∀ σ H Q, t' σ H Q → t σ H Q) : PE X e t' := ⟨fun pins s σ H Q I q => h.run pins s σ H Q I (i σ H Q q)⟩
theorem PT.imp {X : Cx} {e : Expr} {t t' : TT} (h : PT X e t) (i : ∀ σ H Q, t' σ H Q → t σ H Q) : PT X e t' := ⟨fun pins s σ H Q I q => h.run pins s σ H Q I (i σ H Q q)⟩
theorem PW.imp {X : Cx} {e : Expr} {t t' : TT} (h : PW X e t) (i : ∀ σ H Q, t' σ H Q → t σ H Q) : PW X e t' := ⟨fun wh pins s σ H Q I q => h.run wh pins s σ H Q I (i σ H Q q)⟩
theorem PA.imp {X : Cx} {es : List Expr} {t t' : TA} (h : PA X es t) (i : ∀ σ H Q, t' σ H Q → t σ H Q) : PA X es t' := ⟨fun pos pins s σ H Q I q => h.run pos pins s σ H Q I (i σ H Q q)⟩
theorem PS.imp {X : Cx} {st : Stmt} {t t' : TS} (h : PS X st t) (i : ∀ D σ H, t' D σ H → t D σ H) : PS X st t' := ⟨fun pins s σ H D I q => h.run pins s σ H D I (i D σ H q)⟩
theorem PSs.imp {X : Cx} {st : List Stmt} {t t' : TS} (h : PSs X st t) (i : ∀ D σ H, t' D σ H → t D σ H) : PSs X st t' := ⟨fun pins s σ H D I q => h.run pins s σ H D I (i D σ H q)⟩
theorem PG.imp {X : Cx} {tg : Expr} {t t' : TG} (h : PG X tg t) (i : ∀ v σ H Q, t' v σ H Q → t v σ H Q) : PG X tg t' := ⟨fun pins s σ H v u Q I r q => h.run pins s σ H v u Q I r (i v σ H Q q)⟩
theorem PI.imp {X : Cx} {tg iter : Expr} {t t' : TI} (h : PI X tg iter t) (i : ∀ σ H Q, t' σ H Q → t σ H Q) : PI X tg iter t' := ⟨fun pins s σ H Q I q => h.run pins s σ H Q I (i σ H Q q)⟩

/-- a computation whose exception is not wanted -/
def noex {α : Type} : R α → R α
  | .ok a => .ok a
  | _ => .bad
def ofO {α : Type} : Option α → R α
  | some a => .ok a
  | none => .bad
theorem bind_ok {α β : Type} (a : α) (f : α → R β) : (R.ok a).bind f = f a := rfl
/-! ### combinators -/
def cst {α : Type} (a : α) : Ev → R α := fun _ => .ok a
def eVar (i : Nat) : Ev → R D := fun ρ => match ρ[i]? with
  | some (.sh d) => .ok d
  | _ => .bad
/-- .. or a list of one's own, read at once -/
def eOwn (i : Nat) : Ev → R D := fun ρ => match ρ[i]? with
  | some (.sh d) => .ok d
  | some (.ow l) => .ok (.list l)
  | some (.bo l) => .ok (.list l)
  | _ => .bad
def e1 {α β : Type} (F : α → Option β) (f : Ev → R α) : Ev → R β := fun ρ => (f ρ).bind fun x => ofO (F x)
def e2 {α β γ : Type} (F : α → β → Option γ) (f : Ev → R α) (g : Ev → R β) : Ev → R γ := fun ρ => (f ρ).bind fun x => (g ρ).bind fun y => ofO (F x y)
def eCons (f : Ev → R D) (g : Ev → R (List D)) : Ev → R (List D) := fun ρ => (f ρ).bind fun x => (g ρ).bind fun xs => .ok (x :: xs)
def eLst (f : Ev → R (List D)) : Ev → R D := fun ρ => (f ρ).bind fun l => .ok (.list l)
def eIf {α : Type} (c : Ev → R Bool) (f g : Ev → R α) : Ev → R α := fun ρ => (c ρ).bind fun b => if b then f ρ else g ρ
def eAnd (f g : Ev → R Bool) : Ev → R Bool := fun ρ => (f ρ).bind fun b => if b then g ρ else .ok false
def eOr (f g : Ev → R Bool) : Ev → R Bool := fun ρ => (f ρ).bind fun b => if b then .ok true else g ρ
def eNot (f : Ev → R Bool) : Ev → R Bool := fun ρ => (f ρ).bind fun b => .ok (!b)

section
variable {X : Cx} {W : WX} {e a b c : Expr} {es : List Expr} {pos : Pos} {f g : Ev → R D} {fl : Ev → R (List D)} {fb gb : Ev → R Bool}

theorem VE.vp (h : VE X W e f) : VP X W e f := PE.imp h fun σ H Q ⟨S, G, Hs, ρ, r, p⟩ => ⟨S, G, Hs, ρ, r, p.imp fun _ _ _ e q v hv => q v (.inl hv)⟩
theorem VO.ve (h : VO X W e fl) : VE X W e (eLst fl) := PE.imp h fun σ H Q ⟨S, G, Hs, ρ, r, p⟩ => ⟨S, G, Hs, ρ, r, by
  unfold eLst at p
  cases q : fl ρ with
  | bad => rw [q] at p; exact p
  | ex x => rw [q] at p; exact p
  | ok l =>
    rw [q] at p
    refine fun Hs' H' e p' vs h0 h1 h2 h3 => ?_
    exact p _ _ (e.frz h0 h2 h1) _ (.lst (.inl (.inl upd_same)) (h3.mono fun b u z => by rw [upd_ne (ne_of_none z h1)]; exact z))⟩

/-! ### names, constants -/
theorem ve_pe {v : V} {d : D} (h : PE X e (tC v)) (hd : ∀ K H, Rp K H d v) : VE X W e (cst d) := PE.imp h fun σ H Q ⟨S, G, Hs, ρ, r, p⟩ => p.now r.sub v (hd _ _)
theorem ve_int {i j pos} : VE X W (.Constant (.int i) j pos) (cst (.int i)) := ve_pe pe_int fun _ _ => .int i
theorem ve_bl {i j pos} : VE X W (.Constant (.bool i) j pos) (cst (.bool i)) := ve_pe pe_bl fun _ _ => .bl i
theorem ve_non {j pos} : VE X W (.Constant .none j pos) (cst .none) := ve_pe pe_non fun _ _ => .non
theorem ve_str {i j pos} : VE X W (.Constant (.str i) j pos) (cst (.str i)) := ve_pe pe_str fun _ _ => .str i
theorem ve_var (i : Nat) {x : Str} {pos : Pos} (h : PE X (.Name x pos) (tVar i)) : VE X W (.Name x pos) (eVar i) := PE.imp h fun σ H Q ⟨S, G, Hs, ρ, r, p⟩ => by
  unfold eVar at p
  cases q : ρ[i]? with
  | none => rw [q] at p; exact p.elim
  | some s =>
    rw [q] at p
    cases s with
    | no => exact p.elim
    | ow l => exact p.elim
    | bo l => exact p.elim
    | sh d =>
      obtain ⟨v, e1, e2⟩ := r.get q
      exact ⟨v, e1, p.now r.sub v e2⟩
theorem vp_var (i : Nat) {x : Str} {pos : Pos} (h : PE X (.Name x pos) (tVar i)) : VP X W (.Name x pos) (eOwn i) := PE.imp h fun σ H Q ⟨S, G, Hs, ρ, r, p⟩ => by
  unfold eOwn at p
  cases q : ρ[i]? with
  | none => rw [q] at p; exact p.elim
  | some s =>
    rw [q] at p
    cases s with
    | no => exact p.elim
    | ow l =>
      obtain ⟨a, vs, e1, _, _, e4, e5⟩ := r.own q
      exact ⟨_, e1, p.now r.sub _ (.inr ⟨l, a, vs, rfl, rfl, .inl (.inl e4), e5⟩)⟩
    | bo l =>
      obtain ⟨a, vs, e1, _, e4, e5⟩ := r.lent q
      exact ⟨_, e1, p.now r.sub _ (.inr ⟨l, a, vs, rfl, rfl, .inl (.inl e4), e5⟩)⟩
    | sh d =>
      obtain ⟨v, e1, e2⟩ := r.get q
      exact ⟨v, e1, p.now r.sub v (.inl e2)⟩

/-! ### operators -/
def OpD (K : Fg) (r : R2) (F : D → D → Option D) : Prop := ∀ (Hs H : Hp) (x y : D) (u v : V) (Q : VK) (d : D), Same Hs H → F x y = some d → Pk K Hs H x u → Pk K Hs H y v →
  (∀ Hs' H' w, Ext Hs H Hs' H' → Rp K Hs' d w → Q w H') → r u v H Q
def OpO (K : Fg) (r : R2) (F : D → D → Option (List D)) : Prop := ∀ (Hs H : Hp) (x y : D) (u v : V) (Q : VK) (l : List D), Same Hs H → F x y = some l → Pk K Hs H x u → Pk K Hs H y v →
  (∀ Hs' H' p vs, Ext Hs H Hs' H' → H p = none → Hs' p = none → H' p = some (.lst vs) → RpL K Hs' l vs → Q (.ref p) H') → r u v H Q
theorem sim_op {K : Fg} {mg : Str → Option Value} {r : R2} {F : D → D → Option D} (hd : OpD K r F) : ∀ σ H Q, tE K mg W (e2 F f g) σ H Q → tOp r (tPk K mg W f) (tPk K mg W g) σ H Q := fun σ H Q ⟨S, G, Hs, ρ, r, p⟩ => by
  refine ⟨S, G, Hs, ρ, r, (Post.bind p).imp fun x Hs1 H1 e q u hu => ?_⟩
  refine ⟨S, G, Hs1, ρ, r.step e, (Post.bind q).imp fun y Hs2 H2 e' q' v hv => ?_⟩
  cases z : F x y with
  | none => rw [z] at q'; exact q'.elim
  | some d =>
    rw [z] at q'
    exact hd Hs2 H2 x y u v Q d e'.sub z (hu.up e') hv fun Hs' H' w e'' hw => q' Hs' H' e'' w hw
theorem sim_opO {K : Fg} {mg : Str → Option Value} {r : R2} {F : D → D → Option (List D)} (hd : OpO K r F) : ∀ σ H Q, tO K mg W (e2 F f g) σ H Q → tOp r (tPk K mg W f) (tPk K mg W g) σ H Q := fun σ H Q ⟨S, G, Hs, ρ, r, p⟩ => by
  refine ⟨S, G, Hs, ρ, r, (Post.bind p).imp fun x Hs1 H1 e q u hu => ?_⟩
  refine ⟨S, G, Hs1, ρ, r.step e, (Post.bind q).imp fun y Hs2 H2 e' q' v hv => ?_⟩
  cases z : F x y with
  | none => rw [z] at q'; exact q'.elim
  | some d =>
    rw [z] at q'
    exact hd Hs2 H2 x y u v Q d e'.sub z (hu.up e') hv fun Hs' H' w vs e'' h0 h1 h2 h3 => q' Hs' H' e'' w vs ((e.trans e').same.free h0) h1 h2 h3
theorem ve_op {op : Operator} {r : R2} {F : D → D → Option D} (ho : OpR X (binaryOp op) r) (hd : OpD X.K r F) (ha : VP X W a f) (hb : VP X W b g) : VE X W (.BinOp a op b pos) (e2 F f g) := PE.imp (pe_op ho ha hb) (sim_op hd)
theorem vo_op {op : Operator} {r : R2} {F : D → D → Option (List D)} (ho : OpR X (binaryOp op) r) (hd : OpO X.K r F) (ha : VP X W a f) (hb : VP X W b g) : VO X W (.BinOp a op b pos) (e2 F f g) := PE.imp (pe_op ho ha hb) (sim_opO hd)
theorem ve_cmp {op : CmpOp} {r : R2} {F : D → D → Option D} (ho : OpR X (compareOp op) r) (hd : OpD X.K r F) (ha : VP X W a f) (hb : VP X W b g) (hm : behindInMarks op b = false) : VE X W (.Compare a [op] [b] pos) (e2 F f g) := PE.imp (pe_cmpR ho ha hb hm) (sim_op hd)
theorem ve_ix {r : R2} {F : D → D → Option D} (hr : IxR X r) (hd : OpD X.K r F) (ha : VP X W a f) (hb : VP X W b g) (hs : PlainIx b) : VE X W (.Subscript a b pos) (e2 F f g) := PE.imp (pe_ix hr ha hb hs) (sim_op hd)
/-- one place -/
def UnD (K : Fg) (r : V → Hp → VK → Prop) (F : D → Option D) : Prop := ∀ (Hs H : Hp) (x : D) (u : V) (Q : VK) (d : D), Same Hs H → F x = some d → Pk K Hs H x u →
  (∀ Hs' H' w, Ext Hs H Hs' H' → Rp K Hs' d w → Q w H') → r u H Q
theorem sim_un {K : Fg} {mg : Str → Option Value} {r : V → Hp → VK → Prop} {F : D → Option D} (hd : UnD K r F) : ∀ σ H Q, tE K mg W (e1 F f) σ H Q → tUn r (tPk K mg W f) σ H Q := fun σ H Q ⟨S, G, Hs, ρ, r, p⟩ => by
  refine ⟨S, G, Hs, ρ, r, (Post.bind p).imp fun x Hs1 H1 e q u hu => ?_⟩
  cases z : F x with
  | none => rw [z] at q; exact q.elim
  | some d =>
    rw [z] at q
    exact hd Hs1 H1 x u Q d e.sub z hu fun Hs' H' w e'' hw => q Hs' H' e'' w hw
theorem ve_un {op : UnaryOp} {r : V → Hp → VK → Prop} {F : D → Option D} (ho : UnR X (unaryOp op) r) (hd : UnD X.K r F) (ha : VP X W a f) : VE X W (.UnaryOp op a pos) (e1 F f) := PE.imp (pe_un ho ha) (sim_un hd)

/-! ### tests -/
def bOf : D → Option Bool
  | .bool b => some b
  | _ => none
def truD : D → Option Bool
  | .none => some false
  | .bool b => some b
  | .int i => some (i != 0)
  | .str x => if x.length ≤ sizeLine then some ((x.length : Int) != 0) else none
  | .list l => some (!l.isEmpty)
  | .tuple l => some (!l.isEmpty)
  | .dict _ => none
theorem truV_of {K : Fg} {Hs H : Hp} {d : D} {v : V} {k : Bool} (hs : Same Hs H) (h : Pk K Hs H d v) (e : truD d = some k) : TruV K v H k := by
  have emp : ∀ {l : List D} {xs : List V}, RpL K Hs l xs → (!l.isEmpty) = !xs.isEmpty := fun {l xs} r => by cases r <;> rfl
  cases d with
  | none => cases h.non; exact (Option.some.inj e).symm
  | bool b => cases h.bl; exact (Option.some.inj e).symm
  | int i => cases h.int; exact (Option.some.inj e).symm
  | str x =>
    cases h.str
    have e' : (if x.length ≤ sizeLine then some ((x.length : Int) != 0) else none) = some k := e
    split at e'
    · rename_i hz
      exact ⟨hz, (Option.some.inj e').symm⟩
    · cases e'
  | list l =>
    obtain ⟨a, xs, rfl, h1, h2⟩ := h.list hs
    exact .inl ⟨xs, h1, by rw [← emp h2]; exact (Option.some.inj e).symm⟩
  | tuple l =>
    obtain ⟨a, xs, rfl, h1, h2⟩ := h.tup hs
    exact .inr (.inl ⟨xs, h1, by rw [← emp h2]; exact (Option.some.inj e).symm⟩)
  | dict _ => cases e
theorem vt_tru (ha : VP X W a f) (he : ∀ whole, isTrue a X.env whole = (do let v ← whole; standAt a.pos; holding [v] (truthy v))) : VT X W a (e1 truD f) := PT.imp (pt_truth ha he) fun σ H Q ⟨S, G, Hs, ρ, r, p⟩ => by
  refine ⟨S, G, Hs, ρ, r, (Post.bind p).imp fun x Hs1 H1 e q u hu => ?_⟩
  cases z : truD x with
  | none => rw [z] at q; exact q.elim
  | some k =>
    rw [z] at q
    exact ⟨k, truV_of e.sub hu z, q.now e.sub⟩
/-- a comparison as a test -/
theorem vt_cmp {op : CmpOp} {r : R2} {F : D → D → Option D} (ho : OpR X (compareOp op) r) (hd : OpD X.K r F) (ha : VP X W a f) (hb : VP X W b g) (hm : behindInMarks op b = false) : VT X W (.Compare a [op] [b] pos) (e1 bOf (e2 F f g)) := by
  refine PT.imp (pt_cmpR ho ha hb hm) fun σ H Q ⟨S, G, Hs, ρ, r, p⟩ => ?_
  refine sim_op hd σ H _ ⟨S, G, Hs, ρ, r, (Post.bind p).imp fun x Hs1 H1 e q v hv => ?_⟩
  cases x with
  | bool k => cases hv; exact ⟨k, rfl, q.now e.sub⟩
  | none => exact q.elim
  | int _ => exact q.elim
  | str _ => exact q.elim
  | list _ => exact q.elim
  | tuple _ => exact q.elim
  | dict _ => exact q.elim
theorem sim_and {K : Fg} {mg : Str → Option Value} : ∀ σ H Q, tT K mg W (eAnd fb gb) σ H Q → tAnd (tT K mg W fb) (tT K mg W gb) σ H Q := fun σ H Q ⟨S, G, Hs, ρ, r, p⟩ => by
  refine ⟨S, G, Hs, ρ, r, (Post.bind p).imp fun k Hs1 H1 e q => ?_⟩
  cases k with
  | true => exact ⟨S, G, Hs1, ρ, r.step e, q⟩
  | false => exact q.now e.sub
theorem sim_or {K : Fg} {mg : Str → Option Value} : ∀ σ H Q, tT K mg W (eOr fb gb) σ H Q → tOr (tT K mg W fb) (tT K mg W gb) σ H Q := fun σ H Q ⟨S, G, Hs, ρ, r, p⟩ => by
  refine ⟨S, G, Hs, ρ, r, (Post.bind p).imp fun k Hs1 H1 e q => ?_⟩
  cases k with
  | false => exact ⟨S, G, Hs1, ρ, r.step e, q⟩
  | true => exact q.now e.sub
theorem VW.vt (h : VW X W e fb) : VT X W e fb := PW.pt h
theorem vw_and1 (ha : VT X W a fb) : VW X W (.BoolOp .And [a] pos) fb := pw_and1 ha
theorem vw_or1 (ha : VT X W a fb) : VW X W (.BoolOp .Or [a] pos) fb := pw_or1 ha
theorem vw_and {rest : List Expr} (ha : VT X W a fb) (hb : VW X W (.BoolOp .And (b :: rest) pos) gb) : VW X W (.BoolOp .And (a :: b :: rest) pos) (eAnd fb gb) := PW.imp (pw_and ha hb) sim_and
theorem vw_or {rest : List Expr} (ha : VT X W a fb) (hb : VW X W (.BoolOp .Or (b :: rest) pos) gb) : VW X W (.BoolOp .Or (a :: b :: rest) pos) (eOr fb gb) := PW.imp (pw_or ha hb) sim_or
theorem vt_not (ha : VT X W a fb) : VT X W (.UnaryOp .Not a pos) (eNot fb) := PT.imp (pt_not ha) fun σ H Q ⟨S, G, Hs, ρ, r, p⟩ =>
  ⟨S, G, Hs, ρ, r, (Post.bind p).imp fun k Hs1 H1 e q => q.now e.sub⟩
/-! ### arguments, displays -/
theorem va_nil : VA X W [] (cst []) := PA.imp pa_nil fun σ H Q ⟨S, G, Hs, ρ, r, p⟩ => p.now r.sub [] .nil
theorem va_cons (ha : VE X W e f) (hr : VA X W es fl) (hs : starEach (e :: es) X.env = (false, eval e X.env) :: starEach es X.env := by rfl) : VA X W (e :: es) (eCons f fl) := PA.imp (pa_cons ha hr hs) fun σ H Q ⟨S, G, Hs, ρ, r, p⟩ => by
  refine ⟨S, G, Hs, ρ, r, (Post.bind p).imp fun x Hs1 H1 e q u hu => ?_⟩
  refine ⟨S, G, Hs1, ρ, r.step e, (Post.bind q).imp fun xs Hs2 H2 e' q' us hus => ?_⟩
  exact q'.now e'.sub (u :: us) (.cons (hu.mono e'.grow) hus)
def lim (l : List D) : Option (List D) := if l.length ≤ sizeLine then some l else none
theorem lim_some {l l' : List D} (h : lim l = some l') : l' = l ∧ l.length ≤ sizeLine := by
  unfold lim at h
  split at h
  · rename_i z
    exact ⟨(Option.some.inj h).symm, z⟩
  · cases h
def tupD (l : List D) : Option D := (lim l).map .tuple
theorem ve_tup {x1 : Nat} (h : VA X W es fl) : VE X W (.Tuple es x1 pos) (e1 tupD fl) := PE.imp (pe_tup h) fun σ H Q ⟨S, G, Hs, ρ, r, p⟩ => by
  refine ⟨S, G, Hs, ρ, r, (Post.bind p).imp fun l Hs1 H1 e q us hus => ?_⟩
  unfold tupD at q
  cases z : lim l with
  | none => rw [z] at q; exact q.elim
  | some l' =>
    rw [z] at q
    obtain ⟨rfl, hz⟩ := lim_some z
    refine ⟨by rw [← hus.length]; exact hz, fun p hp => ?_⟩
    have x := Ext.new (o := .tup us) e.sub hp
    exact q _ _ x _ (.tup (.inl (.inl upd_same)) (hus.mono x.grow))
theorem vo_lst (h : VA X W es fl) : VO X W (.List es pos) (e1 lim fl) := PE.imp (pe_lst h) fun σ H Q ⟨S, G, Hs, ρ, r, p⟩ => by
  refine ⟨S, G, Hs, ρ, r, (Post.bind p).imp fun l Hs1 H1 e q us hus => ?_⟩
  cases z : lim l with
  | none => rw [z] at q; exact q.elim
  | some l' =>
    rw [z] at q
    obtain ⟨rfl, hz⟩ := lim_some z
    refine ⟨by rw [← hus.length]; exact hz, fun p hp => ?_⟩
    have x := Ext.hid (o := .lst us) e.sub hp
    refine q _ _ x p us (e.same.free hp) ?_ upd_same hus
    cases y : Hs1 p with
    | none => rfl
    | some o => rw [e.sub _ _ y] at hp; cases hp
end
end VL

set_option Elab.async false
set_option linter.all false
set_option maxRecDepth 100000
set_option autoImplicit false
namespace VL
open PySem PySem.Spec PyProof.Rows L2

/-! ### operators by data -/
/-- a two-place operator of the machine computes F on data -/
def DOp (X : Cx) (f : Value → Value → Sem Value) (F : D → D → Option D) : Prop := ∃ r, OpR X f r ∧ OpD X.K r F
def DOpO (X : Cx) (f : Value → Value → Sem Value) (F : D → D → Option (List D)) : Prop := ∃ r, OpR X f r ∧ OpO X.K r F

section
variable {X : Cx} {pins : List (Addr × Obj)} {σ : Sg} {H : Hp} {s : Shared} {a b : Addr} {xs zs : List V}
/-- a list that is read, its very object -/
theorem rd_obj (I : Inv X pins σ H s) (h : SqL X.K H a xs) : xs.length ≤ sizeLine ∧ ∃ (its : List Value) (n : Nat) (sl : Array (Option Value)), Vals xs its ∧ xs.length = its.length ∧ s.heap.get? a = some { cls := .type "list", dict := none, data := .seq its.toArray n, slots := sl } := by
  obtain ⟨its, r, ⟨o, n, e, hc, hd, hs⟩, z⟩ := I.list h
  obtain ⟨c, d, dt, sl⟩ := o
  simp only at hc hd hs
  subst hc hd hs
  exact ⟨z, its, n, sl, r, r.length, e⟩
end
open PySem.AutoSeq1 (wpAny_loadPart') in
theorem list_mulW (l : Addr) (items : Array Value) (n : Nat) (sl : Array (Option Value)) (x : Int) (u : Tok) (hc0 : ¬(!Builtin.List.listFitsIndex x) = true) (hc1 : ¬items.size * x.toNat > (2 ^ 63 - 1) / 8) (hc2 : ¬Builtin.List.listTooLong (items.size * x.toNat) = true) :
    Meets (Builtin.«list.__mul__» ⟨[.ref l, .int x u], []⟩) (fun _ R s => s.heap.get? l = some { cls := .type "list", dict := none, data := .seq items n, slots := sl } ∧ R (.ok (.ret (Value.ref s.heap.objs.size))) { s with heap := s.heap.push { cls := Value.type "list", data := Data.seq (List.foldl (fun x1 x2 => x1 ++ x2) #[] (List.replicate (if items.isEmpty = true then 0 else x.toNat) items)) }, toks := s.toks }) :=
  .of_wp fun prog w A R s h => by
    obtain ⟨hp, g, d, tk, os⟩ := s; obtain ⟨hl, h⟩ := h
    have hsz := PySem.AutoListH.joined_fits hc2
    wp_walk using wpAny_loadPart' hl
    refine wpAny_ite_false (decide_eq_false (Nat.not_lt.mpr hsz)) ?_; wp_walk using wpAny_loadPart' hl; exact ⟨_, rfl, h⟩
open PySem.AutoSeq1 (wpAny_loadPart') in
theorem int_rmulW (a : Int) (t : Tok) (l : Addr) (items : Array Value) (n : Nat) (sl : Array (Option Value)) :
    Meets (Builtin.«int.__rmul__» ⟨[.int a t, .ref l], []⟩) (fun _ R s => s.heap.get? l = some { cls := .type "list", dict := none, data := .seq items n, slots := sl } ∧ R (.ok (.ret Value.notImplemented)) s) :=
  .of_wp fun prog w A R s h => by obtain ⟨hp, g, d, tk, os⟩ := s; obtain ⟨hl, h⟩ := h; wp_walk using wpAny_loadPart' hl; exact ⟨_, rfl, h⟩
section
variable {X : Cx}
def rCatS (K : Fg) : R2 := fun x y H Q => ∃ l b xs zs, x = .ref l ∧ y = .ref b ∧ SqL K H l xs ∧ SqL K H b zs ∧ xs.length + zs.length ≤ sizeLine ∧ ∀ p, H p = none → Q (.ref p) (upd H p (.lst (xs ++ zs)))
theorem op_catR : OpR X (binaryOp .Add) (rCatS X.K) := by
  intro pins s σ H x y v u Q I rx ry h
  obtain ⟨l, b, xs, zs, rfl, rfl, hH, hB, hz, q⟩ := h
  cases rx
  cases ry
  obtain ⟨z, its, n, sl, r, hl, e⟩ := rd_obj I hH
  obtain ⟨z2, its2, n2, sl2, r2, hl2, e2⟩ := rd_obj I hB
  have ea : its.toArray ++ its2.toArray = (its ++ its2).toArray := by simp
  refine concat_meets ⟨_, e, rfl⟩ ⟨_, e2, rfl⟩ noFill_list_add seq_list_add PySem.F.slot_list_add PySem.F.entry_list_add (PySem.F.args_list_add_2 _ _) (list_addW l b its.toArray its2.toArray n n2 none none sl sl2 (by rw [List.size_toArray, List.size_toArray]; omega)) ⟨e, e2, ?_⟩
  rw [ea]
  exact ⟨.ref _, _, I.lnew (t' := s.toks) (r.append r2) (by rw [List.length_append]; omega), rfl, q _ I.fresh⟩
def rRepR (K : Fg) : R2 := fun x y H Q => ∃ l k xs, x = .ref l ∧ y = .int k ∧ SqL K H l xs ∧ -(2 ^ 63) ≤ k ∧ k < 2 ^ 63 ∧ xs.length * k.toNat ≤ sizeLine ∧
  ∀ p, H p = none → Q (.ref p) (upd H p (.lst (List.replicate k.toNat xs).flatten))
theorem op_repR : OpR X (binaryOp .Mult) (rRepR X.K) := by
  intro pins s σ H x y v u Q I rx ry h
  obtain ⟨l, k, xs, rfl, rfl, hH, h1, h2, hz, q⟩ := h
  cases rx
  obtain ⟨t, rfl⟩ := ry
  obtain ⟨z, its, n, sl, r, hl, e⟩ := rd_obj I hH
  have hlen : its.toArray.size * k.toNat ≤ sizeLine := by rw [List.size_toArray, ← hl]; exact hz
  have hcap : ¬ its.toArray.size * k.toNat > (2 ^ 63 - 1) / 8 := by
    have : (sizeLine : Nat) ≤ (2 ^ 63 - 1) / 8 := by decide
    omega
  have hfit : ¬ (!Builtin.List.listFitsIndex k) = true := by
    rw [fitsIndex_both h1 h2]
    exact Bool.false_ne_true
  have hlong : ¬ Builtin.List.listTooLong (its.toArray.size * k.toNat) = true := by
    rw [notLongL hlen]
    exact Bool.false_ne_true
  have hnew : List.foldl (fun x1 x2 => x1 ++ x2) #[] (List.replicate (if its.toArray.isEmpty = true then 0 else k.toNat) its.toArray) = (List.replicate k.toNat its).flatten.toArray := by
    have f0 : ∀ m : Nat, List.foldl (fun x1 x2 => x1 ++ x2) #[] (List.replicate m its.toArray) = (List.replicate m its).flatten.toArray := fun m => by
      have := foldl_rep its m []
      rw [List.nil_append] at this
      exact this
    rw [f0]
    cases its with
    | nil => simp
    | cons a r' => rw [if_neg (by simp)]
  refine wpAny_binaryOp_repeat_ref (T := "list") (U := "int") (by decide) ⟨_, e, rfl⟩ (fun s' => typeIs_int s' k t) noFill_list_mul F.fills_int_mul F.slot_int_rmul repeat_list F.slot_int_index.lookup
    (call_meets F.slot_int_rmul (typeIs_int s k t) F.entry_int_rmul (F.args_int_rmul_2 _ _) (int_rmulW k t l its.toArray n sl)
      ⟨e, rfl, ⟨_, e, rfl⟩, call_meets F.slot_list_mul ⟨_, e, rfl⟩ F.entry_list_mul (F.args_list_mul_2 _ _) (list_mulW l its.toArray n sl k t hfit hcap hlong) ⟨e, ?_⟩⟩)
  rw [hnew]
  exact ⟨.ref _, _, I.lnew (t' := s.toks) (r.rep k.toNat) (by rw [PyProof.Rows.lm_len_rep_flat, Nat.mul_comm]; exact hz), rfl, q _ I.fresh⟩
end

/-! ### the data functions -/
def okMul (i j : Int) : Bool := decide ((Builtin.Int.intBits i : Int) + (Builtin.Int.intBits j : Int) ≤ 134217728)
def okDiv (i j : Int) : Bool := decide (j ≠ 0) && !(Builtin.divisionGoesByPylong i j)
def okPow (i j : Int) : Bool := decide (0 ≤ j ∧ j ≤ 1000000 ∧ i.natAbs < 2 ^ 64)
def catD (a b : List D) : Option (List D) := if a.length + b.length ≤ sizeLine then some (a ++ b) else none
def repD (a : List D) (k : Int) : Option (List D) := if -(2 ^ 63) ≤ k ∧ k < 2 ^ 63 ∧ a.length * k.toNat ≤ sizeLine then some (List.replicate k.toNat a).flatten else none
def addD : D → D → Option D
  | .int i, .int j => some (.int (i + j))
  | .str a, .str b => if a.length + b.length ≤ sizeLine then some (.str (a ++ b)) else none
  | .list a, .list b => (catD a b).map .list
  | _, _ => none
def addO : D → D → Option (List D)
  | .list a, .list b => catD a b
  | _, _ => none
def subD : D → D → Option D
  | .int i, .int j => some (.int (i - j))
  | _, _ => none
def mulD : D → D → Option D
  | .int i, .int j => if okMul i j then some (.int (i * j)) else none
  | .list a, .int k => (repD a k).map .list
  | _, _ => none
def mulO : D → D → Option (List D)
  | .list a, .int k => repD a k
  | _, _ => none
def fdivD : D → D → Option D
  | .int i, .int j => if okDiv i j then some (.int (i.fdiv j)) else none
  | _, _ => none
def modD : D → D → Option D
  | .int i, .int j => if j ≠ 0 then some (.int (i.fmod j)) else none
  | _, _ => none
def powD : D → D → Option D
  | .int i, .int j => if okPow i j then some (.int (i ^ j.toNat)) else none
  | _, _ => none
def ltD : D → D → Option D
  | .int i, .int j => some (.bool (decide (i < j)))
  | _, _ => none
def leD : D → D → Option D
  | .int i, .int j => some (.bool (decide (i ≤ j)))
  | _, _ => none
def gtD : D → D → Option D
  | .int i, .int j => some (.bool (decide (j < i)))
  | _, _ => none
def geD : D → D → Option D
  | .int i, .int j => some (.bool (decide (j ≤ i)))
  | _, _ => none
def eqS : D → D → Option Bool
  | .str x, .str y => some (decide (x = y))
  | _, _ => none
def eqD (a b : D) : Option D := if SeqAt.shaped a && SeqAt.shaped b then some (.bool (PyData.eqv a b)) else (eqS a b).map .bool
def neD (a b : D) : Option D := if SeqAt.shaped a && SeqAt.shaped b then some (.bool (!PyData.eqv a b)) else (eqS a b).map fun b => .bool (!b)
def isNonD : D → Bool
  | .none => true
  | _ => false
def isD : D → D → Option D
  | .bool a, .bool b => some (.bool (decide (a = b)))
  | a, .none => some (.bool (isNonD a))
  | _, _ => none
def negD : D → Option D
  | .int i => some (.int (-i))
  | _ => none
def ixD : D → D → Option D
  | .list l, .int i => atI l i
  | .tuple l, .int i => atI l i
  | .str z, .int i => if z.length ≤ sizeLine then (atI z.cps.toList i).map fun c => .str ⟨#[c]⟩ else none
  | _, _ => none
section
variable {K : Fg} {Hs H : Hp}
theorem RpL.at {ds : List D} {vs : List V} {i : Int} {d : D} (r : RpL K H ds vs) (e : atI ds i = some d) : ∃ v, atI vs i = some v ∧ Rp K H d v := by
  unfold atI at e ⊢
  rw [← r.length]
  cases q : ixN ds.length i with
  | none => rw [q] at e; cases e
  | some j =>
    rw [q] at e
    exact r.get e
/-- a new list, frozen or not -/
theorem new_lst {p : Addr} {l : List D} {vs : List V} (h : Same Hs H) (n : H p = none) (r : RpL K Hs l vs) : Ext Hs H (upd Hs p (.lst vs)) (upd H p (.lst vs)) ∧ Rp K (upd Hs p (.lst vs)) (.list l) (.ref p) :=
  ⟨.new h n, .lst (.inl (.inl upd_same)) (r.mono (Ext.new h n).grow)⟩
theorem new_own {p : Addr} {l : List D} {vs : List V} (h : Same Hs H) (n : H p = none) (r : RpL K Hs l vs) : Ext Hs H Hs (upd H p (.lst vs)) ∧ Hs p = none ∧ (upd H p (.lst vs)) p = some (.lst vs) ∧ RpL K Hs l vs :=
  ⟨.hid h n, h.free n, upd_same, r⟩
end

section
variable {X : Cx}
/-- ints only -/
theorem dop_int {f : Value → Value → Sem Value} {C : Int → Int → Prop} {g : Int → Int → V} {F : D → D → Option D} (ho : OpR X f (rI C g))
    (hF : ∀ x y d, F x y = some d → ∃ i j, x = .int i ∧ y = .int j ∧ C i j ∧ ∀ K H, Rp K H d (g i j)) : DOp X f F := ⟨_, ho, fun Hs H x y u v Q d hs e hx hy k => by
  obtain ⟨i, j, rfl, rfl, hc, hr⟩ := hF x y d e
  exact ⟨i, j, hx.int, hy.int, hc, k _ _ _ (.refl hs) (hr _ _)⟩⟩
theorem dop_int0 {f : Value → Value → Sem Value} {g : Int → Int → V} {F : D → D → Option D} (ho : OpR X f (rI0 g))
    (hF : ∀ x y d, F x y = some d → ∃ i j, x = .int i ∧ y = .int j ∧ ∀ K H, Rp K H d (g i j)) : DOp X f F := ⟨_, ho, fun Hs H x y u v Q d hs e hx hy k => by
  obtain ⟨i, j, rfl, rfl, hr⟩ := hF x y d e
  exact ⟨i, j, hx.int, hy.int, k _ _ _ (.refl hs) (hr _ _)⟩⟩
theorem d_add : DOp X (binaryOp .Add) addD := ⟨_, op_add.or (op_add_str.or op_catR), fun Hs H x y u v Q d hs e hx hy k => by
  unfold addD at e
  split at e
  · cases e
    exact .inl ⟨_, _, hx.int, hy.int, k _ _ _ (.refl hs) (.int _)⟩
  · split at e
    · rename_i hz
      cases e
      exact .inr (.inl ⟨_, _, hx.str, hy.str, hz, k _ _ _ (.refl hs) (.str _)⟩)
    · cases e
  · unfold catD at e
    split at e
    · rename_i hz
      cases e
      obtain ⟨p, xs, rfl, h1, h2⟩ := hx.list hs
      obtain ⟨p', ys, rfl, h3, h4⟩ := hy.list hs
      refine .inr (.inr ⟨p, p', xs, ys, rfl, rfl, h1, h3, by rw [← h2.length, ← h4.length]; exact hz, fun q hq => ?_⟩)
      obtain ⟨e1, e2⟩ := new_lst hs hq (h2.append h4)
      exact k _ _ _ e1 e2
    · cases e
  · cases e⟩
theorem d_sub : DOp X (binaryOp .Sub) subD := dop_int0 op_sub fun x y d e => by
  unfold subD at e
  split at e
  · cases e; exact ⟨_, _, rfl, rfl, fun _ _ => .int _⟩
  · cases e
theorem d_mul : DOp X (binaryOp .Mult) mulD := ⟨_, op_mulX.or op_repR, fun Hs H x y u v Q d hs e hx hy k => by
  unfold mulD at e
  split at e
  · split at e
    · rename_i hz
      cases e
      unfold okMul at hz
      have hz' := of_decide_eq_true hz
      exact .inl ⟨_, _, hx.int, hy.int, hz', k _ _ _ (.refl hs) (.int _)⟩
    · cases e
  · unfold repD at e
    split at e
    · rename_i hz
      cases e
      obtain ⟨p, xs, rfl, h1, h2⟩ := hx.list hs
      refine .inr ⟨p, _, xs, rfl, hy.int, h1, hz.1, hz.2.1, by rw [← h2.length]; exact hz.2.2, fun q hq => ?_⟩
      obtain ⟨e1, e2⟩ := new_lst hs hq (h2.replicate _)
      exact k _ _ _ e1 e2
    · cases e
  · cases e⟩
theorem d_mulO : DOpO X (binaryOp .Mult) mulO := ⟨_, op_repR, fun Hs H x y u v Q d hs e hx hy k => by
  unfold mulO at e
  split at e
  · unfold repD at e
    split at e
    · rename_i hz
      cases e
      obtain ⟨p, xs, rfl, h1, h2⟩ := hx.list hs
      refine ⟨p, _, xs, rfl, hy.int, h1, hz.1, hz.2.1, by rw [← h2.length]; exact hz.2.2, fun q hq => ?_⟩
      obtain ⟨e1, e2, e3, e4⟩ := new_own hs hq (h2.replicate _)
      exact k _ _ _ _ e1 hq e2 e3 e4
    · cases e
  · cases e⟩
def CDivD (i j : Int) : Prop := okDiv i j = true
theorem op_fdivD : OpR X (binaryOp .FloorDiv) (rI CDivD fun i j => .int (i.fdiv j)) := opI fun i j _ _ _ _ _ hc q => by
  unfold CDivD okDiv at hc
  rw [Bool.and_eq_true] at hc
  exact floordiv_int (of_decide_eq_true hc.1) q (.inl (by simpa using hc.2))
theorem d_fdiv : DOp X (binaryOp .FloorDiv) fdivD := dop_int op_fdivD fun x y d e => by
  unfold fdivD at e
  split at e
  · split at e
    · rename_i hz
      cases e; exact ⟨_, _, rfl, rfl, hz, fun _ _ => .int _⟩
    · cases e
  · cases e
theorem d_mod : DOp X (binaryOp .Mod) modD := dop_int op_modN fun x y d e => by
  unfold modD at e
  split at e
  · split at e
    · rename_i hz
      cases e; exact ⟨_, _, rfl, rfl, hz, fun _ _ => .int _⟩
    · cases e
  · cases e
theorem d_pow : DOp X (binaryOp .Pow) powD := dop_int op_pow fun x y d e => by
  unfold powD at e
  split at e
  · split at e
    · rename_i hz
      unfold okPow at hz
      have hz' := of_decide_eq_true hz
      cases e; exact ⟨_, _, rfl, rfl, hz', fun _ _ => .int _⟩
    · cases e
  · cases e
theorem d_lt : DOp X (compareOp .Lt) ltD := dop_int0 op_lt fun x y d e => by
  unfold ltD at e
  split at e
  · cases e; exact ⟨_, _, rfl, rfl, fun _ _ => .bl _⟩
  · cases e
theorem d_le : DOp X (compareOp .LtE) leD := dop_int0 op_le fun x y d e => by
  unfold leD at e
  split at e
  · cases e; exact ⟨_, _, rfl, rfl, fun _ _ => .bl _⟩
  · cases e
theorem d_gt : DOp X (compareOp .Gt) gtD := dop_int0 op_gt fun x y d e => by
  unfold gtD at e
  split at e
  · cases e; exact ⟨_, _, rfl, rfl, fun _ _ => .bl _⟩
  · cases e
theorem d_ge : DOp X (compareOp .GtE) geD := dop_int0 op_ge fun x y d e => by
  unfold geD at e
  split at e
  · cases e; exact ⟨_, _, rfl, rfl, fun _ _ => .bl _⟩
  · cases e
theorem eqS_some {a b : D} {r : Bool} (h : eqS a b = some r) : ∃ x y, a = .str x ∧ b = .str y ∧ r = decide (x = y) := by
  cases a <;> cases b <;> simp [eqS] at h
  exact ⟨_, _, rfl, rfl, h.symm⟩
theorem dec_str (x y : Str) : decide (V.str x = V.str y) = decide (x = y) := by
  by_cases h : x = y
  · subst h; simp
  · rw [decide_eq_false h, decide_eq_false (fun z => h (V.str.inj z))]
theorem d_eq (hu : X.A.units + 64 < cLine) : DOp X (compareOp .Eq) eqD := ⟨_, (op_eqD hu).or op_eq, fun Hs H x y u v Q d hs e hx hy k => by
  unfold eqD at e
  split at e
  · rename_i hz
    cases e
    rw [Bool.and_eq_true] at hz
    exact .inl ⟨x, y, (hx.rp hs).dp (nodict_of hz.1), (hy.rp hs).dp (nodict_of hz.2), hz.1, hz.2, k _ _ _ (.refl hs) (.bl _)⟩
  · obtain ⟨r, e1, rfl⟩ := Option.map_eq_some_iff.mp e
    obtain ⟨a, b, rfl, rfl, rfl⟩ := eqS_some e1
    right
    rw [hx.str, hy.str]
    exact ⟨rfl, by rw [dec_str]; exact k _ _ _ (.refl hs) (.bl _)⟩⟩
theorem d_ne (hu : X.A.units + 64 < cLine) : DOp X (compareOp .NotEq) neD := ⟨_, (op_neD hu).or op_ne, fun Hs H x y u v Q d hs e hx hy k => by
  unfold neD at e
  split at e
  · rename_i hz
    cases e
    rw [Bool.and_eq_true] at hz
    exact .inl ⟨x, y, (hx.rp hs).dp (nodict_of hz.1), (hy.rp hs).dp (nodict_of hz.2), hz.1, hz.2, k _ _ _ (.refl hs) (.bl _)⟩
  · obtain ⟨r, e1, rfl⟩ := Option.map_eq_some_iff.mp e
    obtain ⟨a, b, rfl, rfl, rfl⟩ := eqS_some e1
    right
    rw [hx.str, hy.str]
    exact ⟨rfl, by rw [dec_str]; exact k _ _ _ (.refl hs) (.bl _)⟩⟩
theorem is_non {K : Fg} {Hs H : Hp} {x : D} {u : V} (hx : Pk K Hs H x u) : decide (u = .non) = isNonD x := by
  rcases hx with h | ⟨l, a, xs, rfl, rfl, _, _⟩
  · cases h <;> rfl
  · rfl
theorem d_is : DOp X (compareOp .Is) isD := ⟨_, op_isBl.or op_isN, fun Hs H x y u v Q d hs e hx hy k => by
  unfold isD at e
  split at e
  · cases e
    exact .inl ⟨_, _, hx.bl, hy.bl, k _ _ _ (.refl hs) (.bl _)⟩
  · cases e
    refine .inr ⟨hy.non, ?_⟩
    rw [is_non hx]
    exact k _ _ _ (.refl hs) (.bl _)
  · cases e⟩
def DIx (X : Cx) (F : D → D → Option D) : Prop := ∃ r, IxR X r ∧ OpD X.K r F
theorem d_ix : DIx X ixD := ⟨_, ix_seq, fun Hs H x y u v Q d hs e hx hy k => by
  unfold ixD at e
  split at e
  · obtain ⟨a, xs, rfl, h1, h2⟩ := hx.list hs
    obtain ⟨w, e1, e2⟩ := h2.at e
    exact .inl ⟨a, xs, _, w, rfl, hy.int, h1, e1, k _ _ _ (.refl hs) e2⟩
  · obtain ⟨a, xs, rfl, h1, h2⟩ := hx.tup hs
    obtain ⟨w, e1, e2⟩ := h2.at e
    exact .inr (.inl ⟨a, xs, _, w, rfl, hy.int, h1, e1, k _ _ _ (.refl hs) e2⟩)
  · split at e
    · rename_i hz
      obtain ⟨c, e1, rfl⟩ := Option.map_eq_some_iff.mp e
      exact .inr (.inr ⟨_, _, c, hx.str, hy.int, hz, e1, k _ _ _ (.refl hs) (.str _)⟩)
    · cases e
  · cases e⟩
def DUn (X : Cx) (f : Value → Sem Value) (F : D → Option D) : Prop := ∃ r, UnR X f r ∧ UnD X.K r F
theorem d_neg : DUn X (unaryOp .USub) negD := ⟨_, un_neg, fun Hs H x u Q d hs e hx k => by
  unfold negD at e
  split at e
  · cases e
    exact ⟨_, hx.int, k _ _ _ (.refl hs) (.int _)⟩
  · cases e⟩
end

section
variable {X : Cx} {W : WX} {a b c e : Expr} {es : List Expr} {pos : Pos} {f g h : Ev → R D} {F F' : D → D → Option D}
theorem v_op {op : Operator} (ho : DOp X (binaryOp op) F) (ha : VP X W a f) (hb : VP X W b g) : VE X W (.BinOp a op b pos) (e2 F f g) := let ⟨_, h1, h2⟩ := ho; ve_op h1 h2 ha hb
theorem v_opO {op : Operator} {F : D → D → Option (List D)} (ho : DOpO X (binaryOp op) F) (ha : VP X W a f) (hb : VP X W b g) : VO X W (.BinOp a op b pos) (e2 F f g) := let ⟨_, h1, h2⟩ := ho; vo_op h1 h2 ha hb
theorem v_cmp {op : CmpOp} (ho : DOp X (compareOp op) F) (ha : VP X W a f) (hb : VP X W b g) (hm : behindInMarks op b = false := by first | exact nomark _ | rfl) : VE X W (.Compare a [op] [b] pos) (e2 F f g) := let ⟨_, h1, h2⟩ := ho; ve_cmp h1 h2 ha hb hm
theorem t_cmp {op : CmpOp} (ho : DOp X (compareOp op) F) (ha : VP X W a f) (hb : VP X W b g) (hm : behindInMarks op b = false := by first | exact nomark _ | rfl) : VT X W (.Compare a [op] [b] pos) (e1 bOf (e2 F f g)) := let ⟨_, h1, h2⟩ := ho; vt_cmp h1 h2 ha hb hm
theorem v_ix (ho : DIx X F) (ha : VP X W a f) (hb : VP X W b g) (hs : PlainIx b := by exact fun _ _ => rfl) : VE X W (.Subscript a b pos) (e2 F f g) := let ⟨_, h1, h2⟩ := ho; ve_ix h1 h2 ha hb hs
theorem v_un {op : UnaryOp} {F : D → Option D} (ho : DUn X (unaryOp op) F) (ha : VP X W a f) : VE X W (.UnaryOp op a pos) (e1 F f) := let ⟨_, h1, h2⟩ := ho; ve_un h1 h2 ha
theorem t_tru (ha : VP X W a f) (he : ∀ whole, isTrue a X.env whole = (do let v ← whole; standAt a.pos; holding [v] (truthy v)) := by intro _; rfl) : VT X W a (e1 truD f) := vt_tru ha he
end
end VL

set_option Elab.async false
set_option linter.all false
set_option maxRecDepth 100000
set_option autoImplicit false
namespace VL
open PySem PySem.Spec PyProof.Rows L2

/-! ### arguments that are read at once -/
def PkL (K : Fg) (Hs H : Hp) : List D → List V → Prop
  | [], [] => True
  | d :: ds, v :: vs => Pk K Hs H d v ∧ PkL K Hs H ds vs
  | _, _ => False
theorem PkL.one {K : Fg} {Hs H : Hp} {d : D} {vs : List V} (h : PkL K Hs H [d] vs) : ∃ v, vs = [v] ∧ Pk K Hs H d v := by
  cases vs with
  | nil => exact h.elim
  | cons v r =>
    cases r with
    | nil => exact ⟨v, rfl, h.1⟩
    | cons w r => exact h.2.elim
theorem PkL.two {K : Fg} {Hs H : Hp} {d e : D} {vs : List V} (h : PkL K Hs H [d, e] vs) : ∃ v w, vs = [v, w] ∧ Pk K Hs H d v ∧ Pk K Hs H e w := by
  cases vs with
  | nil => exact h.elim
  | cons v r =>
    cases r with
    | nil => exact h.2.elim
    | cons w r =>
      cases r with
      | nil => exact ⟨v, w, rfl, h.1, h.2.1⟩
      | cons _ r => exact h.2.2.elim
theorem Pk.tupRp {K : Fg} {Hs H : Hp} {l : List D} {v : V} (h : Pk K Hs H (.tuple l) v) : Rp K Hs (.tuple l) v := by
  rcases h with h | ⟨l', a, xs, h1, h2, h3, h4⟩
  · exact h
  · cases h1
def tAp (K : Fg) (mg : Str → Option Value) (W : WX) (f : Ev → R (List D)) : TA := fun σ H Q => ∃ S G Hs ρ, RelE K S G Hs H σ ρ ∧ Post K mg W Hs H σ (f ρ) (fun ds Hs' H' => ∀ vs, PkL K Hs' H' ds vs → Q vs H')
def VAp (X : Cx) (W : WX) (es : List Expr) (f : Ev → R (List D)) : Prop := PA X es (tAp X.K X.mg W f)
section
variable {X : Cx} {W : WX} {e a b c : Expr} {es : List Expr} {pos : Pos} {f g : Ev → R D} {fl : Ev → R (List D)}
theorem vap_nil : VAp X W [] (cst []) := PA.imp pa_nil fun σ H Q ⟨S, G, Hs, ρ, r, p⟩ => p.now r.sub [] trivial
theorem vap_cons (ha : VP X W e f) (hr : VAp X W es fl) (hs : starEach (e :: es) X.env = (false, eval e X.env) :: starEach es X.env := by rfl) : VAp X W (e :: es) (eCons f fl) := PA.imp (pa_cons ha hr hs) fun σ H Q ⟨S, G, Hs, ρ, r, p⟩ => by
  refine ⟨S, G, Hs, ρ, r, (Post.bind p).imp fun x Hs1 H1 e q u hu => ?_⟩
  refine ⟨S, G, Hs1, ρ, r.step e, (Post.bind q).imp fun xs Hs2 H2 e' q' us hus => ?_⟩
  exact q'.now e'.sub (u :: us) ⟨hu.up e', hus⟩

/-! ### built-in functions -/
def CalD (X : Cx) (f : Value) (F : List D → Option D) : Prop := ∃ r, CallR X f r ∧ ∀ (Hs H : Hp) (ds : List D) (vs : List V) (Q : VK) (d : D), Same Hs H → F ds = some d → PkL X.K Hs H ds vs →
  (∀ Hs' H' w, Ext Hs H Hs' H' → Rp X.K Hs' d w → Q w H') → r vs H Q
def CalO (X : Cx) (f : Value) (F : List D → Option (List D)) : Prop := ∃ r, CallR X f r ∧ ∀ (Hs H : Hp) (ds : List D) (vs : List V) (Q : VK) (l : List D), Same Hs H → F ds = some l → PkL X.K Hs H ds vs →
  (∀ Hs' H' p vs, Ext Hs H Hs' H' → H p = none → Hs' p = none → H' p = some (.lst vs) → RpL X.K Hs' l vs → Q (.ref p) H') → r vs H Q
theorem sim_cal {K : Fg} {mg : Str → Option Value} {r : List V → Hp → VK → Prop} {F : List D → Option D} (h : ∀ (Hs H : Hp) (ds : List D) (vs : List V) (Q : VK) (d : D), Same Hs H → F ds = some d → PkL K Hs H ds vs →
    (∀ Hs' H' w, Ext Hs H Hs' H' → Rp K Hs' d w → Q w H') → r vs H Q) : ∀ σ H Q, tE K mg W (e1 F fl) σ H Q → tCB r (tAp K mg W fl) σ H Q := fun σ H Q ⟨S, G, Hs, ρ, r, p⟩ => by
  refine ⟨S, G, Hs, ρ, r, (Post.bind p).imp fun ds Hs1 H1 e q vs hv => ?_⟩
  cases z : F ds with
  | none => rw [z] at q; exact q.elim
  | some d =>
    rw [z] at q
    exact h Hs1 H1 ds vs Q d e.sub z hv fun Hs' H' w e'' hw => q Hs' H' e'' w hw
theorem sim_calO {K : Fg} {mg : Str → Option Value} {r : List V → Hp → VK → Prop} {F : List D → Option (List D)} (h : ∀ (Hs H : Hp) (ds : List D) (vs : List V) (Q : VK) (d : List D), Same Hs H → F ds = some d → PkL K Hs H ds vs →
    (∀ Hs' H' p vs, Ext Hs H Hs' H' → H p = none → Hs' p = none → H' p = some (.lst vs) → RpL K Hs' d vs → Q (.ref p) H') → r vs H Q) : ∀ σ H Q, tO K mg W (e1 F fl) σ H Q → tCB r (tAp K mg W fl) σ H Q := fun σ H Q ⟨S, G, Hs, ρ, r, p⟩ => by
  refine ⟨S, G, Hs, ρ, r, (Post.bind p).imp fun ds Hs1 H1 e q vs hv => ?_⟩
  cases z : F ds with
  | none => rw [z] at q; exact q.elim
  | some d =>
    rw [z] at q
    exact h Hs1 H1 ds vs Q d e.sub z hv fun Hs' H' p vs e'' h0 h1 h2 h3 => q Hs' H' e'' p vs (e.same.free h0) h1 h2 h3
variable {x : Str} {p : Pos} {bid T : String} {F : List D → Option D} {G : List D → Option (List D)}
theorem v_blt (hc : CalD X (.builtin bid) F) (hg : Gl X x) (hm : X.mg x = none) (hv : bootBuiltins x = some (.builtin bid)) (ha : VAp X W (e :: es) fl) (hn : x ≠ "__name__" := by decide) (hdb : (x == ("__debug__" : Str)) = false := by decide)
    (he : starEach (e :: es) X.env = (false, eval e X.env) :: starEach es X.env := by rfl) (hpl : (backTo pos (starEach es X.env)).any (·.1) = false := by rfl) : VE X W (.Call (.Name x p) (e :: es) [] pos) (e1 F fl) :=
  let ⟨_, h1, h2⟩ := hc; PE.imp (pe_callB h1 hg hm hv ha hn hdb he hpl) (sim_cal h2)
theorem v_typ (hc : CalD X (.type T) F) (hg : Gl X x) (hm : X.mg x = none) (hv : bootBuiltins x = some (.type T)) (ha : VAp X W (e :: es) fl) (hn : x ≠ "__name__" := by decide) (hdb : (x == ("__debug__" : Str)) = false := by decide)
    (he : starEach (e :: es) X.env = (false, eval e X.env) :: starEach es X.env := by rfl) (hpl : (backTo pos (starEach es X.env)).any (·.1) = false := by rfl) : VE X W (.Call (.Name x p) (e :: es) [] pos) (e1 F fl) :=
  let ⟨_, h1, h2⟩ := hc; PE.imp (pe_callTy h1 hg hm hv ha hn hdb he hpl) (sim_cal h2)
theorem v_typO (hc : CalO X (.type T) G) (hg : Gl X x) (hm : X.mg x = none) (hv : bootBuiltins x = some (.type T)) (ha : VAp X W (e :: es) fl) (hn : x ≠ "__name__" := by decide) (hdb : (x == ("__debug__" : Str)) = false := by decide)
    (he : starEach (e :: es) X.env = (false, eval e X.env) :: starEach es X.env := by rfl) (hpl : (backTo pos (starEach es X.env)).any (·.1) = false := by rfl) : VO X W (.Call (.Name x p) (e :: es) [] pos) (e1 G fl) :=
  let ⟨_, h1, h2⟩ := hc; PE.imp (pe_callTy h1 hg hm hv ha hn hdb he hpl) (sim_calO h2)
def gcdD : List D → Option D
  | [.int a, .int b] => some (.int ((Nat.gcd a.natAbs b.natAbs : Nat) : Int))
  | _ => none
def lenD : List D → Option D
  | [.list l] => some (.int l.length)
  | [.tuple l] => some (.int l.length)
  | [.str z] => if z.length ≤ sizeLine then some (.int z.length) else none
  | _ => none
theorem c_len : CalD X (.builtin "len") lenD := ⟨_, call_len_seq.or call_len_str, fun Hs H ds vs Q d hs e hv k => by
  unfold lenD at e
  split at e
  · cases e
    obtain ⟨v, rfl, h⟩ := hv.one
    obtain ⟨a, xs, rfl, h1, h2⟩ := h.list hs
    refine .inl ⟨a, xs, rfl, .inl h1, ?_⟩
    rw [← h2.length]
    exact k _ _ _ (.refl hs) (.int _)
  · cases e
    obtain ⟨v, rfl, h⟩ := hv.one
    obtain ⟨a, xs, rfl, h1, h2⟩ := h.tup hs
    refine .inl ⟨a, xs, rfl, .inr h1, ?_⟩
    rw [← h2.length]
    exact k _ _ _ (.refl hs) (.int _)
  · split at e
    · rename_i hz
      cases e
      obtain ⟨v, rfl, h⟩ := hv.one
      exact .inr ⟨_, by rw [h.str], hz, k _ _ _ (.refl hs) (.int _)⟩
    · cases e
  · cases e⟩
def intD : List D → Option D
  | [.int i] => some (.int i)
  | [.bool b] => some (.int (if b then 1 else 0))
  | _ => none
theorem c_int : CalD X (.type "int") intD := ⟨_, call_int1, fun Hs H ds vs Q d hs e hv k => by
  unfold intD at e
  split at e
  · cases e
    obtain ⟨v, rfl, h⟩ := hv.one
    exact .inl ⟨_, by rw [h.int], k _ _ _ (.refl hs) (.int _)⟩
  · cases e
    obtain ⟨v, rfl, h⟩ := hv.one
    exact .inr ⟨_, by rw [h.bl], k _ _ _ (.refl hs) (.int _)⟩
  · cases e⟩
def absD : List D → Option D
  | [.int i] => some (.int (if i < 0 then -i else i))
  | _ => none
theorem c_abs : CalD X (.builtin "abs") absD := ⟨_, call_abs, fun Hs H ds vs Q d hs e hv k => by
  unfold absD at e
  split at e
  · cases e
    obtain ⟨v, rfl, h⟩ := hv.one
    exact ⟨_, by rw [h.int], k _ _ _ (.refl hs) (.int _)⟩
  · cases e⟩
def blsD : List D → Option (List Bool)
  | [] => some []
  | .bool b :: r => (blsD r).map (b :: ·)
  | _ :: _ => none
def intsD : List D → Option (List Int)
  | [] => some []
  | .int b :: r => (intsD r).map (b :: ·)
  | _ :: _ => none
theorem intsD_rp {K : Fg} {H : Hp} : ∀ {l : List D} {bs : List Int} {vs : List V}, intsD l = some bs → RpL K H l vs → vs = bs.map V.int
  | [], bs, vs, e, r => by cases e; cases r; rfl
  | .int b :: l, bs, vs, e, r => by
    obtain ⟨bs', e', rfl⟩ := Option.map_eq_some_iff.mp (show (intsD l).map _ = some bs from e)
    cases r with
    | cons h r => cases h; rw [intsD_rp e' r]; rfl
  | .none :: _, _, _, e, _ => by cases e
  | .bool _ :: _, _, _, e, _ => by cases e
  | .str _ :: _, _, _, e, _ => by cases e
  | .list _ :: _, _, _, e, _ => by cases e
  | .tuple _ :: _, _, _, e, _ => by cases e
  | .dict _ :: _, _, _, e, _ => by cases e
theorem blsD_map : ∀ bs : List Bool, blsD (bs.map .bool) = some bs
  | [] => rfl
  | b :: bs => by show (blsD (bs.map .bool)).map _ = _; rw [blsD_map bs]; rfl
theorem intsD_map : ∀ bs : List Int, intsD (bs.map .int) = some bs
  | [] => rfl
  | b :: bs => by show (intsD (bs.map .int)).map _ = _; rw [intsD_map bs]; rfl
def allD : List D → Option D
  | [.list l] => (blsD l).map fun bs => .bool (bs.all id)
  | _ => none
def anyD : List D → Option D
  | [.list l] => (blsD l).map fun bs => .bool (bs.any id)
  | _ => none
def sumD : List D → Option D
  | [.list l] => (intsD l).map fun bs => .int bs.sum
  | _ => none
def maxI : Int → List Int → Int
  | m, [] => m
  | m, x :: r => maxI (if m < x then x else m) r
theorem maxI_ge : ∀ (l : List Int) (m : Int), m ≤ maxI m l ∧ (∀ x ∈ l, x ≤ maxI m l) ∧ (maxI m l = m ∨ maxI m l ∈ l)
  | [], m => ⟨Int.le_refl _, (fun _ h => by cases h), .inl rfl⟩
  | x :: r, m => by
    obtain ⟨h1, h2, h3⟩ := maxI_ge r (if m < x then x else m)
    have e : maxI m (x :: r) = maxI (if m < x then x else m) r := rfl
    rw [e]
    refine ⟨?_, fun y hy => ?_, ?_⟩
    · split at h1 <;> rename_i z <;> simp only [z, if_true, if_false] <;> omega
    · rcases List.mem_cons.mp hy with rfl | hy
      · split at h1 <;> rename_i z <;> simp only [z, if_true, if_false] <;> omega
      · exact h2 y hy
    · rcases h3 with h3 | h3
      · by_cases z : m < x
        · right; rw [h3, if_pos z]; exact List.mem_cons_self
        · left; rw [h3, if_neg z]
      · right; exact List.mem_cons_of_mem _ h3
def maxD : List D → Option D
  | [.list l] => (intsD l).bind fun bs => match bs with
    | [] => none
    | m :: r => some (.int (maxI m r))
  | [.int i, .int j] => some (.int (if j > i then j else i))
  | _ => none
theorem c_max (hc : X.calm = true) : CalD X (.builtin "max") maxD := ⟨_, (cr_max hc).or (call_max2 hc), fun Hs H ds vs Q d hs e hv k => by
  unfold maxD at e
  split at e
  · obtain ⟨bs, e', e⟩ := Option.bind_eq_some_iff.mp e
    obtain ⟨v, rfl, h⟩ := hv.one
    obtain ⟨a, xs, rfl, h1, h2⟩ := h.list hs
    rw [intsD_rp e' h2] at h1
    cases bs with
    | nil => cases e
    | cons m r =>
      cases e
      refine .inl ⟨a, m :: r, rfl, h1, Nat.succ_pos _, fun y hy hge => ?_⟩
      obtain ⟨g1, g2, g3⟩ := maxI_ge r m
      have : y = maxI m r := by
        have a1 := hge m List.mem_cons_self
        have a2 : maxI m r ≤ y := by
          rcases g3 with g | g
          · rw [g]; exact a1
          · exact hge _ (List.mem_cons_of_mem _ g)
        have a3 : y ≤ maxI m r := by
          rcases List.mem_cons.mp hy with rfl | hy
          · exact g1
          · exact g2 y hy
        omega
      rw [this]
      exact k _ _ _ (.refl hs) (.int _)
  · cases e
    obtain ⟨v, w, rfl, h1, h2⟩ := hv.two
    exact .inr ⟨_, _, by rw [h1.int, h2.int], k _ _ _ (.refl hs) (.int _)⟩
  · cases e⟩
def listO : List D → Option (List D)
  | [.list l] => some l
  | [.tuple l] => some l
  | _ => none
theorem c_listO : CalO X (.type "list") listO := ⟨_, call_list_of, fun Hs H ds vs Q d hs e hv k => by
  unfold listO at e
  split at e
  · cases e
    obtain ⟨v, rfl, h⟩ := hv.one
    obtain ⟨a, xs, rfl, h1, h2⟩ := h.list hs
    refine ⟨a, xs, rfl, .inl h1, fun q hq => ?_⟩
    obtain ⟨e1, e2, e3, e4⟩ := new_own hs hq h2
    exact k _ _ _ _ e1 hq e2 e3 e4
  · cases e
    obtain ⟨v, rfl, h⟩ := hv.one
    obtain ⟨a, xs, rfl, h1, h2⟩ := h.tup hs
    refine ⟨a, xs, rfl, .inr h1, fun q hq => ?_⟩
    obtain ⟨e1, e2, e3, e4⟩ := new_own hs hq h2
    exact k _ _ _ _ e1 hq e2 e3 e4
  · cases e⟩
def tupleD : List D → Option D
  | [.list l] => some (.tuple l)
  | [.tuple l] => some (.tuple l)
  | _ => none
/-! ### isinstance of a built-in type -/
def tyD : D → String
  | .none => "NoneType"
  | .bool _ => "bool"
  | .int _ => "int"
  | .str _ => "str"
  | .list _ => "list"
  | .tuple _ => "tuple"
  | .dict _ => "dict"
def isiD (n : String) (d : D) : Option D := match d with
  | .dict _ => none
  | d => (kitB (tyD d) n).map .bool
theorem tyX_of {K : Fg} {Hs H : Hp} {d : D} {v : V} (hs : Same Hs H) (h : Pk K Hs H d v) (nd : ∀ l, d ≠ .dict l) : TyX K H v (.type (tyD d)) := by
  cases d with
  | none => cases h.non; exact .base .non
  | bool b => cases h.bl; exact .base (.bl _)
  | int b => cases h.int; exact .base (.int _)
  | str b => cases h.str; exact .base (.str _)
  | list l =>
    obtain ⟨a, xs, rfl, h1, h2⟩ := h.list hs
    rcases h1 with (h1 | ⟨o, h1⟩) | ⟨o, its, n, h1, h2, _⟩
    · exact .base (.lst h1)
    · exact .base (.frz h1)
    · exact .kList h1 h2
  | tuple l =>
    obtain ⟨a, xs, rfl, h1, h2⟩ := h.tup hs
    rcases h1 with (h1 | ⟨o, h1⟩) | ⟨o, its, n, h1, h2, _⟩
    · exact .base (.tup h1)
    · exact .fTuple h1
    · exact .kTuple h1 h2
  | dict l => exact (nd l rfl).elim
theorem v_isi {xi xt : Str} {p1 p2 : Pos} {n : String} (hg : Gl X xi) (hm : X.mg xi = none) (hv : bootBuiltins xi = some (.builtin "isinstance")) (ha : VP X W a f) (ht : PE X (.Name xt p2) (tC (.ty n)))
    (hn : xi ≠ "__name__" := by decide) (hdb : (xi == ("__debug__" : Str)) = false := by decide)
    (he : starEach [a, .Name xt p2] X.env = (false, eval a X.env) :: starEach [.Name xt p2] X.env := by rfl) (hpl : (backTo pos (starEach [.Name xt p2] X.env)).any (·.1) = false := by rfl) (he2 : starEach [.Name xt p2] X.env = (false, eval (.Name xt p2) X.env) :: starEach [] X.env := by rfl) :
    VE X W (.Call (.Name xi p1) [a, .Name xt p2] [] pos) (e1 (isiD n) f) := by
  refine PE.imp (pe_callB call_isi hg hm hv (pa_cons ha (pa_cons ht pa_nil he2) he) hn hdb he hpl) fun σ H Q ⟨S, G, Hs, ρ, r, p⟩ => ?_
  refine ⟨S, G, Hs, ρ, r, (Post.bind p).imp fun d Hs1 H1 e q u hu => ?_⟩
  cases z : isiD n d with
  | none => rw [z] at q; exact q.elim
  | some d' =>
    rw [z] at q
    have nd : ∀ l, d ≠ .dict l := fun l w => by rw [w] at z; cases z
    have z' : (kitB (tyD d) n).map PyData.bool = some d' := by
      cases d with
      | dict l => exact (nd l rfl).elim
      | _ => exact z
    obtain ⟨b, h1, rfl⟩ := Option.map_eq_some_iff.mp z'
    exact ⟨u, .ty n, .type (tyD d), .type n, b, rfl, .ty n, tyX_of e.sub hu nd, kit_ty h1, q.now e.sub _ (.bl _)⟩
end

/-! ### slices -/
def cutL (l : List D) (lo hi : Option Int) : List D := (l.drop (HT.sIx l.length 0 lo)).take (HT.sIx l.length l.length hi - HT.sIx l.length 0 lo)
theorem cut_rp {K : Fg} {H : Hp} {l : List D} {vs : List V} (r : RpL K H l vs) (lo hi : Option Int) : RpL K H (cutL l lo hi) (cutV vs lo hi) := by
  unfold cutL cutV
  rw [r.length]
  exact (r.drop _).take _
def sliceD (x : D) (lo hi : Option Int) : Option D := match x with
  | .list l => some (.list (cutL l lo hi))
  | .tuple l => some (.tuple (cutL l lo hi))
  | .str z => if z.length ≤ sizeLine then some (.str (cutS z lo hi)) else none
  | _ => none
def sliceO (x : D) (lo hi : Option Int) : Option (List D) := match x with
  | .list l => some (cutL l lo hi)
  | _ => none
def pNo : Ev → R (Option Int) := cst none
def intOf : D → Option (Option Int)
  | .int i => some (some i)
  | _ => none
def tPo (K : Fg) (mg : Str → Option Value) (W : WX) (f : Ev → R (Option Int)) : TO := fun σ H Q => ∃ S G Hs ρ, RelE K S G Hs H σ ρ ∧ Post K mg W Hs H σ (f ρ) (fun o Hs' H' => Q o H')
def VPo (X : Cx) (W : WX) (e : Option Expr) (f : Ev → R (Option Int)) : Prop := PO X e (tPo X.K X.mg W f)
theorem PO.imp {X : Cx} {e : Option Expr} {t t' : TO} (h : PO X e t) (i : ∀ σ H Q, t' σ H Q → t σ H Q) : PO X e t' := ⟨fun pins s σ H Q I q => h.run pins s σ H Q I (i σ H Q q)⟩
def e3 {α β γ δ : Type} (F : α → β → γ → Option δ) (f : Ev → R α) (g : Ev → R β) (h : Ev → R γ) : Ev → R δ := fun ρ => (f ρ).bind fun x => (g ρ).bind fun y => (h ρ).bind fun z => ofO (F x y z)
section
variable {X : Cx} {W : WX} {e a b c : Expr} {lo hi : Option Expr} {p2 pos : Pos} {f g : Ev → R D} {gl gh : Ev → R (Option Int)}
theorem vpo_none : VPo X W none pNo := PO.imp po_none fun σ H Q ⟨S, G, Hs, ρ, r, p⟩ => p.now r.sub
theorem vpo_some (h : VE X W e f) : VPo X W (some e) (e1 intOf f) := PO.imp (po_some h) fun σ H Q ⟨S, G, Hs, ρ, r, p⟩ => by
  refine ⟨S, G, Hs, ρ, r, (Post.bind p).imp fun x Hs1 H1 e q u hu => ?_⟩
  cases x with
  | int i => cases hu; exact ⟨i, rfl, q.now e.sub⟩
  | none => exact q.elim
  | bool _ => exact q.elim
  | str _ => exact q.elim
  | list _ => exact q.elim
  | tuple _ => exact q.elim
  | dict _ => exact q.elim
theorem sl_any : SlR X (fun x lo hi H Q => rSlL X.K x lo hi H Q ∨ rSlA X.K x lo hi H Q ∨ rSlS x lo hi H Q) := sl_list.or (sl_tupA.or sl_str)
theorem cutV_whole {xs : List V} {lo hi : Option Int} (h : HT.sIx xs.length 0 lo = 0 ∧ HT.sIx xs.length xs.length hi = xs.length) : cutV xs lo hi = xs := by
  unfold cutV
  rw [h.1, h.2, Nat.sub_zero, List.drop_zero, List.take_length]
theorem v_slice (he : VP X W e f) (hl : VPo X W lo gl) (hu : VPo X W hi gh) : VE X W (.Subscript e (.Slice lo hi none p2) pos) (e3 sliceD f gl gh) := PE.imp (pe_slice sl_any he hl hu) fun σ H Q ⟨S, G, Hs, ρ, r, p⟩ => by
  refine ⟨S, G, Hs, ρ, r, (Post.bind p).imp fun x Hs1 H1 e q u hu => ?_⟩
  refine ⟨S, G, Hs1, ρ, r.step e, (Post.bind q).imp fun l Hs2 H2 e' q' => ?_⟩
  refine ⟨S, G, Hs2, ρ, (r.step e).step e', (Post.bind q').imp fun h Hs3 H3 e'' q'' => ?_⟩
  have hu3 := (hu.up e').up e''
  cases z : sliceD x l h with
  | none => rw [z] at q''; exact q''.elim
  | some d =>
    rw [z] at q''
    unfold sliceD at z
    split at z
    · cases z
      obtain ⟨a, xs, rfl, h1, h2⟩ := hu3.list e''.sub
      refine .inl ⟨a, xs, rfl, h1, fun p hp => ?_⟩
      obtain ⟨x1, x2⟩ := new_lst e''.sub hp (cut_rp h2 l h)
      exact q'' _ _ x1 _ x2
    · cases z
      have w := hu3.tupRp
      cases w with
      | @tup a xs _ h1 h2 =>
        refine .inr (.inl ⟨a, xs, rfl, SqT.mono e''.sub h1, fun hw => ?_, fun _ p hp => ?_⟩)
        · refine q''.now e''.sub _ (.tup h1 ?_)
          have := cut_rp h2 l h
          rw [cutV_whole hw] at this
          exact this
        · have x := Ext.new (o := .tup (cutV xs l h)) e''.sub hp
          exact q'' _ _ x _ (.tup (.inl (.inl upd_same)) ((cut_rp h2 l h).mono x.grow))
    · split at z
      · rename_i hz
        cases z
        exact .inr (.inr ⟨_, hu3.str, hz, q''.now e''.sub _ (.str _)⟩)
      · cases z
    · cases z
end
end VL

set_option Elab.async false
set_option linter.all false
set_option maxRecDepth 100000
set_option autoImplicit false
namespace VL
open PySem PySem.Spec PyProof.Rows L2

section
variable {X : Cx} {W : WX} {e a b c : Expr} {lo hi : Option Expr} {p2 pos : Pos} {f g : Ev → R D} {gl gh : Ev → R (Option Int)}
/-- xs[::-1] -/
def revO : D → Option (List D)
  | .list l => some l.reverse
  | _ => none
end

/-! ### statements -/
/-- what a def's end hands back -/
def RpO (K : Fg) (G Hs H : Hp) : SD → V → Prop
  | .no, _ => False
  | .bo _, _ => False
  | .sh d, v => Rp K Hs d v
  | .ow l, v => ∃ p vs, v = .ref p ∧ G p = none ∧ Hs p = none ∧ H p = some (.lst vs) ∧ RpL K Hs l vs
def OutOk (K : Fg) (mg : Str → Option Value) (W : WX) (S : Hp) (G : Gx) (Hs : Hp) (D : Ends) : Out → Prop
  | .nx ρ => ∀ Hs' H' σ', Same Hs Hs' → RelE K S G Hs' H' σ' ρ → D.nx σ' H'
  | .bk ρ => ∀ Hs' H' σ', Same Hs Hs' → RelE K S G Hs' H' σ' ρ → D.bk σ' H'
  | .ct ρ => ∀ Hs' H' σ', Same Hs Hs' → RelE K S G Hs' H' σ' ρ → D.ct σ' H'
  | .rt r => ∀ Hs' H' v, Ext S G.h Hs' H' → RpO K G.h Hs' H' r v → D.rt v H'
  | .rtB r ρ => ∀ Hs' H' v σ', Same Hs Hs' → RelE K S G Hs' H' σ' ρ → RpO K G.h Hs' H' r v → (∀ l, r = .ow l → ∀ i p, G.b i = some p → v ≠ .ref p) → D.rt v H'
  | .ex x ρ => ∀ Hs' H' σ' cls dd, Same Hs Hs' → RelE K S G Hs' H' σ' ρ → XRp K mg H' x cls dd → W cls dd σ' H'
  | .bad => False
def tS (K : Fg) (mg : Str → Option Value) (W : WX) (F : Ev → Out) : TS := fun D σ H => ∃ S G Hs ρ, RelE K S G Hs H σ ρ ∧ OutOk K mg W S G Hs D (F ρ)
def VS (X : Cx) (W : WX) (st : Stmt) (F : Ev → Out) : Prop := PS X st (tS X.K X.mg W F)
def VSs (X : Cx) (W : WX) (st : List Stmt) (F : Ev → Out) : Prop := PSs X st (tS X.K X.mg W F)

theorem OutOk.up {K : Fg} {mg : Str → Option Value} {W : WX} {S Hs Hs1 : Hp} {G : Gx} {D : Ends} {o : Out} (h : OutOk K mg W S G Hs D o) (e : Same Hs Hs1) : OutOk K mg W S G Hs1 D o := by
  cases o with
  | nx ρ => exact fun Hs' H' σ' a => h Hs' H' σ' (e.trans a)
  | bk ρ => exact fun Hs' H' σ' a => h Hs' H' σ' (e.trans a)
  | ct ρ => exact fun Hs' H' σ' a => h Hs' H' σ' (e.trans a)
  | rt r => exact h
  | rtB r ρ => exact fun Hs' H' v σ' a => h Hs' H' v σ' (e.trans a)
  | ex x ρ => exact fun Hs' H' σ' cls dd a => h Hs' H' σ' cls dd (e.trans a)
  | bad => exact h
theorem RelE.ext' {K : Fg} {S Hs H : Hp} {G : Gx} {σ : Sg} {ρ : Ev} (r : RelE K S G Hs H σ ρ) : Ext S G.h Hs H := ⟨r.sub, r.old, r.ext, r.new⟩

/-- an evaluation ahead -/
def liftE {α : Type} (r : R α) (ρ : Ev) (k : α → Out) : Out := match r with
  | .ok a => k a
  | .ex x => .ex x ρ
  | .bad => .bad
theorem lift_post {α : Type} {K : Fg} {mg : Str → Option Value} {W : WX} {S Hs H : Hp} {G : Gx} {σ : Sg} {ρ : Ev} {D : Ends} {r : R α} {k : α → Out} (rl : RelE K S G Hs H σ ρ) (h : OutOk K mg W S G Hs D (liftE r ρ k)) :
    Post K mg W Hs H σ r (fun a Hs' H' => OutOk K mg W S G Hs' D (k a)) := by
  cases r with
  | ok a => exact fun Hs' H' e => OutOk.up h e.grow
  | ex x => exact fun Hs' H' cls dd e hx => h Hs' H' σ cls dd e.grow (rl.step e) hx
  | bad => exact h

def seqO (o : Out) (k : Ev → Out) : Out := match o with
  | .nx ρ => k ρ
  | o => o
def sNil : Ev → Out := .nx
def sSeq (F G : Ev → Out) : Ev → Out := fun ρ => seqO (F ρ) G
section
variable {X : Cx} {W : WX} {e a b c : Expr} {es : List Expr} {pos : Pos} {f g : Ev → R D} {fl : Ev → R (List D)} {fb : Ev → R Bool} {st : Stmt} {rest : List Stmt} {F F' : Ev → Out}
theorem sim_seq {K : Fg} {mg : Str → Option Value} : ∀ D σ H, tS K mg W (sSeq F F') D σ H → tSeq (tS K mg W F) (tS K mg W F') D σ H := fun D σ H ⟨S, G, Hs, ρ, r, h⟩ => by
  refine ⟨S, G, Hs, ρ, r, ?_⟩
  unfold sSeq seqO at h
  cases q : F ρ with
  | nx ρ' =>
    rw [q] at h
    exact fun Hs' H' σ' a r' => ⟨S, G, Hs', ρ', r', h.up a⟩
  | bk ρ' => rw [q] at h; exact h
  | ct ρ' => rw [q] at h; exact h
  | rt r' => rw [q] at h; exact h
  | rtB r' ρ' => rw [q] at h; exact h
  | ex x ρ' => rw [q] at h; exact h
  | bad => rw [q] at h; exact h
theorem vss_nil : VSs X W [] sNil := PSs.imp pss_nil fun D σ H ⟨S, G, Hs, ρ, r, h⟩ => h Hs H σ (.refl _) r
theorem vss_cons (h1 : VS X W st F) (h2 : VSs X W rest F') : VSs X W (st :: rest) (sSeq F F') := PSs.imp (pss_cons h1 h2) sim_seq
theorem vss_one (h1 : VS X W st F) : VSs X W [st] F := pss_one h1
def sRet (f : Ev → R D) : Ev → Out := fun ρ => liftE (f ρ) ρ fun d => .rt (.sh d)
def sRetO (f : Ev → R (List D)) : Ev → Out := fun ρ => liftE (f ρ) ρ fun d => .rt (.ow d)
theorem vs_ret (he : VE X W e f) : VS X W (.Return (some e) pos) (sRet f) := PS.imp (ps_ret he) fun D σ H ⟨S, G, Hs, ρ, r, h⟩ =>
  ⟨S, G, Hs, ρ, r, (lift_post r h).imp fun d Hs' H' e q v hv => q Hs' H' v (r.step e).ext' hv⟩
theorem vs_retO (he : VO X W e fl) : VS X W (.Return (some e) pos) (sRetO fl) := PS.imp (ps_ret he) fun D σ H ⟨S, G, Hs, ρ, r, h⟩ =>
  ⟨S, G, Hs, ρ, r, (lift_post r h).imp fun d Hs' H' e q p vs h0 h1 h2 h3 => q Hs' H' _ (r.step e).ext' ⟨p, vs, rfl, r.old.free h0, h1, h2, h3⟩⟩
/-- return x, x a list of one's own -/
def sRetV (i : Nat) : Ev → Out := fun ρ => match ρ[i]? with
  | some (.ow l) => .rt (.ow l)
  | some (.sh d) => .rt (.sh d)
  | _ => .bad
theorem vs_retV (i : Nat) {x : Str} {p : Pos} (h : PE X (.Name x p) (tVar i)) : VS X W (.Return (some (.Name x p)) pos) (sRetV i) := PS.imp (ps_ret h) fun D σ H ⟨S, G, Hs, ρ, r, h⟩ => by
  unfold sRetV at h
  cases q : ρ[i]? with
  | none => rw [q] at h; exact h.elim
  | some s =>
    rw [q] at h
    cases s with
    | no => exact h.elim
    | sh d =>
      obtain ⟨v, e1, e2⟩ := r.get q
      exact ⟨v, e1, h Hs H v r.ext' e2⟩
    | bo l => exact h.elim
    | ow l =>
      obtain ⟨p, vs, e1, e2, e3, e4, e5⟩ := r.own q
      exact ⟨_, e1, h Hs H _ r.ext' ⟨p, vs, rfl, e2, e3, e4, e5⟩⟩
def sRetN : Ev → Out := fun _ => .rt (.sh .none)
def sIf (c : Ev → R Bool) (F F' : Ev → Out) : Ev → Out := fun ρ => liftE (c ρ) ρ fun b => if b then F ρ else F' ρ
theorem vs_if {p q : List Stmt} (hc : VT X W c fb) (ha : VSs X W p F) (hb : VSs X W q F') : VS X W (.If c p q pos) (sIf fb F F') := PS.imp (ps_if hc ha hb) fun D σ H ⟨S, G, Hs, ρ, r, h⟩ => by
  refine ⟨S, G, Hs, ρ, r, (lift_post r h).imp fun k Hs' H' e q => ?_⟩
  cases k with
  | true => exact ⟨S, G, Hs', ρ, r.step e, q⟩
  | false => exact ⟨S, G, Hs', ρ, r.step e, q⟩
def sDrop (f : Ev → R D) : Ev → Out := fun ρ => liftE (f ρ) ρ fun _ => .nx ρ
theorem vs_expr (he : VE X W e f) (hs : swapsWith e none pos.line X.env = pure false := by rfl) : VS X W (.Expr e pos) (sDrop f) := PS.imp (ps_expr he hs) fun D σ H ⟨S, G, Hs, ρ, r, h⟩ =>
  ⟨S, G, Hs, ρ, r, (lift_post r h).imp fun d Hs' H' e q v hv => q Hs' H' σ (.refl _) (r.step e)⟩
/-- a list of one's own is frozen here -/
def sFz (i : Nat) (F : Ev → Out) : Ev → Out := fun ρ => match ρ[i]? with
  | some (.ow l) => F (ρ.set i (.sh (.list l)))
  | _ => F ρ
theorem sim_fz {K : Fg} {mg : Str → Option Value} (i : Nat) : ∀ D σ H, tS K mg W (sFz i F) D σ H → tS K mg W F D σ H := fun D σ H ⟨S, G, Hs, ρ, r, h⟩ => by
  unfold sFz at h
  cases q : ρ[i]? with
  | none => rw [q] at h; exact ⟨S, G, Hs, ρ, r, h⟩
  | some s =>
    rw [q] at h
    cases s with
    | no => exact ⟨S, G, Hs, ρ, r, h⟩
    | bo l => exact ⟨S, G, Hs, ρ, r, h⟩
    | sh d => exact ⟨S, G, Hs, ρ, r, h⟩
    | ow l =>
      obtain ⟨Hs', g, r'⟩ := r.fz q
      exact ⟨S, G, Hs', _, r', OutOk.up h g⟩
theorem vs_fz (i : Nat) (h : VS X W st F) : VS X W st (sFz i F) := PS.imp h (sim_fz i)
theorem vss_fz {sts : List Stmt} (i : Nat) (h : VSs X W sts F) : VSs X W sts (sFz i F) := PSs.imp h (sim_fz i)

/-! ### targets -/
/-- g: what an assigned item makes of the slots; ts: the slots that it may change -/
def tGt (K : Fg) (ts : List Nat) (g : D → Ev → Option Ev) : TG := fun v σ H Q => ∃ S G Hs ρ d ρ', RelE K S G Hs H σ ρ ∧ Rp K Hs d v ∧ g d ρ = some ρ' ∧
  ∀ σ', σ'.length = σ.length → (∀ j, j ∉ ts → σ'[j]? = σ[j]?) → RelE K S G Hs H σ' ρ' → Q σ' H
def VG (X : Cx) (tg : Expr) (ts : List Nat) (g : D → Ev → Option Ev) : Prop := PG X tg (tGt X.K ts g)
def gSet (i : Nat) : D → Ev → Option Ev := fun d ρ => some (ρ.set i (.sh d))
theorem vg_name {i : Nat} {x : Str} (h : PG X (.Name x pos) (gName i)) : VG X (.Name x pos) [i] (gSet i) := PG.imp h fun v σ H Q ⟨S, G, Hs, ρ, d, ρ', r, hd, e, q⟩ => by
  cases e
  refine q _ (by simp) (fun j hj => ?_) (r.set hd)
  rw [List.getElem?_set_ne]
  intro z
  exact hj (by simp [z])
def tGts (K : Fg) (ts : List Nat) (g : List D → Ev → Option Ev) : TGs := fun vs σ H Q => ∃ S G Hs ρ ds ρ', RelE K S G Hs H σ ρ ∧ RpL K Hs ds vs ∧ g ds ρ = some ρ' ∧
  ∀ σ', σ'.length = σ.length → (∀ j, j ∉ ts → σ'[j]? = σ[j]?) → RelE K S G Hs H σ' ρ' → Q σ' H
def VGs (X : Cx) (tg : List Expr) (ts : List Nat) (g : List D → Ev → Option Ev) : Prop := PGs X tg (tGts X.K ts g)
def gsNil : List D → Ev → Option Ev
  | [], ρ => some ρ
  | _ :: _, _ => none
def gsCons (g : D → Ev → Option Ev) (h : List D → Ev → Option Ev) : List D → Ev → Option Ev
  | [], _ => none
  | d :: ds, ρ => (g d ρ).bind (h ds)
theorem PGs.imp {tg : List Expr} {t t' : TGs} (h : PGs X tg t) (i : ∀ v σ H Q, t' v σ H Q → t v σ H Q) : PGs X tg t' := ⟨fun pins s σ H v u Q I r q => h.run pins s σ H v u Q I r (i v σ H Q q)⟩
theorem vgs_nil : VGs X [] [] gsNil := PGs.imp pgs_nil fun v σ H Q ⟨S, G, Hs, ρ, ds, ρ', r, hd, e, q⟩ => by
  cases hd with
  | nil => cases e; exact ⟨rfl, q σ rfl (fun _ _ => rfl) r⟩
  | cons _ _ => cases e
theorem vgs_cons {ts us : List Nat} {g : D → Ev → Option Ev} {k : List D → Ev → Option Ev} (h1 : VG X e ts g) (h2 : VGs X es us k)
    (hs : (assignEach (e :: es) X.env).map (·.2) = assign e X.env :: (assignEach es X.env).map (·.2) := by rfl) : VGs X (e :: es) (ts ++ us) (gsCons g k) := PGs.imp (pgs_cons h1 h2 hs) fun v σ H Q ⟨S, G, Hs, ρ, ds, ρ', r, hd, e, q⟩ => by
  cases hd with
  | nil => cases e
  | cons h r' =>
    obtain ⟨ρ1, e1, e2⟩ := Option.bind_eq_some_iff.mp e
    refine ⟨_, _, rfl, S, G, Hs, ρ, _, ρ1, r, h, e1, fun σ1 l1 f1 r1 => ?_⟩
    refine ⟨S, G, Hs, ρ1, _, ρ', r1, r', e2, fun σ2 l2 f2 r2 => q σ2 (l2.trans l1) (fun j hj => ?_) r2⟩
    rw [List.mem_append, not_or] at hj
    exact (f2 j hj.2).trans (f1 j hj.1)
def gTupD (n : Nat) (k : List D → Ev → Option Ev) : D → Ev → Option Ev := fun d ρ => match d with
  | .tuple l => if l.length = n then k l ρ else none
  | .list l => if l.length = n then k l ρ else none
  | _ => none
theorem PG.or {tg : Expr} {t t' : TG} (h : PG X tg t) (h' : PG X tg t') : PG X tg (fun v σ H Q => t v σ H Q ∨ t' v σ H Q) := ⟨fun pins s σ H v u Q I r q => q.elim (h.run pins s σ H v u Q I r) (h'.run pins s σ H v u Q I r)⟩
theorem vg_tup {k0 n : Nat} {ts : List Nat} {k : List D → Ev → Option Ev} (hc : X.calm = true) (h : VGs X es ts k)
    (hn : (assignEach es X.env).length = n := by rfl) (hst : (assignEach es X.env).findIdx? (·.1) = none := by rfl) : VG X (.Tuple es k0 pos) ts (gTupD n k) := PG.imp (PG.or (pg_tup hc h hn hst) (pg_lst hc h hn hst)) fun v σ H Q ⟨S, G, Hs, ρ, d, ρ', r, hd, e, q⟩ => by
  unfold gTupD at e
  split at e
  · split at e
    · rename_i hz
      cases hd with
      | tup h1 h2 => exact .inl ⟨_, _, rfl, SqT.mono r.sub h1, by rw [← h2.length]; exact hz, S, G, Hs, ρ, _, ρ', r, h2, e, q⟩
    · cases e
  · split at e
    · rename_i hz
      cases hd with
      | lst h1 h2 => exact .inr ⟨_, _, rfl, Same.seq r.sub h1, by rw [← h2.length]; exact hz, S, G, Hs, ρ, _, ρ', r, h2, e, q⟩
    · cases e
  · cases e
/-! ### assignments -/
def sAsg (f : Ev → R D) (g : D → Ev → Option Ev) : Ev → Out := fun ρ => liftE (f ρ) ρ fun d => match g d ρ with
  | some ρ' => .nx ρ'
  | none => .bad
theorem sim_asg {K : Fg} {mg : Str → Option Value} {ts : List Nat} {k : D → Ev → Option Ev} : ∀ D σ H, tS K mg W (sAsg f k) D σ H → tAsg (tE K mg W f) (tGt K ts k) D σ H := fun D σ H ⟨S, G, Hs, ρ, r, h⟩ => by
  refine ⟨S, G, Hs, ρ, r, (lift_post r h).imp fun d Hs' H' e q v hv => ?_⟩
  cases z : k d ρ with
  | none => rw [z] at q; exact q.elim
  | some ρ' =>
    rw [z] at q
    exact ⟨S, G, Hs', ρ, d, ρ', r.step e, hv, z, fun σ' _ _ r' => q Hs' H' σ' (.refl _) r'⟩
theorem vs_asg {tg : Expr} {ts : List Nat} {k : D → Ev → Option Ev} (he : VE X W e f) (hg : VG X tg ts k) (hs : swapsWithSole [tg] e pos.line X.env = pure false := by rfl) (hw : swappedStores [tg] e X.env = pure none := by rfl)
    (h1 : (assignEach [tg] X.env).map (·.2) = [assign tg X.env] := by rfl) : VS X W (.Assign [tg] e pos) (sAsg f k) := PS.imp (ps_asg he hg hs hw h1) sim_asg
def sSet (i : Nat) (f : Ev → R D) : Ev → Out := fun ρ => liftE (f ρ) ρ fun d => .nx (ρ.set i (.sh d))
theorem sim_set {K : Fg} {mg : Str → Option Value} {i : Nat} : ∀ D σ H, tS K mg W (sSet i f) D σ H → tAsg (tE K mg W f) (gName i) D σ H := fun D σ H ⟨S, G, Hs, ρ, r, h⟩ =>
  ⟨S, G, Hs, ρ, r, (lift_post r h).imp fun d Hs' H' e q v hv => q Hs' H' _ (.refl _) ((r.step e).set hv)⟩
def sSetO (i : Nat) (f : Ev → R (List D)) : Ev → Out := fun ρ => liftE (f ρ) ρ fun d => .nx (ρ.set i (.ow d))
theorem sim_setO {K : Fg} {mg : Str → Option Value} {i : Nat} : ∀ D σ H, tS K mg W (sSetO i fl) D σ H → tAsg (tO K mg W fl) (gName i) D σ H := fun D σ H ⟨S, G, Hs, ρ, r, h⟩ =>
  ⟨S, G, Hs, ρ, r, (lift_post r h).imp fun d Hs' H' e q p vs h0 h1 h2 h3 => q Hs' H' _ (.refl _) (r.setOw e h0 h1 h2 h3)⟩
theorem vs_set {i : Nat} {x : Str} {pos' : Pos} (hN : X.N.Nodup) (hi : X.N[i]? = some x) (hx : Loc X.env.scope x) (he : VE X W e f) (hs : swapsWith e (some (.Name x pos')) pos.line X.env = pure false := by rfl) (hf : X.fn x = true ∨ X.env.scope.names.lookup x = some .local := by first | exact .inl rfl | exact .inr rfl | assumption) :
    VS X W (.Assign [.Name x pos'] e pos) (sSet i f) := PS.imp (ps_set hN hi hx he hs hf) sim_set
theorem vs_setO {i : Nat} {x : Str} {pos' : Pos} (hN : X.N.Nodup) (hi : X.N[i]? = some x) (hx : Loc X.env.scope x) (he : VO X W e fl) (hs : swapsWith e (some (.Name x pos')) pos.line X.env = pure false := by rfl) (hf : X.fn x = true ∨ X.env.scope.names.lookup x = some .local := by first | exact .inl rfl | exact .inr rfl | assumption) :
    VS X W (.Assign [.Name x pos'] e pos) (sSetO i fl) := PS.imp (ps_set hN hi hx he hs hf) sim_setO
def sPar (i j : Nat) (fl : Ev → R (List D)) : Ev → Out := fun ρ => liftE (fl ρ) ρ fun ds => match ds with
  | [d, d'] => .nx ((ρ.set i (.sh d)).set j (.sh d'))
  | _ => .bad
/-- x op= e -/
def sAug (i : Nat) (F : D → D → Option D) (f : Ev → R D) : Ev → Out := fun ρ => liftE ((eVar i ρ).bind fun x => (f ρ).bind fun y => ofO (F x y)) ρ fun d => .nx (ρ.set i (.sh d))
def iaddD : D → D → Option D
  | .int i, .int j => some (.int (i + j))
  | _, _ => none
def imulD : D → D → Option D
  | .int i, .int j => if okMul i j then some (.int (i * j)) else none
  | _, _ => none
/-- x.append(e), x a list of one's own -/
def onOw (i : Nat) (ρ : Ev) (k : List D → Out) : Out := match ρ[i]? with
  | some (.ow l) => k l
  | _ => .bad
theorem on_own {K : Fg} {mg : Str → Option Value} {S Hs : Hp} {G : Gx} {En : Ends} {i : Nat} {ρ : Ev} {k : List D → Out} (h : OutOk K mg W S G Hs En (onOw i ρ k)) : ∃ l, ρ[i]? = some (.ow l) ∧ OutOk K mg W S G Hs En (k l) := by
  unfold onOw at h
  split at h
  · exact ⟨_, by assumption, h⟩
  · exact h.elim
def sApp (i : Nat) (f : Ev → R D) : Ev → Out := fun ρ => onOw i ρ fun l => liftE (f ρ) ρ fun d => if l.length < sizeLine then .nx (ρ.set i (.ow (l ++ [d]))) else .bad
theorem vs_app (i : Nat) {x : Str} {p apos cpos : Pos} (ho : PE X (.Name x p) (tVar i)) (he : VE X W e f)
    (hbase : attributeBase (.Name x p) "append" X.env (eval (.Name x p) X.env) = eval (.Name x p) X.env := by rfl)
    (hfew : ((backTo cpos (starEach [e] X.env)).all (fun x => !x.1) && (backToKw cpos (keywordEach [] X.env)).all (fun x => x.1.isSome)
      && decide ([e].length + ([] : List Keyword).length + (if ([] : List Keyword).isEmpty then 0 else 1) < 30)) = true := by rfl)
    (hline : (apos.endLine == cpos.line) = true := by rfl) (hs : starEach [e] X.env = (false, eval e X.env) :: starEach [] X.env := by rfl) (hplain : (backTo cpos (starEach [] X.env)).any (·.1) = false := by rfl)
    (hsw : swapsWith (.Call (.Attribute (.Name x p) "append" apos) [e] [] cpos) none pos.line X.env = pure false := by rfl) :
    VS X W (.Expr (.Call (.Attribute (.Name x p) "append" apos) [e] [] cpos) pos) (sApp i f) := by
  refine PS.imp (ps_expr (pe_bm PySem.F.plainAttrs_list PySem.F.slot_list_append PySem.F.type_list_append mt_append ho (pa_cons he pa_nil hs) hbase hfew hline hs hplain) hsw) fun D σ H ⟨S, G, Hs, ρ, r, h⟩ => ?_
  obtain ⟨l, hl, h⟩ := on_own h
  obtain ⟨a, vs, o1, o2, o3, o4, o5⟩ := r.own hl
  refine ⟨_, o1, .inl ⟨rfl, vs, .inl (.inl o4)⟩, S, G, Hs, ρ, r, (lift_post r h).imp fun d Hs' H' e q v hv => ?_⟩
  split at q
  · rename_i hz
    have r' := r.step e
    refine ⟨a, vs, v, rfl, rfl, e.same _ _ o4, by rw [← o5.length]; exact hz, ?_⟩
    exact q Hs' _ σ (.refl _) (r'.wr hl o1 ((o5.mono e.grow).append (.cons hv .nil)))
  · exact q.elim
def sExt (i : Nat) (f : Ev → R D) : Ev → Out := fun ρ => onOw i ρ fun l => liftE (f ρ) ρ fun d => match d with
  | .list l' => if l.length + l'.length ≤ sizeLine then .nx (ρ.set i (.ow (l ++ l'))) else .bad
  | _ => .bad
/-- x[e] = v -/
def sStore (i : Nat) (fi fv : Ev → R D) : Ev → Out := fun ρ => onOw i ρ fun l => liftE ((fv ρ).bind fun d => (fi ρ).bind fun k => .ok (d, k)) ρ fun (d, k) => match k with
  | .int z => match ixN l.length z with
    | some j => .nx (ρ.set i (.ow (l.set j d)))
    | none => .bad
  | _ => .bad
theorem vs_store (i : Nat) {x : Str} {p spos : Pos} (ho : PE X (.Name x p) (tVar i)) (hi : VE X W a g) (he : VE X W e f)
    (hs : swapsWithSole [.Subscript (.Name x p) a spos] e pos.line X.env = pure false := by rfl) (hw : swappedStores [.Subscript (.Name x p) a spos] e X.env = pure none := by rfl)
    (h1 : (assignEach [.Subscript (.Name x p) a spos] X.env).map (·.2) = [assign (.Subscript (.Name x p) a spos) X.env] := by rfl)
    (ha : ∀ v, assign (.Subscript (.Name x p) a spos) X.env v = (do
      let ov ← holding [v] (eval (.Name x p) X.env)
      let iv ← holding [v, ov] (eval a X.env)
      standAt spos
      holding [v, ov, iv] (setItem ov iv v)
      release [v, ov, iv] []) := by intro _; rfl) : VS X W (.Assign [.Subscript (.Name x p) a spos] e pos) (sStore i g f) := by
  refine PS.imp (ps_asg he (pg_sub ho hi set_list ha) hs hw h1) fun D σ H ⟨S, G, Hs, ρ, r, h⟩ => ?_
  obtain ⟨l, hl, h⟩ := on_own h
  obtain ⟨b, vs, o1, o2, o3, o4, o5⟩ := r.own hl
  refine ⟨S, G, Hs, ρ, r, (Post.bind (lift_post r h)).imp fun d Hs' H' e q v hv => ?_⟩
  refine ⟨_, o1, S, G, Hs', ρ, r.step e, (Post.bind q).imp fun k Hs2 H2 e2 q2 w hw => ?_⟩
  have q3 := q2.now e2.sub
  cases k with
  | int z =>
    cases hw
    cases y : ixN l.length z with
    | none => simp only [y] at q3; exact q3.elim
    | some j =>
      simp only [y] at q3
      refine ⟨b, vs, z, j, rfl, rfl, e2.same _ _ (e.same _ _ o4), by rw [← o5.length]; exact y, ?_⟩
      exact q3 Hs2 _ σ (.refl _) (((r.step e).step e2).wr hl o1 (((o5.mono e.grow).mono e2.grow).set (hv.mono e2.grow) j))
  | none => exact q3.elim
  | bool _ => exact q3.elim
  | str _ => exact q3.elim
  | list _ => exact q3.elim
  | tuple _ => exact q3.elim
  | dict _ => exact q3.elim
def placeD (l : List D) : D → Option (Nat × D)
  | .int z => if 0 ≤ z ∧ z < 2 ^ 63 then (l[z.toNat]?).map fun y => (z.toNat, y) else none
  | _ => none
def sAugIx (i : Nat) (F : D → D → Option D) (fi fv : Ev → R D) : Ev → Out := fun ρ => onOw i ρ fun l => liftE ((fi ρ).bind fun k => ofO (placeD l k)) ρ fun jy => liftE ((fv ρ).bind fun d => ofO (F jy.2 d)) ρ fun d => .nx (ρ.set i (.ow (l.set jy.1 d)))
/-- x = y.pop() -/
def sPop (i j : Nat) : Ev → Out := fun ρ => onOw j ρ fun l => match l.getLast? with
  | some d => .nx ((ρ.set j (.ow l.dropLast)).set i (.sh d))
  | none => .bad
theorem pop_at {K : Fg} {H : Hp} {l : List VL.D} {vs : List V} {d : VL.D} (r : RpL K H l vs) (e : l.getLast? = some d) : ∃ v, vs[vs.length - 1]? = some v ∧ Rp K H d v := by
  rw [List.getLast?_eq_getElem?] at e
  rw [← r.length]
  exact r.get e
end
end VL

set_option Elab.async false
set_option linter.all false
set_option maxRecDepth 100000
set_option autoImplicit false
namespace VL
open PySem PySem.Spec PyProof.Rows L2

/-! ### what is walked -/
def ItD (K : Fg) (J : It) (Hs : Hp) (l : List D) : Prop := ∀ (i : Nat) (Hs' H' : Hp), Same Hs Hs' → Same Hs' H' →
  (∀ d, l[i]? = some d → J.go i H' ∧ ∀ x H'', J.yld i H' x H'' → ∃ Hs'', Ext Hs' H' Hs'' H'' ∧ Rp K Hs'' d x) ∧ (l.length ≤ i → J.stop i H')
def tIt (K : Fg) (mg : Str → Option Value) (W : WX) (f : Ev → R (List D)) : TI := fun σ H Rr => ∃ S G Hs ρ, RelE K S G Hs H σ ρ ∧ Post K mg W Hs H σ (f ρ) (fun l Hs' H' => ∀ J, ItD K J Hs' l → Rr J H')
def VI (X : Cx) (W : WX) (tg iter : Expr) (f : Ev → R (List D)) : Prop := PI X tg iter (tIt X.K X.mg W f)
def seqD : D → Option (List D)
  | .list l => some l
  | .tuple l => some l
  | .str z => some (z.cps.toList.map fun c => .str ⟨#[c]⟩)
  | _ => none
theorem it_list {K : Fg} {Hs : Hp} {a : Addr} {xs : List V} {l : List D} (h : SqL K Hs a xs) (r : RpL K Hs l xs) : ItD K (Itl K a) Hs l := fun i Hs' H' g s => by
  have h' : SqL K H' a xs := Same.seq s (Same.seq g h)
  refine ⟨fun d e => ?_, fun hl => ⟨xs, h', by rw [← r.length]; exact hl⟩⟩
  obtain ⟨v, v1, v2⟩ := r.get e
  refine ⟨⟨xs, v, h', v1⟩, fun x H'' y => ?_⟩
  obtain ⟨rfl, y⟩ := y
  have := y xs h'
  rw [v1] at this
  cases this
  exact ⟨Hs', .refl s, v2.mono g⟩
section
variable {X : Cx} {W : WX} {tg e : Expr} {pos : Pos}
/-- a list, a tuple or a text, walked -/
def iSeq (K : Fg) (tl : TE) : TI := fun σ H Rr => tl σ H fun x H1 => (∃ a, x = .ref a ∧ (∃ xs, SqL K H1 a xs) ∧ Rr (Itl K a) H1) ∨ (∃ a, x = .ref a ∧ (∃ xs, SqT K H1 a xs) ∧ Rr (Itt K a) H1) ∨ (∃ z, x = .str z ∧ Rr (Its z) H1)
theorem pi_seq {tl : TE} (hl : PE X e tl) : PI X tg e (iSeq X.K tl) := by
  refine ⟨fun pins s σ H R I h => ?_⟩
  -- the three rules, by the value that comes
  have k1 : ∀ (a : Addr) (s1 : Shared) (H1 : Hp), Inv X pins σ H1 s1 → (∃ xs, SqL X.K H1 a xs) → R (Itl X.K a) H1 → wpAny (model X.prog X.w) X.A (pyIter (.ref a)) (PIE X pins σ tg R) X.xe s1 := fun a s1 H1 I1 ⟨xs, hq⟩ q => by
    obtain ⟨its, rv, p, hz⟩ := I1.list hq
    refine wpAny_pyIter_list p.isList ?_
    refine ⟨s1.heap.objs.size, [s1.heap.objs.size], _, _, H1, rfl, I1.kept (t' := s1.toks) fun b o e => Heap.get?_push_of_some _ e, turn_list a _, ⟨_, Heap.get?_push_size _ rfl, rfl, rfl⟩, fun b hb => ?_, q⟩
    have e : b = s1.heap.objs.size := by simpa using hb
    subst e
    exact I1.fpOk (Nat.le_refl _) (I1.hok.fresh (Nat.le_refl _))
  have k2 : ∀ (a : Addr) (s1 : Shared) (H1 : Hp), Inv X pins σ H1 s1 → (∃ xs, SqT X.K H1 a xs) → R (Itt X.K a) H1 → wpAny (model X.prog X.w) X.A (pyIter (.ref a)) (PIE X pins σ tg R) X.xe s1 := fun a s1 H1 I1 ⟨xs, hq⟩ q => by
    obtain ⟨its, rv, p, hz⟩ := I1.tuple hq
    refine wpAny_pyIter_tuple (show s1.heap.IsTuple a its.toArray from p) ?_
    refine ⟨s1.heap.objs.size, [s1.heap.objs.size], _, _, H1, rfl, I1.kept (t' := s1.toks) fun b o e => Heap.get?_push_of_some _ e, turn_tuple a _, ⟨_, Heap.get?_push_size _ rfl, rfl, rfl⟩, fun b hb => ?_, q⟩
    have e : b = s1.heap.objs.size := by simpa using hb
    subst e
    exact I1.fpOk (Nat.le_refl _) (I1.hok.fresh (Nat.le_refl _))
  refine thn (hl.run pins s σ H _ I h) fun v s1 ⟨x, H1, I1, r1, q1⟩ => ?_
  rcases q1 with ⟨a, ex, hx, q⟩ | ⟨a, ex, hx, q⟩ | ⟨z, ex, q⟩
  · subst ex; cases r1; exact k1 a s1 H1 I1 hx q
  · subst ex; cases r1; exact k2 a s1 H1 I1 hx q
  · subst ex
    obtain ⟨t, rfl⟩ := r1
    cases ha : z.cps.all (· < 128)
    · exact wpAny_pyIter_wide ha (pi_one (tk := s1.toks) I1 _ (turn_str _ z t "str_iterator" (.inr rfl)) ⟨_, Heap.get?_push_size _ rfl, rfl, rfl⟩ q)
    · exact wpAny_pyIter_ascii ha (pi_one (tk := s1.toks) I1 _ (turn_str _ z t "str_ascii_iterator" (.inl rfl)) ⟨_, Heap.get?_push_size _ rfl, rfl, rfl⟩ q)
end
theorem it_tup {K : Fg} {Hs : Hp} {a : Addr} {xs : List V} {l : List D} (h : SqT K Hs a xs) (r : RpL K Hs l xs) : ItD K (Itt K a) Hs l := fun i Hs' H' g s => by
  have h' : SqT K H' a xs := SqT.mono s (SqT.mono g h)
  refine ⟨fun d e => ?_, fun hl => ⟨xs, h', by rw [← r.length]; exact hl⟩⟩
  obtain ⟨v, v1, v2⟩ := r.get e
  refine ⟨⟨xs, v, h', v1⟩, fun x H'' y => ?_⟩
  obtain ⟨rfl, y⟩ := y
  have := y xs h'
  rw [v1] at this
  cases this
  exact ⟨Hs', .refl s, v2.mono g⟩
theorem it_str {K : Fg} {Hs : Hp} (z : Str) : ItD K (Its z) Hs (z.cps.toList.map fun c => .str ⟨#[c]⟩) := fun i Hs' H' g s => by
  refine ⟨fun d e => ?_, fun hl => by rw [List.length_map, Array.length_toList] at hl; exact hl⟩
  rw [List.getElem?_map] at e
  obtain ⟨c, e1, rfl⟩ := Option.map_eq_some_iff.mp e
  have e2 : z.cps[i]? = some c := by rw [← Array.getElem?_toList]; exact e1
  refine ⟨(Array.getElem?_eq_some_iff.mp e2).1, fun x H'' y => ?_⟩
  obtain ⟨rfl, c', e3, rfl⟩ := y
  rw [e2] at e3
  cases e3
  exact ⟨Hs', .refl s, .str _⟩
/-- lo, lo + c, .. (n of them) -/
def rngL (lo c : Int) (n : Nat) : List D := (List.range n).map fun i => .int (lo + (i : Nat) * c)
theorem rngL_length (lo c : Int) (n : Nat) : (rngL lo c n).length = n := by simp [rngL]
theorem rngL_get {lo c : Int} {n i : Nat} {d : D} (h : (rngL lo c n)[i]? = some d) : i < n ∧ d = .int (lo + (i : Nat) * c) := by
  unfold rngL at h
  rw [List.getElem?_map] at h
  obtain ⟨j, e1, rfl⟩ := Option.map_eq_some_iff.mp h
  obtain ⟨h1, h2⟩ := List.getElem?_eq_some_iff.mp e1
  rw [List.getElem_range] at h2
  subst h2
  exact ⟨by simpa using h1, rfl⟩
theorem it_rng {K : Fg} {Hs : Hp} {lo : Int} {n : Nat} : ItD K (Itr lo n) Hs (rngL lo 1 n) := fun i Hs' H' g s => by
  refine ⟨fun d e => ?_, fun hl => by rw [rngL_length] at hl; exact hl⟩
  obtain ⟨h1, rfl⟩ := rngL_get e
  refine ⟨h1, fun x H'' y => ?_⟩
  obtain ⟨rfl, rfl⟩ := y
  rw [Int.mul_one]
  exact ⟨Hs', .refl s, .int _⟩
def in62 (i : Int) : Bool := decide (-(2 ^ 62) ≤ i ∧ i < 2 ^ 62)
def range1D : List D → Option (List D)
  | [.int j] => if in62 j then some (rngL 0 1 j.toNat) else none
  | _ => none
theorem PkL.three {K : Fg} {Hs H : Hp} {d e f : D} {vs : List V} (h : PkL K Hs H [d, e, f] vs) : ∃ v w u, vs = [v, w, u] ∧ Pk K Hs H d v ∧ Pk K Hs H e w ∧ Pk K Hs H f u := by
  cases vs with
  | nil => exact h.elim
  | cons v r =>
    cases r with
    | nil => exact h.2.elim
    | cons w r =>
      cases r with
      | nil => exact h.2.2.elim
      | cons u r =>
        cases r with
        | nil => exact ⟨v, w, u, rfl, h.1, h.2.1, h.2.2.1⟩
        | cons _ r => exact h.2.2.2.elim
section
variable {X : Cx} {W : WX} {tg e a b c : Expr} {pos p : Pos} {f : Ev → R D} {fl : Ev → R (List D)}
theorem vi_seq (h : VE X W e f) : VI X W tg e (e1 seqD f) := PI.imp (pi_seq h) fun σ H Rr ⟨S, G, Hs, ρ, r, p⟩ => by
  refine ⟨S, G, Hs, ρ, r, (Post.bind p).imp fun d Hs1 H1 e q v hv => ?_⟩
  cases z : seqD d with
  | none => rw [z] at q; exact q.elim
  | some l =>
    rw [z] at q
    have q' := q.now e.sub
    unfold seqD at z
    split at z
    · cases z
      cases hv with
      | lst h1 h2 => exact .inl ⟨_, rfl, ⟨_, Same.seq e.sub h1⟩, q' _ (it_list h1 h2)⟩
    · cases z
      cases hv with
      | tup h1 h2 => exact .inr (.inl ⟨_, rfl, ⟨_, SqT.mono e.sub h1⟩, q' _ (it_tup h1 h2)⟩)
    · cases z
      cases hv
      exact .inr (.inr ⟨_, rfl, q' _ (it_str _)⟩)
    · cases z
theorem vi_range1 (hg : Gl X "range") (hm : X.mg "range" = none) (ha : VAp X W [a] fl) (hs : starEach [a] X.env = [(false, eval a X.env)] := by rfl) : VI X W tg (.Call (.Name "range" p) [a] [] pos) (e1 range1D fl) := PI.imp (pi_range1 hg hm ha hs) fun σ H Rr ⟨S, G, Hs, ρ, r, p⟩ => by
  refine ⟨S, G, Hs, ρ, r, (Post.bind p).imp fun ds Hs1 H1 e q vs hv => ?_⟩
  cases z : range1D ds with
  | none => rw [z] at q; exact q.elim
  | some l =>
    rw [z] at q
    have q' := q.now e.sub
    unfold range1D at z
    split at z
    · split at z
      · rename_i hz
        cases z
        unfold in62 at hz
        have hz' := of_decide_eq_true hz
        obtain ⟨v, rfl, h⟩ := hv.one
        exact ⟨_, by rw [h.int], hz'.1, hz'.2, q' _ it_rng⟩
      · cases z
    · cases z
/-- enumerate, zip of lists -/
def enuL (l : List D) : List D := (List.range l.length).zipWith (fun i d => .tuple [.int (i : Nat), d]) l
def zipL (l m : List D) : List D := l.zipWith (fun d e => .tuple [d, e]) m
def enuD : List D → Option (List D)
  | [.list l] => some (enuL l)
  | _ => none
def zipD : List D → Option (List D)
  | [.list l, .list m] => some (zipL l m)
  | _ => none
theorem RpL.one {K : Fg} {H : Hp} {d : D} {vs : List V} (h : RpL K H [d] vs) : ∃ v, vs = [v] ∧ Rp K H d v := by
  cases h with
  | cons h r => cases r; exact ⟨_, rfl, h⟩
theorem RpL.two {K : Fg} {H : Hp} {d e : D} {vs : List V} (h : RpL K H [d, e] vs) : ∃ v w, vs = [v, w] ∧ Rp K H d v ∧ Rp K H e w := by
  cases h with
  | cons h r => cases r with
    | cons h' r => cases r; exact ⟨_, _, rfl, h, h'⟩
end

/-! ### for, while -/
def forO (body : D → Ev → Out) : List D → Ev → Out
  | [], ρ => .nx ρ
  | d :: ds, ρ => match body d ρ with
    | .nx ρ' => forO body ds ρ'
    | .ct ρ' => forO body ds ρ'
    | .bk ρ' => .nx ρ'
    | .rt r => .rt r
    | .rtB r ρ' => .rtB r ρ'
    | .ex x ρ' => .ex x ρ'
    | .bad => .bad
def gTo (g : D → Ev → Option Ev) (F : Ev → Out) : D → Ev → Out := fun d ρ => match g d ρ with
  | some ρ' => F ρ'
  | none => .bad
def sFor (fi : Ev → R (List D)) (g : D → Ev → Option Ev) (F : Ev → Out) : Ev → Out := fun ρ => liftE (fi ρ) ρ fun l => forO (gTo g F) l ρ
def whileO (c : Ev → R Bool) (F : Ev → Out) : Nat → Ev → Out
  | 0, _ => .bad
  | n + 1, ρ => liftE (c ρ) ρ fun b => if b then (match F ρ with
    | .nx ρ' => whileO c F n ρ'
    | .ct ρ' => whileO c F n ρ'
    | .bk ρ' => .nx ρ'
    | .rt r => .rt r
    | .rtB r ρ' => .rtB r ρ'
    | .ex x ρ' => .ex x ρ'
    | .bad => .bad) else .nx ρ
open Classical in
noncomputable def sWhile (c : Ev → R Bool) (F : Ev → Out) : Ev → Out := fun ρ => if h : ∃ n, whileO c F n ρ ≠ .bad then whileO c F (Classical.choose h) ρ else .bad
theorem whileO_mono {c : Ev → R Bool} {F : Ev → Out} : ∀ (n m : Nat) (ρ : Ev), n ≤ m → whileO c F n ρ ≠ .bad → whileO c F m ρ = whileO c F n ρ
  | 0, _, _, _, h => (h rfl).elim
  | n + 1, 0, _, h, _ => by omega
  | n + 1, m + 1, ρ, h, hb => by
    show liftE (c ρ) ρ _ = liftE (c ρ) ρ _
    have hb' : liftE (c ρ) ρ (fun b => if b then (match F ρ with
      | .nx ρ' => whileO c F n ρ'
      | .ct ρ' => whileO c F n ρ'
      | .bk ρ' => .nx ρ'
      | .rt r => .rt r
      | .rtB r ρ' => .rtB r ρ'
      | .ex x ρ' => .ex x ρ'
      | .bad => .bad) else .nx ρ) ≠ .bad := hb
    cases e : c ρ with
    | ex x => rfl
    | bad => rfl
    | ok b =>
      rw [e] at hb'
      cases b with
      | false => rfl
      | true =>
        show (match F ρ with
          | .nx ρ' => whileO c F m ρ'
          | .ct ρ' => whileO c F m ρ'
          | .bk ρ' => .nx ρ'
          | .rt r => .rt r
          | .rtB r ρ' => .rtB r ρ'
          | .ex x ρ' => .ex x ρ'
          | .bad => .bad) = (match F ρ with
          | .nx ρ' => whileO c F n ρ'
          | .ct ρ' => whileO c F n ρ'
          | .bk ρ' => .nx ρ'
          | .rt r => .rt r
          | .rtB r ρ' => .rtB r ρ'
          | .ex x ρ' => .ex x ρ'
          | .bad => .bad)
        have hb2 : (match F ρ with
          | .nx ρ' => whileO c F n ρ'
          | .ct ρ' => whileO c F n ρ'
          | .bk ρ' => .nx ρ'
          | .rt r => .rt r
          | .rtB r ρ' => .rtB r ρ'
          | .ex x ρ' => .ex x ρ'
          | .bad => .bad) ≠ .bad := hb'
        cases e2 : F ρ with
        | nx ρ' => rw [e2] at hb2; exact whileO_mono n m ρ' (by omega) hb2
        | ct ρ' => rw [e2] at hb2; exact whileO_mono n m ρ' (by omega) hb2
        | bk ρ' => rfl
        | rt r => rfl
        | rtB r ρ' => rfl
        | ex x ρ' => rfl
        | bad => rfl
theorem sWhile_eq {c : Ev → R Bool} {F : Ev → Out} {n : Nat} {ρ : Ev} {o : Out} (h : whileO c F n ρ = o) (ho : o ≠ .bad) : sWhile c F ρ = o := by
  have hex : ∃ n, whileO c F n ρ ≠ .bad := ⟨n, by rw [h]; exact ho⟩
  have e1 : sWhile c F ρ = whileO c F (Classical.choose hex) ρ := by unfold sWhile; rw [dif_pos hex]
  have e2 := Classical.choose_spec hex
  rw [e1]
  rcases Nat.le_total n (Classical.choose hex) with l | l
  · rw [whileO_mono _ _ _ l (by rw [h]; exact ho), h]
  · rw [← whileO_mono _ _ _ l e2, h]
section
variable {X : Cx} {W : WX} {tg iter c : Expr} {body : List Stmt} {pos : Pos} {fi : Ev → R (List D)} {ts : List Nat} {g : D → Ev → Option Ev} {F : Ev → Out} {fb : Ev → R Bool}
theorem vs_for (hp : PassesOwn (model X.prog X.w) X.A X.env X.xe) (hc : X.calm = true) (hi : VI X W tg iter fi) (hg : VG X tg ts g) (hb : VSs X W body F)
    (hs : ∀ x, foldedSetIterable iter X.env x = pure x := by intro _; rfl) : VS X W (.For tg iter body [] pos) (sFor fi g F) := by
  refine PS.imp (ps_for hp hc hi hg hb hs) fun En σ H ⟨S, G, Hs, ρ, r, h⟩ => ?_
  refine ⟨S, G, Hs, ρ, r, (lift_post r h).imp fun l Hs1 H1 e q J hJ => ?_⟩
  refine ⟨fun i m σ' H' => m = l.length - i ∧ i ≤ l.length ∧ ∃ Hs2 ρ2, Same Hs1 Hs2 ∧ RelE X.K S G Hs2 H' σ' ρ2 ∧ OutOk X.K X.mg W S G Hs2 En (forO (gTo g F) (l.drop i) ρ2),
    ⟨l.length, by simp, Nat.zero_le _, Hs1, ρ, .refl _, r.step e, q⟩, ?_⟩
  rintro i m σ' H' ⟨rfl, hi, Hs2, ρ2, g2, r2, q2⟩
  obtain ⟨j1, j2⟩ := hJ i Hs2 H' g2 r2.sub
  by_cases hl : i < l.length
  · obtain ⟨j1, j3⟩ := j1 l[i] (List.getElem?_eq_getElem hl)
    rw [List.drop_eq_getElem_cons hl] at q2
    refine .inr ⟨j1, fun σ3 H3 => ∃ Hs3 ρ3, Same Hs1 Hs3 ∧ RelE X.K S G Hs3 H3 σ3 ρ3 ∧ OutOk X.K X.mg W S G Hs3 En (forO (gTo g F) (l.drop (i + 1)) ρ3), fun σ3 H3 ⟨Hs3, ρ3, a1, a2, a3⟩ => ⟨_, (by omega : l.length - (i + 1) < l.length - i), rfl, hl, Hs3, ρ3, a1, a2, a3⟩, fun x H3 y => ?_⟩
    obtain ⟨Hs3, e3, d3⟩ := j3 x H3 y
    unfold forO gTo at q2
    cases z : g l[i] ρ2 with
    | none => rw [z] at q2; exact q2.elim
    | some ρ3 =>
      rw [z] at q2
      refine ⟨S, G, Hs3, ρ2, l[i], ρ3, r2.step e3, d3, z, fun σ4 _ _ r4 => ⟨S, G, Hs3, ρ3, r4, ?_⟩⟩
      have g3 := g2.trans e3.grow
      cases z2 : F ρ3 with
      | nx ρ' => simp only [z2] at q2; exact fun Hs' H' σ' a b => ⟨Hs', ρ', g3.trans a, b, q2.up (e3.grow.trans a)⟩
      | ct ρ' => simp only [z2] at q2; exact fun Hs' H' σ' a b => ⟨Hs', ρ', g3.trans a, b, q2.up (e3.grow.trans a)⟩
      | bk ρ' => simp only [z2] at q2; exact fun Hs' H' σ' a b => q2 Hs' H' σ' (e3.grow.trans a) b
      | rt r => simp only [z2] at q2; exact q2
      | rtB r ρ' => simp only [z2] at q2; exact OutOk.up (o := .rtB r ρ') q2 e3.grow
      | ex x ρ' => simp only [z2] at q2; exact fun Hs' H' σ' cls dd a => q2 Hs' H' σ' cls dd (e3.grow.trans a)
      | bad => simp only [z2] at q2; exact q2.elim
  · have e0 : i = l.length := by omega
    subst e0
    rw [List.drop_length] at q2
    exact .inl ⟨j2 (Nat.le_refl _), q2 Hs2 H' σ' (.refl _) r2⟩
end
end VL

set_option Elab.async false
set_option linter.all false
set_option maxRecDepth 100000
set_option autoImplicit false
namespace VL
open PySem PySem.Spec PyProof.Rows L2

/-! ### list comprehensions -/
abbrev WF : WX := fun _ _ _ _ => False
def wipeE (ρ : Ev) : List Nat → Ev
  | [] => ρ
  | v :: vs => (wipeE ρ vs).set v .no
theorem RelE.wipe {K : Fg} {S Hs H : Hp} {G : Gx} {σ : Sg} {ρ : Ev} (r : RelE K S G Hs H σ ρ) : ∀ vs : List Nat, RelE K S G Hs H (wipe σ vs) (wipeE ρ vs)
  | [] => r
  | v :: vs => (RelE.wipe r vs).setNo
theorem wipe_get {σ : Sg} {j : Nat} : ∀ {vs : List Nat}, j < σ.length → (wipe σ vs)[j]? = if j ∈ vs then some none else σ[j]?
  | [], h => by simp [L2.wipe]
  | v :: vs, h => by
    unfold L2.wipe
    by_cases e : v = j
    · subst e
      rw [List.getElem?_set_self (by rw [wipe_length]; exact h), if_pos List.mem_cons_self]
    · rw [List.getElem?_set_ne e, wipe_get h]
      by_cases m : j ∈ vs
      · rw [if_pos m, if_pos (List.mem_cons_of_mem _ m)]
      · rw [if_neg m, if_neg (by simp only [List.mem_cons, not_or]; exact ⟨fun z => e z.symm, m⟩)]
theorem wipe_same {σ σ' : Sg} {vs ts : List Nat} (hl : σ'.length = (wipe σ vs).length) (hj : ∀ j, j ∉ ts → σ'[j]? = (wipe σ vs)[j]?) (ht : ∀ t ∈ ts, t ∈ vs) : wipe σ' vs = wipe σ vs := by
  rw [wipe_length] at hl
  apply List.ext_getElem?
  intro j
  by_cases h : j < σ.length
  · rw [wipe_get h, wipe_get (by omega)]
    by_cases m : j ∈ vs
    · rw [if_pos m, if_pos m]
    · rw [if_neg m, if_neg m, hj j (fun z => m (ht j z)), wipe_get h, if_neg m]
  · rw [List.getElem?_eq_none (by rw [wipe_length]; omega), List.getElem?_eq_none (by rw [wipe_length]; omega)]

theorem Ext.updNew {Hs H Hs' H' : Hp} {p : Addr} {o : HO} (e : Ext Hs H Hs' H') (h0 : H p = none) (h1 : Hs' p = none) : Ext Hs H Hs' (upd H' p o) where
  sub := fun b u q => by rw [upd_ne (ne_of_none q h1)]; exact e.sub b u q
  same := fun b u q => by rw [upd_ne (ne_of_none q h0)]; exact e.same b u q
  grow := e.grow
  fresh := e.fresh
theorem Ext.hidden {Hs H Hs' H' : Hp} {p : Addr} {o : HO} (e : Ext Hs H Hs' H') (h0 : Hs p = none) (h1 : H p = some o) : Hs' p = none := by
  cases q : Hs' p with
  | none => rfl
  | some u =>
    have := e.fresh p u q h0
    rw [h1] at this; cases this

def compR (step : D → R (Option D)) : List D → R (List D)
  | [] => .ok []
  | d :: ds => (step d).bind fun o => (compR step ds).bind fun r => .ok (match o with | some y => y :: r | none => r)
def compS (vs : List Nat) (g : D → Ev → Option Ev) (ft : Ev → R Bool) (fe : Ev → R D) (ρ : Ev) : D → R (Option D) := fun d => match g d (wipeE ρ vs) with
  | some ρ' => (noex (ft ρ')).bind fun b => if b then (noex (fe ρ')).bind fun y => .ok (some y) else .ok none
  | none => .bad
def eComp (vs : List Nat) (fi : Ev → R (List D)) (g : D → Ev → Option Ev) (ft : Ev → R Bool) (fe : Ev → R D) : Ev → R (List D) := fun ρ => (fi ρ).bind fun l => if l.length ≤ sizeLine then compR (compS vs g ft fe ρ) l else .bad
def VTs (X : Cx) (W : WX) (ifs : List Expr) (f : Ev → R Bool) : Prop := PTs X ifs (tT X.K X.mg W f)
theorem PTs.imp {X : Cx} {ifs : List Expr} {t t' : TT} (h : PTs X ifs t) (i : ∀ σ H Q, t' σ H Q → t σ H Q) : PTs X ifs t' := ⟨fun pins s σ H Q I q => h.run pins s σ H Q I (i σ H Q q)⟩
section
variable {X : Cx} {W : WX} {c : Expr} {fb : Ev → R Bool}
theorem vts_nil : VTs X W [] (cst true) := PTs.imp pts_nil fun σ H Q ⟨S, G, Hs, ρ, r, p⟩ => p.now r.sub
theorem vts_one (h : VT X W c fb) : VTs X W [c] fb := pts_one h
end
theorem noex_ok {α : Type} (a : α) : noex (.ok a : R α) = .ok a := rfl
theorem noex_cases {α β : Type} {r : R α} {k : α → R β} {K : Fg} {mg : Str → Option Value} {W : WX} {Hs H : Hp} {σ : Sg} {P : β → Hp → Hp → Prop} (h : Post K mg W Hs H σ ((noex r).bind k) P) : ∃ a, r = .ok a := by
  cases r with
  | ok a => exact ⟨a, rfl⟩
  | ex x => exact h.elim
  | bad => exact h.elim
theorem bind_assoc {α β γ : Type} (r : R α) (f : α → R β) (g : β → R γ) : (r.bind f).bind g = r.bind fun a => (f a).bind g := by cases r <;> rfl

theorem sim_comp {K : Fg} {mg : Str → Option Value} {W : WX} {vs ts : List Nat} {fi : Ev → R (List D)} {g : D → Ev → Option Ev} {ft : Ev → R Bool} {fe : Ev → R D} (ht : ∀ t ∈ ts, t ∈ vs) :
    ∀ σ H Q, tO K mg W (eComp vs fi g ft fe) σ H Q → tLc (tIt K mg W fi) (tGt K ts g) (tT K mg WF ft) (tE K mg WF fe) vs σ H Q := fun σ H Q ⟨S, G, Hs, ρ, r, p⟩ => by
  refine ⟨S, G, Hs, ρ, r, (Post.bind p).imp fun l Hs1 H1 e1 q J hJ Dd hD => ?_⟩
  by_cases hz : l.length ≤ sizeLine
  case neg => rw [if_neg hz] at q; exact q.elim
  rw [if_pos hz] at q
  refine ⟨fun i m H' => m = l.length - i ∧ i ≤ l.length ∧ ∃ Hs2 acc ws, Ext Hs1 H1 Hs2 H' ∧ Hs2 Dd = none ∧ H' Dd = some (.lst ws) ∧ RpL K Hs2 acc ws ∧ acc.length ≤ i ∧
      Post K mg W Hs1 H1 σ ((compR (compS vs g ft fe ρ) (l.drop i)).bind fun r => .ok (acc ++ r)) (fun l Hs' H' => ∀ p vs, H p = none → Hs' p = none → H' p = some (.lst vs) → RpL K Hs' l vs → Q (.ref p) H'),
    ⟨l.length, by simp, Nat.zero_le _, Hs1, [], [], Ext.hid e1.sub hD, e1.sub.free hD, upd_same, .nil, Nat.le_refl _, ?_⟩, ?_⟩
  · rw [List.drop_zero]
    cases z : compR (compS vs g ft fe ρ) l with
    | ok a => rw [z] at q; exact q
    | ex x => rw [z] at q; exact q
    | bad => rw [z] at q; exact q
  · rintro i m H' ⟨rfl, hi, Hs2, acc, ws, e2, d1, d2, d3, d4, q2⟩
    obtain ⟨j1, j2⟩ := hJ i Hs2 H' e2.grow e2.sub
    by_cases hl : i < l.length
    · obtain ⟨j1, j3⟩ := j1 l[i] (List.getElem?_eq_getElem hl)
      rw [List.drop_eq_getElem_cons hl] at q2
      refine .inr ⟨j1, fun H3 => ∃ Hs2 acc ws, Ext Hs1 H1 Hs2 H3 ∧ Hs2 Dd = none ∧ H3 Dd = some (.lst ws) ∧ RpL K Hs2 acc ws ∧ acc.length ≤ i + 1 ∧
        Post K mg W Hs1 H1 σ ((compR (compS vs g ft fe ρ) (l.drop (i + 1))).bind fun r => .ok (acc ++ r)) (fun l Hs' H' => ∀ p vs, H p = none → Hs' p = none → H' p = some (.lst vs) → RpL K Hs' l vs → Q (.ref p) H'),
        fun H3 ⟨Hs3, acc', ws', a⟩ => ⟨_, (by omega : l.length - (i + 1) < l.length - i), rfl, hl, Hs3, acc', ws', a⟩, fun x H3 y => ?_⟩
      obtain ⟨Hs3, e3, h3⟩ := j3 x H3 y
      unfold compR at q2
      rw [bind_assoc] at q2
      unfold compS at q2
      cases z : g l[i] (wipeE ρ vs) with
      | none => simp only [z] at q2; exact q2.elim
      | some ρ' =>
        simp only [z] at q2
        rw [bind_assoc] at q2
        have r3 : RelE K S G Hs3 H3 (wipe σ vs) (wipeE ρ vs) := (((r.step e1).step e2).step e3).wipe vs
        refine ⟨S, G, Hs3, wipeE ρ vs, l[i], ρ', r3, h3, z, fun σ' s1 s2 r4 => ⟨wipe_same s1 s2 ht, S, G, Hs3, ρ', r4, ?_⟩⟩
        obtain ⟨b, z1⟩ := noex_cases q2
        rw [z1] at q2 ⊢
        intro Hs5 H5 e5
        cases b with
        | false =>
          simp only [Bool.false_eq_true, if_false]
          have e6 := (e2.trans e3).trans e5
          have k1 := (e3.trans e5).hidden d1 d2
          refine ⟨Hs5, acc, ws, e6, k1, e5.same _ _ (e3.same _ _ d2), (d3.mono e3.grow).mono e5.grow, by omega, ?_⟩
          simp only [noex, bind_ok, Bool.false_eq_true, if_false, bind_assoc] at q2
          exact q2
        | true =>
          simp only [if_true]
          have q3 := q2
          simp only [noex_ok, bind_ok, if_true, bind_assoc] at q3
          obtain ⟨y, z2⟩ := noex_cases q3
          refine ⟨S, G, Hs5, ρ', r4.step e5, ?_⟩
          rw [z2] at q3 ⊢
          intro Hs6 H6 e6 v hv
          have e7 := (e3.trans e5).trans e6
          have k1 := e7.hidden d1 d2
          have k2 := e7.same _ _ d2
          have k3 := d3.mono e7.grow
          refine ⟨ws, k2, by rw [← d3.length]; omega, Hs6, acc ++ [y], ws ++ [v], (e2.trans e7).updNew hD k1, k1, upd_same, k3.append (.cons hv .nil), by rw [List.length_append, List.length_singleton]; omega, ?_⟩
          simp only [noex_ok, bind_ok] at q3
          simp only [List.append_assoc, List.singleton_append]
          exact q3
    · have e0 : i = l.length := by omega
      subst e0
      rw [List.drop_length] at q2
      unfold compR at q2
      simp only [bind_ok, List.append_nil] at q2
      exact .inl ⟨j2 (Nat.le_refl _), q2 Hs2 H' e2 Dd ws (e1.same.free hD) d1 d2 d3⟩

section
variable {X : Cx} {W : WX} {elt tg iter : Expr} {ifs : List Expr} {scope : Scope} {own : List (Str × Nat)} {pos : Pos} {ts : List Nat} {fi : Ev → R (List D)} {g : D → Ev → Option Ev} {ft : Ev → R Bool} {fe : Ev → R D}
theorem vo_comp (hc : X.calm = true) (hN : X.N.Nodup) (hi : VI X W tg iter fi) (ok : BlkOk X.N X.env.scope scope own)
    (hg : ∀ (s : Shared) (H : Hp) (C : Addr) (cl : List (Str × Addr)) (fp : List Addr), VG (X.blk s H scope (compEnvC scope cl C X.env) fp) tg ts g)
    (ht : ∀ (s : Shared) (H : Hp) (C : Addr) (cl : List (Str × Addr)) (fp : List Addr), VTs (X.blk s H scope (compEnvC scope cl C X.env) fp) WF ifs ft)
    (he : ∀ (s : Shared) (H : Hp) (C : Addr) (cl : List (Str × Addr)) (fp : List Addr), VE (X.blk s H scope (compEnvC scope cl C X.env) fp) WF elt fe)
    (hts : ∀ t ∈ ts, t ∈ own.map (·.2) := by decide) (hs : ∀ x, foldedSetIterable iter X.env x = pure x := by intro _; rfl) :
    VO X W (.ListComp elt [⟨tg, iter, ifs, 0⟩] scope pos) (eComp (own.map (·.2)) fi g ft fe) := PE.imp (pe_lc (g := tGt X.K ts g) (tt := tT X.K X.mg WF ft) (te := tE X.K X.mg WF fe) hc hN hi ok hg ht he hs) (sim_comp hts)
theorem sim_asgO {f : Ev → R (List D)} {K : Fg} {mg : Str → Option Value} {i : Nat} {t : TE} (h : ∀ σ H Q, tO K mg W f σ H Q → t σ H Q) : ∀ En σ H, tS K mg W (sSetO i f) En σ H → tAsg t (gName i) En σ H := fun En σ H q => h σ H _ (sim_setO En σ H q)
theorem vs_compO {i : Nat} {y : Str} {py spos : Pos} (hc : X.calm = true) (hN : X.N.Nodup) (hy : X.N[i]? = some y) (hyl : X.env.scope.names.lookup y = some .local)
    (hsw : swapsWith (.ListComp elt [⟨tg, iter, ifs, 0⟩] scope pos) (some (.Name y py)) spos.line X.env = pure true) (hi : VI X W tg iter fi) (ok : BlkOk X.N X.env.scope scope own)
    (hg : ∀ (s : Shared) (H : Hp) (C : Addr) (cl : List (Str × Addr)) (fp : List Addr), VG (X.blk s H scope (compEnvC scope cl C X.env) fp) tg ts g)
    (ht : ∀ (s : Shared) (H : Hp) (C : Addr) (cl : List (Str × Addr)) (fp : List Addr), VTs (X.blk s H scope (compEnvC scope cl C X.env) fp) WF ifs ft)
    (he : ∀ (s : Shared) (H : Hp) (C : Addr) (cl : List (Str × Addr)) (fp : List Addr), VE (X.blk s H scope (compEnvC scope cl C X.env) fp) WF elt fe)
    (hts : ∀ t ∈ ts, t ∈ own.map (·.2) := by decide) (hs : ∀ x, foldedSetIterable iter X.env x = pure x := by intro _; rfl) :
    VS X W (.Assign [.Name y py] (.ListComp elt [⟨tg, iter, ifs, 0⟩] scope pos) spos) (sSetO i (eComp (own.map (·.2)) fi g ft fe)) := PS.imp (ps_setLc (g := tGt X.K ts g) (tt := tT X.K X.mg WF ft) (te := tE X.K X.mg WF fe) hc hN hy hyl hsw hi ok hg ht he hs) (sim_asgO (sim_comp hts))
end

/-! ### defs, calls -/
/-- the promise of a def that computes f -/
def spD (K : Fg) (mg : Str → Option Value) (n : Nat) (f : List D → R SD) : Sp := fun vs H Q E => vs.length = n ∧ ∃ Hs ds, Same Hs H ∧ RpL K Hs ds vs ∧ (match f ds with
  | .ok r => ∀ Hs' H' v, Ext Hs H Hs' H' → RpO K H Hs' H' r v → Q v H'
  | .ex x => ∀ Hs' H' cls dd, Ext Hs H Hs' H' → XRp K mg H' x cls dd → E cls dd H'
  | .bad => False)
def startE (n : Nat) (ds : List D) : Ev := ds.map .sh ++ List.replicate (n - ds.length) .no
def runD (np n : Nat) (F : Ev → Out) : List D → R SD := fun ds => if ds.length = np then match F (startE n ds) with
  | .nx _ => .ok (.sh .none)
  | .rt r => .ok r
  | .ex x _ => .ex x
  | _ => .bad
  else .bad
theorem startE_rel {K : Fg} {N : List Str} {Hs H : Hp} {ds : List D} {vs : List V} (hl : vs.length ≤ N.length) (hs : Same Hs H) (r : RpL K Hs ds vs) : RelE K Hs ⟨H, fun _ => none⟩ Hs H (L2.start N vs) (startE N.length ds) where
  sub := hs
  old := .refl _
  ext := .refl _
  new := fun p o a b => by rw [a] at b; cases b
  len := by
    have := r.length
    simp [L2.start, startE, this]
  slot := fun i s hi => by
    unfold startE at hi
    have hl2 := r.length
    by_cases h : i < ds.length
    · rw [List.getElem?_append_left (by simpa using h), List.getElem?_map] at hi
      obtain ⟨d, e1, rfl⟩ := Option.map_eq_some_iff.mp hi
      obtain ⟨v, e2, e3⟩ := r.get e1
      refine ⟨v, ?_, e3⟩
      unfold L2.start
      rw [List.getElem?_append_left (by simp; omega), List.getElem?_map, e2]
      rfl
    · rw [List.getElem?_append_right (by simpa using h), List.getElem?_replicate] at hi
      split at hi
      · cases hi; trivial
      · cases hi
  dis := fun i j l m p a b _ _ => by
    exfalso
    unfold startE at a
    by_cases h : i < ds.length
    · rw [List.getElem?_append_left (by simpa using h), List.getElem?_map] at a
      obtain ⟨d, e1, e2⟩ := Option.map_eq_some_iff.mp a
      cases e2
    · rw [List.getElem?_append_right (by simpa using h), List.getElem?_replicate] at a
      split at a <;> cases a
  bor := fun _ p hp => by cases hp
  one := fun _ _ _ hp => by cases hp
section
variable {P : Program} {w : World} {K : Fg} {mg : Str → Option Value} {base : Heap}
theorem FnScope.le {N ps : List Str} {sc : Scope} (S : FnScope N ps sc) : ps.length ≤ N.length := by
  have h := congrArg List.length S.pre
  rw [List.length_take] at h
  omega
/-- a promise kept where no guard stands around -/
structure FnG (P : Program) (w : World) (K : Fg) (mg : Str → Option Value) (base : Heap) (k : Nat) (f : Addr) (fd : FuncData) (ps : List Str) (sp : Sp) : Prop where
  len : ∀ vs H Q E, sp vs H Q E → vs.length = ps.length
  run : ∀ (A : Around) (outer : List Env) (s : Shared) (H : Hp) (args : Args) (us : List Value) (vs : List V) (Q : VK) (E : XK), Room k A → A.guards = some [] → Env0 P w K mg base A outer s H → BindsTo s fd args (ps.zip us) → Vals vs us → sp vs H Q E →
    codeAny (model P w) A (.call (.ref f) args) (CR (L2N.CX P w) outer P w H s Q E) s
theorem fn_ofG {k : Nat} {f : Addr} {name qual : Str} {params : Arguments} {body : List Stmt} {scope : Scope} {dV kV doc pm cdv ct oc : Value} {an od : Option Addr}
    {osl : Array (Option Value)} {N ps : List Str} {sp : Sp} (lk : K.lookup f = some ⟨oc, od, .func (PySem.W.fnOf name qual params body scope dV kV doc pm an cdv ct), osl⟩) (hcd : PySem.W.codeIn K cdv qual = true) (S : FnScope N ps scope)
    (len : ∀ vs H Q E, sp vs H Q E → vs.length = ps.length)
    (hbody : ∀ (A : Around) (outer : List Env) (s : Shared) (H : Hp) (vs : List V) (Q : VK) (E : XK), Room k (A.deeper (envOfC qual scope s.heap.objs.size f cdv)) → A.guards = some [] → sp vs H Q E →
      ∃ t, PSs (cxOf (L2N.CX P w) P w K mg base N qual scope f cdv A outer s H E) body t ∧ t { nx := fun _ H' => Q .non H', rt := Q } (L2.start N vs) H) :
    FnG P w K mg base (k + 1) f (PySem.W.fnOf name qual params body scope dV kV doc pm an cdv ct) ps sp := by
  refine ⟨len, fun A outer s H args us vs Q E hr hgd e0 hb r hsp => ?_⟩
  have hl := len _ _ _ _ hsp
  have KX : K.In s.heap := e0.mod.kin.keeps fun b o e => (e0.bs b o e).1
  have lim : s.heap.NoLimit := e0.mod.nolimit.keeps fun b o e => (e0.bs b o e).1
  have hkind : ∀ y ∈ ps.zip us, scope.names.lookup y.1 = some .local ∨ (scope.names.lookup y.1 = some .cell ∧ ((cellsFrom (s.heap.objs.size + 1) scope.names []).lookup y.1).isSome = true) := fun ⟨n, v⟩ hy => by
    rcases S.par n (List.of_mem_zip hy).1 with q | q
    · exact .inl q
    · exact .inr ⟨q, PySem.W.cellsFrom_some _ _ _ (.inl q)⟩
  refine codeAny_call_function hr.depth (KX _ _ lk) rfl S.co S.gen rfl (PySem.W.codeRec_of KX hcd) (hb _ _ _ _ ?_)
  refine wpAny_newFunctionEnv_cells S.kind hkind fun env he s1 x => ?_
  subst he
  refine ⟨lim.keeps x.toInCall.keep, codeAny_func ?_⟩
  obtain ⟨t, ht, hq⟩ := hbody A outer s H vs Q E (hr.deeper _) hgd hsp
  have I : Inv (cxOf (L2N.CX P w) P w K mg base N qual scope f cdv A outer s H E) [] (L2.start N vs) H s1 := inv_start S hr.hd e0 hl r x
  refine wpAny_mono (ht.run [] s1 (L2.start N vs) H _ I hq) (fun fl s' hs => ?_) fun e s' hs => hs
  have fin : ∀ {σ' : Sg} {H' : Hp} {v : V} {u : Value}, Inv (cxOf (L2N.CX P w) P w K mg base N qual scope f cdv A outer s H E) [] σ' H' s' → RelV v u → Q v H' → CE outer P w H s Q u s' :=
    fun {σ' H' v u} J rv q => ⟨v, H', J.os, J.bare, J.base, J.hok, rv, q⟩
  cases fl with
  | ret u =>
    obtain ⟨v, σ', H', J, rv, q⟩ := hs
    exact fin J rv q
  | next =>
    obtain ⟨σ', H', J, q⟩ := hs
    exact fin (v := V.non) (u := Value.none) J rfl q
  | brk =>
    obtain ⟨_, _, _, q⟩ := hs
    exact False.elim q
  | cont =>
    obtain ⟨_, _, _, q⟩ := hs
    exact False.elim q
theorem FnG.imp {k : Nat} {f : Addr} {fd : FuncData} {ps : List Str} {sp sp' : Sp} (F : FnG P w K mg base k f fd ps sp) (h : ∀ vs H Q E, sp' vs H Q E → sp vs H Q E) : FnG P w K mg base k f fd ps sp' :=
  ⟨fun vs H Q E q => F.len vs H Q E (h _ _ _ _ q), fun A outer s H args us vs Q E hr hg he hb hv hs => F.run A outer s H args us vs Q E hr hg he hb hv (h _ _ _ _ hs)⟩
theorem FnG.mono {j k : Nat} {f : Addr} {fd : FuncData} {ps : List Str} {sp : Sp} (F : FnG P w K mg base j f fd ps sp) (h : j ≤ k) : FnG P w K mg base k f fd ps sp :=
  ⟨F.len, fun A outer s H args us vs Q E hr => F.run A outer s H args us vs Q E (hr.mono h)⟩
/-- a def that computes m on data -/
structure DOk (P : Program) (w : World) (K : Fg) (mg : Str → Option Value) (base : Heap) (k : Nat) (f : Addr) (fd : FuncData) (ps : List Str) (m : List D → R SD) : Prop where
  fn : FnG P w K mg base k f fd ps (spD K mg ps.length m)
  ar : ∀ ds, m ds ≠ .bad → ds.length = ps.length
/-- the room, the guards, what takes an exception, what passes -/
structure Inn (X : Cx) (W : WX) (k : Nat) : Prop where
  hr : Room k X.A
  gd : X.A.guards = some []
  tk : L2N.Takes X W
  hp : PassesOwn (model X.prog X.w) X.A X.env X.xe
/-- THE RULE for a def -/
theorem def_ok {x qual : Str} {st : Stmt} {f : Addr} {fd : FuncData} {N ps : List Str} {k : Nat} {F : Ev → Out} (Fn : Fun K x qual st f fd) (S : FnScope N ps (defScope st))
    (body : ∀ (cdv : Value) (A : Around) (outer : List Env) (s : Shared) (H : Hp) (E : XK), Inn (cxOf (L2N.CX P w) P w K mg base N qual (defScope st) f cdv A outer s H E) (fun cls d _ H => E cls d H) k →
      VSs (cxOf (L2N.CX P w) P w K mg base N qual (defScope st) f cdv A outer s H E) (fun cls d _ H => E cls d H) (defBody st) F) :
    DOk P w K mg base (k + 1) f fd ps (runD ps.length N.length F) := by
  refine ⟨?_, fun ds h => ?_⟩
  · obtain ⟨oc, od, kV, doc, pm, an, cdv, ct, osl, rfl, lk, hcd⟩ := Fn.ex
    refine fn_ofG lk hcd S (fun vs H Q E h => h.1) fun A outer s H vs Q E hr hgd h => ⟨_, body cdv A outer s H E ⟨hr, hgd, L2N.takes_of rfl rfl rfl rfl, passes_of rfl⟩, ?_⟩
    obtain ⟨hl, Hs, ds, hs, hds, h⟩ := h
    refine ⟨Hs, ⟨H, fun _ => none⟩, Hs, _, startE_rel (by rw [hl]; exact VL.FnScope.le S) hs hds, ?_⟩
    unfold runD at h
    rw [if_pos (hds.length.trans hl)] at h
    show OutOk K mg (fun cls d _ H => E cls d H) Hs ⟨H, fun _ => none⟩ Hs _ (F (startE N.length ds))
    cases z : F (startE N.length ds) with
    | nx ρ =>
      rw [z] at h
      exact fun Hs' H' σ' g r => h Hs' H' .non r.ext' .non
    | rt r =>
      rw [z] at h
      exact fun Hs' H' v e hv => h Hs' H' v e hv
    | ex x ρ =>
      rw [z] at h
      exact fun Hs' H' σ' cls dd g r hx => h Hs' H' cls dd r.ext' hx
    | rtB r ρ => rw [z] at h; exact h.elim
    | bk ρ => rw [z] at h; exact h.elim
    | ct ρ => rw [z] at h; exact h.elim
    | bad => rw [z] at h; exact h.elim
  · unfold runD at h
    split at h
    · assumption
    · exact (h rfl).elim
theorem DOk.mono {j k : Nat} {f : Addr} {fd : FuncData} {ps : List Str} {m : List D → R SD} (F : DOk P w K mg base j f fd ps m) (h : j ≤ k) : DOk P w K mg base k f fd ps m := ⟨F.fn.mono h, F.ar⟩
end
section
variable {X : Cx} {k : Nat} {f : Addr} {fd : FuncData} {ps : List Str} {sp : Sp} {E : Sg → XK} {x : Str} {p pos : Pos} {e : Expr} {es : List Expr} {t : TA}
theorem run_fnG {pins : List (Addr × Obj)} {σ : Sg} {H : Hp} {s : Shared} {Q : VK} {us : List Value} {vs : List V} (F : FnG X.prog X.w X.K X.mg X.base k f fd ps sp) (hr : Room k X.A) (hgd : X.A.guards = some []) (hb : Binds X.K fd ps []) (hx : PassesAt (L2N.CX X.prog X.w) X σ (E σ))
    (I : Inv X pins σ H s) (r : Vals vs us) (h : sp vs H Q (E σ)) : wpAny (model X.prog X.w) X.A (call (.ref f) us) (EP X pins σ Q) X.xe s := by
  have hl : us.length = ps.length := by rw [← r.length]; exact F.len _ _ _ _ h
  have b := hb s us I.kIn (by rw [List.append_nil]; exact hl)
  rw [List.append_nil] at b
  refine wpAny_call (codeAny_mono (F.run X.A X.stack s H ⟨us, []⟩ us vs Q (E σ) hr hgd I.env0 b r h) fun r s' hq => ?_)
  cases r with
  | error e => exact hx pins H s e s' I hq
  | ok fl =>
    cases fl with
    | ret u => exact I.after hq
    | next => exact False.elim hq
    | brk => exact False.elim hq
    | cont => exact False.elim hq
theorem pe_callG (F : FnG X.prog X.w X.K X.mg X.base k f fd ps sp) (hr : Room k X.A) (hgd : X.A.guards = some []) (hg : Gl X x) (hm : X.mg x = some (.ref f)) (hk : PySem.W.keepIn X.K (.ref f) = true) (hb : Binds X.K fd ps []) (hx : ∀ σ, PassesAt (L2N.CX X.prog X.w) X σ (E σ))
    (ha : PA X (e :: es) t) (hdb : (x == ("__debug__" : Str)) = false := by decide) (he : starEach (e :: es) X.env = (false, eval e X.env) :: starEach es X.env := by rfl) (hpl : (backTo pos (starEach es X.env)).any (·.1) = false := by rfl) :
    PE X (.Call (.Name x p) (e :: es) [] pos) (tCallS sp E t) := by
  refine ⟨fun pins s σ H Q I h => ?_⟩
  refine wpAny_Call_Name_kw (ld_glob I hg hm ?_ hdb)
  refine PySem.W.callWith_K (h₀ := X.base) I.ok.mod.kin hk (thn (ha.run pos pins s σ H _ I h) fun us s1 ⟨vs, H1, I1, r, q⟩ => ⟨I1.kIn, ?_⟩) he hpl
  exact run_fnG F hr hgd hb (hx σ) I1 r q
end
/-- what a call gives: shared data -/
def toD : SD → Option D
  | .sh d => some d
  | .ow l => some (.list l)
  | _ => none
def toL : SD → Option (List D)
  | .ow l => some l
  | _ => none
def eCall (m : List D → R SD) (fl : Ev → R (List D)) : Ev → R D := fun ρ => (fl ρ).bind fun ds => (m ds).bind fun s => ofO (toD s)
def eCallO (m : List D → R SD) (fl : Ev → R (List D)) : Ev → R (List D) := fun ρ => (fl ρ).bind fun ds => (m ds).bind fun s => ofO (toL s)
section
variable {X : Cx} {W : WX} {e : Expr} {es : List Expr} {pos p : Pos} {x : Str} {fl : Ev → R (List D)} {k n : Nat} {f : Addr} {fd : FuncData} {ps : List Str} {m : List D → R SD}
theorem sim_call {K : Fg} {mg : Str → Option Value} {n : Nat} (vn : ∀ (ds : List D), m ds ≠ .bad → ds.length = n) : ∀ σ H Q, tE K mg W (eCall m fl) σ H Q → tCallS (spD K mg n m) (WE W) (tA K mg W fl) σ H Q := fun σ H Q ⟨S, G, Hs, ρ, r, p⟩ => by
  refine ⟨S, G, Hs, ρ, r, (Post.bind p).imp fun ds Hs1 H1 e q vs hv => ?_⟩
  have nb : m ds ≠ .bad := fun z => by rw [z] at q; exact q
  refine ⟨by rw [← hv.length]; exact vn ds nb, Hs1, ds, e.sub, hv, ?_⟩
  cases z : m ds with
  | bad => exact nb z
  | ex x => rw [z] at q; exact q
  | ok s =>
    rw [z] at q
    intro Hs' H' v e' hr
    cases s with
    | no => exact q.elim
    | bo l => exact q.elim
    | sh d => exact q Hs' H' e' v hr
    | ow l =>
      obtain ⟨p, us, rfl, h0, h1, h2, h3⟩ := hr
      have g : Same Hs' (upd Hs' p (.lst us)) := fun b u z => by rw [upd_ne (ne_of_none z h1)]; exact z
      exact q _ _ (e'.frz h0 h2 h1) _ (.lst (.inl (.inl upd_same)) (h3.mono g))
theorem sim_callO {K : Fg} {mg : Str → Option Value} {n : Nat} (vn : ∀ (ds : List D), m ds ≠ .bad → ds.length = n) : ∀ σ H Q, tO K mg W (eCallO m fl) σ H Q → tCallS (spD K mg n m) (WE W) (tA K mg W fl) σ H Q := fun σ H Q ⟨S, G, Hs, ρ, r, p⟩ => by
  refine ⟨S, G, Hs, ρ, r, (Post.bind p).imp fun ds Hs1 H1 e q vs hv => ?_⟩
  have nb : m ds ≠ .bad := fun z => by rw [z] at q; exact q
  refine ⟨by rw [← hv.length]; exact vn ds nb, Hs1, ds, e.sub, hv, ?_⟩
  cases z : m ds with
  | bad => exact nb z
  | ex x => rw [z] at q; exact q
  | ok s =>
    rw [z] at q
    intro Hs' H' v e' hr
    cases s with
    | no => exact q.elim
    | bo l => exact q.elim
    | sh d => exact q.elim
    | ow l =>
      obtain ⟨p, us, rfl, h0, h1, h2, h3⟩ := hr
      exact q _ _ e' p us (e.same.free h0) h1 h2 h3
theorem v_call (F : DOk X.prog X.w X.K X.mg X.base k f fd ps m) (hr : Room k X.A) (hgd : X.A.guards = some []) (hg : Gl X x) (hm : X.mg x = some (.ref f)) (hk : PySem.W.keepIn X.K (.ref f) = true) (hb : Binds X.K fd ps []) (tk : L2N.Takes X W)
    (ha : VA X W (e :: es) fl) (hdb : (x == ("__debug__" : Str)) = false := by decide) (he : starEach (e :: es) X.env = (false, eval e X.env) :: starEach es X.env := by rfl) (hpl : (backTo pos (starEach es X.env)).any (·.1) = false := by rfl) :
    VE X W (.Call (.Name x p) (e :: es) [] pos) (eCall m fl) := PE.imp (pe_callG F.fn hr hgd hg hm hk hb (L2N.passAt tk) ha hdb he hpl) (sim_call F.ar)
theorem v_callO (F : DOk X.prog X.w X.K X.mg X.base k f fd ps m) (hr : Room k X.A) (hgd : X.A.guards = some []) (hg : Gl X x) (hm : X.mg x = some (.ref f)) (hk : PySem.W.keepIn X.K (.ref f) = true) (hb : Binds X.K fd ps []) (tk : L2N.Takes X W)
    (ha : VA X W (e :: es) fl) (hdb : (x == ("__debug__" : Str)) = false := by decide) (he : starEach (e :: es) X.env = (false, eval e X.env) :: starEach es X.env := by rfl) (hpl : (backTo pos (starEach es X.env)).any (·.1) = false := by rfl) :
    VO X W (.Call (.Name x p) (e :: es) [] pos) (eCallO m fl) := PE.imp (pe_callG F.fn hr hgd hg hm hk hb (L2N.passAt tk) ha hdb he hpl) (sim_callO F.ar)
end
end VL

set_option Elab.async false
set_option linter.all false
set_option maxRecDepth 100000
set_option autoImplicit false
namespace VL
open PySem PySem.Spec PyProof.Rows L2

/-! ### and, or, not as values; chains -/
def eAndV (f g : Ev → R D) : Ev → R D := fun ρ => (f ρ).bind fun x => (ofO (truD x)).bind fun k => if k then g ρ else .ok x
def eOrV (f g : Ev → R D) : Ev → R D := fun ρ => (f ρ).bind fun x => (ofO (truD x)).bind fun k => if k then .ok x else g ρ
def notD (x : D) : Option D := (truD x).map fun k => .bool (!k)
def eChain (F F' : D → D → Option D) (f g h : Ev → R D) : Ev → R D := fun ρ => (f ρ).bind fun x => (g ρ).bind fun y => (ofO (F x y)).bind fun r => (ofO (bOf r)).bind fun b => if b then (h ρ).bind fun z => ofO (F' y z) else .ok (.bool false)
section
variable {X : Cx} {W : WX} {a b c e : Expr} {rest : List Expr} {pos : Pos} {f g h : Ev → R D} {F F' : D → D → Option D}
theorem v_and1 (ha : VE X W a f) : VE X W (.BoolOp .And [a] pos) f := pe_one ha
theorem v_and (ha : VE X W a f) (hb : VE X W (.BoolOp .And (b :: rest) pos) g) : VE X W (.BoolOp .And (a :: b :: rest) pos) (eAndV f g) := PE.imp (pe_andT ha hb) fun σ H Q ⟨S, G, Hs, ρ, r, p⟩ => by
  refine ⟨S, G, Hs, ρ, r, (Post.bind p).imp fun x Hs1 H1 e q v hv => ?_⟩
  cases z : truD x with
  | none => rw [z] at q; exact q.elim
  | some k =>
    rw [z] at q
    refine ⟨k, truV_of e.sub (.inl hv) z, ?_⟩
    cases k with
    | true => exact ⟨S, G, Hs1, ρ, r.step e, q⟩
    | false => exact q.now e.sub v hv
theorem v_not (ha : VP X W a f) : VE X W (.UnaryOp .Not a pos) (e1 notD f) := PE.imp (pe_notT ha) fun σ H Q ⟨S, G, Hs, ρ, r, p⟩ => by
  refine ⟨S, G, Hs, ρ, r, (Post.bind p).imp fun x Hs1 H1 e q v hv => ?_⟩
  unfold notD at q
  cases z : truD x with
  | none => rw [z] at q; exact q.elim
  | some k =>
    rw [z] at q
    exact ⟨k, truV_of e.sub hv z, q.now e.sub _ (.bl _)⟩
theorem sim_chain {K : Fg} {mg : Str → Option Value} {r r' : R2} (hd : OpD K r F) (hd' : OpD K r' F') : ∀ σ H Q, tE K mg W (eChain F F' f g h) σ H Q → tChain r r' (tPk K mg W f) (tPk K mg W g) (tPk K mg W h) σ H Q := fun σ H Q ⟨S, G, Hs, ρ, r, p⟩ => by
  refine ⟨S, G, Hs, ρ, r, (Post.bind p).imp fun x Hs1 H1 e q u hu => ?_⟩
  refine ⟨S, G, Hs1, ρ, r.step e, (Post.bind q).imp fun y Hs2 H2 e' q' v hv => ?_⟩
  cases z : F x y with
  | none => rw [z] at q'; exact q'.elim
  | some d =>
    rw [z] at q'
    cases d with
    | bool k =>
      refine hd Hs2 H2 x y u v _ _ e'.sub z (hu.up e') hv fun Hs3 H3 w e3 hw => ?_
      cases hw
      refine ⟨k, rfl, ?_⟩
      have r3 := ((r.step e).step e').step e3
      have q3 := Post.up e3 q'
      cases k with
      | false => exact q3.now e3.sub _ (.bl _)
      | true =>
        have q5 : Post K mg W Hs3 H3 σ ((h ρ).bind fun z => ofO (F' y z)) (fun d Hs' H' => ∀ v, Rp K Hs' d v → Q v H') := q3
        refine ⟨S, G, Hs3, ρ, r3, (Post.bind q5).imp fun t Hs4 H4 e4 q4 w hw => ?_⟩
        cases z2 : F' y t with
        | none => rw [z2] at q4; exact q4.elim
        | some d =>
          rw [z2] at q4
          exact hd' Hs4 H4 y t v w Q d e4.sub z2 ((hv.up e3).up e4) hw fun Hs' H' w e'' hw => q4 Hs' H' e'' w hw
    | none => exact q'.elim
    | int _ => exact q'.elim
    | str _ => exact q'.elim
    | list _ => exact q'.elim
    | tuple _ => exact q'.elim
    | dict _ => exact q'.elim
theorem t_chain {op op' : CmpOp} (ho : DOp X (compareOp op) F) (ho' : DOp X (compareOp op') F') (ha : VP X W a f) (hb : VP X W b g) (hc : VP X W c h) (hm : lastMarks [op, op'] [b, c] = false := by with_unfolding_all rfl) :
    VT X W (.Compare a [op, op'] [b, c] pos) (e1 bOf (eChain F F' f g h)) := by
  obtain ⟨_, h1, h2⟩ := ho
  obtain ⟨_, h3, h4⟩ := ho'
  refine PT.imp (pt_chain h1 h3 ha hb hc hm) fun σ H Q ⟨S, G, Hs, ρ, r, p⟩ => ?_
  refine sim_chain h2 h4 σ H _ ⟨S, G, Hs, ρ, r, (Post.bind p).imp fun x Hs1 H1 e q v hv => ?_⟩
  cases x with
  | bool k => cases hv; exact ⟨k, rfl, q.now e.sub⟩
  | none => exact q.elim
  | int _ => exact q.elim
  | str _ => exact q.elim
  | list _ => exact q.elim
  | tuple _ => exact q.elim
  | dict _ => exact q.elim
end

/-! ### a def of the text, as a callee sees it -/
structure Cl (P : Program) (w : World) (K : Fg) (mg : Str → Option Value) (base : Heap) (k : Nat) (x : Str) (ps : List Str) (m : List D → R SD) : Prop where
  ex : ∃ f fd, DOk P w K mg base k f fd ps m ∧ mg x = some (.ref f) ∧ PySem.W.keepIn K (.ref f) = true ∧ Binds K fd ps []
/-- where it stands -/
structure Df (K : Fg) (mg : Str → Option Value) (x : Str) (st : Stmt) (ps : List Str) : Prop where
  ex : ∃ f fd, Fun K x x st f fd ∧ mg x = some (.ref f) ∧ Binds K fd ps []
section
variable {P : Program} {w : World} {K : Fg} {mg : Str → Option Value} {base : Heap}
theorem Cl.mono {j k : Nat} {x : Str} {ps : List Str} {m : List D → R SD} (F : Cl P w K mg base j x ps m) (h : j ≤ k) : Cl P w K mg base k x ps m :=
  let ⟨f, fd, d, r⟩ := F.ex; ⟨f, fd, d.mono h, r⟩
theorem cl_ok {x : Str} {st : Stmt} {N ps : List Str} {k : Nat} {F : Ev → Out} (Fn : Df K mg x st ps) (S : FnScope N ps (defScope st))
    (body : ∀ (f : Addr) (cdv : Value) (A : Around) (outer : List Env) (s : Shared) (H : Hp) (E : XK), Inn (cxOf (L2N.CX P w) P w K mg base N x (defScope st) f cdv A outer s H E) (fun cls d _ H => E cls d H) k →
      VSs (cxOf (L2N.CX P w) P w K mg base N x (defScope st) f cdv A outer s H E) (fun cls d _ H => E cls d H) (defBody st) F) :
    Cl P w K mg base (k + 1) x ps (runD ps.length N.length F) := by
  obtain ⟨f, fd, h1, h2, h3⟩ := Fn.ex
  exact ⟨f, fd, def_ok h1 S fun cdv A outer s H E I => body f cdv A outer s H E I, h2, h1.kp, h3⟩
end
section
variable {X : Cx} {W : WX} {e : Expr} {es : List Expr} {pos p : Pos} {x : Str} {fl : Ev → R (List D)} {k j : Nat} {ps : List Str} {m : List D → R SD}
theorem v_calC (C : Cl X.prog X.w X.K X.mg X.base k x ps m) (hr : Room j X.A) (hgd : X.A.guards = some []) (tk : L2N.Takes X W) (ha : VA X W (e :: es) fl) (hg : Gl X x := by rfl) (hj : k ≤ j := by decide)
    (hdb : (x == ("__debug__" : Str)) = false := by decide) (he : starEach (e :: es) X.env = (false, eval e X.env) :: starEach es X.env := by rfl) (hpl : (backTo pos (starEach es X.env)).any (·.1) = false := by rfl) :
    VE X W (.Call (.Name x p) (e :: es) [] pos) (eCall m fl) := by
  obtain ⟨f, fd, h1, h2, h3, h4⟩ := C.ex
  exact v_call h1 (hr.mono hj) hgd hg h2 h3 h4 tk ha hdb he hpl
theorem v_calCO (C : Cl X.prog X.w X.K X.mg X.base k x ps m) (hr : Room j X.A) (hgd : X.A.guards = some []) (tk : L2N.Takes X W) (ha : VA X W (e :: es) fl) (hg : Gl X x := by rfl) (hj : k ≤ j := by decide)
    (hdb : (x == ("__debug__" : Str)) = false := by decide) (he : starEach (e :: es) X.env = (false, eval e X.env) :: starEach es X.env := by rfl) (hpl : (backTo pos (starEach es X.env)).any (·.1) = false := by rfl) :
    VO X W (.Call (.Name x p) (e :: es) [] pos) (eCallO m fl) := by
  obtain ⟨f, fd, h1, h2, h3, h4⟩ := C.ex
  exact v_callO h1 (hr.mono hj) hgd hg h2 h3 h4 tk ha hdb he hpl
end
end VL

set_option Elab.async false
set_option linter.all false
set_option maxRecDepth 100000
set_option autoImplicit false
namespace VL
open PySem PySem.Spec PyProof.Rows L2

theorem b_len : bootBuiltins "len" = some (.builtin "len") := by decide +kernel
theorem b_abs : bootBuiltins "abs" = some (.builtin "abs") := by decide +kernel
theorem b_max : bootBuiltins "max" = some (.builtin "max") := by decide +kernel
theorem b_repr : bootBuiltins "repr" = some (.builtin "repr") := by decide +kernel
theorem b_isinstance : bootBuiltins "isinstance" = some (.builtin "isinstance") := by decide +kernel
theorem b_int : bootBuiltins "int" = some (.type "int") := by decide +kernel
theorem b_bool : bootBuiltins "bool" = some (.type "bool") := by decide +kernel
theorem b_list : bootBuiltins "list" = some (.type "list") := by decide +kernel
theorem u65 {k : Nat} {A : Around} (r : Room k A) : A.units + 65 < cLine := by have := r.un; omega
/-! ### constants of the top -/
structure Gc (K : Fg) (mg : Str → Option Value) (x : Str) (d : D) : Prop where
  ex : ∃ u v, mg x = some u ∧ RelV v u ∧ ∀ H, Rp K H d v
section
variable {X : Cx} {W : WX} {x : Str} {d : D} {pos : Pos}
end
section
variable {K : Fg} {mg : Str → Option Value} {x : Str}
/-- flat data of a written value -/
def absD' : Value → Option (D × V)
  | .none => some (.none, .non)
  | .bool b => some (.bool b, .bl b)
  | .int i _ => some (.int i, .int i)
  | .str s _ => some (.str s, .str s)
  | _ => none
def absL : List Value → Option (List (D × V))
  | [] => some []
  | u :: us => (absD' u).bind fun d => (absL us).map (d :: ·)
/-- a written tuple of flat things -/
structure TupO (o : Obj) (d : D) : Prop where
  cls : o.cls = .type "tuple"
  dat : ∃ ds its n ps, d = .tuple ds ∧ o.data = .seq its n ∧ its.size ≤ sizeLine ∧ absL its.toList = some ps ∧ ps.map (·.1) = ds
end

/-! ### repr -/
def reprD : List D → Option D
  | [d] => if SeqAt.shaped d && d.showable && decide (d.shown.length ≤ sizeLine) then some (.str d.shown) else none
  | _ => none
section
variable {X : Cx}
theorem call_repr (hgd : X.A.guards = some []) (hu : X.A.units + 65 < cLine) : CallR X (.builtin "repr") (fun xs H Q => ∃ v d, xs = [v] ∧ Dp X.K H v d ∧ (∃ a, v = .ref a) ∧ SeqAt.shaped d = true ∧ d.showable = true ∧ d.shown.length ≤ sizeLine ∧ Q (.str d.shown) H) := by
  intro pins s σ H xs us Q I r h
  obtain ⟨v, d, rfl, hd, ⟨a, rfl⟩, h1, h2, h3, q⟩ := h
  obtain ⟨u, rfl, ru⟩ := vals1 r
  cases ru
  obtain ⟨as, rd⟩ := Dp.reads I d _ _ hd rfl
  refine repr_of_reads' rd h2 (PyData.noDict_hsm (nodict_of h1)) hgd ?_ (fun _ _ e => e) (fun h' u tk hk => ?_) h3
  · have := SeqAt.depth_of_shaped h1
    omega
  · exact ⟨.str d.shown, H, I.kept (t' := tk) hk, ⟨u, rfl⟩, q⟩
/-- lists and tuples (and ints) -/
def reprL : List D → Option D
  | [.list l] => reprD [.list l]
  | [.tuple l] => reprD [.tuple l]
  | _ => none
theorem c_repr (hgd : X.A.guards = some []) (hu : X.A.units + 65 < cLine) : CalD X (.builtin "repr") reprL := ⟨_, call_repr hgd hu, fun Hs H ds vs Q d hs e hv k => by
  unfold reprL at e
  split at e
  · obtain ⟨v, rfl, h⟩ := hv.one
    obtain ⟨a, xs, rfl, h1, h2⟩ := h.list hs
    unfold reprD at e
    simp only at e
    split at e
    · rename_i hz
      cases e
      rw [Bool.and_eq_true, Bool.and_eq_true] at hz
      exact ⟨_, _, rfl, (h.rp hs).dp (nodict_of hz.1.1), ⟨a, rfl⟩, hz.1.1, hz.1.2, of_decide_eq_true hz.2, k _ _ _ (.refl hs) (.str _)⟩
    · cases e
  · obtain ⟨v, rfl, h⟩ := hv.one
    obtain ⟨a, xs, rfl, h1, h2⟩ := h.tup hs
    unfold reprD at e
    simp only at e
    split at e
    · rename_i hz
      cases e
      rw [Bool.and_eq_true, Bool.and_eq_true] at hz
      exact ⟨_, _, rfl, (h.rp hs).dp (nodict_of hz.1.1), ⟨a, rfl⟩, hz.1.1, hz.1.2, of_decide_eq_true hz.2, k _ _ _ (.refl hs) (.str _)⟩
    · cases e
  · cases e⟩
end

/-! ### the end -/
theorem law_callG {P : Program} {w : World} {K : Fg} {mg mb : Str → Option Value} {k : Nat} {fa a : Addr} {fd : FuncData} {x : Str} {sp : Sp} {s₁ : Shared} {vs : List Value} {ns : List Int}
    (KX : K.In s₁.heap) (hns : s₁.heap.Ns mainGlobals mg) (hb : s₁.heap.Ns builtinsNs mb) (hbb : ∀ x : Str, x ≠ "__name__" → mb x = bootBuiltins x) (hlim : s₁.heap.NoLimit) (hg : s₁.gens = #[])
    (ha : s₁.heap.get? a = some { cls := .type "list", data := .seq vs.toArray }) (hi : IntsAre vs ns) (hl : ns.length ≤ sizeLine) (hr : Room k callerA)
    (F : ∀ base : Heap, FnG P w K mg base k fa fd [x] sp) (hbind : ∀ (s : Shared) (u : Value), BindsTo s fd ⟨[u], []⟩ [(x, u)])
    (hsp : ∀ H : Hp, Only H → SqL K H a (ns.map V.int) → sp [.ref a] H (fun v _ => v = .bl true) fun _ _ _ => False) :
    codeAny (model P w) callerA (.call (.ref fa) ⟨[.ref a], []⟩) (fun r s' => r = .ok (.ret (.bool true)) ∧ OldK s₁.heap s'.heap ∧ s'.os = s₁.os ∧ AllBare s'.gens) s₁ := by
  -- the promise where guards are not asked: at the caller's own place alone
  let sp' : Sp := fun vs H Q E => sp vs H Q E
  have rv := L2.vals_ints hi
  have lenV := hi.length
  have core : ∀ H : Hp, Only H → SqL K H a (ns.map V.int) → HOk P w H s₁.heap → (∀ b, H b ≠ none → b = a) → (H a ≠ none → K.lookup a = none) →
      codeAny (model P w) callerA (.call (.ref fa) ⟨[.ref a], []⟩) (fun r s' => r = .ok (.ret (.bool true)) ∧ OldK s₁.heap s'.heap ∧ s'.os = s₁.os ∧ AllBare s'.gens) s₁ := by
    intro H hO hS hok hA hK
    have base_of : ∀ {b : Addr} {o : Obj}, s₁.heap.get? b = some o → H b = none → (hidT s₁.heap H).get? b = some o := fun e n => hidT_get e n
    have noA : ∀ {b : Addr} {o : Obj} {es : Array DictEntry} {ep : Nat}, s₁.heap.get? b = some o → o.data = .dict es ep → H b = none := fun {b o es ep} e d => by
      cases q : H b with
      | none => rfl
      | some u =>
        have e' : b = a := hA b (by rw [q]; simp)
        subst e'
        rw [ha] at e; cases e
        have d' : Data.seq vs.toArray _ = Data.dict es ep := d
        cases d'
    have nsK : ∀ {b : Addr} {m : Str → Option Value}, s₁.heap.Ns b m → (hidT s₁.heap H).Ns b m := fun {b m} ⟨o, es, ep, e, d, r⟩ => ⟨o, es, ep, base_of e (noA e d), d, r⟩
    have hKb : K.In (hidT s₁.heap H) := fun b o e => base_of (KX b o e) (by
      cases q : H b with
      | none => rfl
      | some u =>
        have e' : b = a := hA b (by rw [q]; simp)
        subst e'
        rw [hK (by rw [q]; simp)] at e; cases e)
    have hM : Mod K mg (hidT s₁.heap H) := ⟨hKb, nsK hns, ⟨mb, nsK hb, hbb⟩, let ⟨mc, h1, h2⟩ := hlim; ⟨mc, nsK h1, h2⟩⟩
    have e0 : Env0 P w K mg (hidT s₁.heap H) callerA [] s₁ H := ⟨rfl, hM, fun b o e => of_hidT e, Nat.le_of_eq (hidT_size _ _), trivial, fun b hb => absurd (show b ∈ ([] : List Addr) from hb) (by simp), hok, .of_eq hg⟩
    refine codeAny_mono ((F _).run callerA [] s₁ H ⟨[.ref a], []⟩ [.ref a] [.ref a] _ _ hr rfl e0 (hbind s₁ (.ref a)) (.cons rfl .nil) (hsp H hO hS)) fun r s' h => ?_
    cases r with
    | error e =>
      obtain ⟨_, _, _, _, _, _, _, _, _, _, _, _, z⟩ := h
      exact z.elim
    | ok fl =>
      cases fl with
      | next => exact False.elim h
      | brk => exact False.elim h
      | cont => exact False.elim h
      | ret u =>
        obtain ⟨v, H', os, bare, un, hok', r', q⟩ := h
        have q' : v = .bl true := q
        subst q'
        obtain rfl : u = Value.bool true := r'
        refine ⟨rfl, OldK.of_keep fun b o e => ?_, os, bare⟩
        cases q : H b with
        | none => exact un.keep b o e q (by intro z; exact absurd (show b ∈ ([] : List Addr) from z) (by simp)) (by simp)
        | some u =>
          rcases hO b with z | ⟨ob, xs, z⟩
          · rw [q] at z; cases z
          · have z2 := un.frzs b ob _ z
            obtain ⟨e1, _⟩ := hok b _ z
            obtain ⟨e2, _⟩ := hok' b _ z2
            rw [e] at e1; cases e1
            exact e2
  cases hk : K.lookup a with
  | some o =>
    have e := KX a o hk
    rw [ha] at e
    cases e
    refine core (fun _ => none) (fun _ => .inl rfl) (.inr ⟨_, vs.toArray, _, hk, rfl, rfl, rfl, by rw [List.size_toArray, lenV]; exact hl, by simpa using rv⟩) (fun b u z => by have z' : (none : Option HO) = some u := z; cases z') (fun b z => absurd rfl z) fun z => absurd rfl z
  | none =>
    refine core (fun b => if b = a then some (.frz { cls := .type "list", data := .seq vs.toArray } (.lst (ns.map V.int))) else none) (fun b => ?_) (.inl (.inr ⟨{ cls := .type "list", data := .seq vs.toArray }, if_pos rfl⟩)) (fun b u z => ?_) (fun b z => ?_) fun _ => hk
    · by_cases hb : b = a
      · exact .inr ⟨_, _, if_pos hb⟩
      · exact .inl (if_neg hb)
    · by_cases hb : b = a
      · have z' := (if_pos hb).symm.trans z
        cases z'
        subst hb
        exact ⟨ha, by rw [List.length_map]; exact hl, vs, _, rv, ha⟩
      · have z' := (if_neg hb).symm.trans z
        cases z'
    · by_cases hb : b = a
      · exact hb
      · exact absurd (if_neg hb) z
/-- the goal that k_head leaves -/
theorem law_end {l : PySem.W.OpenLaw} {k : Nat} {q : Program} {loose : List Str} {XP : (Str → Option Value) → Heap → Prop} {YP : World → Heap → Prop} {d : DefRec} {K : Params → Fg} {x : Str} {m : List D → R SD}
    (hn : l.most = some 63) (hdf : d.params.defaults = []) (hr : Room k callerA)
    (hY : ∀ (w : World) (h : Heap), YP w h → (K w.params).In h)
    (true_ : ∀ ns : List Int, ns.length ≤ 63 → (∀ z ∈ ns, Builtin.Int.intBits z ≤ 1048576) → m [.list (ns.map .int)] = .ok (.sh (.bool true)))
    (F : ∀ (w : World) (mg : Str → Option Value) (fa : Addr) (h : Heap), (K w.params).In h → h.Ns mainGlobals mg → mg d.name = some (.ref fa) →
      ∃ fd : FuncData, (∀ (s : Shared) (u : Value), BindsTo s fd ⟨[u], []⟩ [(x, u)]) ∧ ∀ base : Heap, DOk l.prog w (K w.params) mg base k fa fd [x] m) :
    PySem.W.WalkO q loose XP YP l.row.toRowW d [] (fun f vs => PySem.call f vs) := by
  refine Att.attach_callB hn hdf fun w s₀ s₁ mg mb fa o pm cd doc a vs ns G Y ho hd hcd hmg hobj hints hlen hbits hg => ?_
  have KX := hY w _ Y
  obtain ⟨fd, hb, hF⟩ := F w mg fa _ KX G.T.g hmg
  refine law_callG KX G.T.g G.T.b G.T.builtins G.T.nolimit hg hobj hints (Nat.le_trans hlen (by decide)) hr (fun base => (hF base).fn) hb fun H hO hS => ?_
  refine ⟨rfl, H, [.list (ns.map .int)], .refl _, .cons (.lst hS (RpL.of_ints ns)) .nil, ?_⟩
  rw [true_ ns hlen hbits]
  intro Hs' H' v e hv
  have hv' : Rp (K w.params) Hs' (.bool true) v := hv
  cases hv'
  rfl
end VL

set_option Elab.async false
set_option linter.all false
set_option maxRecDepth 100000
set_option autoImplicit false
namespace VL
open PySem PySem.Spec PyProof.Rows L2

section
variable {X : Cx} {W : WX} {e o : Expr} {pos : Pos} {f g : Ev → R D}
/-! ### str(int), str(str) -/
def strD : List D → Option D
  | [.int i] => if i.natAbs.log2 < 1920 then some (.str (toString i)) else none
  | [.str x] => some (.str x)
  | _ => none
/-! ### x.pop() as a statement -/
def sPopX (j : Nat) : Ev → Out := fun ρ => onOw j ρ fun l => match l.getLast? with
  | some _ => .nx (ρ.set j (.ow l.dropLast))
  | none => .bad
theorem vs_popX (j : Nat) {x : Str} {p apos cpos : Pos} (ho : PE X (.Name x p) (tVar j))
    (hbase : attributeBase (.Name x p) "pop" X.env (eval (.Name x p) X.env) = eval (.Name x p) X.env := by rfl) (hline : (apos.endLine == cpos.line) = true := by rfl)
    (hs : swapsWith (.Call (.Attribute (.Name x p) "pop" apos) [] [] cpos) none pos.line X.env = pure false := by rfl) : VS X W (.Expr (.Call (.Attribute (.Name x p) "pop" apos) [] [] cpos) pos) (sPopX j) := by
  refine PS.imp (ps_expr (pe_bm0 PySem.F.plainAttrs_list PySem.F.slot_list_pop PySem.F.type_list_pop mt_pop ho hbase hline) hs) fun D σ H ⟨S, G, Hs, ρ, r, h⟩ => ?_
  obtain ⟨l, hl, h⟩ := on_own h
  obtain ⟨b, vs, o1, o2, o3, o4, o5⟩ := r.own hl
  cases z : l.getLast? with
  | none => rw [z] at h; exact h.elim
  | some d =>
    rw [z] at h
    obtain ⟨v, v1, v2⟩ := pop_at o5 z
    exact ⟨_, o1, .inl ⟨rfl, vs, .inl (.inl o4)⟩, b, vs, v, rfl, rfl, o4, v1, h Hs _ _ (.refl _) (r.wr hl o1 o5.dropLast)⟩
/-! ### {"k": e, ..}[e] -/
def selD (ks : List Str) (ds : List D) (k : D) : Option D := match k with
  | .str x => (ks.zip ds).foldl (fun acc p => if x = p.1 then some p.2 else acc) none
  | _ => none
def eDSel (ks : List Str) (fs : Ev → R (List D)) (fk : Ev → R D) : Ev → R D := fun ρ => (fs ρ).bind fun ds => (fk ρ).bind fun k => ofO (selD ks ds k)
/-- the values of a display -/
structure VPs (X : Cx) (W : WX) (dpos : Pos) (ks : List Str) (keys : List (Option Expr)) (vals : List Expr) (fs : Ev → R (List D)) : Prop where
  ex : ∃ trs, PPs X dpos keys vals trs ∧ ∀ σ H (Q : List (V × V) → Hp → Prop), tA X.K X.mg W fs σ H (fun vs H' => vs.length = ks.length → Q ((ks.map V.str).zip vs) H') → tPairs trs σ H Q
  n1 : keys.length = ks.length
  n2 : vals.length = ks.length
  n3 : keys.all (·.isSome) = true
end
end VL

set_option Elab.async false
set_option linter.all false
set_option maxRecDepth 100000
set_option autoImplicit false
namespace VL
open PySem PySem.Spec PyProof.Rows L2

/-! ### evaluations that change a list of one's own, or the lent one -/
inductive RX (α : Type) where
  | ok (a : α) (ρ : Ev)
  | bad
def RX.bind {α β : Type} (r : RX α) (f : α → Ev → RX β) : RX β := match r with
  | .ok a ρ => f a ρ
  | .bad => .bad
def PostX {α : Type} (K : Fg) (S : Hp) (G : Gx) (σ : Sg) (Hs : Hp) : RX α → (α → Ev → Hp → Hp → Prop) → Prop
  | .ok a ρ, P => ∀ Hs' H', Same Hs Hs' → RelE K S G Hs' H' σ ρ → P a ρ Hs' H'
  | .bad, _ => False
section
variable {α β : Type} {K : Fg} {S Hs H Hs1 : Hp} {G : Gx} {σ : Sg}
theorem PostX.up {r : RX α} {P : α → Ev → Hp → Hp → Prop} (h : PostX K S G σ Hs r P) (g : Same Hs Hs1) : PostX K S G σ Hs1 r P := by
  cases r with
  | ok a ρ => exact fun Hs' H' e => h Hs' H' (g.trans e)
  | bad => exact h
theorem PostX.imp {r : RX α} {P P' : α → Ev → Hp → Hp → Prop} (h : PostX K S G σ Hs r P) (hp : ∀ a ρ Hs' H', Same Hs Hs' → RelE K S G Hs' H' σ ρ → P a ρ Hs' H' → P' a ρ Hs' H') : PostX K S G σ Hs r P' := by
  cases r with
  | ok a ρ => exact fun Hs' H' g r' => hp _ _ _ _ g r' (h Hs' H' g r')
  | bad => exact h
theorem PostX.bind {r : RX α} {f : α → Ev → RX β} {P : β → Ev → Hp → Hp → Prop} (h : PostX K S G σ Hs (r.bind f) P) : PostX K S G σ Hs r (fun a ρ Hs' H' => PostX K S G σ Hs' (f a ρ) P) := by
  cases r with
  | ok a ρ => exact fun Hs' H' g r' => PostX.up h g
  | bad => exact h
theorem PostX.now {a : α} {ρ : Ev} {P : α → Ev → Hp → Hp → Prop} (h : PostX K S G σ Hs (.ok a ρ) P) (r : RelE K S G Hs H σ ρ) : P a ρ Hs H := h Hs H (.refl _) r
end
def tX (K : Fg) (f : Ev → RX D) : TE := fun σ H Q => ∃ S G Hs ρ, RelE K S G Hs H σ ρ ∧ PostX K S G σ Hs (f ρ) (fun d _ Hs' H' => ∀ v, Rp K Hs' d v → Q v H')
def tXO (K : Fg) (f : Ev → RX (List D)) : TE := fun σ H Q => ∃ S G Hs ρ, RelE K S G Hs H σ ρ ∧
  PostX K S G σ Hs (f ρ) (fun l _ Hs' H' => ∀ Hs2 H2 p vs, Ext Hs' H' Hs2 H2 → H' p = none → Hs2 p = none → H2 p = some (.lst vs) → RpL K Hs2 l vs → Q (.ref p) H2)
def tXT (K : Fg) (f : Ev → RX Bool) : TT := fun σ H Q => ∃ S G Hs ρ, RelE K S G Hs H σ ρ ∧ PostX K S G σ Hs (f ρ) (fun b _ _ H' => Q b H')
def XE (X : Cx) (e : Expr) (f : Ev → RX D) : Prop := PE X e (tX X.K f)
def XO (X : Cx) (e : Expr) (f : Ev → RX (List D)) : Prop := PE X e (tXO X.K f)
def XT (X : Cx) (e : Expr) (f : Ev → RX Bool) : Prop := PT X e (tXT X.K f)
def XW (X : Cx) (e : Expr) (f : Ev → RX Bool) : Prop := PW X e (tXT X.K f)
/-- without a change -/
def xl {α : Type} (f : Ev → R α) : Ev → RX α := fun ρ => match f ρ with
  | .ok a => .ok a ρ
  | _ => .bad
def ofX {α : Type} (o : Option α) (ρ : Ev) : RX α := match o with
  | some a => .ok a ρ
  | none => .bad
def x1 {α β : Type} (F : α → Option β) (f : Ev → RX α) : Ev → RX β := fun ρ => (f ρ).bind fun x ρ => ofX (F x) ρ
def x2 {α β γ : Type} (F : α → β → Option γ) (f : Ev → RX α) (g : Ev → RX β) : Ev → RX γ := fun ρ => (f ρ).bind fun x ρ => (g ρ).bind fun y ρ => ofX (F x y) ρ
def xCons (f : Ev → RX D) (g : Ev → RX (List D)) : Ev → RX (List D) := fun ρ => (f ρ).bind fun x ρ => (g ρ).bind fun xs ρ => .ok (x :: xs) ρ
def xLst (f : Ev → RX (List D)) : Ev → RX D := fun ρ => (f ρ).bind fun l ρ => .ok (.list l) ρ
def xIf {α : Type} (c : Ev → RX Bool) (f g : Ev → RX α) : Ev → RX α := fun ρ => (c ρ).bind fun b ρ => if b then f ρ else g ρ
def xAnd (f g : Ev → RX Bool) : Ev → RX Bool := fun ρ => (f ρ).bind fun b ρ => if b then g ρ else .ok false ρ
def xOr (f g : Ev → RX Bool) : Ev → RX Bool := fun ρ => (f ρ).bind fun b ρ => if b then .ok true ρ else g ρ
def xNot (f : Ev → RX Bool) : Ev → RX Bool := fun ρ => (f ρ).bind fun b ρ => .ok (!b) ρ
def xCall (m : List D → R SD) (fl : Ev → RX (List D)) : Ev → RX D := fun ρ => (fl ρ).bind fun ds ρ => match m ds with
  | .ok s => ofX (toD s) ρ
  | _ => .bad
def xCallO (m : List D → R SD) (fl : Ev → RX (List D)) : Ev → RX (List D) := fun ρ => (fl ρ).bind fun ds ρ => match m ds with
  | .ok s => ofX (toL s) ρ
  | _ => .bad

section
variable {X : Cx} {W : WX} {e a b c : Expr} {es : List Expr} {pos p : Pos} {f g : Ev → RX D} {fl : Ev → RX (List D)} {fb gb : Ev → RX Bool}
theorem XO.xe (h : XO X e fl) : XE X e (xLst fl) := PE.imp h fun σ H Q ⟨S, G, Hs, ρ, r, p⟩ => by
  refine ⟨S, G, Hs, ρ, r, (PostX.bind p).imp fun l ρ1 Hs1 H1 g1 r1 q Hs2 H2 p' vs e h0 h1 h2 h3 => ?_⟩
  exact q _ _ ((e.frz h0 h2 h1).grow) (r1.step (e.frz h0 h2 h1)) _ (.lst (.inl (.inl upd_same)) (h3.mono fun b u z => by rw [upd_ne (ne_of_none z h1)]; exact z))
theorem XW.xt (h : XW X e fb) : XT X e fb := PW.pt h
variable {x : Str} {bid T : String} {F : List D → Option D} {FO : List D → Option (List D)}
/-! sources of loops -/
end
end VL

set_option Elab.async false
set_option linter.all false
set_option maxRecDepth 100000
set_option autoImplicit false
namespace VL
open PySem PySem.Spec PyProof.Rows L2

/-! ### a list of one's own or the lent one -/
def lstAt (ρ : Ev) (i : Nat) : Option (List D × Bool) := match ρ[i]? with
  | some (.ow l) => some (l, false)
  | some (.bo l) => some (l, true)
  | _ => none
def mkL (b : Bool) (l : List D) : SD := if b then .bo l else .ow l
section
variable {K : Fg} {S Hs H : Hp} {G : Gx} {σ : Sg} {ρ : Ev}
theorem lstAt_cases {i : Nat} {l : List D} {b : Bool} (h : lstAt ρ i = some (l, b)) : (b = false ∧ ρ[i]? = some (.ow l)) ∨ (b = true ∧ ρ[i]? = some (.bo l)) := by
  unfold lstAt at h
  split at h
  · cases h; exact .inl ⟨rfl, by assumption⟩
  · cases h; exact .inr ⟨rfl, by assumption⟩
  · cases h
theorem RelE.lst {i : Nat} {l : List D} {b : Bool} (r : RelE K S G Hs H σ ρ) (h : lstAt ρ i = some (l, b)) : ∃ p vs, σ[i]? = some (some (.ref p)) ∧ Hs p = none ∧ H p = some (.lst vs) ∧ RpL K Hs l vs := by
  rcases lstAt_cases h with ⟨_, h⟩ | ⟨_, h⟩
  · obtain ⟨p, vs, e1, e2, e3, e4, e5⟩ := r.own h
    exact ⟨p, vs, e1, e3, e4, e5⟩
  · obtain ⟨p, vs, e1, e2, e3, e4⟩ := r.lent h
    exact ⟨p, vs, e1, (r.bor _ p e2).2.1, e3, e4⟩
theorem RelE.wrL {i : Nat} {l l' : List D} {b : Bool} {p : Addr} {ws : List V} (r : RelE K S G Hs H σ ρ) (h : lstAt ρ i = some (l, b)) (hs : σ[i]? = some (some (.ref p))) (hl : RpL K Hs l' ws) :
    RelE K S G Hs (upd H p (.lst ws)) σ (ρ.set i (mkL b l')) := by
  rcases lstAt_cases h with ⟨rfl, h'⟩ | ⟨rfl, h'⟩
  · exact r.wr h' hs hl
  · exact r.wrB h' hs hl
end
/-! ### statements over them -/
def liftX {α : Type} (r : RX α) (k : α → Ev → Out) : Out := match r with
  | .ok a ρ => k a ρ
  | .bad => .bad
def ySet (i : Nat) (f : Ev → RX D) : Ev → Out := fun ρ => liftX (f ρ) fun d ρ => .nx (ρ.set i (.sh d))
def ySetO (i : Nat) (f : Ev → RX (List D)) : Ev → Out := fun ρ => liftX (f ρ) fun d ρ => .nx (ρ.set i (.ow d))
def yAsg (f : Ev → RX D) (g : D → Ev → Option Ev) : Ev → Out := fun ρ => liftX (f ρ) fun d ρ => match g d ρ with
  | some ρ' => .nx ρ'
  | none => .bad
def yIf (c : Ev → RX Bool) (F F' : Ev → Out) : Ev → Out := fun ρ => liftX (c ρ) fun b ρ => if b then F ρ else F' ρ
def yDrop (f : Ev → RX D) : Ev → Out := fun ρ => liftX (f ρ) fun _ ρ => .nx ρ
def yRet (f : Ev → RX D) : Ev → Out := fun ρ => liftX (f ρ) fun d ρ => .rt (.sh d)
def yRetO (f : Ev → RX (List D)) : Ev → Out := fun ρ => liftX (f ρ) fun d ρ => .rt (.ow d)
def yRetB (f : Ev → RX D) : Ev → Out := fun ρ => liftX (f ρ) fun d ρ => .rtB (.sh d) ρ
def yRetOB (f : Ev → RX (List D)) : Ev → Out := fun ρ => liftX (f ρ) fun d ρ => .rtB (.ow d) ρ
/-- return x, x a list of one's own, in a def with a lent list -/
def yRetVB (i : Nat) : Ev → Out := fun ρ => match ρ[i]? with
  | some (.ow l) => .rtB (.ow l) ρ
  | some (.sh d) => .rtB (.sh d) ρ
  | _ => .bad
def yRetNB : Ev → Out := fun ρ => .rtB (.sh .none) ρ
def yFor (fi : Ev → RX (List D)) (g : D → Ev → Option Ev) (F : Ev → Out) : Ev → Out := fun ρ => liftX (fi ρ) fun l ρ => forO (gTo g F) l ρ
def yApp (i : Nat) (f : Ev → RX D) : Ev → Out := fun ρ => match lstAt ρ i with
  | none => .bad
  | some _ => liftX (f ρ) fun d ρ => match lstAt ρ i with
    | some (l, b) => if l.length < sizeLine then .nx (ρ.set i (mkL b (l ++ [d]))) else .bad
    | none => .bad
def yStore (i : Nat) (fi fv : Ev → RX D) : Ev → Out := fun ρ => liftX (fv ρ) fun d ρ => match lstAt ρ i with
  | none => .bad
  | some _ => liftX (fi ρ) fun k ρ => match lstAt ρ i with
    | some (l, b) => match k with
      | .int z => match ixN l.length z with
        | some j => .nx (ρ.set i (mkL b (l.set j d)))
        | none => .bad
      | _ => .bad
    | none => .bad
def xPop (i : Nat) : Ev → RX D := fun ρ => match lstAt ρ i with
  | some (l, b) => match l.getLast? with
    | some d => .ok d (ρ.set i (mkL b l.dropLast))
    | none => .bad
  | none => .bad
section
variable {X : Cx} {W : WX} {e a b c : Expr} {es : List Expr} {pos : Pos} {f g : Ev → RX D} {fl : Ev → RX (List D)} {fb : Ev → RX Bool} {F F' : Ev → Out}
end

/-! ### defs with a list that is lent -/
inductive RB where
  | ok (r : SD) (l : List D)
  | bad
/-- arguments, the lent list at place b -/
inductive RpB (K : Fg) (H : Hp) (p : Addr) : Nat → List D → List V → Prop
  | here {ds : List D} {vs : List V} : RpL K H ds vs → RpB K H p 0 (.none :: ds) (.ref p :: vs)
  | there {b : Nat} {d : D} {v : V} {ds : List D} {vs : List V} : Rp K H d v → RpB K H p b ds vs → RpB K H p (b + 1) (d :: ds) (v :: vs)
theorem RpB.mono {K : Fg} {H H' : Hp} {p : Addr} (e : Same H H') : ∀ {b : Nat} {ds : List D} {vs : List V}, RpB K H p b ds vs → RpB K H' p b ds vs
  | _, _, _, .here r => .here (r.mono e)
  | _, _, _, .there h r => .there (h.mono e) (RpB.mono e r)
theorem RpB.length {K : Fg} {H : Hp} {p : Addr} : ∀ {b : Nat} {ds : List D} {vs : List V}, RpB K H p b ds vs → ds.length = vs.length
  | _, _, _, .here r => congrArg (· + 1) r.length
  | _, _, _, .there _ r => congrArg (· + 1) (RpB.length r)
theorem RpB.lt {K : Fg} {H : Hp} {p : Addr} : ∀ {b : Nat} {ds : List D} {vs : List V}, RpB K H p b ds vs → b < ds.length
  | _, _, _, .here r => Nat.succ_pos _
  | _, _, _, .there _ r => Nat.succ_lt_succ (RpB.lt r)
theorem RpB.get {K : Fg} {H : Hp} {p : Addr} : ∀ {b : Nat} {ds : List D} {vs : List V} {i : Nat} {d : D}, RpB K H p b ds vs → ds[i]? = some d → (i = b ∧ vs[i]? = some (.ref p)) ∨ (i ≠ b ∧ ∃ v, vs[i]? = some v ∧ Rp K H d v)
  | _, _, _, 0, d, .here r, e => .inl ⟨rfl, rfl⟩
  | _, _, _, i + 1, d, .here r, e => .inr ⟨by omega, by
    obtain ⟨v, h1, h2⟩ := r.get (i := i) (by simpa using e)
    exact ⟨v, by simpa using h1, h2⟩⟩
  | _, _, _, 0, d, .there h r, e => by
    simp at e; subst e
    exact .inr ⟨by omega, _, rfl, h⟩
  | _, _, _, i + 1, d, .there h r, e => by
    rcases RpB.get r (i := i) (by simpa using e) with ⟨rfl, h1⟩ | ⟨h0, v, h1, h2⟩
    · exact .inl ⟨rfl, by simpa using h1⟩
    · exact .inr ⟨by omega, v, by simpa using h1, h2⟩
theorem RpB.at_ {K : Fg} {H : Hp} {p : Addr} : ∀ {b : Nat} {ds : List D} {vs : List V}, RpB K H p b ds vs → vs[b]? = some (.ref p)
  | _, _, _, .here r => rfl
  | _, _, _, .there h r => by simpa using RpB.at_ r
def startB (n b : Nat) (l : List D) (ds : List D) : Ev := (startE n ds).set b (.bo l)
def finB (b : Nat) : Out → RB
  | .rtB r ρ => match ρ[b]? with
    | some (.bo l) => .ok r l
    | _ => .bad
  | .nx ρ => match ρ[b]? with
    | some (.bo l) => .ok (.sh .none) l
    | _ => .bad
  | _ => .bad
def runB (np n b : Nat) (F : Ev → Out) : List D → List D → RB := fun l ds => if ds.length = np ∧ b < np then finB b (F (startB n b l ds)) else .bad
def spB (K : Fg) (n b : Nat) (m : List D → List D → RB) : Sp := fun vs H Q _ => vs.length = n ∧ ∃ Hs l us p ds, Same Hs H ∧ Hs p = none ∧ H p = some (.lst us) ∧ RpL K Hs l us ∧ RpB K Hs p b ds vs ∧ (match m l ds with
  | .ok r l' => ∀ Hs' H' v us', Same Hs Hs' → Same Hs' H' → (∀ a o, a ≠ p → H a = some o → H' a = some o) → (∀ a o, Hs' a = some o → Hs a = none → H a = none) → Hs' p = none → H' p = some (.lst us') → RpL K Hs' l' us' → RpO K H Hs' H' r v → Q v H'
  | .bad => False)
section
variable {P : Program} {w : World} {K : Fg} {mg : Str → Option Value} {base : Heap}
structure BOk (P : Program) (w : World) (K : Fg) (mg : Str → Option Value) (base : Heap) (k : Nat) (f : Addr) (fd : FuncData) (ps : List Str) (b : Nat) (m : List D → List D → RB) : Prop where
  fn : FnG P w K mg base k f fd ps (spB K ps.length b m)
  ar : ∀ l ds, m l ds ≠ .bad → ds.length = ps.length ∧ b < ps.length
structure ClB (P : Program) (w : World) (K : Fg) (mg : Str → Option Value) (base : Heap) (k : Nat) (x : Str) (ps : List Str) (b : Nat) (m : List D → List D → RB) : Prop where
  ex : ∃ f fd, BOk P w K mg base k f fd ps b m ∧ mg x = some (.ref f) ∧ PySem.W.keepIn K (.ref f) = true ∧ Binds K fd ps []
end
/-! ### calls that lend a list -/
def xHere (i : Nat) (f : Ev → RX (List D)) : Ev → RX (List D) := fun ρ => match lstAt ρ i with
  | some _ => (f ρ).bind fun ds ρ => .ok (.none :: ds) ρ
  | none => .bad
def xCallB (m : List D → List D → RB) (i : Nat) (f : Ev → RX (List D)) : Ev → RX D := fun ρ => (f ρ).bind fun ds ρ => match lstAt ρ i with
  | some (l, k) => match m l ds with
    | .ok r l' => ofX (toD r) (ρ.set i (mkL k l'))
    | .bad => .bad
  | none => .bad
def xCallBO (m : List D → List D → RB) (i : Nat) (f : Ev → RX (List D)) : Ev → RX (List D) := fun ρ => (f ρ).bind fun ds ρ => match lstAt ρ i with
  | some (l, k) => match m l ds with
    | .ok r l' => ofX (toL r) (ρ.set i (mkL k l'))
    | .bad => .bad
  | none => .bad
section
variable {X : Cx} {W : WX} {e a b c : Expr} {es : List Expr} {pos p : Pos} {f g : Ev → RX D} {fl : Ev → RX (List D)} {x : Str}
theorem RelE.called {K : Fg} {S Hs H Hs' H' : Hp} {G : Gx} {σ : Sg} {ρ : Ev} {i : Nat} {l l' : List D} {k : Bool} {a : Addr} {us' : List V} (r : RelE K S G Hs H σ ρ) (z : lstAt ρ i = some (l, k)) (ha : σ[i]? = some (some (.ref a)))
    (c1 : Same Hs Hs') (c2 : Same Hs' H') (c3 : ∀ b o, b ≠ a → H b = some o → H' b = some o) (c4 : ∀ b o, Hs' b = some o → Hs b = none → H b = none) (c5 : Hs' a = none) (c6 : H' a = some (.lst us')) (c7 : RpL K Hs' l' us') :
    RelE K S G Hs' H' σ (ρ.set i (mkL k l')) := by
  have r1 := r.wrL z ha (l' := []) (ws := []) .nil
  have e : Ext Hs (upd H a (.lst [])) Hs' (upd H' a (.lst [])) := by
    refine ⟨fun b u q => ?_, fun b u q => ?_, c1, fun b o q n => ?_⟩
    · rw [upd_ne (ne_of_none q c5)]; exact c2 b u q
    · by_cases hb : b = a
      · subst hb; rw [upd_same] at q ⊢; exact q
      · rw [upd_ne hb] at q ⊢; exact c3 b u hb q
    · rw [upd_ne (ne_of_none q c5)]; exact c4 b o q n
  have r2 := r1.step e
  have hi : i < ρ.length := by
    rcases lstAt_cases z with ⟨_, h⟩ | ⟨_, h⟩ <;> exact (List.getElem?_eq_some_iff.mp h).1
  have z2 : lstAt (ρ.set i (mkL k [])) i = some ([], k) := by
    unfold lstAt
    rw [List.getElem?_set_self hi]
    cases k <;> rfl
  have r3 := r2.wrL z2 ha c7
  rw [List.set_set] at r3
  have : upd (upd H' a (.lst [])) a (.lst us') = H' := by
    funext b
    by_cases hb : b = a
    · subst hb; rw [upd_same, c6]
    · rw [upd_ne hb, upd_ne hb]
  rwa [this] at r3
/-! calls of other defs -/
end
end VL

set_option Elab.async false
set_option linter.all false
set_option maxRecDepth 100000
set_option autoImplicit false
namespace VL
open PySem PySem.Spec PyProof.Rows L2

/-! ### comprehensions whose items change a list -/
section
variable {K : Fg} {S Hs H : Hp} {G : Gx} {σ : Sg} {ρ : Ev} {D : Addr} {o : HO}
end
def compX (step : D → Ev → RX (Option D)) : List D → Ev → RX (List D)
  | [], ρ => .ok [] ρ
  | d :: ds, ρ => (step d ρ).bind fun o ρ1 => (compX step ds ρ1).bind fun r ρ2 => .ok (match o with | some y => y :: r | none => r) ρ2
def compXS (vs : List Nat) (g : D → Ev → Option Ev) (ft : Ev → RX Bool) (fe : Ev → RX D) : D → Ev → RX (Option D) := fun d ρ => match g d (wipeE ρ vs) with
  | some ρ' => (ft ρ').bind fun b ρ2 => if b then (fe ρ2).bind fun y ρ3 => .ok (some y) (wipeE ρ3 vs) else .ok none (wipeE ρ2 vs)
  | none => .bad
def xComp (vs : List Nat) (fi : Ev → RX (List D)) (g : D → Ev → Option Ev) (ft : Ev → RX Bool) (fe : Ev → RX D) : Ev → RX (List D) := fun ρ => (fi ρ).bind fun l ρ1 => if l.length ≤ sizeLine then compX (compXS vs g ft fe) l (wipeE ρ1 vs) else .bad
theorem RX.bind_assoc {α β γ : Type} (r : RX α) (f : α → Ev → RX β) (g : β → Ev → RX γ) : (r.bind f).bind g = r.bind fun a ρ => (f a ρ).bind g := by cases r <;> rfl
section
variable {X : Cx} {W : WX} {elt tg iter c : Expr} {ifs : List Expr} {scope : Scope} {own : List (Str × Nat)} {pos : Pos} {ts : List Nat} {fi : Ev → RX (List D)} {g : D → Ev → Option Ev} {ft : Ev → RX Bool} {fe : Ev → RX D}
end
end VL

set_option Elab.async false
set_option linter.all false
set_option maxRecDepth 100000
set_option autoImplicit false
namespace VL
open PySem PySem.Spec PyProof.Rows L2
/-! ### calls without arguments -/
section
variable {X : Cx} {W : WX} {k : Nat} {f : Addr} {fd : FuncData} {ps : List Str} {sp : Sp} {E : Sg → XK} {x : Str} {p pos : Pos}
end
end VL

set_option Elab.async false
set_option linter.all false
set_option maxRecDepth 100000
set_option maxHeartbeats 4000000
namespace VL
open PySem PySem.Spec PyProof.Rows L2

/-- how a call with n values and the keywords ks binds -/
structure KB (K : Fg) (fd : FuncData) (ps ks : List Str) (n : Nat) : Prop where
  to : ∀ (s : Shared) (us ws : List Value), K.In s.heap → us.length = n → ws.length = ks.length → BindsTo s fd ⟨us, ks.zip ws⟩ (ps.zip (us ++ ws))
section
variable {X : Cx} {n k : Nat} {f : Addr} {fd : FuncData} {ps ks : List Str} {sp : Sp} {E : Sg → XK} {x : Str} {p pos : Pos} {e : Expr} {es : List Expr} {kws : List Keyword} {t tk : TA}
theorem run_fnkG {pins : List (Addr × Obj)} {σ : Sg} {H : Hp} {s : Shared} {Q : VK} {us ws : List Value} {vs zs : List V} (F : FnG X.prog X.w X.K X.mg X.base k f fd ps sp) (hr : Room k X.A) (hgd : X.A.guards = some []) (hb : KB X.K fd ps ks n) (hx : PassesAt (L2N.CX X.prog X.w) X σ (E σ))
    (I : Inv X pins σ H s) (r : Vals vs us) (rz : Vals zs ws) (l1 : vs.length = n) (l2 : zs.length = ks.length) (h : sp (vs ++ zs) H Q (E σ)) : wpAny (model X.prog X.w) X.A (call (.ref f) us (ks.zip ws)) (EP X pins σ Q) X.xe s := by
  have r2 : Vals (vs ++ zs) (us ++ ws) := r.append rz
  refine wpAny_call (codeAny_mono (F.run X.A X.stack s H ⟨us, ks.zip ws⟩ (us ++ ws) (vs ++ zs) Q (E σ) hr hgd I.env0 (hb.to s us ws I.kIn (r.length.symm.trans l1) (rz.length.symm.trans l2)) r2 h) fun r s' hq => ?_)
  cases r with
  | error e => exact hx pins H s e s' I hq
  | ok fl =>
    cases fl with
    | ret u => exact I.after hq
    | next => exact False.elim hq
    | brk => exact False.elim hq
    | cont => exact False.elim hq
def tCallKS (n : Nat) (ks : List Str) (sp : Sp) (E : Sg → XK) (t tk : TA) : TE := fun σ H Q => t σ H fun vs H1 => tk σ H1 fun zs H2 => vs.length = n ∧ zs.length = ks.length ∧ sp (vs ++ zs) H2 Q (E σ)
theorem pe_callKG (F : FnG X.prog X.w X.K X.mg X.base k f fd ps sp) (hr : Room k X.A) (hgd : X.A.guards = some []) (hg : Gl X x) (hm : X.mg x = some (.ref f)) (hk : PySem.W.keepIn X.K (.ref f) = true) (hb : KB X.K fd ps ks n) (hx : ∀ σ, PassesAt (L2N.CX X.prog X.w) X σ (E σ))
    (ha : PA X (e :: es) t) (hkw : PK X kws tk) (hall : (backToKw pos (keywordEach kws X.env)).all (·.1.isSome) = true := by rfl) (hks : (backToKw pos (keywordEach kws X.env)).filterMap (·.1) = ks := by rfl)
    (hdb : (x == ("__debug__" : Str)) = false := by decide) (he : starEach (e :: es) X.env = (false, eval e X.env) :: starEach es X.env := by rfl)
    (hpl : ((backTo pos (starEach (e :: es) X.env)).any (·.1) || (backToKw pos (keywordEach kws X.env)).any (·.1.isNone)) = false := by rfl) :
    PE X (.Call (.Name x p) (e :: es) kws pos) (tCallKS n ks sp E t tk) := by
  refine ⟨fun pins s σ H Q I h => ?_⟩
  refine wpAny_Call_Name_kw (ld_glob I hg hm ?_ hdb)
  refine PySem.W.callWith_KW (h₀ := X.base) I.ok.mod.kin hk hall (thn (ha.run pos pins s σ H _ I h) fun us s1 ⟨vs, H1, I1, r, q⟩ => ?_) hpl he
  refine thn (hkw.run pos pins s1 σ H1 _ I1 q) fun ws s2 ⟨zs, H2, I2, rz, q2⟩ => ⟨I2.kIn, ?_⟩
  rw [hks]
  exact run_fnkG F hr hgd hb (hx σ) I2 r rz q2.1 q2.2.1 q2.2.2
end
/-- the keywords' values -/
def VKw (X : Cx) (W : WX) (kws : List Keyword) (f : Ev → R (List D)) : Prop := PK X kws (tA X.K X.mg W f)
def eApp (n k : Nat) (f g : Ev → R (List D)) : Ev → R (List D) := fun ρ => (f ρ).bind fun a => (g ρ).bind fun b => if a.length = n ∧ b.length = k then .ok (a ++ b) else .bad
section
variable {X : Cx} {W : WX} {e : Expr} {es : List Expr} {kws : List Keyword} {nm : Option Str} {f : Ev → R D} {fl fk : Ev → R (List D)} {kpos : Pos}
theorem PK.imp {t t' : TA} (h : PK X kws t) (g : ∀ σ H Q, t' σ H Q → t σ H Q) : PK X kws t' := ⟨fun pos pins s σ H Q I q => h.run pos pins s σ H Q I (g σ H Q q)⟩
theorem vk_nil : VKw X W [] (cst []) := PK.imp pk_nil fun σ H Q ⟨S, G, Hs, ρ, r, p⟩ => p.now r.sub [] .nil
theorem vk_cons (ha : VE X W e f) (hr : VKw X W kws fl) : VKw X W (⟨nm, e, kpos⟩ :: kws) (eCons f fl) := PK.imp (pk_cons ha hr) fun σ H Q ⟨S, G, Hs, ρ, r, p⟩ => by
  refine ⟨S, G, Hs, ρ, r, (Post.bind p).imp fun x Hs1 H1 e q u hu => ?_⟩
  refine ⟨S, G, Hs1, ρ, r.step e, (Post.bind q).imp fun xs Hs2 H2 e' q' us hus => ?_⟩
  exact q'.now e'.sub (u :: us) (.cons (hu.mono e'.grow) hus)
end
section
variable {X : Cx} {W : WX} {e : Expr} {es : List Expr} {pos p : Pos} {x : Str} {fl fk : Ev → R (List D)} {k j n : Nat} {f : Addr} {fd : FuncData} {ps ks : List Str} {m : List D → R SD} {kws : List Keyword}
/-- as VL's rule of a call, with the keywords' values behind -/
theorem sim_appK {K : Fg} {mg : Str → Option Value} {sp : Sp} {E : Sg → XK} : ∀ σ H Q, tCallS sp E (tA K mg W (eApp n ks.length fl fk)) σ H Q → tCallKS n ks sp E (tA K mg W fl) (tA K mg W fk) σ H Q := fun σ H Q ⟨S, G, Hs, ρ, r, p⟩ => by
  refine ⟨S, G, Hs, ρ, r, (Post.bind p).imp fun xs Hs1 H1 e q us hus => ?_⟩
  refine ⟨S, G, Hs1, ρ, r.step e, (Post.bind q).imp fun ys Hs2 H2 e' q' vs hvs => ?_⟩
  by_cases z : xs.length = n ∧ ys.length = ks.length
  · rw [if_pos z] at q'
    exact ⟨hus.length.symm.trans z.1, hvs.length.symm.trans z.2, q'.now e'.sub (us ++ vs) ((hus.mono e'.grow).append hvs)⟩
  · rw [if_neg z] at q'
    exact q'.elim
end
structure ClK (P : Program) (w : World) (K : Fg) (mg : Str → Option Value) (base : Heap) (k : Nat) (x : Str) (ps ks : List Str) (n : Nat) (m : List D → R SD) : Prop where
  ex : ∃ f fd, DOk P w K mg base k f fd ps m ∧ mg x = some (.ref f) ∧ PySem.W.keepIn K (.ref f) = true ∧ KB K fd ps ks n
structure DfK (K : Fg) (mg : Str → Option Value) (x : Str) (st : Stmt) (ps ks : List Str) (n : Nat) : Prop where
  ex : ∃ f fd, Fun K x x st f fd ∧ mg x = some (.ref f) ∧ KB K fd ps ks n
theorem clK_ok {P : Program} {w : World} {K : Fg} {mg : Str → Option Value} {base : Heap} {x : Str} {st : Stmt} {N ps ks : List Str} {n k : Nat} {F : Ev → Out} (Fn : DfK K mg x st ps ks n) (S : FnScope N ps (defScope st))
    (body : ∀ (f : Addr) (cdv : Value) (A : Around) (outer : List Env) (s : Shared) (H : Hp) (E : XK), Inn (cxOf (L2N.CX P w) P w K mg base N x (defScope st) f cdv A outer s H E) (fun cls d _ H => E cls d H) k →
      VSs (cxOf (L2N.CX P w) P w K mg base N x (defScope st) f cdv A outer s H E) (fun cls d _ H => E cls d H) (defBody st) F) :
    ClK P w K mg base (k + 1) x ps ks n (runD ps.length N.length F) := by
  obtain ⟨f, fd, h1, h2, h3⟩ := Fn.ex
  exact ⟨f, fd, def_ok h1 S fun cdv A outer s H E I => body f cdv A outer s H E I, h2, h1.kp, h3⟩
section
variable {X : Cx} {W : WX} {e : Expr} {es : List Expr} {pos p : Pos} {x : Str} {fl fk : Ev → R (List D)} {k j n : Nat} {ps ks : List Str} {m : List D → R SD} {kws : List Keyword}
theorem v_calK (C : ClK X.prog X.w X.K X.mg X.base k x ps ks n m) (hr : Room j X.A) (hgd : X.A.guards = some []) (tk : L2N.Takes X W) (ha : VA X W (e :: es) fl) (hkw : VKw X W kws fk) (hg : Gl X x := by rfl) (hj : k ≤ j := by decide)
    (hall : (backToKw pos (keywordEach kws X.env)).all (·.1.isSome) = true := by rfl) (hks : (backToKw pos (keywordEach kws X.env)).filterMap (·.1) = ks := by rfl)
    (hdb : (x == ("__debug__" : Str)) = false := by decide) (he : starEach (e :: es) X.env = (false, eval e X.env) :: starEach es X.env := by rfl)
    (hpl : ((backTo pos (starEach (e :: es) X.env)).any (·.1) || (backToKw pos (keywordEach kws X.env)).any (·.1.isNone)) = false := by rfl) :
    VE X W (.Call (.Name x p) (e :: es) kws pos) (eCall m (eApp n ks.length fl fk)) := by
  obtain ⟨f, fd, h1, h2, h3, h4⟩ := C.ex
  exact PE.imp (pe_callKG h1.fn (hr.mono hj) hgd hg h2 h3 h4 (L2N.passAt tk) ha hkw hall hks hdb he hpl) fun σ H Q q => sim_appK σ H Q (sim_call h1.ar σ H Q q)
end
theorem kb_of {K : Fg} {x qual : Str} {st : Stmt} {f : Addr} {fd : FuncData} {ps ks : List Str} {n : Nat} (F : Fun K x qual st f fd)
    (h : ∀ (kV doc pm : Value) (an : Option Addr) (cdv ct : Value) (us ws : List Value), us.length = n → ws.length = ks.length → bindArgs (PySem.W.fnOf x qual (defArgs st) (defBody st) (defScope st) .none kV doc pm an cdv ct) ⟨us, ks.zip ws⟩ = pure (ps.zip (us ++ ws))) : KB K fd ps ks n := by
  obtain ⟨oc, od, kV, doc, pm, an, cdv, ct, osl, rfl, lk, hcd⟩ := F.ex
  exact ⟨fun s us ws _ l1 l2 => BindsTo.of_eq (h kV doc pm an cdv ct us ws l1 l2)⟩
/-! ### a list of one's own that is only read while an expression is evaluated -/
end VL

set_option Elab.async false
set_option linter.all false
set_option maxRecDepth 100000
set_option autoImplicit false
namespace VL
open PySem PySem.Spec PyProof.Rows L2

/-! ### evaluation: rows for simp -/
def fin : Out → R SD
  | .nx _ => .ok (.sh .none)
  | .rt r => .ok r
  | .ex x _ => .ex x
  | _ => .bad
section
variable {α β γ δ : Type} {ρ : Ev} {f : Ev → R α} {g : Ev → R β} {h : Ev → R γ} {a : α} {d e : D} {l m : List D} {i j k : Nat} {s t : SD} {b : Bool} {x y z : Int}
@[simp] theorem r_get0 (u : α) (us : List α) : (u :: us)[0]? = some u := id rfl
@[simp] theorem r_getS (u : α) (us : List α) (n : Nat) : (u :: us)[n + 1]? = us[n]? := id rfl
@[simp] theorem r_bind_ok (F : α → R β) : (R.ok a).bind F = F a := id rfl
@[simp] theorem r_bind_ex (u : Xn) (F : α → R β) : (R.ex u : R α).bind F = .ex u := id rfl
@[simp] theorem r_bind_bad (F : α → R β) : (R.bad : R α).bind F = .bad := id rfl
@[simp] theorem r_ofO_some : ofO (some a) = .ok a := id rfl
@[simp] theorem r_ofO_none : ofO (none : Option α) = .bad := id rfl
@[simp] theorem r_noex_ok : noex (.ok a) = .ok a := id rfl
@[simp] theorem r_cst : cst a ρ = .ok a := id rfl
@[simp] theorem r_eVar : eVar i ρ = (match ρ[i]? with | some (.sh d) => .ok d | _ => .bad) := id rfl
@[simp] theorem r_eOwn : eOwn i ρ = (match ρ[i]? with | some (.sh d) => .ok d | some (.ow l) => .ok (.list l) | some (.bo l) => .ok (.list l) | _ => .bad) := id rfl
@[simp] theorem r_e1 (F : α → Option β) : e1 F f ρ = (f ρ).bind fun x => ofO (F x) := id rfl
@[simp] theorem r_e2 (F : α → β → Option γ) : e2 F f g ρ = (f ρ).bind fun x => (g ρ).bind fun y => ofO (F x y) := id rfl
@[simp] theorem r_e3 (F : α → β → γ → Option δ) : e3 F f g h ρ = (f ρ).bind fun x => (g ρ).bind fun y => (h ρ).bind fun z => ofO (F x y z) := id rfl
@[simp] theorem r_eCons (f : Ev → R D) (g : Ev → R (List D)) : eCons f g ρ = (f ρ).bind fun x => (g ρ).bind fun xs => .ok (x :: xs) := id rfl
@[simp] theorem r_eLst (f : Ev → R (List D)) : eLst f ρ = (f ρ).bind fun l => .ok (.list l) := id rfl
@[simp] theorem r_eIf (c : Ev → R Bool) (f g : Ev → R α) : eIf c f g ρ = (c ρ).bind fun b => if b then f ρ else g ρ := id rfl
@[simp] theorem r_eAnd (f g : Ev → R Bool) : eAnd f g ρ = (f ρ).bind fun b => if b then g ρ else .ok false := id rfl
@[simp] theorem r_eOr (f g : Ev → R Bool) : eOr f g ρ = (f ρ).bind fun b => if b then .ok true else g ρ := id rfl
@[simp] theorem r_eNot (f : Ev → R Bool) : eNot f ρ = (f ρ).bind fun b => .ok (!b) := id rfl
@[simp] theorem r_eAndV (f g : Ev → R D) : eAndV f g ρ = (f ρ).bind fun x => (ofO (truD x)).bind fun k => if k then g ρ else .ok x := id rfl
@[simp] theorem r_eOrV (f g : Ev → R D) : eOrV f g ρ = (f ρ).bind fun x => (ofO (truD x)).bind fun k => if k then .ok x else g ρ := id rfl
@[simp] theorem r_eChain (F F' : D → D → Option D) (f g h : Ev → R D) : eChain F F' f g h ρ = (f ρ).bind fun x => (g ρ).bind fun y => (ofO (F x y)).bind fun r => (ofO (bOf r)).bind fun b => if b then (h ρ).bind fun z => ofO (F' y z) else .ok (.bool false) := id rfl
@[simp] theorem r_eCall (m : List D → R SD) (fl : Ev → R (List D)) : eCall m fl ρ = (fl ρ).bind fun ds => (m ds).bind fun s => ofO (toD s) := id rfl
@[simp] theorem r_eCallO (m : List D → R SD) (fl : Ev → R (List D)) : eCallO m fl ρ = (fl ρ).bind fun ds => (m ds).bind fun s => ofO (toL s) := id rfl
@[simp] theorem r_pNo : pNo ρ = .ok none := id rfl
@[simp] theorem r_toD_sh : toD (.sh d) = some d := id rfl
@[simp] theorem r_toD_ow : toD (.ow l) = some (.list l) := id rfl
@[simp] theorem r_toL_ow : toL (.ow l) = some l := id rfl
/-! statements -/
@[simp] theorem r_liftE_ok (k : α → Out) : liftE (.ok a) ρ k = k a := id rfl
@[simp] theorem r_liftE_ex (u : Xn) (k : α → Out) : liftE (.ex u) ρ k = .ex u ρ := id rfl
@[simp] theorem r_liftE_bad (k : α → Out) : liftE .bad ρ k = .bad := id rfl
@[simp] theorem r_seqO_nx (k : Ev → Out) : seqO (.nx ρ) k = k ρ := id rfl
@[simp] theorem r_seqO_rt (k : Ev → Out) : seqO (.rt s) k = .rt s := id rfl
@[simp] theorem r_seqO_rtB (k : Ev → Out) : seqO (.rtB s ρ) k = .rtB s ρ := id rfl
@[simp] theorem r_seqO_bk (k : Ev → Out) : seqO (.bk ρ) k = .bk ρ := id rfl
@[simp] theorem r_seqO_ct (k : Ev → Out) : seqO (.ct ρ) k = .ct ρ := id rfl
@[simp] theorem r_seqO_ex (u : Xn) (k : Ev → Out) : seqO (.ex u ρ) k = .ex u ρ := id rfl
@[simp] theorem r_seqO_bad (k : Ev → Out) : seqO .bad k = .bad := id rfl
@[simp] theorem r_sNil : sNil ρ = .nx ρ := id rfl
@[simp] theorem r_sSeq (F G : Ev → Out) : sSeq F G ρ = seqO (F ρ) G := id rfl
@[simp] theorem r_sSet (f : Ev → R D) : sSet i f ρ = liftE (f ρ) ρ fun d => .nx (ρ.set i (.sh d)) := id rfl
@[simp] theorem r_sSetO (f : Ev → R (List D)) : sSetO i f ρ = liftE (f ρ) ρ fun d => .nx (ρ.set i (.ow d)) := id rfl
@[simp] theorem r_sAsg (f : Ev → R D) (g : D → Ev → Option Ev) : sAsg f g ρ = liftE (f ρ) ρ fun d => match g d ρ with | some ρ' => .nx ρ' | none => .bad := id rfl
@[simp] theorem r_sPar (f : Ev → R (List D)) : sPar i j f ρ = liftE (f ρ) ρ fun ds => match ds with | [d, d'] => .nx ((ρ.set i (.sh d)).set j (.sh d')) | _ => .bad := id rfl
@[simp] theorem r_sAug (F : D → D → Option D) (f : Ev → R D) : sAug i F f ρ = liftE ((eVar i ρ).bind fun x => (f ρ).bind fun y => ofO (F x y)) ρ fun d => .nx (ρ.set i (.sh d)) := id rfl
@[simp] theorem r_sRet (f : Ev → R D) : sRet f ρ = liftE (f ρ) ρ fun d => .rt (.sh d) := id rfl
@[simp] theorem r_sRetO (f : Ev → R (List D)) : sRetO f ρ = liftE (f ρ) ρ fun d => .rt (.ow d) := id rfl
@[simp] theorem r_sRetV : sRetV i ρ = (match ρ[i]? with | some (.ow l) => .rt (.ow l) | some (.sh d) => .rt (.sh d) | _ => .bad) := id rfl
@[simp] theorem r_sRetN : sRetN ρ = .rt (.sh .none) := id rfl
@[simp] theorem r_sIf (c : Ev → R Bool) (F F' : Ev → Out) : sIf c F F' ρ = liftE (c ρ) ρ fun b => if b then F ρ else F' ρ := id rfl
@[simp] theorem r_sDrop (f : Ev → R D) : sDrop f ρ = liftE (f ρ) ρ fun _ => .nx ρ := id rfl
@[simp] theorem r_sFz (F : Ev → Out) : sFz i F ρ = (match ρ[i]? with | some (.ow l) => F (ρ.set i (.sh (.list l))) | _ => F ρ) := id rfl
@[simp] theorem r_onOw (k : List D → Out) : onOw i ρ k = (match ρ[i]? with | some (.ow l) => k l | _ => .bad) := id rfl
@[simp] theorem r_sApp (f : Ev → R D) : sApp i f ρ = onOw i ρ fun l => liftE (f ρ) ρ fun d => if l.length < sizeLine then .nx (ρ.set i (.ow (l ++ [d]))) else .bad := id rfl
@[simp] theorem r_sExt (f : Ev → R D) : sExt i f ρ = onOw i ρ fun l => liftE (f ρ) ρ fun d => match d with
  | .list l' => if l.length + l'.length ≤ sizeLine then .nx (ρ.set i (.ow (l ++ l'))) else .bad
  | _ => .bad := id rfl
@[simp] theorem r_sStore (fi fv : Ev → R D) : sStore i fi fv ρ = onOw i ρ fun l => liftE ((fv ρ).bind fun d => (fi ρ).bind fun k => .ok (d, k)) ρ fun (d, k) => match k with
  | .int z => match ixN l.length z with
    | some j => .nx (ρ.set i (.ow (l.set j d)))
    | none => .bad
  | _ => .bad := id rfl
@[simp] theorem r_placeD : placeD l (.int z) = if 0 ≤ z ∧ z < 2 ^ 63 then (l[z.toNat]?).map fun y => (z.toNat, y) else none := id rfl
@[simp] theorem r_sAugIx (F : D → D → Option D) (fi fv : Ev → R D) : sAugIx i F fi fv ρ = onOw i ρ fun l => liftE ((fi ρ).bind fun k => ofO (placeD l k)) ρ fun jy => liftE ((fv ρ).bind fun d => ofO (F jy.2 d)) ρ fun d => .nx (ρ.set i (.ow (l.set jy.1 d))) := id rfl
@[simp] theorem r_sPop : sPop i j ρ = onOw j ρ fun l => match l.getLast? with
  | some d => .nx ((ρ.set j (.ow l.dropLast)).set i (.sh d))
  | none => .bad := id rfl
@[simp] theorem r_sFor (fi : Ev → R (List D)) (g : D → Ev → Option Ev) (F : Ev → Out) : sFor fi g F ρ = liftE (fi ρ) ρ fun l => forO (gTo g F) l ρ := id rfl
@[simp] theorem r_gTo (g : D → Ev → Option Ev) (F : Ev → Out) : gTo g F d ρ = match g d ρ with | some ρ' => F ρ' | none => .bad := id rfl
@[simp] theorem r_gSet : gSet i d ρ = some (ρ.set i (.sh d)) := id rfl
@[simp] theorem r_gTupD_t (n : Nat) (k : List D → Ev → Option Ev) : gTupD n k (.tuple l) ρ = (if l.length = n then k l ρ else none) := id rfl
@[simp] theorem r_gTupD_l (n : Nat) (k : List D → Ev → Option Ev) : gTupD n k (.list l) ρ = (if l.length = n then k l ρ else none) := id rfl
@[simp] theorem r_gsNil : gsNil [] ρ = some ρ := id rfl
@[simp] theorem r_gsCons (g : D → Ev → Option Ev) (k : List D → Ev → Option Ev) : gsCons g k (d :: l) ρ = (g d ρ).bind (k l) := id rfl
@[simp] theorem r_wipe_nil : wipeE ρ [] = ρ := id rfl
@[simp] theorem r_wipe_cons (vs : List Nat) : wipeE ρ (i :: vs) = (wipeE ρ vs).set i .no := id rfl
@[simp] theorem r_forO_nil (F : D → Ev → Out) : forO F [] ρ = .nx ρ := id rfl
@[simp] theorem r_eComp (vs : List Nat) (fi : Ev → R (List D)) (g : D → Ev → Option Ev) (ft : Ev → R Bool) (fe : Ev → R D) : eComp vs fi g ft fe ρ = (fi ρ).bind fun l => if l.length ≤ sizeLine then compR (compS vs g ft fe ρ) l else .bad := id rfl
@[simp] theorem r_compR_nil (st : D → R (Option D)) : compR st [] = .ok [] := id rfl
/-! evaluations that change lists -/
@[simp] theorem rx_bind_ok (F : α → Ev → RX β) : (RX.ok a ρ).bind F = F a ρ := id rfl
@[simp] theorem rx_bind_bad (F : α → Ev → RX β) : (RX.bad : RX α).bind F = .bad := id rfl
@[simp] theorem rx_xl (f : Ev → R α) : xl f ρ = (match f ρ with | .ok a => .ok a ρ | _ => .bad) := id rfl
@[simp] theorem rx_of_some : ofX (some a) ρ = .ok a ρ := id rfl
@[simp] theorem rx_of_none : ofX (none : Option α) ρ = .bad := id rfl
@[simp] theorem rx_x1 (F : α → Option β) (f : Ev → RX α) : x1 F f ρ = (f ρ).bind fun x ρ => ofX (F x) ρ := id rfl
@[simp] theorem rx_x2 (F : α → β → Option γ) (f : Ev → RX α) (g : Ev → RX β) : x2 F f g ρ = (f ρ).bind fun x ρ => (g ρ).bind fun y ρ => ofX (F x y) ρ := id rfl
@[simp] theorem rx_xCons (f : Ev → RX D) (g : Ev → RX (List D)) : xCons f g ρ = (f ρ).bind fun x ρ => (g ρ).bind fun xs ρ => .ok (x :: xs) ρ := id rfl
@[simp] theorem rx_xLst (f : Ev → RX (List D)) : xLst f ρ = (f ρ).bind fun l ρ => .ok (.list l) ρ := id rfl
@[simp] theorem rx_xIf (c : Ev → RX Bool) (f g : Ev → RX α) : xIf c f g ρ = (c ρ).bind fun b ρ => if b then f ρ else g ρ := id rfl
@[simp] theorem rx_xAnd (f g : Ev → RX Bool) : xAnd f g ρ = (f ρ).bind fun b ρ => if b then g ρ else .ok false ρ := id rfl
@[simp] theorem rx_xOr (f g : Ev → RX Bool) : xOr f g ρ = (f ρ).bind fun b ρ => if b then .ok true ρ else g ρ := id rfl
@[simp] theorem rx_xNot (f : Ev → RX Bool) : xNot f ρ = (f ρ).bind fun b ρ => .ok (!b) ρ := id rfl
@[simp] theorem rx_xCall (m : List D → R SD) (fl : Ev → RX (List D)) : xCall m fl ρ = (fl ρ).bind fun ds ρ => match m ds with | .ok s => ofX (toD s) ρ | _ => .bad := id rfl
@[simp] theorem rx_xCallO (m : List D → R SD) (fl : Ev → RX (List D)) : xCallO m fl ρ = (fl ρ).bind fun ds ρ => match m ds with | .ok s => ofX (toL s) ρ | _ => .bad := id rfl
@[simp] theorem rx_lstAt : lstAt ρ i = (match ρ[i]? with | some (.ow l) => some (l, false) | some (.bo l) => some (l, true) | _ => none) := id rfl
@[simp] theorem rx_mkT : mkL true l = .bo l := id rfl
@[simp] theorem rx_mkF : mkL false l = .ow l := id rfl
@[simp] theorem rx_xPop : xPop i ρ = (match lstAt ρ i with | some (l, b) => (match l.getLast? with | some d => .ok d (ρ.set i (mkL b l.dropLast)) | none => .bad) | none => .bad) := id rfl
@[simp] theorem rx_xHere (f : Ev → RX (List D)) : xHere i f ρ = (match lstAt ρ i with | some _ => (f ρ).bind fun ds ρ => .ok (.none :: ds) ρ | none => .bad) := id rfl
@[simp] theorem rx_xCallB (m : List D → List D → RB) (f : Ev → RX (List D)) : xCallB m i f ρ = (f ρ).bind fun ds ρ => match lstAt ρ i with | some (l, k) => (match m l ds with | .ok r l' => ofX (toD r) (ρ.set i (mkL k l')) | .bad => .bad) | none => .bad := id rfl
@[simp] theorem rx_xCallBO (m : List D → List D → RB) (f : Ev → RX (List D)) : xCallBO m i f ρ = (f ρ).bind fun ds ρ => match lstAt ρ i with | some (l, k) => (match m l ds with | .ok r l' => ofX (toL r) (ρ.set i (mkL k l')) | .bad => .bad) | none => .bad := id rfl
@[simp] theorem rx_xComp (vs : List Nat) (fi : Ev → RX (List D)) (g : D → Ev → Option Ev) (ft : Ev → RX Bool) (fe : Ev → RX D) : xComp vs fi g ft fe ρ = (fi ρ).bind fun l ρ1 => if l.length ≤ sizeLine then compX (compXS vs g ft fe) l (wipeE ρ1 vs) else .bad := id rfl
@[simp] theorem rx_lift_ok (k : α → Ev → Out) : liftX (.ok a ρ) k = k a ρ := id rfl
@[simp] theorem rx_lift_bad (k : α → Ev → Out) : liftX .bad k = .bad := id rfl
@[simp] theorem ry_set (f : Ev → RX D) : ySet i f ρ = liftX (f ρ) fun d ρ => .nx (ρ.set i (.sh d)) := id rfl
@[simp] theorem ry_setO (f : Ev → RX (List D)) : ySetO i f ρ = liftX (f ρ) fun d ρ => .nx (ρ.set i (.ow d)) := id rfl
@[simp] theorem ry_asg (f : Ev → RX D) (g : D → Ev → Option Ev) : yAsg f g ρ = liftX (f ρ) fun d ρ => match g d ρ with | some ρ' => .nx ρ' | none => .bad := id rfl
@[simp] theorem ry_if (c : Ev → RX Bool) (F F' : Ev → Out) : yIf c F F' ρ = liftX (c ρ) fun b ρ => if b then F ρ else F' ρ := id rfl
@[simp] theorem ry_drop (f : Ev → RX D) : yDrop f ρ = liftX (f ρ) fun _ ρ => .nx ρ := id rfl
@[simp] theorem ry_ret (f : Ev → RX D) : yRet f ρ = liftX (f ρ) fun d ρ => .rt (.sh d) := id rfl
@[simp] theorem ry_retO (f : Ev → RX (List D)) : yRetO f ρ = liftX (f ρ) fun d ρ => .rt (.ow d) := id rfl
@[simp] theorem ry_retB (f : Ev → RX D) : yRetB f ρ = liftX (f ρ) fun d ρ => .rtB (.sh d) ρ := id rfl
@[simp] theorem ry_retOB (f : Ev → RX (List D)) : yRetOB f ρ = liftX (f ρ) fun d ρ => .rtB (.ow d) ρ := id rfl
@[simp] theorem ry_retVB : yRetVB i ρ = (match ρ[i]? with | some (.ow l) => .rtB (.ow l) ρ | some (.sh d) => .rtB (.sh d) ρ | _ => .bad) := id rfl
@[simp] theorem ry_retNB : yRetNB ρ = .rtB (.sh .none) ρ := id rfl
@[simp] theorem ry_for (fi : Ev → RX (List D)) (g : D → Ev → Option Ev) (F : Ev → Out) : yFor fi g F ρ = liftX (fi ρ) fun l ρ => forO (gTo g F) l ρ := id rfl
@[simp] theorem ry_app (f : Ev → RX D) : yApp i f ρ = (match lstAt ρ i with
  | none => .bad
  | some _ => liftX (f ρ) fun d ρ => match lstAt ρ i with
    | some (l, b) => if l.length < sizeLine then .nx (ρ.set i (mkL b (l ++ [d]))) else .bad
    | none => .bad) := id rfl
@[simp] theorem ry_store (fi fv : Ev → RX D) : yStore i fi fv ρ = liftX (fv ρ) fun d ρ => match lstAt ρ i with
  | none => .bad
  | some _ => liftX (fi ρ) fun k ρ => match lstAt ρ i with
    | some (l, b) => match k with
      | .int z => match ixN l.length z with
        | some j => .nx (ρ.set i (mkL b (l.set j d)))
        | none => .bad
      | _ => .bad
    | none => .bad := id rfl
@[simp] theorem rx_fin_rtB (b : Nat) : finB b (.rtB s ρ) = (match ρ[b]? with | some (.bo l) => .ok s l | _ => .bad) := id rfl
@[simp] theorem rx_fin_nx (b : Nat) : finB b (.nx ρ) = (match ρ[b]? with | some (.bo l) => .ok (.sh .none) l | _ => .bad) := id rfl
@[simp] theorem rx_run1 (n b : Nat) (F : Ev → Out) (a : D) (h : b < 1) : runB 1 n b F l [a] = finB b (F ((.sh a :: List.replicate (n - 1) .no).set b (.bo l))) := if_pos ⟨rfl, h⟩
@[simp] theorem rx_run2 (n b : Nat) (F : Ev → Out) (a c : D) (h : b < 2) : runB 2 n b F l [a, c] = finB b (F ((.sh a :: .sh c :: List.replicate (n - 2) .no).set b (.bo l))) := if_pos ⟨rfl, h⟩
@[simp] theorem rx_run3 (n b : Nat) (F : Ev → Out) (a c d : D) (h : b < 3) : runB 3 n b F l [a, c, d] = finB b (F ((.sh a :: .sh c :: .sh d :: List.replicate (n - 3) .no).set b (.bo l))) := if_pos ⟨rfl, h⟩
@[simp] theorem rx_run4 (n b : Nat) (F : Ev → Out) (a c d e : D) (h : b < 4) : runB 4 n b F l [a, c, d, e] = finB b (F ((.sh a :: .sh c :: .sh d :: .sh e :: List.replicate (n - 4) .no).set b (.bo l))) := if_pos ⟨rfl, h⟩
@[simp] theorem r_run0 (n : Nat) (F : Ev → Out) : runD 0 n F [] = fin (F (List.replicate n .no)) := id rfl
/-! defs -/
@[simp] theorem r_fin_nx : fin (.nx ρ) = .ok (.sh .none) := id rfl
@[simp] theorem r_fin_rt : fin (.rt s) = .ok s := id rfl
@[simp] theorem r_fin_ex (u : Xn) : fin (.ex u ρ) = .ex u := id rfl
@[simp] theorem r_run1 (n : Nat) (F : Ev → Out) (a : D) : runD 1 n F [a] = fin (F (.sh a :: List.replicate (n - 1) .no)) := id rfl
@[simp] theorem r_run2 (n : Nat) (F : Ev → Out) (a b : D) : runD 2 n F [a, b] = fin (F (.sh a :: .sh b :: List.replicate (n - 2) .no)) := id rfl
@[simp] theorem r_run3 (n : Nat) (F : Ev → Out) (a b c : D) : runD 3 n F [a, b, c] = fin (F (.sh a :: .sh b :: .sh c :: List.replicate (n - 3) .no)) := id rfl
@[simp] theorem r_run4 (n : Nat) (F : Ev → Out) (a b c d : D) : runD 4 n F [a, b, c, d] = fin (F (.sh a :: .sh b :: .sh c :: .sh d :: List.replicate (n - 4) .no)) := id rfl
/-! data -/
theorem r_lim (l : List D) (h : l.length ≤ sizeLine) : lim l = some l := if_pos h
theorem r_tupD (l : List D) (h : l.length ≤ sizeLine) : tupD l = some (.tuple l) := by unfold tupD; rw [r_lim l h]; rfl
@[simp] theorem r_lim0 : lim [] = some [] := if_pos (show 0 ≤ sizeLine by decide)
@[simp] theorem r_tup0 : tupD [] = some (.tuple []) := r_tupD [] (show 0 ≤ sizeLine by decide)
@[simp] theorem r_lim1 (a0 : D) : lim [a0] = some [a0] := if_pos (show 1 ≤ sizeLine by decide)
@[simp] theorem r_tup1 (a0 : D) : tupD [a0] = some (.tuple [a0]) := r_tupD [a0] (show 1 ≤ sizeLine by decide)
@[simp] theorem r_lim2 (a0 a1 : D) : lim [a0, a1] = some [a0, a1] := if_pos (show 2 ≤ sizeLine by decide)
@[simp] theorem r_tup2 (a0 a1 : D) : tupD [a0, a1] = some (.tuple [a0, a1]) := r_tupD [a0, a1] (show 2 ≤ sizeLine by decide)
@[simp] theorem r_lim3 (a0 a1 a2 : D) : lim [a0, a1, a2] = some [a0, a1, a2] := if_pos (show 3 ≤ sizeLine by decide)
@[simp] theorem r_tup3 (a0 a1 a2 : D) : tupD [a0, a1, a2] = some (.tuple [a0, a1, a2]) := r_tupD [a0, a1, a2] (show 3 ≤ sizeLine by decide)
@[simp] theorem r_lim4 (a0 a1 a2 a3 : D) : lim [a0, a1, a2, a3] = some [a0, a1, a2, a3] := if_pos (show 4 ≤ sizeLine by decide)
@[simp] theorem r_tup4 (a0 a1 a2 a3 : D) : tupD [a0, a1, a2, a3] = some (.tuple [a0, a1, a2, a3]) := r_tupD [a0, a1, a2, a3] (show 4 ≤ sizeLine by decide)
@[simp] theorem r_lim5 (a0 a1 a2 a3 a4 : D) : lim [a0, a1, a2, a3, a4] = some [a0, a1, a2, a3, a4] := if_pos (show 5 ≤ sizeLine by decide)
@[simp] theorem r_tup5 (a0 a1 a2 a3 a4 : D) : tupD [a0, a1, a2, a3, a4] = some (.tuple [a0, a1, a2, a3, a4]) := r_tupD [a0, a1, a2, a3, a4] (show 5 ≤ sizeLine by decide)
@[simp] theorem r_lim6 (a0 a1 a2 a3 a4 a5 : D) : lim [a0, a1, a2, a3, a4, a5] = some [a0, a1, a2, a3, a4, a5] := if_pos (show 6 ≤ sizeLine by decide)
@[simp] theorem r_tup6 (a0 a1 a2 a3 a4 a5 : D) : tupD [a0, a1, a2, a3, a4, a5] = some (.tuple [a0, a1, a2, a3, a4, a5]) := r_tupD [a0, a1, a2, a3, a4, a5] (show 6 ≤ sizeLine by decide)
@[simp] theorem r_lim7 (a0 a1 a2 a3 a4 a5 a6 : D) : lim [a0, a1, a2, a3, a4, a5, a6] = some [a0, a1, a2, a3, a4, a5, a6] := if_pos (show 7 ≤ sizeLine by decide)
@[simp] theorem r_tup7 (a0 a1 a2 a3 a4 a5 a6 : D) : tupD [a0, a1, a2, a3, a4, a5, a6] = some (.tuple [a0, a1, a2, a3, a4, a5, a6]) := r_tupD [a0, a1, a2, a3, a4, a5, a6] (show 7 ≤ sizeLine by decide)
@[simp] theorem r_lim8 (a0 a1 a2 a3 a4 a5 a6 a7 : D) : lim [a0, a1, a2, a3, a4, a5, a6, a7] = some [a0, a1, a2, a3, a4, a5, a6, a7] := if_pos (show 8 ≤ sizeLine by decide)
@[simp] theorem r_tup8 (a0 a1 a2 a3 a4 a5 a6 a7 : D) : tupD [a0, a1, a2, a3, a4, a5, a6, a7] = some (.tuple [a0, a1, a2, a3, a4, a5, a6, a7]) := r_tupD [a0, a1, a2, a3, a4, a5, a6, a7] (show 8 ≤ sizeLine by decide)
@[simp] theorem r_lim9 (a0 a1 a2 a3 a4 a5 a6 a7 a8 : D) : lim [a0, a1, a2, a3, a4, a5, a6, a7, a8] = some [a0, a1, a2, a3, a4, a5, a6, a7, a8] := if_pos (show 9 ≤ sizeLine by decide)
@[simp] theorem r_tup9 (a0 a1 a2 a3 a4 a5 a6 a7 a8 : D) : tupD [a0, a1, a2, a3, a4, a5, a6, a7, a8] = some (.tuple [a0, a1, a2, a3, a4, a5, a6, a7, a8]) := r_tupD [a0, a1, a2, a3, a4, a5, a6, a7, a8] (show 9 ≤ sizeLine by decide)
@[simp] theorem r_lim10 (a0 a1 a2 a3 a4 a5 a6 a7 a8 a9 : D) : lim [a0, a1, a2, a3, a4, a5, a6, a7, a8, a9] = some [a0, a1, a2, a3, a4, a5, a6, a7, a8, a9] := if_pos (show 10 ≤ sizeLine by decide)
@[simp] theorem r_tup10 (a0 a1 a2 a3 a4 a5 a6 a7 a8 a9 : D) : tupD [a0, a1, a2, a3, a4, a5, a6, a7, a8, a9] = some (.tuple [a0, a1, a2, a3, a4, a5, a6, a7, a8, a9]) := r_tupD [a0, a1, a2, a3, a4, a5, a6, a7, a8, a9] (show 10 ≤ sizeLine by decide)
@[simp] theorem r_lim11 (a0 a1 a2 a3 a4 a5 a6 a7 a8 a9 a10 : D) : lim [a0, a1, a2, a3, a4, a5, a6, a7, a8, a9, a10] = some [a0, a1, a2, a3, a4, a5, a6, a7, a8, a9, a10] := if_pos (show 11 ≤ sizeLine by decide)
@[simp] theorem r_tup11 (a0 a1 a2 a3 a4 a5 a6 a7 a8 a9 a10 : D) : tupD [a0, a1, a2, a3, a4, a5, a6, a7, a8, a9, a10] = some (.tuple [a0, a1, a2, a3, a4, a5, a6, a7, a8, a9, a10]) := r_tupD [a0, a1, a2, a3, a4, a5, a6, a7, a8, a9, a10] (show 11 ≤ sizeLine by decide)
@[simp] theorem r_lim12 (a0 a1 a2 a3 a4 a5 a6 a7 a8 a9 a10 a11 : D) : lim [a0, a1, a2, a3, a4, a5, a6, a7, a8, a9, a10, a11] = some [a0, a1, a2, a3, a4, a5, a6, a7, a8, a9, a10, a11] := if_pos (show 12 ≤ sizeLine by decide)
@[simp] theorem r_tup12 (a0 a1 a2 a3 a4 a5 a6 a7 a8 a9 a10 a11 : D) : tupD [a0, a1, a2, a3, a4, a5, a6, a7, a8, a9, a10, a11] = some (.tuple [a0, a1, a2, a3, a4, a5, a6, a7, a8, a9, a10, a11]) := r_tupD [a0, a1, a2, a3, a4, a5, a6, a7, a8, a9, a10, a11] (show 12 ≤ sizeLine by decide)
@[simp] theorem r_lim13 (a0 a1 a2 a3 a4 a5 a6 a7 a8 a9 a10 a11 a12 : D) : lim [a0, a1, a2, a3, a4, a5, a6, a7, a8, a9, a10, a11, a12] = some [a0, a1, a2, a3, a4, a5, a6, a7, a8, a9, a10, a11, a12] := if_pos (show 13 ≤ sizeLine by decide)
@[simp] theorem r_tup13 (a0 a1 a2 a3 a4 a5 a6 a7 a8 a9 a10 a11 a12 : D) : tupD [a0, a1, a2, a3, a4, a5, a6, a7, a8, a9, a10, a11, a12] = some (.tuple [a0, a1, a2, a3, a4, a5, a6, a7, a8, a9, a10, a11, a12]) := r_tupD [a0, a1, a2, a3, a4, a5, a6, a7, a8, a9, a10, a11, a12] (show 13 ≤ sizeLine by decide)
@[simp] theorem r_lim14 (a0 a1 a2 a3 a4 a5 a6 a7 a8 a9 a10 a11 a12 a13 : D) : lim [a0, a1, a2, a3, a4, a5, a6, a7, a8, a9, a10, a11, a12, a13] = some [a0, a1, a2, a3, a4, a5, a6, a7, a8, a9, a10, a11, a12, a13] := if_pos (show 14 ≤ sizeLine by decide)
@[simp] theorem r_tup14 (a0 a1 a2 a3 a4 a5 a6 a7 a8 a9 a10 a11 a12 a13 : D) : tupD [a0, a1, a2, a3, a4, a5, a6, a7, a8, a9, a10, a11, a12, a13] = some (.tuple [a0, a1, a2, a3, a4, a5, a6, a7, a8, a9, a10, a11, a12, a13]) := r_tupD [a0, a1, a2, a3, a4, a5, a6, a7, a8, a9, a10, a11, a12, a13] (show 14 ≤ sizeLine by decide)
@[simp] theorem r_lim15 (a0 a1 a2 a3 a4 a5 a6 a7 a8 a9 a10 a11 a12 a13 a14 : D) : lim [a0, a1, a2, a3, a4, a5, a6, a7, a8, a9, a10, a11, a12, a13, a14] = some [a0, a1, a2, a3, a4, a5, a6, a7, a8, a9, a10, a11, a12, a13, a14] := if_pos (show 15 ≤ sizeLine by decide)
@[simp] theorem r_tup15 (a0 a1 a2 a3 a4 a5 a6 a7 a8 a9 a10 a11 a12 a13 a14 : D) : tupD [a0, a1, a2, a3, a4, a5, a6, a7, a8, a9, a10, a11, a12, a13, a14] = some (.tuple [a0, a1, a2, a3, a4, a5, a6, a7, a8, a9, a10, a11, a12, a13, a14]) := r_tupD [a0, a1, a2, a3, a4, a5, a6, a7, a8, a9, a10, a11, a12, a13, a14] (show 15 ≤ sizeLine by decide)
@[simp] theorem r_lim16 (a0 a1 a2 a3 a4 a5 a6 a7 a8 a9 a10 a11 a12 a13 a14 a15 : D) : lim [a0, a1, a2, a3, a4, a5, a6, a7, a8, a9, a10, a11, a12, a13, a14, a15] = some [a0, a1, a2, a3, a4, a5, a6, a7, a8, a9, a10, a11, a12, a13, a14, a15] := if_pos (show 16 ≤ sizeLine by decide)
@[simp] theorem r_tup16 (a0 a1 a2 a3 a4 a5 a6 a7 a8 a9 a10 a11 a12 a13 a14 a15 : D) : tupD [a0, a1, a2, a3, a4, a5, a6, a7, a8, a9, a10, a11, a12, a13, a14, a15] = some (.tuple [a0, a1, a2, a3, a4, a5, a6, a7, a8, a9, a10, a11, a12, a13, a14, a15]) := r_tupD [a0, a1, a2, a3, a4, a5, a6, a7, a8, a9, a10, a11, a12, a13, a14, a15] (show 16 ≤ sizeLine by decide)
@[simp] theorem r_lim17 (a0 a1 a2 a3 a4 a5 a6 a7 a8 a9 a10 a11 a12 a13 a14 a15 a16 : D) : lim [a0, a1, a2, a3, a4, a5, a6, a7, a8, a9, a10, a11, a12, a13, a14, a15, a16] = some [a0, a1, a2, a3, a4, a5, a6, a7, a8, a9, a10, a11, a12, a13, a14, a15, a16] := if_pos (show 17 ≤ sizeLine by decide)
@[simp] theorem r_tup17 (a0 a1 a2 a3 a4 a5 a6 a7 a8 a9 a10 a11 a12 a13 a14 a15 a16 : D) : tupD [a0, a1, a2, a3, a4, a5, a6, a7, a8, a9, a10, a11, a12, a13, a14, a15, a16] = some (.tuple [a0, a1, a2, a3, a4, a5, a6, a7, a8, a9, a10, a11, a12, a13, a14, a15, a16]) := r_tupD [a0, a1, a2, a3, a4, a5, a6, a7, a8, a9, a10, a11, a12, a13, a14, a15, a16] (show 17 ≤ sizeLine by decide)
@[simp] theorem r_lim18 (a0 a1 a2 a3 a4 a5 a6 a7 a8 a9 a10 a11 a12 a13 a14 a15 a16 a17 : D) : lim [a0, a1, a2, a3, a4, a5, a6, a7, a8, a9, a10, a11, a12, a13, a14, a15, a16, a17] = some [a0, a1, a2, a3, a4, a5, a6, a7, a8, a9, a10, a11, a12, a13, a14, a15, a16, a17] := if_pos (show 18 ≤ sizeLine by decide)
@[simp] theorem r_tup18 (a0 a1 a2 a3 a4 a5 a6 a7 a8 a9 a10 a11 a12 a13 a14 a15 a16 a17 : D) : tupD [a0, a1, a2, a3, a4, a5, a6, a7, a8, a9, a10, a11, a12, a13, a14, a15, a16, a17] = some (.tuple [a0, a1, a2, a3, a4, a5, a6, a7, a8, a9, a10, a11, a12, a13, a14, a15, a16, a17]) := r_tupD [a0, a1, a2, a3, a4, a5, a6, a7, a8, a9, a10, a11, a12, a13, a14, a15, a16, a17] (show 18 ≤ sizeLine by decide)
@[simp] theorem r_lim19 (a0 a1 a2 a3 a4 a5 a6 a7 a8 a9 a10 a11 a12 a13 a14 a15 a16 a17 a18 : D) : lim [a0, a1, a2, a3, a4, a5, a6, a7, a8, a9, a10, a11, a12, a13, a14, a15, a16, a17, a18] = some [a0, a1, a2, a3, a4, a5, a6, a7, a8, a9, a10, a11, a12, a13, a14, a15, a16, a17, a18] := if_pos (show 19 ≤ sizeLine by decide)
@[simp] theorem r_tup19 (a0 a1 a2 a3 a4 a5 a6 a7 a8 a9 a10 a11 a12 a13 a14 a15 a16 a17 a18 : D) : tupD [a0, a1, a2, a3, a4, a5, a6, a7, a8, a9, a10, a11, a12, a13, a14, a15, a16, a17, a18] = some (.tuple [a0, a1, a2, a3, a4, a5, a6, a7, a8, a9, a10, a11, a12, a13, a14, a15, a16, a17, a18]) := r_tupD [a0, a1, a2, a3, a4, a5, a6, a7, a8, a9, a10, a11, a12, a13, a14, a15, a16, a17, a18] (show 19 ≤ sizeLine by decide)
@[simp] theorem r_lim20 (a0 a1 a2 a3 a4 a5 a6 a7 a8 a9 a10 a11 a12 a13 a14 a15 a16 a17 a18 a19 : D) : lim [a0, a1, a2, a3, a4, a5, a6, a7, a8, a9, a10, a11, a12, a13, a14, a15, a16, a17, a18, a19] = some [a0, a1, a2, a3, a4, a5, a6, a7, a8, a9, a10, a11, a12, a13, a14, a15, a16, a17, a18, a19] := if_pos (show 20 ≤ sizeLine by decide)
@[simp] theorem r_tup20 (a0 a1 a2 a3 a4 a5 a6 a7 a8 a9 a10 a11 a12 a13 a14 a15 a16 a17 a18 a19 : D) : tupD [a0, a1, a2, a3, a4, a5, a6, a7, a8, a9, a10, a11, a12, a13, a14, a15, a16, a17, a18, a19] = some (.tuple [a0, a1, a2, a3, a4, a5, a6, a7, a8, a9, a10, a11, a12, a13, a14, a15, a16, a17, a18, a19]) := r_tupD [a0, a1, a2, a3, a4, a5, a6, a7, a8, a9, a10, a11, a12, a13, a14, a15, a16, a17, a18, a19] (show 20 ≤ sizeLine by decide)
@[simp] theorem r_lim21 (a0 a1 a2 a3 a4 a5 a6 a7 a8 a9 a10 a11 a12 a13 a14 a15 a16 a17 a18 a19 a20 : D) : lim [a0, a1, a2, a3, a4, a5, a6, a7, a8, a9, a10, a11, a12, a13, a14, a15, a16, a17, a18, a19, a20] = some [a0, a1, a2, a3, a4, a5, a6, a7, a8, a9, a10, a11, a12, a13, a14, a15, a16, a17, a18, a19, a20] := if_pos (show 21 ≤ sizeLine by decide)
@[simp] theorem r_tup21 (a0 a1 a2 a3 a4 a5 a6 a7 a8 a9 a10 a11 a12 a13 a14 a15 a16 a17 a18 a19 a20 : D) : tupD [a0, a1, a2, a3, a4, a5, a6, a7, a8, a9, a10, a11, a12, a13, a14, a15, a16, a17, a18, a19, a20] = some (.tuple [a0, a1, a2, a3, a4, a5, a6, a7, a8, a9, a10, a11, a12, a13, a14, a15, a16, a17, a18, a19, a20]) := r_tupD [a0, a1, a2, a3, a4, a5, a6, a7, a8, a9, a10, a11, a12, a13, a14, a15, a16, a17, a18, a19, a20] (show 21 ≤ sizeLine by decide)
@[simp] theorem r_lim22 (a0 a1 a2 a3 a4 a5 a6 a7 a8 a9 a10 a11 a12 a13 a14 a15 a16 a17 a18 a19 a20 a21 : D) : lim [a0, a1, a2, a3, a4, a5, a6, a7, a8, a9, a10, a11, a12, a13, a14, a15, a16, a17, a18, a19, a20, a21] = some [a0, a1, a2, a3, a4, a5, a6, a7, a8, a9, a10, a11, a12, a13, a14, a15, a16, a17, a18, a19, a20, a21] := if_pos (show 22 ≤ sizeLine by decide)
@[simp] theorem r_tup22 (a0 a1 a2 a3 a4 a5 a6 a7 a8 a9 a10 a11 a12 a13 a14 a15 a16 a17 a18 a19 a20 a21 : D) : tupD [a0, a1, a2, a3, a4, a5, a6, a7, a8, a9, a10, a11, a12, a13, a14, a15, a16, a17, a18, a19, a20, a21] = some (.tuple [a0, a1, a2, a3, a4, a5, a6, a7, a8, a9, a10, a11, a12, a13, a14, a15, a16, a17, a18, a19, a20, a21]) := r_tupD [a0, a1, a2, a3, a4, a5, a6, a7, a8, a9, a10, a11, a12, a13, a14, a15, a16, a17, a18, a19, a20, a21] (show 22 ≤ sizeLine by decide)
@[simp] theorem r_lim23 (a0 a1 a2 a3 a4 a5 a6 a7 a8 a9 a10 a11 a12 a13 a14 a15 a16 a17 a18 a19 a20 a21 a22 : D) : lim [a0, a1, a2, a3, a4, a5, a6, a7, a8, a9, a10, a11, a12, a13, a14, a15, a16, a17, a18, a19, a20, a21, a22] = some [a0, a1, a2, a3, a4, a5, a6, a7, a8, a9, a10, a11, a12, a13, a14, a15, a16, a17, a18, a19, a20, a21, a22] := if_pos (show 23 ≤ sizeLine by decide)
@[simp] theorem r_tup23 (a0 a1 a2 a3 a4 a5 a6 a7 a8 a9 a10 a11 a12 a13 a14 a15 a16 a17 a18 a19 a20 a21 a22 : D) : tupD [a0, a1, a2, a3, a4, a5, a6, a7, a8, a9, a10, a11, a12, a13, a14, a15, a16, a17, a18, a19, a20, a21, a22] = some (.tuple [a0, a1, a2, a3, a4, a5, a6, a7, a8, a9, a10, a11, a12, a13, a14, a15, a16, a17, a18, a19, a20, a21, a22]) := r_tupD [a0, a1, a2, a3, a4, a5, a6, a7, a8, a9, a10, a11, a12, a13, a14, a15, a16, a17, a18, a19, a20, a21, a22] (show 23 ≤ sizeLine by decide)
@[simp] theorem r_lim24 (a0 a1 a2 a3 a4 a5 a6 a7 a8 a9 a10 a11 a12 a13 a14 a15 a16 a17 a18 a19 a20 a21 a22 a23 : D) : lim [a0, a1, a2, a3, a4, a5, a6, a7, a8, a9, a10, a11, a12, a13, a14, a15, a16, a17, a18, a19, a20, a21, a22, a23] = some [a0, a1, a2, a3, a4, a5, a6, a7, a8, a9, a10, a11, a12, a13, a14, a15, a16, a17, a18, a19, a20, a21, a22, a23] := if_pos (show 24 ≤ sizeLine by decide)
@[simp] theorem r_tup24 (a0 a1 a2 a3 a4 a5 a6 a7 a8 a9 a10 a11 a12 a13 a14 a15 a16 a17 a18 a19 a20 a21 a22 a23 : D) : tupD [a0, a1, a2, a3, a4, a5, a6, a7, a8, a9, a10, a11, a12, a13, a14, a15, a16, a17, a18, a19, a20, a21, a22, a23] = some (.tuple [a0, a1, a2, a3, a4, a5, a6, a7, a8, a9, a10, a11, a12, a13, a14, a15, a16, a17, a18, a19, a20, a21, a22, a23]) := r_tupD [a0, a1, a2, a3, a4, a5, a6, a7, a8, a9, a10, a11, a12, a13, a14, a15, a16, a17, a18, a19, a20, a21, a22, a23] (show 24 ≤ sizeLine by decide)
@[simp] theorem r_tru_b : truD (.bool b) = some b := id rfl
@[simp] theorem r_tru_i : truD (.int x) = some (x != 0) := id rfl
@[simp] theorem r_tru_l : truD (.list l) = some (!l.isEmpty) := id rfl
@[simp] theorem r_tru_t : truD (.tuple l) = some (!l.isEmpty) := id rfl
@[simp] theorem r_tru_n : truD .none = some false := id rfl
@[simp] theorem r_bOf : bOf (.bool b) = some b := id rfl
@[simp] theorem r_add : addD (.int x) (.int y) = some (.int (x + y)) := id rfl
@[simp] theorem r_addL : addD (.list l) (.list m) = (catD l m).map .list := id rfl
@[simp] theorem r_addO : addO (.list l) (.list m) = catD l m := id rfl
@[simp] theorem r_cat (h : l.length + m.length ≤ sizeLine) : catD l m = some (l ++ m) := if_pos h
@[simp] theorem r_sub : subD (.int x) (.int y) = some (.int (x - y)) := id rfl
@[simp] theorem r_mul (h : okMul x y = true) : mulD (.int x) (.int y) = some (.int (x * y)) := if_pos h
@[simp] theorem r_imul (h : okMul x y = true) : imulD (.int x) (.int y) = some (.int (x * y)) := if_pos h
@[simp] theorem r_mulL : mulD (.list l) (.int x) = (repD l x).map .list := id rfl
@[simp] theorem r_mulO : mulO (.list l) (.int x) = repD l x := id rfl
@[simp] theorem r_iadd : iaddD (.int x) (.int y) = some (.int (x + y)) := id rfl
@[simp] theorem r_fdiv (h : okDiv x y = true) : fdivD (.int x) (.int y) = some (.int (x.fdiv y)) := if_pos h
@[simp] theorem r_mod (h : y ≠ 0) : modD (.int x) (.int y) = some (.int (x.fmod y)) := if_pos h
@[simp] theorem r_pow (h : okPow x y = true) : powD (.int x) (.int y) = some (.int (x ^ y.toNat)) := if_pos h
@[simp] theorem r_lt : ltD (.int x) (.int y) = some (.bool (decide (x < y))) := id rfl
@[simp] theorem r_le : leD (.int x) (.int y) = some (.bool (decide (x ≤ y))) := id rfl
@[simp] theorem r_gt : gtD (.int x) (.int y) = some (.bool (decide (y < x))) := id rfl
@[simp] theorem r_ge : geD (.int x) (.int y) = some (.bool (decide (y ≤ x))) := id rfl
@[simp] theorem r_neg : negD (.int x) = some (.int (-x)) := id rfl
@[simp] theorem r_not : notD d = (truD d).map fun k => .bool (!k) := id rfl
@[simp] theorem r_len_l : lenD [.list l] = some (.int l.length) := id rfl
@[simp] theorem r_len_t : lenD [.tuple l] = some (.int l.length) := id rfl
@[simp] theorem r_int_i : intD [.int x] = some (.int x) := id rfl
@[simp] theorem r_int_b : intD [.bool b] = some (.int (if b then 1 else 0)) := id rfl
@[simp] theorem r_abs : absD [.int x] = some (.int (if x < 0 then -x else x)) := id rfl
@[simp] theorem r_gcd : gcdD [.int x, .int y] = some (.int ((Nat.gcd x.natAbs y.natAbs : Nat) : Int)) := id rfl
@[simp] theorem r_all : allD [.list l] = (blsD l).map fun bs => .bool (bs.all id) := id rfl
@[simp] theorem r_any : anyD [.list l] = (blsD l).map fun bs => .bool (bs.any id) := id rfl
@[simp] theorem r_sum : sumD [.list l] = (intsD l).map fun bs => .int bs.sum := id rfl
@[simp] theorem r_bls (bs : List Bool) : blsD (bs.map .bool) = some bs := blsD_map bs
@[simp] theorem r_ints (bs : List Int) : intsD (bs.map .int) = some bs := intsD_map bs
@[simp] theorem r_bls_nil : blsD [] = some [] := id rfl
@[simp] theorem r_bls_cons : blsD (.bool b :: l) = (blsD l).map (b :: ·) := id rfl
@[simp] theorem r_ints_nil : intsD [] = some [] := id rfl
@[simp] theorem r_ints_cons : intsD (.int x :: l) = (intsD l).map (x :: ·) := id rfl
@[simp] theorem r_listO : listO [.list l] = some l := id rfl
@[simp] theorem r_listOt : listO [.tuple l] = some l := id rfl
@[simp] theorem r_tupleD : tupleD [.list l] = some (.tuple l) := id rfl
@[simp] theorem r_tupleDt : tupleD [.tuple l] = some (.tuple l) := id rfl
@[simp] theorem r_sPopX : sPopX j ρ = onOw j ρ fun l => match l.getLast? with
  | some _ => .nx (ρ.set j (.ow l.dropLast))
  | none => .bad := id rfl
@[simp] theorem r_strI (h : x.natAbs.log2 < 1920) : strD [.int x] = some (.str (toString x)) := if_pos h
@[simp] theorem r_strS (u : Str) : strD [.str u] = some (.str u) := id rfl
@[simp] theorem r_eDSel (ks : List Str) (fs : Ev → R (List D)) (fk : Ev → R D) : eDSel ks fs fk ρ = (fs ρ).bind fun ds => (fk ρ).bind fun k => ofO (selD ks ds k) := id rfl
@[simp] theorem r_seq_l : seqD (.list l) = some l := id rfl
@[simp] theorem r_seq_t : seqD (.tuple l) = some l := id rfl
@[simp] theorem r_enu : enuD [.list l] = some (enuL l) := id rfl
@[simp] theorem r_zip : zipD [.list l, .list m] = some (zipL l m) := id rfl
@[simp] theorem r_intOf : intOf (.int x) = some (some x) := id rfl
@[simp] theorem r_slice (o o' : Option Int) : sliceD (.list l) o o' = some (.list (cutL l o o')) := id rfl
@[simp] theorem r_sliceT (o o' : Option Int) : sliceD (.tuple l) o o' = some (.tuple (cutL l o o')) := id rfl
@[simp] theorem r_sliceO (o o' : Option Int) : sliceO (.list l) o o' = some (cutL l o o') := id rfl
@[simp] theorem r_revO : revO (.list l) = some l.reverse := id rfl
@[simp] theorem r_ix_l : ixD (.list l) (.int x) = atI l x := id rfl
@[simp] theorem r_ix_t : ixD (.tuple l) (.int x) = atI l x := id rfl
theorem r_at (n : Nat) : atI l (n : Int) = l[n]? := by
  unfold atI ixN
  by_cases h : n < l.length
  · rw [if_pos (by omega), if_pos (by omega)]; simp
  · rw [if_pos (by omega), if_neg (by omega), List.getElem?_eq_none (by omega)]; rfl
@[simp] theorem r_atI (h0 : 0 ≤ x) : atI l x = l[x.toNat]? := by
  have := r_at (l := l) x.toNat
  rwa [Int.toNat_of_nonneg h0] at this
@[simp] theorem r_at_last : atI (l ++ [d]) (-1 : Int) = some d := by
  unfold atI ixN
  have e : ((-1 : Int) + ((l ++ [d]).length : Nat)).toNat = l.length := by simp; omega
  rw [if_neg (by decide), if_pos (by simp; omega), e]
  simp
theorem range1_ok (h : x < 2 ^ 62) (h0 : -(2 ^ 62) ≤ x) : range1D [.int x] = some (rngL 0 1 x.toNat) := by
  show (if in62 x then _ else _) = _
  rw [if_pos (show in62 x = true from decide_eq_true ⟨h0, h⟩)]
end

/-! ### sizes -/
/-- |i| < 2^k -/
structure Sz (k : Nat) (i : Int) : Prop where
  lt : i.natAbs < 2 ^ k
section
variable {a b k m : Nat} {i j : Int}
theorem Sz.mono (h : Sz a i) (l : a ≤ b) : Sz b i := ⟨Nat.lt_of_lt_of_le h.lt (Nat.pow_le_pow_right (by decide) l)⟩
theorem Sz.neg (h : Sz a i) : Sz a (-i) := ⟨by rw [Int.natAbs_neg]; exact h.lt⟩
theorem Sz.mul (h : Sz a i) (h' : Sz b j) : Sz (a + b) (i * j) := ⟨by
  rw [Int.natAbs_mul, Nat.pow_add]
  exact Nat.mul_lt_mul'' h.lt h'.lt⟩
theorem Sz.add (h : Sz a i) (h' : Sz a j) : Sz (a + 1) (i + j) := ⟨by
  rw [Nat.pow_succ]
  have := Int.natAbs_add_le i j
  have := h.lt
  have := h'.lt
  omega⟩
theorem Sz.sub (h : Sz a i) (h' : Sz a j) : Sz (a + 1) (i - j) := by
  rw [Int.sub_eq_add_neg]; exact h.add h'.neg
theorem Sz.of_le (h : Sz a i) (l : j.natAbs ≤ i.natAbs) : Sz a j := ⟨Nat.lt_of_le_of_lt l h.lt⟩
theorem fdiv_abs (i j : Int) : (i.fdiv j).natAbs ≤ i.natAbs := Int.natAbs_fdiv_le_natAbs i j
theorem Sz.fdiv (h : Sz a i) : Sz a (i.fdiv j) := h.of_le (fdiv_abs i j)
theorem Sz.lit (h : decide (i.natAbs < 2 ^ a) = true) : Sz a i := ⟨(of_decide_eq_true h : i.natAbs < 2 ^ a)⟩
theorem bits_le (h : Sz k i) : Builtin.Int.intBits i ≤ k := by
  unfold Builtin.Int.intBits
  have := h.lt
  split
  · omega
  · rename_i z
    have hz : i.natAbs ≠ 0 := by simpa using z
    have := (Nat.log2_lt hz).mpr this
    omega
theorem sz_bits (h : Builtin.Int.intBits i ≤ k) : Sz k i := by
  unfold Builtin.Int.intBits at h
  split at h
  · rename_i e
    simp at e; subst e
    exact ⟨Nat.two_pow_pos _⟩
  · rename_i e
    exact ⟨(Nat.log2_lt (by simpa using e)).mp (by omega)⟩
theorem okMul_of (h : Sz a i) (h' : Sz b j) (l : a + b ≤ 134217728) : okMul i j = true := by
  have e1 := bits_le h
  have e2 := bits_le h'
  unfold okMul
  exact decide_eq_true (by omega)
theorem okDiv_of (h : Sz 9000 j) (hj : j ≠ 0) : okDiv i j = true := by
  have hz : j.natAbs ≠ 0 := by omega
  have := (Nat.log2_lt hz).mpr h.lt
  unfold okDiv Builtin.divisionGoesByPylong
  have e : ¬ (300 < j.natAbs.log2 / 30 + 1) := by omega
  simp [hj, e]
theorem okDiv_lit (h : decide (j.natAbs < 2 ^ 64) = true) (hj : j ≠ 0) : okDiv i j = true := okDiv_of ((Sz.lit (a := 64) h).mono (by decide)) hj
end

/-- for omega -/
theorem Sz.of {k : Nat} {i : Int} (c : Nat) (h : -(c : Int) < i) (h' : i < c) (hc : decide (c ≤ 2 ^ k) = true) : Sz k i := ⟨Nat.lt_of_lt_of_le (by omega : i.natAbs < c) (of_decide_eq_true hc)⟩
theorem r_mulS {x y : Int} (h1 : -1000000000000000000000000 < x) (h2 : x < 1000000000000000000000000) (h3 : -1000000000000000000000000 < y) (h4 : y < 1000000000000000000000000) : mulD (.int x) (.int y) = some (.int (x * y)) :=
  r_mul (okMul_of (a := 80) (b := 80) (Sz.of 1000000000000000000000000 h1 h2 (by decide)) (Sz.of 1000000000000000000000000 h3 h4 (by decide)) (by decide))
/-! ### draws -/
structure IsDraws (c : Nat) (xs : List Int) : Prop where
  len : xs.length = c
  lo : ∀ x ∈ xs, 0 ≤ x
  hi : ∀ x ∈ xs, x < 1000
def gI (xs : List Int) (i : Nat) : Int := xs.getD i 0
section
variable {c : Nat} {xs : List Int}
theorem IsDraws.get (h : IsDraws c xs) (i : Nat) (hi : i < c) : xs[i]? = some (gI xs i) := by
  unfold gI
  rw [List.getD_eq_getElem?_getD, List.getElem?_eq_getElem (by rw [h.len]; exact hi)]; rfl
theorem cut_map {α : Type} (F : α → D) (xs : List α) (lo hi : Option Int) : cutL (xs.map F) lo hi = ((xs.drop (HT.sIx xs.length 0 lo)).take (HT.sIx xs.length xs.length hi - HT.sIx xs.length 0 lo)).map F := by
  unfold cutL; rw [List.length_map, List.map_take, List.map_drop]
theorem sIx_in {n d : Nat} {v : Int} (h0 : 0 ≤ v) (h : v ≤ n) : HT.sIx n d (some v) = v.toNat := by
  show (if v < 0 then (v + (n : Int)).toNat else min v.toNat n) = _
  rw [if_neg (by omega)]; omega
theorem IsDraws.sub (h : IsDraws c xs) (a b : Nat) (hb : b ≤ c) (hab : a ≤ b) : IsDraws (b - a) ((xs.drop a).take (b - a)) := ⟨by simp [h.len]; omega, fun x hx => h.lo x (List.mem_of_mem_drop (List.mem_of_mem_take hx)), fun x hx => h.hi x (List.mem_of_mem_drop (List.mem_of_mem_take hx))⟩
end
@[simp] theorem kit_bool_bool : kitB "bool" "bool" = some true := by decide +kernel
@[simp] theorem kit_bool_int : kitB "bool" "int" = some true := by decide +kernel
@[simp] theorem kit_bool_str : kitB "bool" "str" = some false := by decide +kernel
@[simp] theorem kit_bool_list : kitB "bool" "list" = some false := by decide +kernel
@[simp] theorem kit_bool_tuple : kitB "bool" "tuple" = some false := by decide +kernel
@[simp] theorem kit_int_bool : kitB "int" "bool" = some false := by decide +kernel
@[simp] theorem kit_int_int : kitB "int" "int" = some true := by decide +kernel
@[simp] theorem kit_int_str : kitB "int" "str" = some false := by decide +kernel
@[simp] theorem kit_int_list : kitB "int" "list" = some false := by decide +kernel
@[simp] theorem kit_int_tuple : kitB "int" "tuple" = some false := by decide +kernel
@[simp] theorem kit_str_bool : kitB "str" "bool" = some false := by decide +kernel
@[simp] theorem kit_str_int : kitB "str" "int" = some false := by decide +kernel
@[simp] theorem kit_str_str : kitB "str" "str" = some true := by decide +kernel
@[simp] theorem kit_str_list : kitB "str" "list" = some false := by decide +kernel
@[simp] theorem kit_str_tuple : kitB "str" "tuple" = some false := by decide +kernel
@[simp] theorem kit_list_bool : kitB "list" "bool" = some false := by decide +kernel
@[simp] theorem kit_list_int : kitB "list" "int" = some false := by decide +kernel
@[simp] theorem kit_list_str : kitB "list" "str" = some false := by decide +kernel
@[simp] theorem kit_list_list : kitB "list" "list" = some true := by decide +kernel
@[simp] theorem kit_list_tuple : kitB "list" "tuple" = some false := by decide +kernel
@[simp] theorem kit_tuple_bool : kitB "tuple" "bool" = some false := by decide +kernel
@[simp] theorem kit_tuple_int : kitB "tuple" "int" = some false := by decide +kernel
@[simp] theorem kit_tuple_str : kitB "tuple" "str" = some false := by decide +kernel
@[simp] theorem kit_tuple_list : kitB "tuple" "list" = some false := by decide +kernel
@[simp] theorem kit_tuple_tuple : kitB "tuple" "tuple" = some true := by decide +kernel
@[simp] theorem kit_NoneType_bool : kitB "NoneType" "bool" = some false := by decide +kernel
@[simp] theorem kit_NoneType_int : kitB "NoneType" "int" = some false := by decide +kernel
@[simp] theorem kit_NoneType_str : kitB "NoneType" "str" = some false := by decide +kernel
@[simp] theorem kit_NoneType_list : kitB "NoneType" "list" = some false := by decide +kernel
@[simp] theorem kit_NoneType_tuple : kitB "NoneType" "tuple" = some false := by decide +kernel
@[simp] theorem isi_bool (n : String) (b : Bool) : isiD n (.bool b) = (kitB "bool" n).map .bool := rfl
@[simp] theorem isi_int (n : String) (b : Int) : isiD n (.int b) = (kitB "int" n).map .bool := rfl
@[simp] theorem isi_str (n : String) (b : Str) : isiD n (.str b) = (kitB "str" n).map .bool := rfl
@[simp] theorem isi_list (n : String) (b : List D) : isiD n (.list b) = (kitB "list" n).map .bool := rfl
@[simp] theorem isi_tup (n : String) (b : List D) : isiD n (.tuple b) = (kitB "tuple" n).map .bool := rfl
@[simp] theorem isi_none (n : String) : isiD n .none = (kitB "NoneType" n).map .bool := rfl

/-! ### loops -/
theorem forO_gen {F : D → Ev → Out} (J : Out → Prop) : ∀ {l : List D} (I : Nat → Ev → Prop) {ρ : Ev}, I 0 ρ →
    (∀ i d ρ, l[i]? = some d → I i ρ → (∃ ρ', (F d ρ = .nx ρ' ∨ F d ρ = .ct ρ') ∧ I (i + 1) ρ') ∨ (∃ ρ', F d ρ = .bk ρ' ∧ J (.nx ρ')) ∨ (∃ r, F d ρ = .rt r ∧ J (.rt r)) ∨ (∃ r ρ', F d ρ = .rtB r ρ' ∧ J (.rtB r ρ')) ∨ (∃ x ρ', F d ρ = .ex x ρ' ∧ J (.ex x ρ'))) →
    (∀ ρ, I l.length ρ → J (.nx ρ)) → J (forO F l ρ)
  | [], I, ρ, h0, _, e => e ρ h0
  | d :: l, I, ρ, h0, st, e => by
    have ih : ∀ ρ', I 1 ρ' → J (forO F l ρ') := fun ρ' h => forO_gen J (fun i => I (i + 1)) h (fun i d ρ hd hi => st (i + 1) d ρ (by simpa using hd) hi) (fun ρ h => e ρ (by simpa using h))
    unfold forO
    rcases st 0 d ρ (by simp) h0 with ⟨ρ', h | h, hi⟩ | ⟨ρ', h, hj⟩ | ⟨r, h, hj⟩ | ⟨r, ρ', h, hj⟩ | ⟨x, ρ', h, hj⟩
    · rw [h]; exact ih ρ' hi
    · rw [h]; exact ih ρ' hi
    · rw [h]; exact hj
    · rw [h]; exact hj
    · rw [h]; exact hj
    · rw [h]; exact hj
theorem forO_inv {F : D → Ev → Out} {l : List D} (I : Nat → Ev → Prop) {ρ : Ev} (h0 : I 0 ρ) (st : ∀ i d ρ, l[i]? = some d → I i ρ → ∃ ρ', (F d ρ = .nx ρ' ∨ F d ρ = .ct ρ') ∧ I (i + 1) ρ') : ∃ ρ', forO F l ρ = .nx ρ' ∧ I l.length ρ' :=
  forO_gen (fun o => ∃ ρ', o = .nx ρ' ∧ I l.length ρ') I h0 (fun i d ρ hd hi => .inl (st i d ρ hd hi)) fun ρ h => ⟨ρ, rfl, h⟩
theorem rng0_get {n i : Nat} {d : D} (h : (rngL 0 1 n)[i]? = some d) : i < n ∧ d = .int (i : Nat) := by
  obtain ⟨h1, rfl⟩ := rngL_get h
  exact ⟨h1, by simp⟩
theorem compR_map {step : D → R (Option D)} (φ : D → D) : ∀ {l : List D}, (∀ d ∈ l, step d = .ok (some (φ d))) → compR step l = .ok (l.map φ)
  | [], _ => rfl
  | d :: l, h => by
    unfold compR
    rw [h d (by simp), compR_map φ (l := l) fun e he => h e (by simp [he])]
    rfl
theorem compR_map' {α : Type} {step : D → R (Option D)} {F : α → D} {φ : α → D} : ∀ {l : List α}, (∀ a ∈ l, step (F a) = .ok (some (φ a))) → compR step (l.map F) = .ok (l.map φ)
  | [], _ => rfl
  | a :: l, h => by
    rw [List.map_cons]
    unfold compR
    rw [h a (by simp), compR_map' (l := l) fun e he => h e (by simp [he])]
    rfl
/-! ### data without dicts, of a small depth -/
mutual
def okD : Nat → D → Bool
  | _, .none => true
  | _, .bool _ => true
  | _, .int _ => true
  | _, .str x => PyData.strOk x
  | 0, _ => false
  | n + 1, .list l => okL n l
  | n + 1, .tuple l => okL n l
  | _, .dict _ => false
def okL : Nat → List D → Bool
  | _, [] => true
  | n, d :: l => okD n d && okL n l
end
mutual
theorem okD_spec : ∀ (n : Nat) (d : D), okD n d = true → d.canLay0 = true ∧ d.depth ≤ n
  | _, .none, _ => ⟨rfl, Nat.zero_le _⟩
  | _, .bool _, _ => ⟨rfl, Nat.zero_le _⟩
  | _, .int _, _ => ⟨rfl, Nat.zero_le _⟩
  | 0, .str x, h => ⟨by simpa [okD, PyData.canLay0] using h, Nat.zero_le _⟩
  | n + 1, .str x, h => ⟨by simpa [okD, PyData.canLay0] using h, Nat.zero_le _⟩
  | 0, .list _, h => by simp [okD] at h
  | 0, .tuple _, h => by simp [okD] at h
  | 0, .dict _, h => by simp [okD] at h
  | n + 1, .dict _, h => by simp [okD] at h
  | n + 1, .list l, h => by
    obtain ⟨h1, h2⟩ := okL_spec n l (by simpa [okD] using h)
    exact ⟨by simpa [PyData.canLay0] using h1, by simpa [PyData.depth] using h2⟩
  | n + 1, .tuple l, h => by
    obtain ⟨h1, h2⟩ := okL_spec n l (by simpa [okD] using h)
    exact ⟨by simpa [PyData.canLay0] using h1, by simpa [PyData.depth] using h2⟩
theorem okL_spec : ∀ (n : Nat) (l : List D), okL n l = true → PyData.canLayAll0 l = true ∧ PyData.depthAll l ≤ n
  | _, [], _ => ⟨rfl, Nat.zero_le _⟩
  | n, d :: l, h => by
    have h' : okD n d = true ∧ okL n l = true := by simpa [okL] using h
    obtain ⟨h1, h2⟩ := okD_spec n d h'.1
    obtain ⟨h3, h4⟩ := okL_spec n l h'.2
    exact ⟨by simp [PyData.canLayAll0, h1, h3], by simp [PyData.depthAll]; omega⟩
end
theorem okL_iff : ∀ {n : Nat} {l : List D}, okL n l = true ↔ ∀ d ∈ l, okD n d = true
  | n, [] => by simp [okL]
  | n, d :: l => by simp [okL, okL_iff (l := l)]
@[simp] theorem okD_int (n : Nat) (i : Int) : okD n (.int i) = true := by cases n <;> rfl
@[simp] theorem okD_bool (n : Nat) (i : Bool) : okD n (.bool i) = true := by cases n <;> rfl
@[simp] theorem okD_none (n : Nat) : okD n .none = true := by cases n <;> rfl
@[simp] theorem okD_list (n : Nat) (l : List D) : okD (n + 1) (.list l) = okL n l := rfl
@[simp] theorem okD_tuple (n : Nat) (l : List D) : okD (n + 1) (.tuple l) = okL n l := rfl
@[simp] theorem okL_nil (n : Nat) : okL n [] = true := rfl
@[simp] theorem okL_cons (n : Nat) (d : D) (l : List D) : okL n (d :: l) = (okD n d && okL n l) := rfl
@[simp] theorem okL_ints (n : Nat) (l : List Int) : okL n (l.map .int) = true := okL_iff.mpr fun d h => by
  obtain ⟨i, _, rfl⟩ := List.mem_map.mp h
  exact okD_int n i
theorem shaped_of {d : D} (h : okD 64 d = true) : SeqAt.shaped d = true := by
  obtain ⟨h1, h2⟩ := okD_spec _ _ h
  unfold SeqAt.shaped
  simp [h1, h2]
theorem r_eqD {a b : D} (h : okD 64 a = true) (h' : okD 64 b = true) : eqD a b = some (.bool (PyData.eqv a b)) := by
  unfold eqD; rw [shaped_of h, shaped_of h']; rfl
@[simp] theorem r_eq_s (x y : Str) : eqD (.str x) (.str y) = some (.bool (decide (x = y))) := by
  unfold eqD
  split
  · show some (PyData.bool (x == y)) = _
    by_cases h : x = y
    · subst h; simp
    · simp [h]
  · rfl
@[simp] theorem r_ne_s (x y : Str) : neD (.str x) (.str y) = some (.bool (!decide (x = y))) := by
  unfold neD
  split
  · show some (PyData.bool (!(x == y))) = _
    by_cases h : x = y
    · subst h; simp
    · simp [h]
  · rfl
theorem r_neD {a b : D} (h : okD 64 a = true) (h' : okD 64 b = true) : neD a b = some (.bool (!PyData.eqv a b)) := by
  unfold neD; rw [shaped_of h, shaped_of h']; rfl
theorem eqv_self {d : D} (h : okD 64 d = true) : PyData.eqv d d = true := SeqAt.eqv_refl d (okD_spec _ _ h).1
theorem r_eq_self {d : D} (h : okD 64 d = true) : eqD d d = some (.bool true) := by rw [r_eqD h h, eqv_self h]
theorem r_ne_self {d : D} (h : okD 64 d = true) : neD d d = some (.bool false) := by rw [r_neD h h, eqv_self h]; rfl
@[simp] theorem r_eq_i (i j : Int) : eqD (.int i) (.int j) = some (.bool (decide (i = j))) := by rw [r_eqD (by simp) (by simp)]; rfl
@[simp] theorem r_ne_i (i j : Int) : neD (.int i) (.int j) = some (.bool (!decide (i = j))) := by rw [r_neD (by simp) (by simp)]; rfl
/-! ### repr: sizes -/
structure Sw (w : Nat) (d : D) : Prop where
  sh : d.showable = true
  le : d.shown.length ≤ w
theorem Sw.mono {w w' : Nat} {d : D} (h : Sw w d) (e : w ≤ w') : Sw w' d := ⟨h.sh, Nat.le_trans h.le e⟩
theorem sw_int {s : Nat} {i : Int} (h : Sz s i) (hs : s ≤ 1920) (h0 : 0 < s) : Sw (s + 1) (.int i) := by
  have hl : i.natAbs.log2 < s := by
    by_cases z : i.natAbs = 0
    · rw [z]; simpa using h0
    · exact (Nat.log2_lt z).mpr h.lt
  refine ⟨decide_eq_true (by omega), ?_⟩
  have := int_text_length_le h0 hl
  show (Str.ofString (toString i)).length ≤ s + 1
  rw [PySem.ofString_length]
  exact this
theorem sw_all {w : Nat} : ∀ {l : List D}, (∀ d ∈ l, Sw w d) → PyData.showableAll l = true ∧ ((PyData.shownAll l).map (·.length)).sum ≤ l.length * w ∧ (PyData.shownAll l).length = l.length
  | [], _ => ⟨rfl, by simp [PyData.shownAll], rfl⟩
  | d :: l, h => by
    obtain ⟨h1, h2, h3⟩ := sw_all (l := l) fun e he => h e (by simp [he])
    obtain ⟨h4, h5⟩ := h d (by simp)
    refine ⟨by simp [PyData.showableAll, h4, h1], ?_, by simp [PyData.shownAll, h3]⟩
    simp only [PyData.shownAll, List.map_cons, List.sum_cons, List.length_cons, Nat.succ_mul]
    omega
theorem sw_list {w : Nat} {l : List D} (h : ∀ d ∈ l, Sw w d) : Sw (l.length * (w + 2) + 3) (.list l) := by
  obtain ⟨h1, h2, h3⟩ := sw_all h
  refine ⟨by simpa [PyData.showable] using h1, ?_⟩
  have := listText_len_le (PyData.shownAll l)
  simp only [PyData.shown]
  rw [Nat.mul_add]
  omega
theorem sw_tup {w : Nat} {l : List D} (h : ∀ d ∈ l, Sw w d) : Sw (l.length * (w + 2) + 3) (.tuple l) := by
  obtain ⟨h1, h2, h3⟩ := sw_all h
  refine ⟨by simpa [PyData.showable] using h1, ?_⟩
  have := tupleText_len_le (PyData.shownAll l)
  simp only [PyData.shown]
  rw [Nat.mul_add]
  omega
theorem r_repr_t {l : List D} {w : Nat} (h : okL 63 l = true) (hs : ∀ d ∈ l, Sw w d) (hw : l.length * (w + 2) + 3 ≤ sizeLine) : reprL [.tuple l] = some (.str (PyData.shown (.tuple l))) := by
  obtain ⟨h1, h2⟩ := sw_tup hs
  unfold reprL reprD
  simp only
  rw [shaped_of (d := .tuple l) h, h1, decide_eq_true (Nat.le_trans h2 hw)]; rfl
end VL

set_option Elab.async false
set_option linter.all false
set_option maxRecDepth 100000
set_option autoImplicit false
namespace W
open PySem PySem.Spec PyProof.Rows L2 VL
noncomputable def b__law_draws_1 : Ev → Out := sSeq (sSet 6 (cst (.int 0))) (sSeq (sIf (e1 bOf (e2 gtD (e1 lenD (eCons (eOwn 2) (cst []))) (cst (.int 0)))) (sSeq (sSet 7 (e2 modD (e1 intD (eCons (eOwn 5) (cst []))) (e1 lenD (eCons (eOwn 2) (cst []))))) (sIf (e1 bOf (e2 geD (e2 ixD (eOwn 2) (eOwn 7)) (e2 powD (cst (.int 10)) (cst (.int 18))))) (sSeq (sSet 6 (e2 modD (e1 intD (eCons (e2 ixD (eOwn 2) (eOwn 7)) (cst []))) (cst (.int 1000)))) (sStore 2 (eVar 7) (e2 fdivD (e2 ixD (eOwn 2) (eOwn 7)) (cst (.int 1000))))) (sSeq (sSet 8 (e2 modD (e1 intD (eCons (e2 addD (e2 addD (e2 mulD (e2 ixD (eOwn 2) (eOwn 7)) (cst (.int 48271))) (e2 mulD (eOwn 5) (cst (.int 69621)))) (cst (.int 11))) (cst []))) (cst (.int 2147483647)))) (sSeq (sSet 8 (e2 modD (e1 intD (eCons (e2 addD (e2 mulD (eOwn 8) (cst (.int 16807))) (eOwn 7)) (cst []))) (cst (.int 2147483629)))) (sSet 6 (e2 modD (e1 intD (eCons (e2 fdivD (eOwn 8) (cst (.int 7))) (cst []))) (cst (.int 1000)))))))) (sNil)) (sApp 4 (eVar 6)))
noncomputable def c__law_draws : Ev → Out := sSeq (sSetO 2 (eComp [3] (e1 seqD (eVar 0)) (gSet 3) (cst true) (eVar 3))) (sSeq (sSetO 4 (e1 lim (cst []))) (sSeq (sFor (e1 range1D (eCons (eOwn 1) (cst []))) (gSet 5) b__law_draws_1) (sRetV 4)))
noncomputable def m__law_draws : List D → R SD := runD 2 9 c__law_draws
noncomputable def c_number : Ev → Out := sSeq (sIf (e1 bOf (e2 ltD (eOwn 1) (cst (.int 0)))) (sPar 0 1 (eCons (e1 negD (eOwn 0)) (eCons (e1 negD (eOwn 1)) (cst [])))) (sNil)) (sSeq (sSet 2 (e1 gcdD (eCons (eOwn 0) (eCons (eOwn 1) (cst []))))) (sRet (e1 tupD (eCons (e2 fdivD (eOwn 0) (eOwn 2)) (eCons (e2 fdivD (eOwn 1) (eOwn 2)) (cst []))))))
noncomputable def m_number : List D → R SD := runD 2 3 c_number
noncomputable def c_plus : Ev → Out := sRet (eCall m_number (eCons (e2 addD (e2 mulD (e2 ixD (eOwn 0) (cst (.int 0))) (e2 ixD (eOwn 1) (cst (.int 1)))) (e2 mulD (e2 ixD (eOwn 1) (cst (.int 0))) (e2 ixD (eOwn 0) (cst (.int 1))))) (eCons (e2 mulD (e2 ixD (eOwn 0) (cst (.int 1))) (e2 ixD (eOwn 1) (cst (.int 1)))) (cst []))))
noncomputable def m_plus : List D → R SD := runD 2 2 c_plus
noncomputable def c_times : Ev → Out := sRet (eCall m_number (eCons (e2 mulD (e2 ixD (eOwn 0) (cst (.int 0))) (e2 ixD (eOwn 1) (cst (.int 0)))) (eCons (e2 mulD (e2 ixD (eOwn 0) (cst (.int 1))) (e2 ixD (eOwn 1) (cst (.int 1)))) (cst []))))
noncomputable def m_times : List D → R SD := runD 2 2 c_times
/-! ### draws -/
theorem slB {n : Nat} (h : n ≤ 100000) : n ≤ sizeLine := Nat.le_trans h (by decide)
theorem idD_ok (l : List D) (ρ : Ev) (k : Nat) (hk : k < ρ.length) : compR (compS [k] (gSet k) (cst true) (eVar k) ρ) l = .ok l := by
  have := compR_map (step := compS [k] (gSet k) (cst true) (eVar k) ρ) (fun d => d) (l := l) fun d _ => by
    simp [compS, hk]
  rw [this, List.map_id']
theorem fmod_rng {a b : Int} (h : 0 < b) : 0 ≤ a.fmod b ∧ a.fmod b < b := ⟨Int.fmod_nonneg_of_pos a h, Int.fmod_lt_of_pos a h⟩
theorem draws_app {c : Nat} {xs : List Int} (hx : IsDraws c xs) (x : Int) (h1 : 0 ≤ x) (h2 : x < 1000) : IsDraws (c + 1) (xs ++ [x]) := ⟨by simp [hx.len], fun y hy => by
  rcases List.mem_append.mp hy with h | h
  · exact hx.lo y h
  · simp at h; subst h; exact h1, fun y hy => by
  rcases List.mem_append.mp hy with h | h
  · exact hx.hi y h
  · simp at h; subst h; exact h2⟩
theorem draws_step {a b : SD} {rs xs : List Int} {j3 j5 j6 j7 j8 : SD} {i : Nat} (hi : i < 100000) (hrl : rs.length ≤ 63) (hrz : ∀ z ∈ rs, Sz 1048577 z) (hx : IsDraws i xs) :
    ∃ (rs' : List Int) (x : Int) (k5 k6 k7 k8 : SD), gTo (gSet 5) b__law_draws_1 (.int (i : Nat)) [a, b, .ow (rs.map .int), j3, .ow (xs.map .int), j5, j6, j7, j8] = .nx [a, b, .ow (rs'.map .int), j3, .ow ((xs ++ [x]).map .int), k5, k6, k7, k8] ∧ rs'.length = rs.length ∧ (∀ z ∈ rs', Sz 1048577 z) ∧ 0 ≤ x ∧ x < 1000 := by
  have hxl : xs.length < sizeLine := by rw [hx.len]; exact Nat.lt_of_lt_of_le hi (by decide)
  by_cases he : 0 < rs.length
  · have hne : (rs.length : Int) ≠ 0 := by omega
    obtain ⟨a1, a2⟩ := fmod_rng (a := ((i : Nat) : Int)) (b := rs.length) (by omega)
    generalize hk : (((i : Nat) : Int).fmod rs.length) = k at a1 a2
    have hm : modD (.int (i : Nat)) (.int rs.length) = some (.int k) := by rw [r_mod hne, hk]
    obtain ⟨v, hv⟩ : ∃ v, rs[k.toNat]? = some v := ⟨_, List.getElem?_eq_getElem (by omega)⟩
    have hvz : Sz 1048577 v := hrz v (List.mem_of_getElem? hv)
    by_cases hbig : 1000000000000000000 ≤ v
    · have hd : okDiv v 1000 = true := okDiv_lit (by decide) (by decide)
      have hix : ixN rs.length k = some k.toNat := by unfold ixN; rw [if_pos a1, if_pos a2]
      refine ⟨rs.set k.toNat (v.fdiv 1000), v.fmod 1000, .sh (.int (i : Nat)), .sh (.int (v.fmod 1000)), .sh (.int k), j8, ?_, by simp, fun z hz => ?_, (fmod_rng (by decide)).1, (fmod_rng (by decide)).2⟩
      · simp [b__law_draws_1, he, hm, a1, hv, hbig, hd, hix, hxl, okPow]
      · rcases List.mem_or_eq_of_mem_set hz with h | h
        · exact hrz z h
        · subst h; exact hvz.fdiv
    · have h1 : okMul v 48271 = true := okMul_of hvz (b := 100) (.lit (by decide)) (by decide)
      have hi2 : Sz 100 (i : Nat) := (Sz.lit (i := 100000) (a := 100) (by decide)).of_le (by omega)
      have h2 : okMul (i : Nat) 69621 = true := okMul_of hi2 (b := 100) (.lit (by decide)) (by decide)
      have h3 : okMul ((v * 48271 + (i : Nat) * 69621 + 11).fmod 2147483647) 16807 = true := by
        obtain ⟨b1, b2⟩ := fmod_rng (a := v * 48271 + (i : Nat) * 69621 + 11) (b := 2147483647) (by decide)
        exact okMul_of (a := 100) (b := 100) ((Sz.lit (i := 2147483647) (a := 100) (by decide)).of_le (by omega)) (.lit (by decide)) (by decide)
      have h4 : ∀ x : Int, okDiv x 7 = true := fun x => okDiv_lit (by decide) (by decide)
      exact ⟨rs, _, _, _, _, _, by simp [b__law_draws_1, he, hm, a1, hv, hbig, h1, h2, h3, h4, hxl, okPow]; exact ⟨rfl, rfl, rfl, rfl, rfl⟩, rfl, hrz, (fmod_rng (by decide)).1, (fmod_rng (by decide)).2⟩
  · have h0 : rs = [] := by cases rs with | nil => rfl | cons _ _ => simp at he
    subst h0
    exact ⟨[], 0, _, _, _, _, by simp [b__law_draws_1, hxl]; exact ⟨rfl, rfl, rfl, rfl⟩, rfl, hrz, by decide, by decide⟩
theorem draws_ok (ns : List Int) (hn : ns.length ≤ 63) (hb : ∀ z ∈ ns, Builtin.Int.intBits z ≤ 1048576) (z : Int) (c : Nat) (hz : z = c) (hc : c ≤ 100000) : ∃ xs : List Int, m__law_draws [.list (ns.map .int), .int z] = .ok (.ow (xs.map .int)) ∧ IsDraws c xs := by
  subst hz
  obtain ⟨ρ', e, hρ⟩ := forO_inv (F := gTo (gSet 5) b__law_draws_1) (l := rngL 0 1 c)
    (fun i ρ => ∃ rs xs : List Int, ∃ j3 j5 j6 j7 j8 : SD, ρ = [.sh (.list (ns.map .int)), .sh (.int c), .ow (rs.map .int), j3, .ow (xs.map .int), j5, j6, j7, j8] ∧ rs.length ≤ 63 ∧ (∀ z ∈ rs, Sz 1048577 z) ∧ IsDraws i xs)
    (ρ := [.sh (.list (ns.map .int)), .sh (.int c), .ow (ns.map .int), .no, .ow [], .no, .no, .no, .no])
    ⟨ns, [], _, _, _, _, _, rfl, hn, fun z hz => sz_bits (Nat.le_trans (hb z hz) (by decide)), ⟨rfl, by simp, by simp⟩⟩
    (fun i d ρ hd hi => by
      obtain ⟨hic, rfl⟩ := rng0_get hd
      obtain ⟨rs, xs, j3, j5, j6, j7, j8, rfl, hrl, hrz, hx⟩ := hi
      obtain ⟨rs', x, k5, k6, k7, k8, e, h1, h2, h3, h4⟩ := draws_step (a := .sh (.list (ns.map .int))) (b := .sh (.int c)) (j3 := j3) (j5 := j5) (j6 := j6) (j7 := j7) (j8 := j8) (Nat.lt_of_lt_of_le hic hc) hrl hrz hx
      exact ⟨_, .inl e, rs', xs ++ [x], _, _, _, _, _, rfl, by omega, h2, draws_app hx x h3 h4⟩)
  rw [rngL_length] at hρ
  obtain ⟨rs, xs, j3, j5, j6, j7, j8, rfl, _, _, hx⟩ := hρ
  refine ⟨xs, ?_, hx⟩
  simp [m__law_draws, c__law_draws, slB (Nat.le_trans hn (by decide)), range1_ok (x := (c : Nat)) (by omega) (by omega), idD_ok, e]
/-! ### gcd -/
theorem gcd_halves {a b : Nat} (h : b ≤ a) (hb : b ≠ 0) : 2 * (b * (a % b)) ≤ a * b ∧ a % b ≤ b := by
  have h1 : a % b < b := Nat.mod_lt _ (by omega)
  have h2 : a % b + b ≤ a := by
    have e := Nat.div_add_mod a b
    have : 1 ≤ a / b := (Nat.one_le_div_iff (by omega)).mpr h
    have : b * 1 ≤ b * (a / b) := Nat.mul_le_mul_left b this
    omega
  refine ⟨?_, by omega⟩
  calc 2 * (b * (a % b)) = b * (2 * (a % b)) := by grind
    _ ≤ b * a := Nat.mul_le_mul_left b (by omega)
    _ = a * b := Nat.mul_comm _ _
/-! ### numbers -/
def qD (q : Int × Int) : D := .tuple [.int q.1, .int q.2]
def mkQ (n d : Int) : Int × Int := if d < 0 then ((-n).fdiv (Nat.gcd n.natAbs d.natAbs : Nat), (-d).fdiv (Nat.gcd n.natAbs d.natAbs : Nat)) else (n.fdiv (Nat.gcd n.natAbs d.natAbs : Nat), d.fdiv (Nat.gcd n.natAbs d.natAbs : Nat))
structure Nm (q : Int × Int) : Prop where
  pos : 1 ≤ q.2
  low : Nat.gcd q.1.natAbs q.2.natAbs = 1
theorem fdiv_of_dvd {a g : Int} (hg : g ∣ a) (h0 : g ≠ 0) : a.fdiv g * g = a := by
  obtain ⟨k, rfl⟩ := hg
  rw [Int.mul_fdiv_cancel_left k h0, Int.mul_comm]
theorem mkQ_key (x y : Int) (hp : 0 < y) : Nm (x.fdiv (Nat.gcd x.natAbs y.natAbs : Nat), y.fdiv (Nat.gcd x.natAbs y.natAbs : Nat)) ∧ x.fdiv (Nat.gcd x.natAbs y.natAbs : Nat) * y = x * y.fdiv (Nat.gcd x.natAbs y.natAbs : Nat) := by
  have hgp := Nat.gcd_pos_of_pos_right x.natAbs (show 0 < y.natAbs by omega)
  have hg0 : (Nat.gcd x.natAbs y.natAbs : Int) ≠ 0 := by omega
  have d1 : (Nat.gcd x.natAbs y.natAbs : Int) ∣ x := Int.ofNat_dvd_left.mpr (Nat.gcd_dvd_left _ _)
  have d2 : (Nat.gcd x.natAbs y.natAbs : Int) ∣ y := Int.ofNat_dvd_left.mpr (Nat.gcd_dvd_right _ _)
  have e1 := fdiv_of_dvd d1 hg0
  have e2 := fdiv_of_dvd d2 hg0
  generalize hu : x.fdiv (Nat.gcd x.natAbs y.natAbs : Nat) = u at *
  generalize hv : y.fdiv (Nat.gcd x.natAbs y.natAbs : Nat) = v at *
  generalize hg : Nat.gcd x.natAbs y.natAbs = g at *
  have hvp : 0 < v := by
    rcases Int.lt_or_le 0 v with h | h
    · exact h
    · have : v * g ≤ 0 := Int.mul_nonpos_of_nonpos_of_nonneg h (by omega)
      omega
  refine ⟨⟨hvp, ?_⟩, ?_⟩
  · have e3 : 1 * g = Nat.gcd u.natAbs v.natAbs * g := by
      rw [← Nat.gcd_mul_right]
      have a1 : u.natAbs * g = x.natAbs := by rw [← e1, Int.natAbs_mul]; rfl
      have a2 : v.natAbs * g = y.natAbs := by rw [← e2, Int.natAbs_mul]; rfl
      rw [a1, a2, hg, Nat.one_mul]
    exact (Nat.eq_of_mul_eq_mul_right hgp e3).symm
  · rw [← e1, ← e2]; grind
theorem mkQ_spec (n d : Int) (hd : d ≠ 0) : Nm (mkQ n d) ∧ (mkQ n d).1 * d = n * (mkQ n d).2 := by
  unfold mkQ
  by_cases h : d < 0
  · rw [if_pos h]
    obtain ⟨k1, k2⟩ := mkQ_key (-n) (-d) (by omega)
    rw [Int.natAbs_neg, Int.natAbs_neg] at k1 k2
    exact ⟨k1, by dsimp only at *; grind⟩
  · rw [if_neg h]
    exact mkQ_key n d (by omega)
theorem mkQ_nm {n d : Int} (hd : d ≠ 0) : Nm (mkQ n d) := (mkQ_spec n d hd).1
theorem mkQ_eq {n d : Int} (hd : d ≠ 0) : (mkQ n d).1 * d = n * (mkQ n d).2 := (mkQ_spec n d hd).2
theorem mkQ_sz1 {n d : Int} {k : Nat} (h : Sz k n) : Sz k (mkQ n d).1 := by
  unfold mkQ; split
  · exact (h.neg).fdiv
  · exact h.fdiv
theorem mkQ_sz2 {n d : Int} {k : Nat} (h : Sz k d) : Sz k (mkQ n d).2 := by
  unfold mkQ; split
  · exact (h.neg).fdiv
  · exact h.fdiv
/-- numbers in lowest terms are the same if they are equal -/
theorem Nm.uniq {p q : Int × Int} (hp : Nm p) (hq : Nm q) (h : p.1 * q.2 = q.1 * p.2) : p = q := by
  have h1 := hp.pos
  have h2 := hq.pos
  have a : p.2.natAbs ∣ q.2.natAbs := by
    have : p.2.natAbs ∣ p.1.natAbs * q.2.natAbs := by
      rw [← Int.natAbs_mul, h, Int.natAbs_mul]; exact ⟨q.1.natAbs, Nat.mul_comm _ _⟩
    exact (Nat.Coprime.dvd_of_dvd_mul_left (Nat.Coprime.symm hp.low) this)
  have b : q.2.natAbs ∣ p.2.natAbs := by
    have : q.2.natAbs ∣ q.1.natAbs * p.2.natAbs := by
      rw [← Int.natAbs_mul, ← h, Int.natAbs_mul]; exact ⟨p.1.natAbs, Nat.mul_comm _ _⟩
    exact (Nat.Coprime.dvd_of_dvd_mul_left (Nat.Coprime.symm hq.low) this)
  have e : p.2 = q.2 := by
    have := Nat.dvd_antisymm a b
    omega
  rw [e] at h
  have e1 : p.1 = q.1 := Int.eq_of_mul_eq_mul_right (by omega) h
  exact Prod.ext e1 e
theorem gcd_sz {n d : Int} {k : Nat} (h : Sz k d) (hd : d ≠ 0) : Sz k (Nat.gcd n.natAbs d.natAbs : Nat) := h.of_le (by
  have := Nat.le_of_dvd (by omega) (Nat.gcd_dvd_right n.natAbs d.natAbs)
  omega)
theorem gcd_ne {n d : Int} (hd : d ≠ 0) : (Nat.gcd n.natAbs d.natAbs : Int) ≠ 0 := by
  have := Nat.gcd_pos_of_pos_right n.natAbs (show 0 < d.natAbs by omega)
  omega
theorem okDiv_gcd {n d : Int} (h : Sz 9000 d) (hd : d ≠ 0) (x : Int) : okDiv x (Nat.gcd n.natAbs d.natAbs : Nat) = true := okDiv_of (gcd_sz h hd) (gcd_ne hd)
theorem s2 : (2 : Nat) ≤ sizeLine := by decide
theorem number_ok {n d : Int} (h2 : Sz 9000 d) (hd : d ≠ 0) : m_number [.int n, .int d] = .ok (.sh (qD (mkQ n d))) := by
  have o := okDiv_gcd (n := n) h2 hd
  by_cases h : d < 0
  · simp [m_number, c_number, h, o, s2, qD, mkQ]
  · simp [m_number, c_number, h, o, s2, qD, mkQ]
@[simp] theorem ix_q0 (q : Int × Int) : ixD (qD q) (.int 0) = some (.int q.1) := by simp [qD]
@[simp] theorem ix_q1 (q : Int × Int) : ixD (qD q) (.int 1) = some (.int q.2) := by simp [qD]
@[simp] theorem okD_q (n : Nat) (q : Int × Int) : okD (n + 1) (qD q) = true := by simp [qD]
/-- a number within 2^k -/
structure Nk (k : Nat) (q : Int × Int) : Prop where
  nm : Nm q
  s1 : Sz k q.1
  s2 : Sz k q.2
theorem Nk.mono {k l : Nat} {q : Int × Int} (h : Nk k q) (e : k ≤ l) : Nk l q := ⟨h.nm, h.s1.mono e, h.s2.mono e⟩
theorem Nk.ne {k : Nat} {q : Int × Int} (h : Nk k q) : q.2 ≠ 0 := by have := h.nm.pos; omega
theorem mkQ_nk {n d : Int} {k : Nat} (hd : d ≠ 0) (h1 : Sz k n) (h2 : Sz k d) : Nk k (mkQ n d) := ⟨mkQ_nm hd, mkQ_sz1 h1, mkQ_sz2 h2⟩
def addQ (p q : Int × Int) : Int × Int := mkQ (p.1 * q.2 + q.1 * p.2) (p.2 * q.2)
def mulQ (p q : Int × Int) : Int × Int := mkQ (p.1 * q.1) (p.2 * q.2)
def subQ (p q : Int × Int) : Int × Int := mkQ (p.1 * q.2 - q.1 * p.2) (p.2 * q.2)
def negQ (p : Int × Int) : Int × Int := (-p.1, p.2)
theorem Nm.neg {p : Int × Int} (h : Nm p) : Nm (negQ p) := ⟨h.pos, by show Nat.gcd (-p.1).natAbs _ = 1; rw [Int.natAbs_neg]; exact h.low⟩
section
variable {p q : Int × Int} {k l : Nat}
theorem Nk.neg (h : Nk k p) : Nk k (negQ p) := ⟨h.nm.neg, h.s1.neg, h.s2⟩
theorem Nk.mulne (hp : Nk k p) (hq : Nk l q) : p.2 * q.2 ≠ 0 := Int.mul_ne_zero hp.ne hq.ne
theorem Nk.add (hp : Nk k p) (hq : Nk l q) : Nk (k + l + 1) (addQ p q) := mkQ_nk (hp.mulne hq) ((hp.s1.mul hq.s2).add (Nat.add_comm l k ▸ hq.s1.mul hp.s2)) ((hp.s2.mul hq.s2).mono (by omega))
theorem Nk.sub (hp : Nk k p) (hq : Nk l q) : Nk (k + l + 1) (subQ p q) := mkQ_nk (hp.mulne hq) ((hp.s1.mul hq.s2).sub (Nat.add_comm l k ▸ hq.s1.mul hp.s2)) ((hp.s2.mul hq.s2).mono (by omega))
theorem Nk.mul (hp : Nk k p) (hq : Nk l q) : Nk (k + l) (mulQ p q) := mkQ_nk (hp.mulne hq) (hp.s1.mul hq.s1) (hp.s2.mul hq.s2)
theorem plus_ok (hp : Nk k p) (hq : Nk l q) (e : k + l ≤ 8000) : m_plus [qD p, qD q] = .ok (.sh (qD (addQ p q))) := by
  have o1 := okMul_of hp.s1 hq.s2 (by omega)
  have o2 := okMul_of hq.s1 hp.s2 (by omega)
  have o3 := okMul_of hp.s2 hq.s2 (by omega)
  have n := number_ok (n := p.1 * q.2 + q.1 * p.2) ((hp.s2.mul hq.s2).mono (show _ ≤ 9000 by omega)) (hp.mulne hq)
  simp [m_plus, c_plus, o1, o2, o3, n, addQ]
theorem times_ok (hp : Nk k p) (hq : Nk l q) (e : k + l ≤ 8000) : m_times [qD p, qD q] = .ok (.sh (qD (mulQ p q))) := by
  have o1 := okMul_of hp.s1 hq.s1 (by omega)
  have o3 := okMul_of hp.s2 hq.s2 (by omega)
  have n := number_ok (n := p.1 * q.1) ((hp.s2.mul hq.s2).mono (show _ ≤ 9000 by omega)) (hp.mulne hq)
  simp [m_times, c_times, o1, o3, n, mulQ]
end

/-! ### looks at numbers -/
theorem nk01 : Nk 1 (0, 1) := ⟨⟨by decide, by decide⟩, .lit (by decide), .lit (by decide)⟩
end W

set_option Elab.async false
set_option linter.all false
set_option maxRecDepth 100000
set_option autoImplicit false
namespace W
open PySem PySem.Spec PyProof.Rows L2 VL
noncomputable def b_trimmed_1 : Ev → Out := sAug 1 subD (cst (.int 1))
noncomputable def c_trimmed : Ev → Out := sSeq (sSet 1 (e1 lenD (eCons (eOwn 0) (cst [])))) (sSeq (sWhile (eAnd (e1 bOf (e2 gtD (eOwn 1) (cst (.int 0)))) (e1 bOf (e2 eqD (e2 ixD (eOwn 0) (e2 subD (eOwn 1) (cst (.int 1)))) (cst (.int 0))))) b_trimmed_1) (sRet (e3 sliceD (eOwn 0) (pNo) (e1 intOf (eVar 1)))))
noncomputable def m_trimmed : List D → R SD := runD 1 2 c_trimmed
noncomputable def c_coefficient_of : Ev → Out := sRet (eIf (e1 bOf (e2 ltD (eOwn 1) (e1 lenD (eCons (eOwn 0) (cst []))))) (e2 ixD (eOwn 0) (eOwn 1)) (cst (.int 0)))
noncomputable def m_coefficient_of : List D → R SD := runD 2 2 c_coefficient_of
noncomputable def c_add : Ev → Out := sSeq (sSet 2 (e1 maxD (eCons (e1 lenD (eCons (eOwn 0) (cst []))) (eCons (e1 lenD (eCons (eOwn 1) (cst []))) (cst []))))) (sRet (eCall m_trimmed (eCons (eLst (eComp [3] (e1 range1D (eCons (eOwn 2) (cst []))) (gSet 3) (cst true) (e2 addD (eCall m_coefficient_of (eCons (eVar 0) (eCons (eVar 3) (cst [])))) (eCall m_coefficient_of (eCons (eVar 1) (eCons (eVar 3) (cst []))))))) (cst []))))
noncomputable def m_add : List D → R SD := runD 2 4 c_add
noncomputable def c_scale : Ev → Out := sRet (eCall m_trimmed (eCons (eLst (eComp [2] (e1 seqD (eVar 0)) (gSet 2) (cst true) (e2 mulD (eOwn 2) (eOwn 1)))) (cst [])))
noncomputable def m_scale : List D → R SD := runD 2 3 c_scale
noncomputable def c_subtract : Ev → Out := sRet (eCall m_add (eCons (eVar 0) (eCons (eCall m_scale (eCons (eVar 1) (eCons (e1 negD (cst (.int 1))) (cst [])))) (cst []))))
noncomputable def m_subtract : List D → R SD := runD 2 2 c_subtract
noncomputable def b_multiply_1 : Ev → Out := sAugIx 2 iaddD (e2 addD (eOwn 3) (eOwn 5)) (e2 mulD (eOwn 4) (eOwn 6))
noncomputable def b_multiply_2 : Ev → Out := sFor (e1 enuD (eCons (eVar 1) (cst []))) (gTupD 2 (gsCons (gSet 5) (gsCons (gSet 6) (gsNil)))) b_multiply_1
noncomputable def c_multiply : Ev → Out := sSeq (sIf (eOr (eNot (e1 truD (eOwn 0))) (eNot (e1 truD (eOwn 1)))) (sRetO (e1 lim (cst []))) (sNil)) (sSeq (sSetO 2 (e2 mulO (eLst (e1 lim (eCons (cst (.int 0)) (cst [])))) (e2 subD (e2 addD (e1 lenD (eCons (eOwn 0) (cst []))) (e1 lenD (eCons (eOwn 1) (cst [])))) (cst (.int 1))))) (sSeq (sFor (e1 enuD (eCons (eVar 0) (cst []))) (gTupD 2 (gsCons (gSet 3) (gsCons (gSet 4) (gsNil)))) b_multiply_2) (sRetV 2)))
noncomputable def m_multiply : List D → R SD := runD 2 7 c_multiply
noncomputable def b__law_multiply_1 : Ev → Out := sStore 2 (e2 addD (eOwn 3) (eOwn 4)) (e2 addD (e2 ixD (eOwn 2) (e2 addD (eOwn 3) (eOwn 4))) (e2 mulD (e2 ixD (eOwn 0) (eOwn 3)) (e2 ixD (eOwn 1) (eOwn 4))))
noncomputable def b__law_multiply_2 : Ev → Out := sFor (e1 range1D (eCons (e1 lenD (eCons (eOwn 1) (cst []))) (cst []))) (gSet 4) b__law_multiply_1
noncomputable def b_value_at_1 : Ev → Out := sSet 2 (eCall m_plus (eCons (eCall m_times (eCons (eVar 2) (eCons (eVar 1) (cst [])))) (eCons (e1 tupD (eCons (eVar 3) (eCons (cst (.int 1)) (cst [])))) (cst []))))
noncomputable def c_value_at : Ev → Out := sSeq (sSet 2 (cst (.tuple [(.int 0), (.int 1)]))) (sSeq (sFor (e1 seqD (eLst (e1 revO (eOwn 0)))) (gSet 3) b_value_at_1) (sRet (eVar 2)))
noncomputable def m_value_at : List D → R SD := runD 2 4 c_value_at
/-! ### lists of whole numbers as data -/
def pD (l : List Int) : D := .list (l.map .int)
@[simp] theorem pD_fold (l : List Int) : PyData.list (List.map .int l) = pD l := rfl
@[simp] theorem p_len (l : List Int) : lenD [pD l] = some (.int l.length) := by unfold pD; rw [r_len_l, List.length_map]
@[simp] theorem p_tru (l : List Int) : truD (pD l) = some (!l.isEmpty) := by unfold pD; rw [r_tru_l]; cases l <;> rfl
@[simp] theorem p_seq (l : List Int) : seqD (pD l) = some (l.map .int) := id rfl
@[simp] theorem p_listO (l : List Int) : listO [pD l] = some (l.map .int) := id rfl
@[simp] theorem p_rev (l : List Int) : revO (pD l) = some (l.reverse.map .int) := by unfold pD; rw [r_revO, List.map_reverse]
@[simp] theorem p_isi (n : String) (l : List Int) : isiD n (pD l) = (kitB "list" n).map .bool := id rfl
@[simp] theorem p_okD (n : Nat) (l : List Int) : okD (n + 1) (pD l) = true := okL_ints n l
@[simp] theorem p_enu (l : List Int) : enuD [pD l] = some (enuL (l.map .int)) := id rfl
theorem p_ix {l : List Int} {x : Int} (h : 0 ≤ x) : ixD (pD l) (.int x) = (l[x.toNat]?).map .int := by unfold pD; rw [r_ix_l, r_atI h, List.getElem?_map]
theorem p_ixn (l : List Int) (n : Nat) : ixD (pD l) (.int (n : Int)) = (l[n]?).map .int := by rw [p_ix (by omega)]; simp
def cutI (l : List Int) (lo hi : Option Int) : List Int := (l.drop (HT.sIx l.length 0 lo)).take (HT.sIx l.length l.length hi - HT.sIx l.length 0 lo)
@[simp] theorem p_slice (l : List Int) (o o' : Option Int) : sliceD (pD l) o o' = some (pD (cutI l o o')) := by unfold pD; rw [r_slice, cut_map]; rfl
@[simp] theorem p_sliceO (l : List Int) (o o' : Option Int) : sliceO (pD l) o o' = some ((cutI l o o').map .int) := by unfold pD; rw [r_sliceO, cut_map]; rfl
theorem cutI_to (l : List Int) (n : Nat) (h : n ≤ l.length) : cutI l none (some (n : Int)) = l.take n := by
  unfold cutI; rw [HT.sIx_none, sIx_in (by omega) (by omega)]; simp

/-! ### coefficients -/
def cf (l : List Int) (k : Nat) : Int := l.getD k 0
@[simp] theorem cf_nil (k : Nat) : cf [] k = 0 := by simp [cf]
@[simp] theorem cf_zero (a : Int) (l : List Int) : cf (a :: l) 0 = a := rfl
@[simp] theorem cf_succ (a : Int) (l : List Int) (k : Nat) : cf (a :: l) (k + 1) = cf l k := rfl
theorem cf_get {l : List Int} {k : Nat} (h : k < l.length) : l[k]? = some (cf l k) := by
  unfold cf; rw [List.getD_eq_getElem?_getD, List.getElem?_eq_getElem h]; rfl
@[simp] theorem cf_elem {l : List Int} {k : Nat} (h : k < l.length) : l[k] = cf l k := by
  have := List.getElem?_eq_getElem h
  rw [cf_get h] at this
  exact (Option.some.inj this).symm
theorem cf_out {l : List Int} {k : Nat} (h : l.length ≤ k) : cf l k = 0 := by
  unfold cf; rw [List.getD_eq_getElem?_getD, List.getElem?_eq_none h]; rfl
theorem cf_take (l : List Int) (n k : Nat) : cf (l.take n) k = if k < n then cf l k else 0 := by
  unfold cf
  rw [List.getD_eq_getElem?_getD, List.getD_eq_getElem?_getD, List.getElem?_take]
  split <;> rfl
theorem cf_mem {l : List Int} {k : Nat} (h : k < l.length) : cf l k ∈ l := List.mem_of_getElem? (cf_get h)
theorem cf_all {l : List Int} {Q : Int → Prop} (h : ∀ c ∈ l, Q c) (h0 : Q 0) (k : Nat) : Q (cf l k) := by
  by_cases e : k < l.length
  · exact h _ (cf_mem e)
  · rw [cf_out (by omega)]; exact h0
/-- the first n values -/
def fl (n : Nat) (φ : Nat → Int) : List Int := (List.range n).map φ
@[simp] theorem fl_length (n : Nat) (φ : Nat → Int) : (fl n φ).length = n := by simp [fl]
theorem cf_fl (n : Nat) (φ : Nat → Int) (k : Nat) : cf (fl n φ) k = if k < n then φ k else 0 := by
  split
  · rename_i h
    have := cf_get (l := fl n φ) (k := k) (by simpa using h)
    unfold fl at this
    rw [List.getElem?_map, List.getElem?_range h] at this
    exact (Option.some.inj this).symm
  · rename_i h
    exact cf_out (by simpa using h)
theorem fl_get {n : Nat} {φ : Nat → Int} {k : Nat} (h : k < n) : (fl n φ)[k]? = some (φ k) := by rw [cf_get (by simpa using h), cf_fl, if_pos h]
theorem cf_ext {l m : List Int} (hl : l.length = m.length) (h : ∀ k, k < l.length → cf l k = cf m k) : l = m := by
  apply List.ext_getElem?
  intro i
  by_cases e : i < l.length
  · rw [cf_get e, cf_get (by omega), h i e]
  · rw [List.getElem?_eq_none (by omega), List.getElem?_eq_none (by omega)]
theorem fl_eq {n : Nat} {l : List Int} {φ : Nat → Int} (hl : l.length = n) (h : ∀ k, k < n → cf l k = φ k) : l = fl n φ :=
  cf_ext (by simpa using hl) fun k hk => by rw [h k (by omega), cf_fl, if_pos (by omega)]
theorem fl_set {n : Nat} {φ : Nat → Int} {p : Nat} {v : Int} : (fl n φ).set p v = fl n (fun k => if k = p then v else φ k) := by
  refine fl_eq (by simp) fun k hk => ?_
  have : ((fl n φ).set p v)[k]? = some (if k = p then v else φ k) := by
    rw [List.getElem?_set]
    by_cases e : p = k
    · subst e; simp [hk]
    · rw [if_neg e, fl_get hk, if_neg (Ne.symm e)]
  unfold cf
  rw [List.getD_eq_getElem?_getD, this]; rfl
theorem fl_congr {n : Nat} {φ ψ : Nat → Int} (h : ∀ k, k < n → φ k = ψ k) : fl n φ = fl n ψ := fl_eq (by simp) fun k hk => by rw [cf_fl, if_pos hk, h k hk]

/-! ### trimming -/
/-- no zero at the end -/
def Tr (l : List Int) : Prop := ∀ m, l.length = m + 1 → cf l m ≠ 0
theorem Tr.uniq {l m : List Int} (hl : Tr l) (hm : Tr m) (h : ∀ k, cf l k = cf m k) : l = m := by
  have : l.length = m.length := by
    rcases Nat.lt_trichotomy l.length m.length with e | e | e
    · exact absurd (by rw [← h, cf_out (by omega)]) (hm (m.length - 1) (by omega))
    · exact e
    · exact absurd (by rw [h, cf_out (by omega)]) (hl (l.length - 1) (by omega))
  exact cf_ext this fun k _ => h k
def tlen (l : List Int) : Nat → Nat
  | 0 => 0
  | m + 1 => if cf l m = 0 then tlen l m else m + 1
theorem tlen_le (l : List Int) : ∀ m, tlen l m ≤ m
  | 0 => Nat.le_refl _
  | m + 1 => by
    unfold tlen
    split
    · exact Nat.le_succ_of_le (tlen_le l m)
    · exact Nat.le_refl _
theorem tlen_zero (l : List Int) : ∀ m k, tlen l m ≤ k → k < m → cf l k = 0
  | 0, k, _, h => by omega
  | m + 1, k, h1, h2 => by
    unfold tlen at h1
    split at h1
    · rename_i z
      by_cases e : k = m
      · subst e; exact z
      · exact tlen_zero l m k h1 (by omega)
    · omega
theorem tlen_last (l : List Int) : ∀ m j, tlen l m = j + 1 → cf l j ≠ 0
  | 0, j, h => by cases h
  | m + 1, j, h => by
    unfold tlen at h
    split at h
    · exact tlen_last l m j h
    · rename_i z
      have : m = j := by omega
      subst this; exact z
def trimP (l : List Int) : List Int := l.take (tlen l l.length)
theorem cf_trim (l : List Int) (k : Nat) : cf (trimP l) k = cf l k := by
  unfold trimP
  rw [cf_take]
  split
  · rfl
  · by_cases e : k < l.length
    · exact (tlen_zero l l.length k (by omega) e).symm
    · exact (cf_out (by omega)).symm
theorem trim_length (l : List Int) : (trimP l).length = tlen l l.length := by
  unfold trimP
  rw [List.length_take]
  have := tlen_le l l.length
  omega
theorem trim_le (l : List Int) : (trimP l).length ≤ l.length := by rw [trim_length]; exact tlen_le l l.length
theorem tr_trim (l : List Int) : Tr (trimP l) := fun m h => by
  rw [cf_trim]
  rw [trim_length] at h
  exact tlen_last l l.length m h
theorem trim_eq {l m : List Int} (hm : Tr m) (h : ∀ k, cf l k = cf m k) : trimP l = m := (tr_trim l).uniq hm fun k => by rw [cf_trim, h]
theorem Tr.trim {l : List Int} (h : Tr l) : trimP l = l := trim_eq h fun _ => rfl
theorem trim_mem {l : List Int} {Q : Int → Prop} (h : ∀ c ∈ l, Q c) : ∀ c ∈ trimP l, Q c := fun c hc => h c (List.mem_of_mem_take hc)
def SzP (s : Nat) (l : List Int) : Prop := ∀ c ∈ l, Sz s c
theorem sz0 (s : Nat) : Sz s 0 := ⟨by simpa using Nat.two_pow_pos s⟩
theorem SzP.cf {s : Nat} {l : List Int} (h : SzP s l) (k : Nat) : Sz s (cf l k) := cf_all h (sz0 s) k
theorem SzP.mono {s t : Nat} {l : List Int} (h : SzP s l) (e : s ≤ t) : SzP t l := fun c hc => (h c hc).mono e
theorem SzP.trim {s : Nat} {l : List Int} (h : SzP s l) : SzP s (trimP l) := trim_mem h
theorem SzP.fl {s n : Nat} {φ : Nat → Int} (h : ∀ k, k < n → Sz s (φ k)) : SzP s (fl n φ) := fun c hc => by
  unfold W.fl at hc
  obtain ⟨k, hk, rfl⟩ := List.mem_map.mp hc
  exact h k (List.mem_range.mp hk)

theorem trimmed_loop (l : List Int) : ∀ m, m ≤ l.length → whileO (eAnd (e1 bOf (e2 gtD (eOwn 1) (cst (.int 0)))) (e1 bOf (e2 eqD (e2 ixD (eOwn 0) (e2 subD (eOwn 1) (cst (.int 1)))) (cst (.int 0))))) b_trimmed_1 (m + 1) [.sh (pD l), .sh (.int (m : Nat))] = .nx [.sh (pD l), .sh (.int (tlen l m : Nat))]
  | 0, _ => by simp [whileO, tlen]
  | m + 1, h => by
    have ix : ixD (pD l) (.int (m : Nat)) = some (.int (cf l m)) := by rw [p_ixn, cf_get (by omega)]; rfl
    have he : ((m + 1 : Nat) : Int) - 1 = (m : Nat) := by omega
    have hh : (0 : Int) < ((m + 1 : Nat) : Int) := by omega
    have ih := trimmed_loop l m (by omega)
    rw [whileO]
    by_cases z : cf l m = 0
    · rw [tlen, if_pos z, ← ih]
      simp [-Int.natCast_add, he, hh, ix, z, b_trimmed_1]
    · rw [tlen, if_neg z]
      simp [-Int.natCast_add, he, hh, ix, z]
theorem trimmed_ok (l : List Int) (h : l.length ≤ 100000) : m_trimmed [pD l] = .ok (.sh (pD (trimP l))) := by
  have e := sWhile_eq (trimmed_loop l l.length (Nat.le_refl _)) (by simp)
  have c := cutI_to l (tlen l l.length) (tlen_le l _)
  simp [m_trimmed, c_trimmed, e, c, trimP]
/-! ### the law's own trimming -/
theorem tr_take {l : List Int} {n : Nat} (hz : ∀ k, n ≤ k → cf l k = 0) (hn : n ≤ l.length) (hl : ∀ m, n = m + 1 → cf l m ≠ 0) : trimP l = l.take n := by
  refine trim_eq (fun m hm => ?_) fun k => ?_
  · rw [List.length_take] at hm
    rw [cf_take, if_pos (by omega)]
    exact hl m (by omega)
  · rw [cf_take]
    split
    · rfl
    · exact hz k (by omega)
theorem take_snoc {l : List Int} {n : Nat} (h : n < l.length) : (l.take (n + 1)).map PyData.int = (l.take n).map .int ++ [.int (cf l n)] := by
  rw [List.take_add_one, cf_get h, List.map_append]; rfl
/-! ### sums -/
theorem coefficient_ok (a : List Int) (k : Nat) : m_coefficient_of [pD a, .int (k : Nat)] = .ok (.sh (.int (cf a k))) := by
  by_cases h : k < a.length
  · have : ((k : Nat) : Int) < a.length := by omega
    simp [m_coefficient_of, c_coefficient_of, h, p_ixn, cf_get h]
  · simp [m_coefficient_of, c_coefficient_of, h, cf_out (Nat.not_lt.mp h)]
def addP (a b : List Int) : List Int := trimP (fl (max a.length b.length) fun k => cf a k + cf b k)
theorem SzP.add {s : Nat} {a b : List Int} (ha : SzP s a) (hb : SzP s b) : SzP (s + 1) (addP a b) := SzP.trim (SzP.fl fun k _ => (ha.cf k).add (hb.cf k))
theorem add_len (a b : List Int) : (addP a b).length ≤ max a.length b.length := Nat.le_trans (trim_le _) (by simp)
theorem max2 (a b : Nat) : (if (b : Int) > (a : Int) then (b : Int) else (a : Int)) = ((max a b : Nat) : Int) := by split <;> omega
@[simp] theorem r_max2 (a b : Nat) : maxD [.int (a : Int), .int (b : Int)] = some (.int ((max a b : Nat) : Int)) := by
  show some (PyData.int (if (b : Int) > (a : Int) then (b : Int) else (a : Int))) = _
  rw [max2]
theorem rng0 (n : Nat) : rngL 0 1 n = (List.range n).map fun i => .int (i : Nat) := by unfold rngL; simp
theorem add_ok {a b : List Int} (ha : a.length ≤ 50000) (hb : b.length ≤ 50000) : m_add [pD a, pD b] = .ok (.sh (pD (addP a b))) := by
  have hr := range1_ok (x := ((max a.length b.length : Nat) : Int)) (by omega) (by omega)
  have hc : compR (compS [3] (gSet 3) (cst true) (e2 addD (eCall m_coefficient_of (eCons (eVar 0) (eCons (eVar 3) (cst [])))) (eCall m_coefficient_of (eCons (eVar 1) (eCons (eVar 3) (cst []))))) [.sh (pD a), .sh (pD b), .sh (.int ((max a.length b.length : Nat) : Int)), .no]) (rngL 0 1 (max a.length b.length)) = .ok ((fl (max a.length b.length) fun k => cf a k + cf b k).map .int) := by
    rw [rng0, fl, List.map_map]
    exact compR_map' fun k hk => by simp [compS, coefficient_ok]
  have ht := trimmed_ok (fl (max a.length b.length) fun k => cf a k + cf b k) (by simp; omega)
  have hl : max a.length b.length ≤ sizeLine := slB (by omega)
  simp only [Int.toNat_natCast] at hr
  simp [m_add, c_add, hr, rngL_length, hl, hc, ht, addP]
def scaleP (a : List Int) (c : Int) : List Int := trimP (a.map (· * c))
theorem scale_len (a : List Int) (c : Int) : (scaleP a c).length ≤ a.length := Nat.le_trans (trim_le _) (by simp)
theorem SzP.scale {s t : Nat} {a : List Int} {c : Int} (ha : SzP s a) (hc : Sz t c) : SzP (s + t) (scaleP a c) := SzP.trim fun x hx => by
  obtain ⟨y, hy, rfl⟩ := List.mem_map.mp hx
  exact (ha y hy).mul hc
theorem scale_comp {a : List Int} {c : Int} {s t : Nat} (ha : SzP s a) (hc : Sz t c) (hst : s + t ≤ 134217728) (ρ : Ev) (hρ : ρ.length = 3) (h1 : ρ[1]? = some (.sh (.int c))) :
    compR (compS [2] (gSet 2) (cst true) (e2 mulD (eOwn 2) (eOwn 1)) ρ) (a.map .int) = .ok ((a.map (· * c)).map .int) := by
  rw [List.map_map]
  match ρ, hρ with
  | [x, y, z], _ =>
    simp at h1
    subst h1
    exact compR_map' fun k hk => by simp [compS, okMul_of (ha k hk) hc hst]
theorem scale_ok {a : List Int} {c : Int} {s t : Nat} (ha : SzP s a) (hc : Sz t c) (hst : s + t ≤ 134217728) (hl : a.length ≤ 100000) : m_scale [pD a, .int c] = .ok (.sh (pD (scaleP a c))) := by
  have h := scale_comp ha hc hst [.sh (pD a), .sh (.int c), .no] rfl rfl
  have ht := trimmed_ok (a.map (· * c)) (by simpa using hl)
  simp only [List.map_map] at h
  simp [m_scale, c_scale, slB hl, h, scaleP, -List.map_map]
  rw [show (PyData.list (List.map (PyData.int ∘ fun x => x * c) a)) = pD (a.map (· * c)) by unfold pD; rw [List.map_map]]
  simp [ht]
def subP (a b : List Int) : List Int := addP a (scaleP b (-1))
theorem sz1 : Sz 1 (-1) := .lit (by decide)
theorem subtract_ok {a b : List Int} {s : Nat} (hb : SzP s b) (hs : s ≤ 100000000) (hla : a.length ≤ 50000) (hlb : b.length ≤ 50000) : m_subtract [pD a, pD b] = .ok (.sh (pD (subP a b))) := by
  have h1 := scale_ok hb sz1 (by omega) (by omega)
  have h2 := add_ok (a := a) (b := scaleP b (-1)) hla (Nat.le_trans (scale_len b _) hlb)
  simp [m_subtract, c_subtract, h1, h2, subP]
end W

set_option Elab.async false
set_option linter.all false
set_option maxRecDepth 100000
set_option autoImplicit false
namespace W
open PySem PySem.Spec PyProof.Rows L2 VL
/-! ### products -/
def sumN : Nat → (Nat → Int) → Int
  | 0, _ => 0
  | n + 1, f => sumN n f + f n
theorem sumN_zero {f : Nat → Int} : ∀ {n : Nat}, (∀ i, i < n → f i = 0) → sumN n f = 0
  | 0, _ => rfl
  | n + 1, h => by unfold sumN; rw [sumN_zero (n := n) fun i hi => h i (by omega), h n (by omega)]; rfl
/-- one summand of a coefficient of a product -/
def tm (a b : List Int) (k i : Nat) : Int := if i ≤ k then cf a i * cf b (k - i) else 0
/-- the coefficient of a product -/
def cv (a b : List Int) (k : Nat) : Int := sumN a.length (tm a b k)
theorem cv_nil (b : List Int) (k : Nat) : cv [] b k = 0 := rfl
theorem cv_out {a b : List Int} {k : Nat} (h : a.length + b.length ≤ k + 1) : cv a b k = 0 := sumN_zero fun i hi => by
  unfold tm; split
  · rw [cf_out (l := b) (by omega)]; simp
  · rfl
theorem cv_last {a b : List Int} {m n : Nat} (ha : a.length = m + 1) (hb : b.length = n + 1) : cv a b (m + n) = cf a m * cf b n := by
  unfold cv
  rw [ha, sumN, sumN_zero fun i hi => ?_]
  · unfold tm; rw [if_pos (by omega), show m + n - m = n by omega]; omega
  · unfold tm; rw [if_pos (by omega), cf_out (l := b) (by omega)]; simp
def mulP (a b : List Int) : List Int := if a = [] ∨ b = [] then [] else fl (a.length + b.length - 1) (cv a b)
theorem cf_mul (a b : List Int) (k : Nat) : cf (mulP a b) k = cv a b k := by
  unfold mulP
  by_cases h : a = [] ∨ b = []
  · rw [if_pos h]
    rcases h with rfl | rfl
    · simp [cv_nil]
    · rw [cf_nil, eq_comm]
      exact sumN_zero fun i hi => by unfold tm; split <;> simp
  · rw [if_neg h, cf_fl]
    split
    · rfl
    · rw [cv_out]
      have : 0 < a.length := by cases a with | nil => simp at h | cons _ _ => simp
      omega
theorem mul_len (a b : List Int) : (mulP a b).length ≤ a.length + b.length := by
  unfold mulP; split
  · simp
  · rw [fl_length]; omega
theorem tr_mul {a b : List Int} (ha : Tr a) (hb : Tr b) : Tr (mulP a b) := by
  intro m hm
  rw [cf_mul]
  unfold mulP at hm
  split at hm
  · simp at hm
  · rename_i h
    rw [fl_length] at hm
    obtain ⟨i, hi⟩ : ∃ i, a.length = i + 1 := ⟨a.length - 1, by cases a with | nil => simp at h | cons _ _ => simp⟩
    obtain ⟨j, hj⟩ : ∃ j, b.length = j + 1 := ⟨b.length - 1, by cases b with | nil => simp at h | cons _ _ => simp⟩
    rw [show m = i + j by omega, cv_last hi hj]
    exact Int.mul_ne_zero (ha i hi) (hb j hj)
theorem sz_sum {f : Nat → Int} {s : Nat} : ∀ {n : Nat}, (∀ i, i < n → Sz s (f i)) → Sz (s + n) (sumN n f)
  | 0, _ => sz0 _
  | n + 1, h => (sz_sum (n := n) fun i hi => h i (by omega)).add ((h n (by omega)).mono (by omega))
theorem SzP.cv {s t : Nat} {a b : List Int} (ha : SzP s a) (hb : SzP t b) (k : Nat) : Sz (s + t + a.length) (cv a b k) := sz_sum fun i _ => by
  unfold tm; split
  · exact (ha.cf i).mul (hb.cf _)
  · exact sz0 _
theorem SzP.mul {s t : Nat} {a b : List Int} (ha : SzP s a) (hb : SzP t b) : SzP (s + t + a.length) (mulP a b) := by
  unfold mulP; split
  · exact fun c hc => by cases hc
  · exact SzP.fl fun k _ => ha.cv hb k
theorem enu_get {l : List Int} {i : Nat} {d : D} (h : (enuL (l.map .int))[i]? = some d) : i < l.length ∧ d = .tuple [.int (i : Nat), .int (cf l i)] := by
  unfold enuL at h
  rw [List.length_map, List.getElem?_zipWith] at h
  by_cases e : i < l.length
  · rw [List.getElem?_range e, List.getElem?_map, cf_get e] at h
    exact ⟨e, (Option.some.inj h).symm⟩
  · rw [List.getElem?_eq_none (by simpa using e)] at h
    cases h
theorem enu_length (l : List Int) : (enuL (l.map .int)).length = l.length := by simp [enuL]
theorem fl_ix {n : Nat} {φ : Nat → Int} {k : Nat} (h : k < n) : ((fl n φ).map PyData.int)[k]? = some (.int (φ k)) := by rw [List.getElem?_map, fl_get h]; rfl
/-- one step of the inner loop -/
theorem mul_step {a b : List Int} {s t L : Nat} {φ : Nat → Int} {i j : Nat} (ha : SzP s a) (hb : SzP t b) (hst : s + t ≤ 134217728) (hL : i + j < L) (hL2 : L ≤ 100000) (x0 x1 x5 x6 : SD) :
    gTo (gTupD 2 (gsCons (gSet 5) (gsCons (gSet 6) (gsNil)))) b_multiply_1 (.tuple [.int (j : Nat), .int (cf b j)]) [x0, x1, .ow ((fl L φ).map .int), .sh (.int (i : Nat)), .sh (.int (cf a i)), x5, x6]
      = .nx [x0, x1, .ow ((fl L fun k => if k = i + j then φ k + cf a i * cf b j else φ k).map .int), .sh (.int (i : Nat)), .sh (.int (cf a i)), .sh (.int (j : Nat)), .sh (.int (cf b j))] := by
  have m := okMul_of (ha.cf i) (hb.cf j) hst
  have ix := fl_ix (φ := φ) hL
  have e : ((i : Int) + (j : Int)).toNat = i + j := by omega
  have h1 : (0 : Int) ≤ (i : Int) + (j : Int) := by omega
  have h2 : (i : Int) + (j : Int) < 9223372036854775808 := by omega
  have st : ((fl L φ).map PyData.int).set (i + j) (.int (φ (i + j) + cf a i * cf b j)) = (fl L fun k => if k = i + j then φ k + cf a i * cf b j else φ k).map .int := by
    rw [← List.map_set, fl_set]
    congr 2
    funext k
    by_cases z : k = i + j
    · subst z; simp
    · simp [z]
  simp only [List.getElem?_map] at ix
  simp [b_multiply_1, placeD, h1, h2, e, ix, m, st]
theorem mul_inner {a b : List Int} {s t L : Nat} {φ : Nat → Int} {i : Nat} (ha : SzP s a) (hb : SzP t b) (hst : s + t ≤ 134217728) (hL : i + b.length ≤ L) (hL2 : L ≤ 100000) (x0 x1 x5 x6 : SD) :
    ∃ y5 y6, forO (gTo (gTupD 2 (gsCons (gSet 5) (gsCons (gSet 6) (gsNil)))) b_multiply_1) (enuL (b.map .int)) [x0, x1, .ow ((fl L φ).map .int), .sh (.int (i : Nat)), .sh (.int (cf a i)), x5, x6]
      = .nx [x0, x1, .ow ((fl L fun k => φ k + tm a b k i).map .int), .sh (.int (i : Nat)), .sh (.int (cf a i)), y5, y6] := by
  obtain ⟨ρ', e, y5, y6, rfl⟩ := forO_inv (F := gTo (gTupD 2 (gsCons (gSet 5) (gsCons (gSet 6) (gsNil)))) b_multiply_1) (l := enuL (b.map .int))
    (fun j ρ => ∃ y5 y6, ρ = [x0, x1, .ow ((fl L fun k => φ k + if i ≤ k ∧ k < i + j then cf a i * cf b (k - i) else 0).map .int), .sh (.int (i : Nat)), .sh (.int (cf a i)), y5, y6])
    (ρ := [x0, x1, .ow ((fl L φ).map .int), .sh (.int (i : Nat)), .sh (.int (cf a i)), x5, x6])
    ⟨x5, x6, by
      rw [show fl L φ = fl L fun k => φ k + if i ≤ k ∧ k < i + 0 then cf a i * cf b (k - i) else 0 from fl_congr fun k _ => by rw [if_neg (by omega)]; omega]⟩
    (fun j d ρ hd hi => by
      obtain ⟨hj, rfl⟩ := enu_get hd
      obtain ⟨y5, y6, rfl⟩ := hi
      refine ⟨_, .inl (mul_step ha hb hst (by omega) hL2 _ _ _ _), .sh (.int (j : Nat)), .sh (.int (cf b j)), ?_⟩
      refine congrArg (fun l => [x0, x1, SD.ow (List.map PyData.int l), .sh (.int (i : Nat)), .sh (.int (cf a i)), .sh (.int (j : Nat)), .sh (.int (cf b j))]) (fl_congr fun k _ => ?_)
      by_cases z : k = i + j
      · subst z
        rw [if_pos rfl, if_neg (by omega), if_pos (by omega)]
        simp
      · rw [if_neg z]
        by_cases w : i ≤ k ∧ k < i + j
        · rw [if_pos w, if_pos (by omega)]
        · rw [if_neg w, if_neg (by omega)])
  refine ⟨y5, y6, ?_⟩
  rw [e, enu_length]
  refine congrArg (fun l => Out.nx [x0, x1, SD.ow (List.map PyData.int l), .sh (.int (i : Nat)), .sh (.int (cf a i)), y5, y6]) (fl_congr fun k _ => ?_)
  unfold tm
  by_cases w : i ≤ k
  · rw [if_pos w]
    by_cases v : k < i + b.length
    · rw [if_pos ⟨w, v⟩]
    · rw [if_neg (by omega), cf_out (l := b) (by omega)]; simp
  · rw [if_neg w, if_neg (by omega)]
theorem rep_zero (n : Nat) : (List.replicate n [PyData.int 0]).flatten = (fl n fun _ => 0).map .int := by
  induction n with
  | zero => rfl
  | succ n ih => rw [List.replicate_succ, List.flatten_cons, ih]; simp [fl, List.range_succ_eq_map, List.map_map, Function.comp_def]
theorem multiply_ok {a b : List Int} {s t : Nat} (ha : SzP s a) (hb : SzP t b) (hst : s + t ≤ 134217728) (hla : a.length ≤ 50000) (hlb : b.length ≤ 50000) : m_multiply [pD a, pD b] = .ok (.ow ((mulP a b).map .int)) := by
  by_cases h1 : a = []
  · subst h1
    simp [m_multiply, c_multiply, mulP]
  by_cases h2 : b = []
  · subst h2
    cases a with
    | nil => simp at h1
    | cons x a => simp [m_multiply, c_multiply, mulP]
  · have t1 : truD (pD a) = some true := by rw [p_tru]; cases a with | nil => simp at h1 | cons _ _ => rfl
    have t2 : truD (pD b) = some true := by rw [p_tru]; cases b with | nil => simp at h2 | cons _ _ => rfl
    have la : 0 < a.length := by cases a with | nil => simp at h1 | cons _ _ => simp
    obtain ⟨L, hL⟩ : ∃ L, L = a.length + b.length - 1 := ⟨_, rfl⟩
    have rp : repD [.int 0] ((a.length : Int) + (b.length : Int) - 1) = some ((fl L fun _ => 0).map .int) := by
      unfold repD
      have e : ((a.length : Int) + (b.length : Int) - 1).toNat = L := by omega
      rw [if_pos ⟨by omega, by omega, by rw [e]; exact slB (by simp; omega)⟩, e, rep_zero]
    obtain ⟨ρ', e, y3, y4, y5, y6, rfl⟩ := forO_inv (F := gTo (gTupD 2 (gsCons (gSet 3) (gsCons (gSet 4) (gsNil)))) b_multiply_2) (l := enuL (a.map .int))
      (fun i ρ => ∃ y3 y4 y5 y6, ρ = [.sh (pD a), .sh (pD b), .ow ((fl L fun k => sumN i (tm a b k)).map .int), y3, y4, y5, y6])
      (ρ := [.sh (pD a), .sh (pD b), .ow ((fl L fun _ => 0).map .int), .no, .no, .no, .no])
      ⟨_, _, _, _, rfl⟩
      (fun i d ρ hd hi => by
        obtain ⟨hj, rfl⟩ := enu_get hd
        obtain ⟨y3, y4, y5, y6, rfl⟩ := hi
        obtain ⟨z5, z6, e⟩ := mul_inner (φ := fun k => sumN i (tm a b k)) (i := i) (L := L) ha hb hst (by omega) (by omega) (.sh (pD a)) (.sh (pD b)) y5 y6
        exact ⟨_, .inl (by simp [b_multiply_2, e, -Out.nx.injEq]; rfl), _, _, _, _, rfl⟩)
    rw [enu_length] at e
    have : mulP a b = fl L fun k => sumN a.length (tm a b k) := by
      unfold mulP
      rw [if_neg (by simp [h1, h2]), hL]; rfl
    simp [m_multiply, c_multiply, h1, h2, rp, e, this]

/-! ### products of lists, derivative -/
end W

set_option Elab.async false
set_option linter.all false
set_option maxRecDepth 100000
set_option autoImplicit false
namespace W
open PySem PySem.Spec PyProof.Rows L2 VL
/-! ### numbers as Rat -/
def tQ (r : Rat) : Int × Int := (r.num, (r.den : Int))
def rD (r : Rat) : D := qD (tQ r)
theorem nm_tQ (r : Rat) : Nm (tQ r) := ⟨by
  have := r.den_pos
  show (1 : Int) ≤ (r.den : Int)
  omega, by
  show Nat.gcd r.num.natAbs (r.den : Int).natAbs = 1
  rw [Int.natAbs_natCast]; exact r.reduced⟩
theorem den_ne (r : Rat) : ((r.den : Int) : Rat) ≠ 0 := by
  have := r.den_nz
  exact_mod_cast this
theorem num_eq (r : Rat) : (r.num : Rat) = r * ((r.den : Int) : Rat) := by
  have h : (r.num : Rat) / ((r.den : Int) : Rat) = r := by rw [← Rat.divInt_eq_div]; exact Rat.num_divInt_den r
  have := den_ne r
  grind
theorem mkQ_rat {n d : Int} (h : d ≠ 0) : mkQ n d = tQ ((n : Rat) / (d : Rat)) := by
  have hd : (d : Rat) ≠ 0 := by exact_mod_cast h
  refine (mkQ_nm h).uniq (nm_tQ _) ?_
  have e := mkQ_eq (n := n) h
  have e2 := num_eq ((n : Rat) / (d : Rat))
  generalize hr : (n : Rat) / (d : Rat) = r at e2 ⊢
  have e3 : (r.num : Rat) * (d : Rat) = (n : Rat) * ((r.den : Int) : Rat) := by rw [e2, ← hr]; grind
  have e4 : r.num * d = n * (r.den : Int) := by exact_mod_cast e3
  show (mkQ n d).1 * (r.den : Int) = r.num * (mkQ n d).2
  have : ((mkQ n d).1 * (r.den : Int)) * d = (r.num * (mkQ n d).2) * d := by grind
  exact Int.eq_of_mul_eq_mul_right h this
theorem addQ_rat (r s : Rat) : addQ (tQ r) (tQ s) = tQ (r + s) := by
  unfold addQ
  have h1 := den_ne r
  have h2 := den_ne s
  have h3 : (tQ r).2 * (tQ s).2 ≠ 0 := by
    show (r.den : Int) * (s.den : Int) ≠ 0
    have := r.den_nz
    have := s.den_nz
    exact Int.mul_ne_zero (by omega) (by omega)
  rw [mkQ_rat h3]
  congr 1
  have e1 := num_eq r
  have e2 := num_eq s
  show ((r.num * (s.den : Int) + s.num * (r.den : Int) : Int) : Rat) / (((r.den : Int) * (s.den : Int) : Int) : Rat) = r + s
  rw [Rat.intCast_add, Rat.intCast_mul, Rat.intCast_mul, Rat.intCast_mul, e1, e2]
  grind
theorem mulQ_rat (r s : Rat) : mulQ (tQ r) (tQ s) = tQ (r * s) := by
  unfold mulQ
  have h1 := den_ne r
  have h2 := den_ne s
  have h3 : (tQ r).2 * (tQ s).2 ≠ 0 := by
    show (r.den : Int) * (s.den : Int) ≠ 0
    have := r.den_nz
    have := s.den_nz
    exact Int.mul_ne_zero (by omega) (by omega)
  rw [mkQ_rat h3]
  congr 1
  have e1 := num_eq r
  have e2 := num_eq s
  show ((r.num * s.num : Int) : Rat) / (((r.den : Int) * (s.den : Int) : Int) : Rat) = r * s
  rw [Rat.intCast_mul, Rat.intCast_mul, e1, e2]
  grind
/-! ### values -/
def evP (a : List Int) (x : Rat) : Rat := a.foldr (fun (c : Int) (v : Rat) => v * x + (c : Rat)) 0
def Rk (k : Nat) (r : Rat) : Prop := Nk k (tQ r)
theorem Rk.mono {k l : Nat} {r : Rat} (h : Rk k r) (e : k ≤ l) : Rk l r := Nk.mono h e
theorem Rk.add {k l : Nat} {r s : Rat} (h : Rk k r) (h' : Rk l s) : Rk (k + l + 1) (r + s) := by
  have := Nk.add h h'
  rwa [addQ_rat] at this
theorem Rk.mul {k l : Nat} {r s : Rat} (h : Rk k r) (h' : Rk l s) : Rk (k + l) (r * s) := by
  have := Nk.mul h h'
  rwa [mulQ_rat] at this
theorem rk_int {k : Nat} {c : Int} (h : Sz k c) (hk : 1 ≤ k) : Rk k (c : Rat) := ⟨nm_tQ _, h, (Sz.lit (i := 1) (a := 1) (by decide)).mono hk⟩
theorem rD_int (c : Int) : (PyData.tuple [.int c, .int 1]) = rD (c : Rat) := rfl
theorem rD_0 : (PyData.tuple [.int 0, .int 1]) = rD 0 := rfl
theorem rk0 : Rk 1 0 := nk01
theorem plus_r {r s : Rat} {k l : Nat} (h : Rk k r) (h' : Rk l s) (e : k + l ≤ 8000) : m_plus [rD r, rD s] = .ok (.sh (rD (r + s))) := by
  have := plus_ok h h' e
  rwa [addQ_rat] at this
theorem times_r {r s : Rat} {k l : Nat} (h : Rk k r) (h' : Rk l s) (e : k + l ≤ 8000) : m_times [rD r, rD s] = .ok (.sh (rD (r * s))) := by
  have := times_ok h h' e
  rwa [mulQ_rat] at this
theorem rk_div {n d : Int} {k : Nat} (hd : d ≠ 0) (h1 : Sz k n) (h2 : Sz k d) : Rk k ((n : Rat) / (d : Rat)) := by
  unfold Rk; rw [← mkQ_rat hd]; exact mkQ_nk hd h1 h2
@[simp] theorem okD_r (n : Nat) (r : Rat) : okD (n + 1) (rD r) = true := okD_q n _
@[simp] theorem ix_r0 (r : Rat) : ixD (rD r) (.int 0) = some (.int r.num) := ix_q0 _
@[simp] theorem ix_r1 (r : Rat) : ixD (rD r) (.int 1) = some (.int (r.den : Int)) := ix_q1 _
theorem value_loop {a0 : SD} {x : Rat} {kx c : Nat} (hx : Rk kx x) (hc : 1 ≤ c) : ∀ (r : List Int) (s : Rat) (k : Nat) (j : SD), (∀ z ∈ r, Sz c z) → Rk k s → k + r.length * (kx + c + 1) + kx + c ≤ 8000 →
    ∃ j', forO (gTo (gSet 3) b_value_at_1) (r.map .int) [a0, .sh (rD x), .sh (rD s), j] = .nx [a0, .sh (rD x), .sh (rD (r.foldl (fun (v : Rat) (c : Int) => v * x + (c : Rat)) s)), j'] ∧ Rk (k + r.length * (kx + c + 1)) (r.foldl (fun (v : Rat) (c : Int) => v * x + (c : Rat)) s)
  | [], s, k, j, _, hs, _ => ⟨j, rfl, by simpa using hs⟩
  | z :: r, s, k, j, hr, hs, h => by
    rw [List.length_cons, Nat.succ_mul] at h
    have hz := rk_int (hr z (by simp)) hc
    have e1 := times_r hs hx (by omega)
    have e2 := plus_r (hs.mul hx) hz (by omega)
    have e : gTo (gSet 3) b_value_at_1 (.int z) [a0, .sh (rD x), .sh (rD s), j] = .nx [a0, .sh (rD x), .sh (rD (s * x + (z : Rat))), .sh (.int z)] := by
      simp [b_value_at_1, e1, rD_int, e2]
    obtain ⟨j', i1, i2⟩ := value_loop (a0 := a0) hx hc r (s * x + (z : Rat)) (k + (kx + c + 1)) (.int z |> .sh) (fun y hy => hr y (by simp [hy])) (((hs.mul hx).add hz).mono (by omega)) (by omega)
    refine ⟨j', ?_, ?_⟩
    · rw [List.map_cons]
      unfold forO
      rw [e]
      exact i1
    · rw [List.length_cons, Nat.succ_mul]
      exact i2.mono (by omega)
theorem evP_rev (a : List Int) (x : Rat) : a.reverse.foldl (fun (v : Rat) (c : Int) => v * x + (c : Rat)) 0 = evP a x := by rw [List.foldl_reverse]; rfl
theorem value_at_ok {a : List Int} {x : Rat} {kx c : Nat} (ha : SzP c a) (hx : Rk kx x) (hc : 1 ≤ c) (h : 1 + a.length * (kx + c + 1) + kx + c ≤ 8000) :
    m_value_at [pD a, rD x] = .ok (.sh (rD (evP a x))) ∧ Rk (1 + a.length * (kx + c + 1)) (evP a x) := by
  obtain ⟨j', e, i2⟩ := value_loop (a0 := .sh (pD a)) hx hc a.reverse 0 1 .no (fun z hz => ha z (by simpa using hz)) rk0 (by simpa using h)
  rw [evP_rev] at e i2
  refine ⟨?_, by simpa using i2⟩
  rw [List.map_reverse] at e
  simp [m_value_at, c_value_at, rD_0, e]
/-! ### values of sums and products -/
theorem rD_div {n d : Int} (hd : d ≠ 0) : qD (mkQ n d) = rD ((n : Rat) / (d : Rat)) := by rw [mkQ_rat hd]; rfl
end W

set_option Elab.async false
set_option linter.all false
set_option maxRecDepth 100000
set_option autoImplicit false
namespace W
open PySem PySem.Spec PyProof.Rows L2 VL
theorem ixN_nat {n i : Nat} (h : i < n) : ixN n (i : Int) = some i := by unfold ixN; rw [if_pos (by omega), if_pos (by omega)]; simp
theorem p_ixc {l : List Int} {n : Nat} (h : n < l.length) : ixD (pD l) (.int (n : Int)) = some (.int (cf l n)) := by rw [p_ixn, cf_get h]; rfl
theorem rep_ok {n : Nat} {z : Int} (hz : z = (n : Int)) (h : n ≤ 1000000) : repD [.int 0] z = some ((fl n fun _ => 0).map .int) := by
  subst hz
  unfold repD
  rw [if_pos ⟨by omega, by omega, by simp; exact Nat.le_trans h (by decide)⟩, Int.toNat_natCast, rep_zero]
theorem fl_pix {L n : Nat} {φ : Nat → Int} (h : n < L) : ixD (pD (fl L φ)) (.int (n : Int)) = some (.int (φ n)) := by rw [p_ixn, fl_get h]; rfl
theorem st_fl {L n : Nat} {φ : Nat → Int} {v : Int} : ((fl L φ).map PyData.int).set n (.int v) = (fl L fun k => if k = n then v else φ k).map .int := by rw [← List.map_set, fl_set]
theorem lmul_step {a b : List Int} {s t L : Nat} {φ : Nat → Int} {i j : Nat} (ha : SzP s a) (hb : SzP t b) (hst : s + t ≤ 134217728) (hi : i < a.length) (hj : j < b.length) (hL : i + j < L) (x4 : SD) :
    gTo (gSet 4) b__law_multiply_1 (.int (j : Nat)) [.sh (pD a), .sh (pD b), .ow ((fl L φ).map .int), .sh (.int (i : Nat)), x4]
      = .nx [.sh (pD a), .sh (pD b), .ow ((fl L fun k => if k = i + j then φ k + cf a i * cf b j else φ k).map .int), .sh (.int (i : Nat)), .sh (.int (j : Nat))] := by
  have m := okMul_of (ha.cf i) (hb.cf j) hst
  have ix : ixD (pD (fl L φ)) (.int ((i : Int) + (j : Int))) = some (.int (φ (i + j))) := fl_pix (n := i + j) hL
  have ij : ixN L ((i : Int) + (j : Int)) = some (i + j) := ixN_nat (i := i + j) hL
  have st : ((fl L φ).map PyData.int).set (i + j) (.int (φ (i + j) + cf a i * cf b j)) = (fl L fun k => if k = i + j then φ k + cf a i * cf b j else φ k).map .int := by
    rw [st_fl]
    refine congrArg _ (fl_congr fun k _ => ?_)
    by_cases z : k = i + j
    · subst z; simp
    · simp [z]
  simp [b__law_multiply_1, p_ixc hi, p_ixc hj, ix, ij, m, st]
theorem lmul_inner {a b : List Int} {s t L : Nat} {φ : Nat → Int} {i : Nat} (ha : SzP s a) (hb : SzP t b) (hst : s + t ≤ 134217728) (hi : i < a.length) (hL : i + b.length ≤ L) (x4 : SD) :
    ∃ y4, forO (gTo (gSet 4) b__law_multiply_1) (rngL 0 1 b.length) [.sh (pD a), .sh (pD b), .ow ((fl L φ).map .int), .sh (.int (i : Nat)), x4]
      = .nx [.sh (pD a), .sh (pD b), .ow ((fl L fun k => φ k + tm a b k i).map .int), .sh (.int (i : Nat)), y4] := by
  obtain ⟨ρ', e, y4, rfl⟩ := forO_inv (F := gTo (gSet 4) b__law_multiply_1) (l := rngL 0 1 b.length)
    (fun j ρ => ∃ y4, ρ = [.sh (pD a), .sh (pD b), .ow ((fl L fun k => φ k + if i ≤ k ∧ k < i + j then cf a i * cf b (k - i) else 0).map .int), .sh (.int (i : Nat)), y4])
    (ρ := [.sh (pD a), .sh (pD b), .ow ((fl L φ).map .int), .sh (.int (i : Nat)), x4])
    ⟨x4, by
      rw [show fl L φ = fl L fun k => φ k + if i ≤ k ∧ k < i + 0 then cf a i * cf b (k - i) else 0 from fl_congr fun k _ => by rw [if_neg (by omega)]; omega]⟩
    (fun j d ρ hd hi' => by
      obtain ⟨hj, rfl⟩ := rng0_get hd
      obtain ⟨y4, rfl⟩ := hi'
      refine ⟨_, .inl (lmul_step ha hb hst hi hj (by omega) _), .sh (.int (j : Nat)), ?_⟩
      refine congrArg (fun l => [SD.sh (pD a), .sh (pD b), SD.ow (List.map PyData.int l), .sh (.int (i : Nat)), .sh (.int (j : Nat))]) (fl_congr fun k _ => ?_)
      by_cases z : k = i + j
      · subst z
        rw [if_pos rfl, if_neg (by omega), if_pos (by omega)]
        simp
      · rw [if_neg z]
        by_cases w : i ≤ k ∧ k < i + j
        · rw [if_pos w, if_pos (by omega)]
        · rw [if_neg w, if_neg (by omega)])
  refine ⟨y4, ?_⟩
  rw [e, rngL_length]
  refine congrArg (fun l => Out.nx [SD.sh (pD a), .sh (pD b), SD.ow (List.map PyData.int l), .sh (.int (i : Nat)), y4]) (fl_congr fun k _ => ?_)
  unfold tm
  by_cases w : i ≤ k
  · rw [if_pos w]
    by_cases v : k < i + b.length
    · rw [if_pos ⟨w, v⟩]
    · rw [if_neg (by omega), cf_out (l := b) (by omega)]; simp
  · rw [if_neg w, if_neg (by omega)]
end W

set_option Elab.async false
set_option linter.all false
set_option maxRecDepth 100000
set_option autoImplicit false
namespace W
open PySem PySem.Spec PyProof.Rows L2 VL
noncomputable def b__law_lowest_1 : Ev → Out := sSeq (sIf (e1 bOf (e2 eqD (eOwn 3) (cst (.int 0)))) (.bk) (sNil)) (sPar 2 3 (eCons (eVar 3) (eCons (e2 modD (e1 intD (eCons (eOwn 2) (cst []))) (eOwn 3)) (cst []))))
noncomputable def c__law_lowest : Ev → Out := sSeq (sIf (e1 bOf (e2 ltD (eOwn 1) (cst (.int 0)))) (sPar 0 1 (eCons (e1 negD (eOwn 0)) (eCons (e1 negD (eOwn 1)) (cst [])))) (sNil)) (sSeq (sPar 2 3 (eCons (e1 absD (eCons (eOwn 0) (cst []))) (eCons (eVar 1) (cst [])))) (sSeq (sFor (e1 range1D (eCons (cst (.int 5000)) (cst []))) (gSet 4) b__law_lowest_1) (sRet (e1 tupD (eCons (e2 fdivD (eOwn 0) (eOwn 2)) (eCons (e2 fdivD (eOwn 1) (eOwn 2)) (cst [])))))))
noncomputable def m__law_lowest : List D → R SD := runD 2 5 c__law_lowest
noncomputable def c__law_add_k40 : Ev → Out := sRet (eCall m__law_lowest (eCons (e2 addD (e2 mulD (e2 ixD (eOwn 0) (cst (.int 0))) (e2 ixD (eOwn 1) (cst (.int 1)))) (e2 mulD (e2 ixD (eOwn 1) (cst (.int 0))) (e2 ixD (eOwn 0) (cst (.int 1))))) (eCons (e2 mulD (e2 ixD (eOwn 0) (cst (.int 1))) (e2 ixD (eOwn 1) (cst (.int 1)))) (cst []))))
noncomputable def m__law_add_k40 : List D → R SD := runD 2 2 c__law_add_k40
noncomputable def c__law_mul : Ev → Out := sRet (eCall m__law_lowest (eCons (e2 mulD (e2 ixD (eOwn 0) (cst (.int 0))) (e2 ixD (eOwn 1) (cst (.int 0)))) (eCons (e2 mulD (e2 ixD (eOwn 0) (cst (.int 1))) (e2 ixD (eOwn 1) (cst (.int 1)))) (cst []))))
noncomputable def m__law_mul : List D → R SD := runD 2 2 c__law_mul
noncomputable def b__law_value_1 : Ev → Out := sSet 2 (eCall m__law_add_k40 (eCons (eCall m__law_mul (eCons (eVar 2) (eCons (eVar 1) (cst [])))) (eCons (e1 tupD (eCons (e2 ixD (eOwn 0) (e2 subD (e2 subD (e1 lenD (eCons (eOwn 0) (cst []))) (cst (.int 1))) (eOwn 3))) (eCons (cst (.int 1)) (cst [])))) (cst []))))
noncomputable def c__law_value : Ev → Out := sSeq (sSet 2 (e1 tupD (eCons (cst (.int 0)) (eCons (cst (.int 1)) (cst []))))) (sSeq (sFor (e1 range1D (eCons (e1 lenD (eCons (eOwn 0) (cst []))) (cst []))) (gSet 3) b__law_value_1) (sRet (eVar 2)))
noncomputable def m__law_value : List D → R SD := runD 2 4 c__law_value
/-! ### the pool of small numbers -/
structure IsPool (l : List Int) : Prop where
  two : 2 ≤ l.length
  len : l.length ≤ 10000
  lo : ∀ x ∈ l, 0 ≤ x
  hi : ∀ x ∈ l, x < 1000000
structure SmallP (n : Nat) (a : List Int) : Prop where
  tr : Tr a
  sz : SzP 6 a
  len : a.length ≤ n
/-! ### rows -/
structure Row where
  ps : List (List Int)
  q : List Int
  s : Str
def rowD (r : Row) : D := .tuple [.list (r.ps.map pD), pD r.q, .str r.s]
structure RowOk (m : Nat) (r : Row) : Prop where
  len : r.ps.length = m
  ps : ∀ p ∈ r.ps, SmallP 3 p
  q : SmallP 3 r.q
  s : r.s = "<=" ∨ r.s = "<" ∨ r.s = "="
theorem SmallP.mono {n m : Nat} {a : List Int} (h : SmallP n a) (e : n ≤ m) : SmallP m a := ⟨h.tr, h.sz, Nat.le_trans h.len e⟩
/-! ### numbers in lowest terms, another way -/
theorem low_step {n d : SD} {a b : Nat} {x : D} {j : SD} (hb : b ≠ 0) : gTo (gSet 4) b__law_lowest_1 x [n, d, .sh (.int (a : Nat)), .sh (.int (b : Nat)), j] = .nx [n, d, .sh (.int (b : Nat)), .sh (.int ((a % b : Nat) : Int)), .sh x] := by
  have hm : modD (.int (a : Nat)) (.int (b : Nat)) = some (.int ((a % b : Nat) : Int)) := by
    rw [r_mod (by omega)]; simp [Int.fmod_eq_emod_of_nonneg]
  simp [b__law_lowest_1, hm, hb]
theorem low_loop {n d : SD} {a b : Nat} (ha : a < 2 ^ 1990) (hb : b < 2 ^ 1990) : ∃ y j, forO (gTo (gSet 4) b__law_lowest_1) (rngL 0 1 5000) [n, d, .sh (.int (a : Nat)), .sh (.int (b : Nat)), .no] = .nx [n, d, .sh (.int (Nat.gcd a b : Nat)), y, j] := by
  refine forO_gen (F := gTo (gSet 4) b__law_lowest_1) (l := rngL 0 1 5000) (fun o => ∃ y j, o = .nx [n, d, .sh (.int (Nat.gcd a b : Nat)), y, j])
    (fun i ρ => ∃ (x y : Nat) (j : SD), ρ = [n, d, .sh (.int (x : Nat)), .sh (.int (y : Nat)), j] ∧ Nat.gcd x y = Nat.gcd a b ∧ ((i = 0 ∧ x * y * 2 < 2 ^ 5000) ∨ (x * y * 2 ^ i < 2 ^ 5000 ∧ y ≤ x)))
    ⟨_, _, _, rfl, rfl, .inl ⟨rfl, by
      have h1 := Nat.mul_lt_mul'' ha hb
      rw [← Nat.pow_add] at h1
      have h2 : (2 : Nat) ^ 5000 = 2 ^ (1990 + 1990) * 2 ^ 1020 := by rw [← Nat.pow_add]
      have h3 : (2 : Nat) ≤ 2 ^ 1020 := by
        have : (2 : Nat) ^ 1 ≤ 2 ^ 1020 := Nat.pow_le_pow_right (by decide) (by decide)
        simpa using this
      rw [h2]
      generalize (2 : Nat) ^ (1990 + 1990) = q at *
      exact Nat.lt_of_lt_of_le (Nat.mul_lt_mul_of_pos_right h1 (by decide)) (Nat.mul_le_mul_left q h3)⟩⟩
    (fun i z ρ hd hi => ?_) (fun ρ h => ?_)
  · obtain ⟨x, y, j, rfl, hg, hp⟩ := hi
    by_cases hy : y = 0
    · subst hy
      right; left
      exact ⟨_, by simp [b__law_lowest_1, -Out.bk.injEq] <;> rfl, .sh (.int 0), .sh z, by rw [← hg]; simp⟩
    · left
      refine ⟨_, .inl (low_step hy), y, x % y, _, rfl, by rw [← hg, Nat.gcd_comm x y, Nat.gcd_comm y (x % y), ← Nat.gcd_rec], .inr ?_⟩
      rcases hp with ⟨rfl, hp⟩ | ⟨hp, hl⟩
      · have : x % y < y := Nat.mod_lt _ (by omega)
        have h2 : x % y ≤ x := Nat.mod_le _ _
        refine ⟨Nat.lt_of_le_of_lt ?_ hp, by omega⟩
        calc y * (x % y) * 2 ^ (0 + 1) = y * (x % y) * 2 := by simp
          _ ≤ y * x * 2 := Nat.mul_le_mul_right 2 (Nat.mul_le_mul_left y h2)
          _ = x * y * 2 := by rw [Nat.mul_comm y x]
      · obtain ⟨h1, h2⟩ := gcd_halves hl hy
        refine ⟨Nat.lt_of_le_of_lt ?_ hp, h2⟩
        calc y * (x % y) * 2 ^ (i + 1) = 2 * (y * (x % y)) * 2 ^ i := by rw [Nat.pow_succ]; grind
          _ ≤ x * y * 2 ^ i := Nat.mul_le_mul_right _ h1
  · obtain ⟨x, y, j, rfl, hg, hp⟩ := h
    rw [rngL_length] at hp
    rcases hp with ⟨h, _⟩ | ⟨hp, hl⟩
    · cases h
    · have h0 : x * y = 0 := by
        rcases Nat.eq_zero_or_pos (x * y) with h | h
        · exact h
        · have : 1 * 2 ^ 5000 ≤ x * y * 2 ^ 5000 := Nat.mul_le_mul_right _ h
          rw [Nat.one_mul] at this
          exact absurd hp (Nat.not_lt.mpr this)
      have hy : y = 0 := by
        rcases Nat.mul_eq_zero.mp h0 with h | h
        · omega
        · exact h
      subst hy
      exact ⟨.sh (.int 0), j, by rw [← hg]; simp⟩
theorem lowest_ok {n d : Int} (h1 : Sz 1990 n) (h2 : Sz 1990 d) (hd : d ≠ 0) : m__law_lowest [.int n, .int d] = .ok (.sh (rD ((n : Rat) / (d : Rat)))) := by
  show _ = VL.R.ok (SD.sh (qD (tQ _)))
  rw [← mkQ_rat hd]
  have o := okDiv_gcd (n := n) (h2.mono (show 1990 ≤ 9000 by decide)) hd
  have hr := range1_ok (x := 5000) (by decide) (by decide)
  have ea : ∀ a : Int, (if a < 0 then -a else a) = (a.natAbs : Int) := fun a => by split <;> omega
  by_cases h : d < 0
  · obtain ⟨y, j, e⟩ := low_loop (n := .sh (.int (-n))) (d := .sh (.int (-d))) h1.lt h2.lt
    have ed : -d = (d.natAbs : Int) := by omega
    have ea' : (if 0 < n then n else -n) = (n.natAbs : Int) := by split <;> omega
    have e' := e
    rw [← ed] at e'
    simp [m__law_lowest, c__law_lowest, h, hr, mkQ, qD, ea', e', o]
  · obtain ⟨y, j, e⟩ := low_loop (n := .sh (.int n)) (d := .sh (.int d)) h1.lt h2.lt
    have ed : ((d.natAbs : Nat) : Int) = d := by omega
    rw [ed] at e
    simp [m__law_lowest, c__law_lowest, h, hr, mkQ, qD, ea, e, o]

theorem ladd2_r {r s : Rat} {k l : Nat} (h : Rk k r) (h' : Rk l s) (e : k + l ≤ 1900) : m__law_add_k40 [rD r, rD s] = .ok (.sh (rD (r + s))) := by
  have o1 := okMul_of h.s1 h'.s2 (by omega)
  have o2 := okMul_of h'.s1 h.s2 (by omega)
  have o3 := okMul_of h.s2 h'.s2 (by omega)
  have n := lowest_ok (((h.s1.mul h'.s2).add (Nat.add_comm l k ▸ h'.s1.mul h.s2)).mono (show _ ≤ 1990 by omega)) ((h.s2.mul h'.s2).mono (show _ ≤ 1990 by omega)) (h.mulne h')
  rw [← rD_div (h.mulne h')] at n
  have e2 := addQ_rat r s
  unfold addQ at e2
  rw [e2] at n
  have n' : m__law_lowest [.int (r.num * (s.den : Int) + s.num * (r.den : Int)), .int ((r.den : Int) * (s.den : Int))] = .ok (.sh (rD (r + s))) := n
  have o1' : okMul r.num (s.den : Int) = true := o1
  have o2' : okMul s.num (r.den : Int) = true := o2
  have o3' : okMul (r.den : Int) (s.den : Int) = true := o3
  simp [m__law_add_k40, c__law_add_k40, o1', o2', o3', n']
theorem lmul2_r {r s : Rat} {k l : Nat} (h : Rk k r) (h' : Rk l s) (e : k + l ≤ 1900) : m__law_mul [rD r, rD s] = .ok (.sh (rD (r * s))) := by
  have o1' : okMul r.num s.num = true := okMul_of h.s1 h'.s1 (by omega)
  have o3' : okMul (r.den : Int) (s.den : Int) = true := okMul_of h.s2 h'.s2 (by omega)
  have n := lowest_ok ((h.s1.mul h'.s1).mono (show _ ≤ 1990 by omega)) ((h.s2.mul h'.s2).mono (show _ ≤ 1990 by omega)) (h.mulne h')
  rw [← rD_div (h.mulne h')] at n
  have e2 := mulQ_rat r s
  unfold mulQ at e2
  rw [e2] at n
  have n' : m__law_lowest [.int (r.num * s.num), .int ((r.den : Int) * (s.den : Int))] = .ok (.sh (rD (r * s))) := n
  simp [m__law_mul, c__law_mul, o1', o3', n']
theorem lvalue_loop {a : List Int} {x : Rat} {kx c : Nat} (ha : SzP c a) (hx : Rk kx x) (hc : 1 ≤ c) (h : 1 + a.length * (kx + c + 1) + kx + c ≤ 1900) :
    ∃ j', forO (gTo (gSet 3) b__law_value_1) (rngL 0 1 a.length) [.sh (pD a), .sh (rD x), .sh (rD 0), .no] = .nx [.sh (pD a), .sh (rD x), .sh (rD (evP a x)), j'] := by
  obtain ⟨ρ', e, j, rfl, _⟩ := forO_inv (F := gTo (gSet 3) b__law_value_1) (l := rngL 0 1 a.length)
    (fun i ρ => ∃ j, ρ = [.sh (pD a), .sh (rD x), .sh (rD (evP (a.drop (a.length - i)) x)), j] ∧ Rk (1 + i * (kx + c + 1)) (evP (a.drop (a.length - i)) x))
    (ρ := [.sh (pD a), .sh (rD x), .sh (rD 0), .no])
    ⟨.no, by rw [Nat.sub_zero, List.drop_length]; rfl, by rw [Nat.sub_zero, List.drop_length, Nat.zero_mul]; exact rk0⟩
    (fun i d ρ hd hi => by
      obtain ⟨hil, rfl⟩ := rng0_get hd
      obtain ⟨j, rfl, hs⟩ := hi
      obtain ⟨n, hn⟩ : ∃ n, a.length - i = n + 1 := ⟨a.length - i - 1, by omega⟩
      rw [hn] at hs ⊢
      have hz := rk_int (ha.cf n) hc
      have hmul : (i + 1) * (kx + c + 1) ≤ a.length * (kx + c + 1) := Nat.mul_le_mul_right _ (by omega)
      rw [Nat.succ_mul] at hmul
      have u1 := lmul2_r hs hx (by omega)
      have u2 := ladd2_r (hs.mul hx) hz (by omega)
      have ix : ixD (pD a) (.int ((a.length : Int) - 1 - (i : Int))) = some (.int (cf a n)) := by
        rw [show (a.length : Int) - 1 - (i : Int) = (n : Int) by omega]
        exact p_ixc (by omega)
      have dr : a.drop n = cf a n :: a.drop (n + 1) := by
        rw [List.drop_eq_getElem_cons (by omega), cf_elem (by omega)]
      have ev : evP (a.drop n) x = evP (a.drop (n + 1)) x * x + (cf a n : Rat) := by rw [dr]; rfl
      refine ⟨_, .inl (by simp [b__law_value_1, u1, rD_int, u2, ix, -Out.nx.injEq] <;> rfl), .sh (.int (i : Nat)), ?_, ?_⟩
      · rw [show a.length - (i + 1) = n by omega, ev]
      · rw [show a.length - (i + 1) = n by omega, ev, Nat.succ_mul]
        exact ((hs.mul hx).add hz).mono (by omega))
  rw [rngL_length, Nat.sub_self] at e
  exact ⟨j, e⟩
theorem lvalue_ok {a : List Int} {x : Rat} {kx c : Nat} (ha : SzP c a) (hx : Rk kx x) (hc : 1 ≤ c) (h : 1 + a.length * (kx + c + 1) + kx + c ≤ 1900) (hl : a.length ≤ 100000) :
    m__law_value [pD a, rD x] = .ok (.sh (rD (evP a x))) := by
  obtain ⟨j', e⟩ := lvalue_loop ha hx hc h
  have hr := range1_ok (x := (a.length : Nat)) (by omega) (by omega)
  simp [m__law_value, c__law_value, rD_0, hr, e]
/-! ### how the pool is made -/
structure Sm (c : Nat) (l : List Int) : Prop where
  len : l.length ≤ c
  lo : ∀ x ∈ l, 0 ≤ x
  hi : ∀ x ∈ l, x < 60
theorem Sm.mono {c d : Nat} {l : List Int} (h : Sm c l) (e : c ≤ d) : Sm d l := ⟨Nat.le_trans h.len e, h.lo, h.hi⟩
end W

set_option Elab.async false
set_option linter.all false
set_option maxRecDepth 100000
set_option autoImplicit false
namespace W
open PySem PySem.Spec PyProof.Rows L2 VL
theorem row_ix0 (r : Row) : ixD (rowD r) (.int 0) = some (.list (r.ps.map pD)) := by simp [rowD]
end W

set_option Elab.async false
set_option linter.all false
set_option maxRecDepth 100000
set_option autoImplicit false
namespace W
open PySem PySem.Spec PyProof.Rows L2 VL
/-! ### the value of a row -/
structure RowG (m c : Nat) (r : Row) : Prop where
  len : r.ps.length = m
  ps : ∀ p ∈ r.ps, SzP 6 p ∧ p.length ≤ 3
  q : SzP c r.q
  ql : r.q.length ≤ 3
  s : r.s = "<=" ∨ r.s = "<" ∨ r.s = "="
theorem RowOk.g {m : Nat} {r : Row} (h : RowOk m r) {c : Nat} (hc : 6 ≤ c) : RowG m c r := ⟨h.len, fun p hp => ⟨(h.ps p hp).sz, (h.ps p hp).len⟩, h.q.sz.mono hc, h.q.len, h.s⟩
def rvL (ps : List (List Int)) (xs : List Rat) (t acc : Rat) : Rat := (ps.zip xs).foldl (fun a px => a + evP px.1 t * px.2) acc
def rv (r : Row) (xs : List Rat) (t : Rat) : Rat := rvL r.ps xs t (evP r.q t)
theorem rowD_ix1 (r : Row) : ixD (rowD r) (.int 1) = some (pD r.q) := by simp [rowD]
/-! ### signs that fit -/
/-! ### rows that are fulfilled -/
end W

set_option Elab.async false
set_option linter.all false
set_option maxRecDepth 100000
set_option autoImplicit false
namespace W
open PySem PySem.Spec PyProof.Rows L2 VL
/-! ### one number taken out of rows: plain law -/
inductive Sg | lt | le | eq
deriving DecidableEq
/-- a row in one number: coefficient, rest, sign -/
structure R1 where
  a : Rat
  b : Rat
  s : Sg
/-! ### rows with numbers put in -/
def withoutR (r : Row) (k : Nat) : Row := ⟨r.ps.take k ++ r.ps.drop (k + 1), r.q, r.s⟩
def mixP (f g a b : List Int) : List Int := subP (mulP a f) (mulP b g)
def mixedR (row : Row) (f : List Int) (other : Row) (g : List Int) (s : Str) : Row := ⟨List.zipWith (mixP f g) row.ps other.ps, mixP f g row.q other.q, s⟩
def contN (a : List Int) : Nat := a.foldl (fun g c => Nat.gcd g c.natAbs) 0
theorem cont_dvd : ∀ (a : List Int) (g : Nat), (a.foldl (fun g c => Nat.gcd g c.natAbs) g ∣ g) ∧ ∀ c ∈ a, ((a.foldl (fun g c => Nat.gcd g c.natAbs) g : Nat) : Int) ∣ c
  | [], g => ⟨Nat.dvd_refl _, by simp⟩
  | c :: a, g => by
    obtain ⟨h1, h2⟩ := cont_dvd a (Nat.gcd g c.natAbs)
    refine ⟨Nat.dvd_trans h1 (Nat.gcd_dvd_left _ _), fun d hd => ?_⟩
    rcases List.mem_cons.mp hd with rfl | hd
    · exact Int.ofNat_dvd_left.mpr (Nat.dvd_trans h1 (Nat.gcd_dvd_right _ _))
    · exact h2 d hd
theorem contN_dvd {a : List Int} {c : Int} (h : c ∈ a) : (contN a : Int) ∣ c := (cont_dvd a 0).2 c h
def contR (r : Row) : Nat := contN ((r.ps ++ [r.q]).map fun p => (contN p : Int))
def divP (c : Int) (p : List Int) : List Int := p.map fun x => x.fdiv c
def dividedR (r : Row) : Row := if contR r = 0 then r else ⟨r.ps.map (divP (contR r)), divP (contR r) r.q, r.s⟩
/-! ### a number taken out: what the program computes -/
def row0 : Row := ⟨[], [], "="⟩
def rowAt (rs : List Row) (i : Nat) : Row := rs.getD i row0
theorem rowAt_get {rs : List Row} {i : Nat} (h : i < rs.length) : rs[i]? = some (rowAt rs i) := by
  unfold rowAt
  rw [List.getD_eq_getElem?_getD, List.getElem?_eq_getElem h]; rfl
theorem rowAt_mem {rs : List Row} {i : Nat} (h : i < rs.length) : rowAt rs i ∈ rs := List.mem_of_getElem? (rowAt_get h)
def Len3 (m : Nat) (r : Row) : Prop := r.ps.length = m ∧ (r.s = "<=" ∨ r.s = "<" ∨ r.s = "=")
end W

set_option Elab.async false
set_option linter.all false
set_option maxRecDepth 100000
set_option autoImplicit false
namespace W
open PySem PySem.Spec PyProof.Rows L2 VL
noncomputable def c_without : Ev → Out := sSeq (sAsg (eVar 0) (gTupD 3 (gsCons (gSet 2) (gsCons (gSet 3) (gsCons (gSet 4) (gsNil)))))) (sSeq (sSetO 5 (eComp [6] (e1 seqD (e2 addD (e3 sliceD (eOwn 2) (pNo) (e1 intOf (eVar 1))) (e3 sliceD (eOwn 2) (e1 intOf (e2 addD (eOwn 1) (cst (.int 1)))) (pNo)))) (gSet 6) (cst true) (eLst (e1 listO (eCons (eOwn 6) (cst [])))))) (sFz 5 (sRet (e1 tupD (eCons (eVar 5) (eCons (eLst (e1 listO (eCons (eOwn 3) (cst [])))) (eCons (eVar 4) (cst []))))))))
noncomputable def m_without : List D → R SD := runD 2 7 c_without
noncomputable def b_content_1 : Ev → Out := sSet 1 (e1 gcdD (eCons (eOwn 1) (eCons (eOwn 2) (cst []))))
noncomputable def c_content : Ev → Out := sSeq (sSet 1 (cst (.int 0))) (sSeq (sFor (e1 seqD (eVar 0)) (gSet 2) b_content_1) (sRet (eVar 1)))
noncomputable def m_content : List D → R SD := runD 1 3 c_content
noncomputable def c_divided_row : Ev → Out := sSeq (sAsg (eVar 0) (gTupD 3 (gsCons (gSet 1) (gsCons (gSet 2) (gsCons (gSet 3) (gsNil)))))) (sSeq (sSet 4 (eCall m_content (eCons (eLst (eComp [5] (e1 seqD (e2 addD (eOwn 1) (eLst (e1 lim (eCons (eVar 2) (cst [])))))) (gSet 5) (cst true) (eCall m_content (eCons (eVar 5) (cst []))))) (cst [])))) (sSeq (sIf (e1 bOf (e2 eqD (eOwn 4) (cst (.int 0)))) (sRet (eVar 0)) (sNil)) (sSeq (sSetO 6 (eComp [5] (e1 seqD (e2 addD (eOwn 1) (eLst (e1 lim (eCons (eVar 2) (cst [])))))) (gSet 5) (cst true) (eLst (eComp [7] (e1 seqD (eVar 5)) (gSet 7) (cst true) (e2 fdivD (eOwn 7) (eOwn 4)))))) (sFz 6 (sRet (e1 tupD (eCons (e3 sliceD (eOwn 6) (pNo) (e1 intOf (e1 negD (cst (.int 1))))) (eCons (e2 ixD (eOwn 6) (e1 negD (cst (.int 1)))) (eCons (eVar 3) (cst []))))))))))
noncomputable def m_divided_row : List D → R SD := runD 1 8 c_divided_row
noncomputable def b_mixed_1 : Ev → Out := sApp 5 (eCall m_subtract (eCons (eCall m_multiply (eCons (eVar 6) (eCons (eVar 1) (cst [])))) (eCons (eCall m_multiply (eCons (eVar 7) (eCons (eVar 3) (cst [])))) (cst []))))
noncomputable def c_mixed : Ev → Out := sSeq (sSetO 5 (e1 lim (cst []))) (sSeq (sFor (e1 zipD (eCons (e2 addD (e2 ixD (eOwn 0) (cst (.int 0))) (eLst (e1 lim (eCons (e2 ixD (eOwn 0) (cst (.int 1))) (cst []))))) (eCons (e2 addD (e2 ixD (eOwn 2) (cst (.int 0))) (eLst (e1 lim (eCons (e2 ixD (eOwn 2) (cst (.int 1))) (cst []))))) (cst [])))) (gTupD 2 (gsCons (gSet 6) (gsCons (gSet 7) (gsNil)))) b_mixed_1) (sRet (e1 tupD (eCons (e3 sliceD (eOwn 5) (pNo) (e1 intOf (e1 negD (cst (.int 1))))) (eCons (e2 ixD (eOwn 5) (e1 negD (cst (.int 1)))) (eCons (eVar 4) (cst [])))))))
noncomputable def m_mixed : List D → R SD := runD 5 8 c_mixed
@[simp] theorem r_run5 (n : Nat) (F : Ev → Out) (a b c d e : D) : runD 5 n F [a, b, c, d, e] = fin (F (.sh a :: .sh b :: .sh c :: .sh d :: .sh e :: List.replicate (n - 5) .no)) := id rfl
@[simp] theorem r_run6 (n : Nat) (F : Ev → Out) (a b c d e f : D) : runD 6 n F [a, b, c, d, e, f] = fin (F (.sh a :: .sh b :: .sh c :: .sh d :: .sh e :: .sh f :: List.replicate (n - 6) .no)) := id rfl
/-! ### a number taken out: the program's functions -/
theorem cut_to (l : List D) (k : Nat) (h : k ≤ l.length) : cutL l none (some (k : Int)) = l.take k := by
  unfold cutL; rw [HT.sIx_none, sIx_in (by omega) (by omega)]; simp
theorem cut_from (l : List D) (k : Int) (j : Nat) (hj : k = j) (h : j ≤ l.length) : cutL l (some k) none = l.drop j := by
  subst hj
  unfold cutL; rw [HT.sIx_none, sIx_in (by omega) (by omega)]; simp
  rw [List.take_of_length_le (by simp)]
theorem cut_init {α : Type} (F : α → D) (l : List α) (a : α) : cutL ((l ++ [a]).map F) none (some (-1)) = l.map F := by
  rw [cut_map, HT.sIx_none]
  have : HT.sIx (l ++ [a]).length (l ++ [a]).length (some (-1)) = l.length := by
    show (if (-1 : Int) < 0 then (-1 + ((l ++ [a]).length : Int)).toNat else min (-1 : Int).toNat (l ++ [a]).length) = _
    rw [if_pos (by decide)]; simp; omega
  rw [this, List.drop_zero, Nat.sub_zero, List.take_left]
theorem at_last {α : Type} (F : α → D) (l : List α) (a : α) : atI ((l ++ [a]).map F) (-1 : Int) = some (F a) := by rw [List.map_append]; exact r_at_last
theorem withoutR_len {r : Row} {k : Nat} (hk : k < r.ps.length) : ((withoutR r k).ps.length : Nat) = r.ps.length - 1 := by unfold withoutR; simp; omega
theorem without_ok {r : Row} {k : Nat} (hk : k < r.ps.length) (hl : r.ps.length ≤ 1000) : m_without [rowD r, .int (k : Int)] = .ok (.sh (rowD (withoutR r k))) := by
  have c1 := cut_to (r.ps.map pD) k (by simp; omega)
  have c2 := cut_from (r.ps.map pD) ((k : Int) + 1) (k + 1) (by omega) (by simp; omega)
  have ca : catD ((r.ps.map pD).take k) ((r.ps.map pD).drop (k + 1)) = some ((withoutR r k).ps.map pD) := by
    rw [r_cat (by simp; exact slB (by omega))]; unfold withoutR; rw [List.map_append, List.map_take, List.map_drop]
  have hw : (withoutR r k).ps.length ≤ sizeLine := slB (by rw [withoutR_len hk]; omega)
  have hc : ∀ ρ : Ev, ρ.length = 7 → compR (compS [6] (gSet 6) (cst true) (eLst (e1 listO (eCons (eOwn 6) (cst [])))) ρ) ((withoutR r k).ps.map pD) = .ok ((withoutR r k).ps.map pD) := fun ρ hρ => by
    match ρ, hρ with
    | [a0, a1, a2, a3, a4, a5, a6], _ => exact compR_map' fun p hp => by simp [compS]
  simp [m_without, c_without, rowD, c1, c2, ca, hw, hc, -r_cat]
  unfold withoutR; simp
/-! contents -/
theorem content_loop (w0 : SD) : ∀ (a : List Int) (g : Nat) (j : SD), ∃ j', forO (gTo (gSet 2) b_content_1) (a.map .int) [w0, .sh (.int (g : Int)), j] = .nx [w0, .sh (.int ((a.foldl (fun g c => Nat.gcd g c.natAbs) g : Nat) : Int)), j']
  | [], g, j => ⟨j, rfl⟩
  | c :: a, g, j => by
    obtain ⟨j', e⟩ := content_loop w0 a (Nat.gcd g c.natAbs) (.sh (.int c))
    refine ⟨j', ?_⟩
    have st : gTo (gSet 2) b_content_1 (.int c) [w0, .sh (.int (g : Int)), j] = .nx [w0, .sh (.int ((Nat.gcd g c.natAbs : Nat) : Int)), .sh (.int c)] := by simp [b_content_1]
    rw [List.map_cons, forO, st]
    exact e
theorem content_ok (a : List Int) : m_content [pD a] = .ok (.sh (.int (contN a : Int))) := by
  obtain ⟨j, e⟩ := content_loop (.sh (pD a)) a 0 .no
  have e' : forO (gTo (gSet 2) b_content_1) (a.map .int) [.sh (pD a), .sh (.int 0), .no] = .nx [.sh (pD a), .sh (.int (contN a : Int)), j] := e
  simp [m_content, c_content, e']
theorem contN_zero : ∀ {a : List Int}, (∀ c ∈ a, c = 0) → contN a = 0 := fun {a} h => by
  unfold contN
  induction a with
  | nil => rfl
  | cons c a ih =>
    rw [List.foldl_cons, h c (by simp)]
    exact ih fun d hd => h d (by simp [hd])
theorem contN_sz {a : List Int} {s : Nat} (h : SzP s a) : Sz s (contN a : Int) := by
  by_cases z : ∀ c ∈ a, c = 0
  · rw [contN_zero z]; exact sz0 _
  · obtain ⟨c, hc, c0⟩ : ∃ c, c ∈ a ∧ c ≠ 0 := by
      apply Classical.byContradiction
      intro g
      exact z fun c hc => Classical.byContradiction fun w => g ⟨c, hc, w⟩
    refine (h c hc).of_le ?_
    have := Int.natAbs_dvd_natAbs.mpr (contN_dvd hc)
    exact Nat.le_of_dvd (by omega) this
structure RowZ (m n c : Nat) (r : Row) : Prop where
  len : r.ps.length = m
  ps : ∀ p ∈ r.ps, SzP c p ∧ p.length ≤ n
  q : SzP c r.q
  ql : r.q.length ≤ n
  s : r.s = "<=" ∨ r.s = "<" ∨ r.s = "="
theorem RowZ.mono {m n c n' c' : Nat} {r : Row} (h : RowZ m n c r) (e : n ≤ n') (e' : c ≤ c') : RowZ m n' c' r := ⟨h.len, fun p hp => ⟨(h.ps p hp).1.mono e', Nat.le_trans (h.ps p hp).2 e⟩, h.q.mono e', Nat.le_trans h.ql e, h.s⟩
theorem RowZ.all {m n c : Nat} {r : Row} (h : RowZ m n c r) : ∀ p ∈ r.ps ++ [r.q], SzP c p ∧ p.length ≤ n := fun p hp => by
  rcases List.mem_append.mp hp with g | g
  · exact h.ps p g
  · simp at g; subst g; exact ⟨h.q, h.ql⟩
theorem RowZ.l3 {m n c : Nat} {r : Row} (h : RowZ m n c r) : Len3 m r := ⟨h.len, h.s⟩
theorem RowZ.cont {m n c : Nat} {r : Row} (h : RowZ m n c r) : Sz c (contR r : Int) := contN_sz fun x hx => by
  obtain ⟨p, hp, rfl⟩ := List.mem_map.mp hx
  exact contN_sz (h.all p hp).1
theorem RowZ.divided {m n c : Nat} {r : Row} (h : RowZ m n c r) : RowZ m n c (dividedR r) := by
  unfold dividedR
  split
  · exact h
  · have : ∀ {p : List Int}, SzP c p → SzP c (divP (contR r) p) := fun {p} hp x hx => by
      obtain ⟨y, hy, rfl⟩ := List.mem_map.mp hx
      exact (hp y hy).fdiv
    exact ⟨by simpa using h.len, fun p hp => by
      obtain ⟨q, hq, rfl⟩ := List.mem_map.mp hp
      exact ⟨this (h.ps q hq).1, by simpa [divP] using (h.ps q hq).2⟩, this h.q, by simpa [divP] using h.ql, h.s⟩
theorem RowZ.without {m n c k : Nat} {r : Row} (h : RowZ (m + 1) n c r) (hk : k < m + 1) : RowZ m n c (withoutR r k) :=
  ⟨by rw [withoutR_len (by rw [h.len]; exact hk), h.len]; rfl, fun p hp => by
    unfold withoutR at hp
    rcases List.mem_append.mp hp with g | g
    · exact h.ps p (List.mem_of_mem_take g)
    · exact h.ps p (List.mem_of_mem_drop g), h.q, h.ql, h.s⟩
theorem SzP.mix {c d n : Nat} {f g a b : List Int} (ha : SzP c a) (hb : SzP c b) (hf : SzP d f) (hg : SzP d g) (la : a.length ≤ n) (lb : b.length ≤ n) : SzP (c + d + n + 2) (mixP f g a b) := by
  have h1 := (ha.mul hf).mono (show _ ≤ c + d + n by omega)
  have h2 := (hb.mul hg).mono (show _ ≤ c + d + n by omega)
  unfold mixP subP
  exact (h1.mono (show _ ≤ c + d + n + 1 by omega)).add (h2.scale (Sz.lit (i := -1) (a := 1) (by decide)))
theorem mix_len {f g a b : List Int} {n l : Nat} (la : a.length ≤ n) (lb : b.length ≤ n) (lf : f.length ≤ l) (lg : g.length ≤ l) : (mixP f g a b).length ≤ n + l := by
  unfold mixP subP
  have h1 := mul_len a f
  have h2 := mul_len b g
  have h3 := scale_len (mulP b g) (-1)
  have h4 := add_len (mulP a f) (scaleP (mulP b g) (-1))
  omega
theorem RowZ.mixed {m n c d l : Nat} {r o : Row} {f g : List Int} {s : Str} (h : RowZ m n c r) (ho : RowZ m n c o) (hf : SzP d f) (hg : SzP d g) (lf : f.length ≤ l) (lg : g.length ≤ l) (hs : s = "<=" ∨ s = "<" ∨ s = "=") : RowZ m (n + l) (c + d + n + 2) (mixedR r f o g s) := by
  refine ⟨?_, fun p hp => ?_, ?_, ?_, hs⟩
  · unfold mixedR; simp [h.len, ho.len]
  · unfold mixedR at hp
    simp only at hp
    obtain ⟨i, hi, e⟩ := List.mem_iff_getElem.mp hp
    rw [List.getElem_zipWith] at e
    subst e
    have m1 := h.ps _ (List.getElem_mem (l := r.ps) (n := i) (by simp at hi; omega))
    have m2 := ho.ps _ (List.getElem_mem (l := o.ps) (n := i) (by simp at hi; omega))
    exact ⟨SzP.mix m1.1 m2.1 hf hg m1.2 m2.2, mix_len m1.2 m2.2 lf lg⟩
  · exact SzP.mix h.q ho.q hf hg h.ql ho.ql
  · exact mix_len h.ql ho.ql lf lg
theorem divided_row_ok {m n c : Nat} {r : Row} (h : RowZ m n c r) (hm : m ≤ 1000) (hn : n ≤ 1000) (hc : c ≤ 9000) : m_divided_row [rowD r] = .ok (.sh (rowD (dividedR r))) := by
  have hs : r.ps.length + 1 ≤ sizeLine := slB (by rw [h.len]; omega)
  have ca : catD (r.ps.map pD) [pD r.q] = some ((r.ps ++ [r.q]).map pD) := by
    rw [r_cat (by simpa using hs), List.map_append]; rfl
  have hl : (r.ps ++ [r.q]).length ≤ sizeLine := by simpa using hs
  have hsz := h.cont
  have h1 : ∀ ρ : Ev, ρ.length = 8 → compR (compS [5] (gSet 5) (cst true) (eCall m_content (eCons (eVar 5) (cst []))) ρ) ((r.ps ++ [r.q]).map pD) = .ok ((r.ps ++ [r.q]).map fun p => .int (contN p : Int)) := fun ρ hρ => by
    match ρ, hρ with
    | [a0, a1, a2, a3, a4, a5, a6, a7], _ => exact compR_map' fun p hp => by simp [compS, content_ok]
  have e1' : PyData.list ((r.ps ++ [r.q]).map fun p => .int (contN p : Int)) = pD ((r.ps ++ [r.q]).map fun p => (contN p : Int)) := by unfold pD; rw [List.map_map]; rfl
  have c1 : m_content [.list ((r.ps ++ [r.q]).map fun p => .int (contN p : Int))] = .ok (.sh (.int (contR r : Int))) := by rw [e1', content_ok]; rfl
  by_cases z : contR r = 0
  · have hd : dividedR r = r := by unfold dividedR; rw [if_pos z]
    rw [hd]
    simp [m_divided_row, c_divided_row, rowD, ca, hs, h1, c1, z, -r_cat, -List.map_append]
  · have hz : ¬ ((contR r : Int) = 0) := by omega
    have od : ∀ x, okDiv x (contR r : Int) = true := fun x => okDiv_of (hsz.mono hc) hz
    have h2 : ∀ (a0 a1 a2 a3 a5 a6 a7 : SD), compR (compS [5] (gSet 5) (cst true) (eLst (eComp [7] (e1 seqD (eVar 5)) (gSet 7) (cst true) (e2 fdivD (eOwn 7) (eOwn 4)))) [a0, a1, a2, a3, .sh (.int (contR r : Int)), a5, a6, a7]) ((r.ps ++ [r.q]).map pD) = .ok ((r.ps ++ [r.q]).map fun p => pD (divP (contR r) p)) := fun a0 a1 a2 a3 a5 a6 a7 =>
      compR_map' fun p hp => by
        have hl : p.length ≤ sizeLine := slB (by have := (h.all p hp).2; omega)
        have : ∀ b5 b7, compR (compS [7] (gSet 7) (cst true) (e2 fdivD (eOwn 7) (eOwn 4)) [a0, a1, a2, a3, .sh (.int (contR r : Int)), b5, a6, b7]) (p.map .int) = .ok (p.map fun x => .int (x.fdiv (contR r : Int))) := fun b5 b7 => compR_map' fun x hx => by simp [compS, od]
        have e3' : PyData.list (p.map fun x => .int (x.fdiv (contR r : Int))) = pD (divP (contR r) p) := by unfold pD divP; rw [List.map_map]; rfl
        simp [compS, hl, this, e3', od]
    have e4 : ((r.ps ++ [r.q]).map fun p => pD (divP (contR r) p)) = (((r.ps.map (divP (contR r))) ++ [divP (contR r) r.q]).map pD) := by simp [Function.comp_def]
    have s1' := cut_init pD (r.ps.map (divP (contR r))) (divP (contR r) r.q)
    have s2' := at_last pD (r.ps.map (divP (contR r))) (divP (contR r) r.q)
    have hd : dividedR r = ⟨r.ps.map (divP (contR r)), divP (contR r) r.q, r.s⟩ := by unfold dividedR; rw [if_neg z]
    rw [hd]
    rw [e4] at h2
    simp [m_divided_row, c_divided_row, rowD, ca, hs, h1, c1, z, h2, s1', s2', -r_cat, -List.map_append]
/-! rows mixed -/
theorem mixed_loop {f g : List Int} {c d n : Nat} (hf : SzP d f) (hg : SzP d g) (lf : f.length ≤ 1000) (lg : g.length ≤ 1000) (hcd : c + d + n ≤ 10000) (hn : n ≤ 1000) (w0 w2 w4 : SD) : ∀ (as bs : List (List Int)) (acc : List (List Int)) (w6 w7 : SD), (∀ p ∈ as, SzP c p ∧ p.length ≤ n) → (∀ p ∈ bs, SzP c p ∧ p.length ≤ n) → acc.length + as.length ≤ 10000 →
    ∃ y6 y7, forO (gTo (gTupD 2 (gsCons (gSet 6) (gsCons (gSet 7) (gsNil)))) b_mixed_1) (zipL (as.map pD) (bs.map pD)) [w0, .sh (pD f), w2, .sh (pD g), w4, .ow (acc.map pD), w6, w7] = .nx [w0, .sh (pD f), w2, .sh (pD g), w4, .ow ((acc ++ List.zipWith (mixP f g) as bs).map pD), y6, y7]
  | [], bs, acc, w6, w7, _, _, _ => ⟨w6, w7, by simp [zipL]⟩
  | a :: as, [], acc, w6, w7, _, _, _ => ⟨w6, w7, by simp [zipL]⟩
  | a :: as, b :: bs, acc, w6, w7, ha, hb, hl => by
    obtain ⟨a1, a2⟩ := ha a (by simp)
    obtain ⟨b1, b2⟩ := hb b (by simp)
    obtain ⟨y6, y7, ih⟩ := mixed_loop hf hg lf lg hcd hn w0 w2 w4 as bs (acc ++ [mixP f g a b]) (.sh (pD a)) (.sh (pD b)) (fun q hq => ha q (by simp [hq])) (fun q hq => hb q (by simp [hq])) (by simp at hl ⊢; omega)
    refine ⟨y6, y7, ?_⟩
    have m1 := multiply_ok a1 hf (by omega) (by omega) (by omega)
    have m2 := multiply_ok b1 hg (by omega) (by omega) (by omega)
    have l1 := mul_len a f
    have l2 := mul_len b g
    have s1' := subtract_ok (a := mulP a f) (b1.mul hg) (by omega) (by omega) (by omega)
    have hs : acc.length < sizeLine := Nat.lt_of_lt_of_le (show acc.length < 100000 by simp at hl; omega) (by decide)
    have st : gTo (gTupD 2 (gsCons (gSet 6) (gsCons (gSet 7) (gsNil)))) b_mixed_1 (.tuple [pD a, pD b]) [w0, .sh (pD f), w2, .sh (pD g), w4, .ow (acc.map pD), w6, w7] = .nx [w0, .sh (pD f), w2, .sh (pD g), w4, .ow ((acc ++ [mixP f g a b]).map pD), .sh (pD a), .sh (pD b)] := by
      simp [b_mixed_1, m1, m2, s1', hs, mixP]
    have e : zipL ((a :: as).map pD) ((b :: bs).map pD) = .tuple [pD a, pD b] :: zipL (as.map pD) (bs.map pD) := rfl
    rw [e, forO, st]
    rw [List.append_assoc] at ih
    exact ih
theorem mixed_ok {m n c d : Nat} {r o : Row} {f g : List Int} {s : Str} (h : RowZ m n c r) (ho : RowZ m n c o) (hf : SzP d f) (hg : SzP d g) (lf : f.length ≤ 1000) (lg : g.length ≤ 1000) (hcd : c + d + n ≤ 10000) (hn : n ≤ 1000) (hm : m ≤ 1000) :
    m_mixed [rowD r, pD f, rowD o, pD g, .str s] = .ok (.sh (rowD (mixedR r f o g s))) := by
  have ca : ∀ {r : Row}, RowZ m n c r → catD (r.ps.map pD) [pD r.q] = some ((r.ps ++ [r.q]).map pD) := fun {r} h => by
    rw [r_cat (slB (by simp [h.len]; omega)), List.map_append]; rfl
  obtain ⟨y6, y7, e⟩ := mixed_loop hf hg lf lg hcd hn (.sh (rowD r)) (.sh (rowD o)) (.sh (.str s)) (r.ps ++ [r.q]) (o.ps ++ [o.q]) [] .no .no h.all ho.all (by simp [h.len]; omega)
  have e4 : List.zipWith (mixP f g) (r.ps ++ [r.q]) (o.ps ++ [o.q]) = List.zipWith (mixP f g) r.ps o.ps ++ [mixP f g r.q o.q] := by
    rw [List.zipWith_append (by rw [h.len, ho.len])]; rfl
  rw [e4, List.nil_append, List.map_nil] at e
  have s1' := cut_init pD (List.zipWith (mixP f g) r.ps o.ps) (mixP f g r.q o.q)
  have s2' := at_last pD (List.zipWith (mixP f g) r.ps o.ps) (mixP f g r.q o.q)
  simp [m_mixed, c_mixed, row_ix0, rowD_ix1, ca h, ca ho, e, s1', s2', -r_cat, -List.map_append, -r_ix_t]
  simp [rowD, mixedR]
/-! rows used up by an equation -/
structure RowsZ (k n c : Nat) (rs : List Row) : Prop where
  all : ∀ r ∈ rs, RowZ (k + 1) n c r
  len : rs.length ≤ 1000
  hk : k ≤ 10
  hn : n ≤ 100
  hc : c ≤ 1000
theorem RowsZ.at {k n c i : Nat} {rs : List Row} (h : RowsZ k n c rs) (hi : i < rs.length) : RowZ (k + 1) n c (rowAt rs i) := h.all _ (rowAt_mem hi)
/-- the size of what is mixed -/
theorem RowsZ.mix {k n c i j : Nat} {rs : List Row} (h : RowsZ k n c rs) (hi : i < rs.length) (hj : j < rs.length) {f g : List Int} {s : Str} (hf : SzP (c + 1) f) (hg : SzP (c + 1) g) (lf : f.length ≤ n) (lg : g.length ≤ n) (hs : s = "<=" ∨ s = "<" ∨ s = "=") :
    m_mixed [rowD (rowAt rs i), pD f, rowD (rowAt rs j), pD g, .str s] = .ok (.sh (rowD (mixedR (rowAt rs i) f (rowAt rs j) g s))) ∧
    m_without [rowD (mixedR (rowAt rs i) f (rowAt rs j) g s), .int (k : Int)] = .ok (.sh (rowD (withoutR (mixedR (rowAt rs i) f (rowAt rs j) g s) k))) ∧
    m_divided_row [rowD (withoutR (mixedR (rowAt rs i) f (rowAt rs j) g s) k)] = .ok (.sh (rowD (dividedR (withoutR (mixedR (rowAt rs i) f (rowAt rs j) g s) k)))) ∧
    RowZ k (2 * n) (2 * c + n + 3) (dividedR (withoutR (mixedR (rowAt rs i) f (rowAt rs j) g s) k)) := by
  have a := h.at hi
  have b := h.at hj
  have := h.hk
  have := h.hn
  have := h.hc
  have z := (a.mixed b hf hg lf lg hs).mono (show n + n ≤ 2 * n by omega) (show c + (c + 1) + n + 2 ≤ 2 * c + n + 3 by omega)
  have w := z.without (show k < k + 1 by omega)
  exact ⟨mixed_ok a b hf hg (by omega) (by omega) (by omega) (by omega) (by omega), without_ok (by rw [z.len]; omega) (by rw [z.len]; omega), divided_row_ok w (by omega) (by omega) (by omega), w.divided⟩
/-! signs, stages, blocks -/
@[simp] theorem r_eApp (n k : Nat) (f g : Ev → R (List D)) (ρ : Ev) : eApp n k f g ρ = (f ρ).bind fun a => (g ρ).bind fun b => if a.length = n ∧ b.length = k then .ok (a ++ b) else .bad := id rfl
end W

set_option Elab.async false
set_option linter.all false
set_option maxRecDepth 100000
set_option autoImplicit false
namespace W
open PySem PySem.Spec PyProof.Rows L2 VL
/-! ### numbers taken out of rows of numbers: the law's functions -/
structure NRow where
  c : List Rat
  s : Str
def nrow0 : NRow := ⟨[], "="⟩
def nAt (rs : List NRow) (i : Nat) : NRow := rs.getD i nrow0
theorem nAt_get {rs : List NRow} {i : Nat} (h : i < rs.length) : rs[i]? = some (nAt rs i) := by
  unfold nAt
  rw [List.getD_eq_getElem?_getD, List.getElem?_eq_getElem h]; rfl
theorem nAt_mem {rs : List NRow} {i : Nat} (h : i < rs.length) : nAt rs i ∈ rs := List.mem_of_getElem? (nAt_get h)
def hdN (n : NRow) : Rat := n.c.headD 0
def tlN (n : NRow) : NRow := ⟨n.c.tail, n.s⟩
def lessN (a : List Rat) (f : Rat) (b : List Rat) (g : Rat) : List Rat := List.zipWith (fun x y => x * f - y * g) a b
structure NOk (l : Nat) (n : NRow) : Prop where
  len : n.c.length = l + 1
  s : n.s = "<=" ∨ n.s = "<" ∨ n.s = "="
theorem NOk.cons {l : Nat} {n : NRow} (h : NOk l n) : n.c = hdN n :: (tlN n).c := by
  have := h.len
  unfold hdN tlN
  cases hc : n.c with
  | nil => rw [hc] at this; simp at this
  | cons a b => rfl
/-! the functions -/
theorem Rk.neg {k : Nat} {r : Rat} (h : Rk k r) : Rk k (-r) := ⟨nm_tQ _, by
  show Sz k (-r).num
  rw [Rat.neg_num]; exact h.s1.neg, by
  show Sz k ((-r).den : Int)
  rw [Rat.neg_den]; exact h.s2⟩
structure NZ (l k : Nat) (n : NRow) : Prop where
  len : n.c.length = l + 1
  sz : ∀ x ∈ n.c, Rk k x
  s : n.s = "<=" ∨ n.s = "<" ∨ n.s = "="
theorem NZ.ok {l k : Nat} {n : NRow} (h : NZ l k n) : NOk l n := ⟨h.len, h.s⟩
theorem NZ.hd {l k : Nat} {n : NRow} (h : NZ l k n) : Rk k (hdN n) := h.sz _ (by rw [h.ok.cons]; simp)
theorem NZ.ix {l k : Nat} {n : NRow} (h : NZ l k n) : ixD (.list (n.c.map rD)) (.int 0) = some (rD (hdN n)) := by
  rw [h.ok.cons]; simp
theorem NZ.tl {l k : Nat} {n : NRow} (h : NZ (l + 1) k n) : NZ l k (tlN n) := ⟨by unfold tlN; simp [h.len], fun x hx => h.sz x (List.mem_of_mem_tail hx), h.s⟩
theorem mem_lessN {a b : List Rat} {f g x : Rat} (h : x ∈ lessN a f b g) : ∃ y z, y ∈ a ∧ z ∈ b ∧ x = y * f - z * g := by
  unfold lessN at h
  obtain ⟨i, hi, e⟩ := List.mem_iff_getElem.mp h
  rw [List.getElem_zipWith] at e
  simp at hi
  exact ⟨_, _, List.getElem_mem (by omega), List.getElem_mem (by omega), e.symm⟩
theorem NZ.less {l k j : Nat} {a b : List Rat} {f g : Rat} {s : Str} (ha : a.length = l + 1) (hb : b.length = l + 1) (sa : ∀ x ∈ a, Rk k x) (sb : ∀ x ∈ b, Rk k x) (hf : Rk j f) (hg : Rk j g) (hs : s = "<=" ∨ s = "<" ∨ s = "=") : NZ l (2 * (k + j) + 1) ⟨lessN a f b g, s⟩ :=
  ⟨by simp [lessN, ha, hb], fun x hx => by
    obtain ⟨y, z, hy, hz, rfl⟩ := mem_lessN hx
    rw [Rat.sub_eq_add_neg]
    exact (((sa y hy).mul hf).add ((sb z hz).mul hg).neg).mono (by omega), hs⟩
theorem NZ.mono {l k j : Nat} {n : NRow} (h : NZ l k n) (e : k ≤ j) : NZ l j n := ⟨h.len, fun x hx => (h.sz x hx).mono e, h.s⟩
structure NsZ (l k : Nat) (rs : List NRow) : Prop where
  all : ∀ n ∈ rs, NZ (l + 1) k n
  len : rs.length ≤ 1000
  hl : l ≤ 10
  hk : 4 * k ≤ 1900
theorem NsZ.at {l k i : Nat} {rs : List NRow} (h : NsZ l k rs) (hi : i < rs.length) : NZ (l + 1) k (nAt rs i) := h.all _ (nAt_mem hi)
/-! rows at a number, and blocks -/
theorem RowOk.z {m : Nat} {r : Row} (h : RowOk m r) : RowZ m 3 6 r := ⟨h.len, fun p hp => ⟨(h.ps p hp).sz, (h.ps p hp).len⟩, h.q.sz, h.q.len, h.s⟩
end W

set_option Elab.async false
set_option linter.all false
set_option maxRecDepth 100000
set_option autoImplicit false
namespace W
open PySem PySem.Spec PyProof.Rows L2 VL
/-! ### sizes of values, sharper -/
theorem ev_frac {t : Rat} {kt c : Nat} (ht : Rk kt t) : ∀ {a : List Int}, SzP c a → ∃ N : Int, evP a t * (((t.den : Int) ^ a.length : Int) : Rat) = (N : Rat) ∧ Sz (c + (kt + 1) * a.length + 1) N ∧ Sz (kt * a.length + 1) ((t.den : Int) ^ a.length) ∧ ((t.den : Int) ^ a.length) ≠ 0
  | [], _ => ⟨0, by simp [evP], sz0 _, by simpa using Sz.lit (i := 1) (a := 1) (by decide), by simp⟩
  | x :: a, h => by
    obtain ⟨N, e, s1, s2, hz⟩ := ev_frac ht (a := a) fun y hy => h y (by simp [hy])
    have hx := h x (by simp)
    have hd : (t.den : Int) ≠ 0 := by have := t.den_nz; omega
    have s3 : Sz (kt * (a.length + 1) + 1) ((t.den : Int) ^ (a.length + 1)) := by
      rw [Int.pow_succ]
      exact (s2.mul ht.s2).mono (by rw [Nat.mul_succ]; omega)
    refine ⟨N * t.num + x * (t.den : Int) ^ (a.length + 1), ?_, ?_, ?_, Int.pow_ne_zero hd⟩
    · have ev : evP (x :: a) t = evP a t * t + (x : Rat) := rfl
      have n2 := num_eq t
      rw [ev, List.length_cons, Int.pow_succ, Rat.intCast_add, Rat.intCast_mul, Rat.intCast_mul, Rat.intCast_mul, ← e, n2]
      grind
    · rw [List.length_cons]
      have a1 : Sz (c + (kt + 1) * (a.length + 1)) (N * t.num) := (s1.mul ht.s1).mono (by rw [Nat.mul_succ]; omega)
      have a2 : Sz (c + (kt + 1) * (a.length + 1)) (x * (t.den : Int) ^ (a.length + 1)) := (hx.mul s3).mono (by rw [Nat.mul_succ, Nat.mul_succ, Nat.succ_mul]; omega)
      exact a1.add a2
    · exact s3
theorem ev_rk {t : Rat} {kt c : Nat} {a : List Int} (ht : Rk kt t) (ha : SzP c a) : Rk (c + (kt + 1) * a.length + 1) (evP a t) := by
  obtain ⟨N, e, s1, s2, hz⟩ := ev_frac ht ha
  have hr : (((t.den : Int) ^ a.length : Int) : Rat) ≠ 0 := by exact_mod_cast hz
  have : evP a t = (N : Rat) / (((t.den : Int) ^ a.length : Int) : Rat) := by rw [← e]; grind
  rw [this]
  exact rk_div hz s1 (s2.mono (by rw [Nat.succ_mul]; omega))
/-! ### rows with numbers put in, any size -/
structure RowV (B : Nat) (t : Rat) (r : Row) : Prop where
  ps : ∀ p ∈ r.ps ++ [r.q], m_value_at [pD p, rD t] = .ok (.sh (rD (evP p t))) ∧ Rk B (evP p t)
  s : r.s = "<=" ∨ r.s = "<" ∨ r.s = "="
theorem RowZ.v {m n c kt : Nat} {t : Rat} {r : Row} (h : RowZ m n c r) (ht : Rk kt t) (h1 : 1 ≤ c) (hz : 1 + n * (kt + c + 1) + kt + c ≤ 8000) : RowV (c + (kt + 1) * n + 1) t r :=
  ⟨fun p hp => by
    obtain ⟨a, b⟩ := h.all p hp
    have lm : p.length * (kt + c + 1) ≤ n * (kt + c + 1) := Nat.mul_le_mul_right _ b
    have lm2 : (kt + 1) * p.length ≤ (kt + 1) * n := Nat.mul_le_mul_left _ b
    exact ⟨(value_at_ok a ht h1 (by omega)).1, (ev_rk ht a).mono (by omega)⟩, h.s⟩
structure RowL (m B : Nat) (t : Rat) (r : Row) : Prop where
  len : r.ps.length = m
  ps : ∀ p ∈ r.ps ++ [r.q], m__law_value [pD p, rD t] = .ok (.sh (rD (evP p t))) ∧ Rk B (evP p t)
  s : r.s = "<=" ∨ r.s = "<" ∨ r.s = "="
theorem RowZ.l {m n c kt : Nat} {t : Rat} {r : Row} (h : RowZ m n c r) (ht : Rk kt t) (h1 : 1 ≤ c) (hn : n ≤ 1000) (hz : 1 + n * (kt + c + 1) + kt + c ≤ 1900) : RowL m (c + (kt + 1) * n + 1) t r :=
  ⟨h.len, fun p hp => by
    obtain ⟨a, b⟩ := h.all p hp
    have lm : p.length * (kt + c + 1) ≤ n * (kt + c + 1) := Nat.mul_le_mul_right _ b
    have lm2 : (kt + 1) * p.length ≤ (kt + 1) * n := Nat.mul_le_mul_left _ b
    exact ⟨lvalue_ok a ht h1 (by omega) (by omega), (ev_rk ht a).mono (by omega)⟩, h.s⟩
end W

set_option Elab.async false
set_option linter.all false
set_option maxRecDepth 100000
set_option autoImplicit false
namespace W
open PySem PySem.Spec PyProof.Rows L2 VL
/-! ### plain polynomials: bounds of roots, polynomials by their values -/
end W

set_option Elab.async false
set_option linter.all false
set_option maxRecDepth 100000
set_option autoImplicit false
namespace W
open PySem PySem.Spec PyProof.Rows L2 VL
noncomputable def b__law_trim_k19_1 : Ev → Out := sIf (eAnd (e1 bOf (e2 gtD (e1 lenD (eCons (eOwn 1) (cst []))) (cst (.int 0)))) (e1 bOf (e2 eqD (e2 ixD (eOwn 1) (e1 negD (cst (.int 1)))) (cst (.int 0))))) (sPopX 1) (sNil)
noncomputable def c__law_trim_k19 : Ev → Out := sSeq (sSetO 1 (e1 listO (eCons (eOwn 0) (cst [])))) (sSeq (sFor (e1 range1D (eCons (e1 lenD (eCons (eOwn 0) (cst []))) (cst []))) (gSet 2) b__law_trim_k19_1) (sRetV 1))
noncomputable def m__law_trim_k19 : List D → R SD := runD 1 3 c__law_trim_k19
noncomputable def b__law_mul_k19_1 : Ev → Out := sStore 2 (e2 addD (eOwn 3) (eOwn 4)) (e2 addD (e2 ixD (eOwn 2) (e2 addD (eOwn 3) (eOwn 4))) (e2 mulD (e2 ixD (eOwn 0) (eOwn 3)) (e2 ixD (eOwn 1) (eOwn 4))))
noncomputable def b__law_mul_k19_2 : Ev → Out := sFor (e1 range1D (eCons (e1 lenD (eCons (eOwn 1) (cst []))) (cst []))) (gSet 4) b__law_mul_k19_1
noncomputable def c__law_mul_k19 : Ev → Out := sSeq (sSetO 2 (e2 mulO (eLst (e1 lim (eCons (cst (.int 0)) (cst [])))) (e2 addD (e1 lenD (eCons (eOwn 0) (cst []))) (e1 lenD (eCons (eOwn 1) (cst [])))))) (sSeq (sFor (e1 range1D (eCons (e1 lenD (eCons (eOwn 0) (cst []))) (cst []))) (gSet 3) b__law_mul_k19_2) (sFz 2 (sRetO (eCallO m__law_trim_k19 (eCons (eVar 2) (cst []))))))
noncomputable def m__law_mul_k19 : List D → R SD := runD 2 5 c__law_mul_k19
noncomputable def c__law_is_whole : Ev → Out := sRet (eAndV (e1 (isiD "int") (eOwn 0)) (e1 notD (e1 (isiD "bool") (eOwn 0))))
noncomputable def m__law_is_whole : List D → R SD := runD 1 1 c__law_is_whole
/-! ### known factors -/
theorem trimk_loop (l : List Int) (hl : l.length ≤ 100000) : ∃ y2, forO (gTo (gSet 2) b__law_trim_k19_1) (rngL 0 1 l.length) [.sh (pD l), .ow (l.map .int), .no] = .nx [.sh (pD l), .ow ((trimP l).map .int), y2] := by
  obtain ⟨ρ', e, n, y2, rfl, hn, hz, hend⟩ := forO_inv (F := gTo (gSet 2) b__law_trim_k19_1) (l := rngL 0 1 l.length)
    (fun i ρ => ∃ (n : Nat) (y2 : SD), ρ = [.sh (pD l), .ow ((l.take n).map .int), y2] ∧ n ≤ l.length ∧ (∀ k, n ≤ k → cf l k = 0) ∧ (n + i ≤ l.length ∨ ∀ m, n = m + 1 → cf l m ≠ 0))
    (ρ := [.sh (pD l), .ow (l.map .int), .no]) ⟨l.length, .no, by rw [List.take_length], Nat.le_refl _, fun k hk => cf_out hk, .inl (by omega)⟩
    (fun i d ρ hd hi => by
      obtain ⟨hil, rfl⟩ := rng0_get hd
      obtain ⟨n, y2, rfl, hn, hz, hend⟩ := hi
      cases n with
      | zero =>
        exact ⟨_, .inl (by simp [b__law_trim_k19_1, -Out.nx.injEq] <;> rfl), 0, .sh (.int (i : Int)), by simp, Nat.zero_le _, hz, .inr fun m hm => by omega⟩
      | succ n =>
        have tk := take_snoc (l := l) (n := n) (by omega)
        have lt : (l.take n).length = n := by simp; omega
        have al : atI ((l.take n).map PyData.int ++ [.int (cf l n)]) (-1 : Int) = some (.int (cf l n)) := r_at_last
        rw [tk]
        by_cases z : cf l n = 0
        · refine ⟨_, .inl (by simp [b__law_trim_k19_1, al, z, -List.map_take, -Out.nx.injEq] <;> rfl), n, .sh (.int (i : Int)), rfl, by omega, fun k hk => ?_, ?_⟩
          · by_cases e : k = n
            · subst e; exact z
            · exact hz k (by omega)
          · rcases hend with h | h
            · exact .inl (by omega)
            · exact absurd z (h n rfl)
        · refine ⟨_, .inl (by simp [b__law_trim_k19_1, al, z, -List.map_take, -Out.nx.injEq] <;> rfl), n + 1, .sh (.int (i : Int)), by rw [tk], hn, hz, .inr fun m hm => ?_⟩
          have : m = n := by omega
          subst this; exact z)
  rw [rngL_length] at hend
  have : trimP l = l.take n := tr_take hz hn (by
    rcases hend with h | h
    · intro m hm; omega
    · exact h)
  rw [this]
  exact ⟨y2, e⟩
theorem trimk_ok (l : List Int) (hl : l.length ≤ 100000) : m__law_trim_k19 [pD l] = .ok (.ow ((trimP l).map .int)) := by
  obtain ⟨y2, e⟩ := trimk_loop l hl
  have hr := range1_ok (x := (l.length : Nat)) (by omega) (by omega)
  simp [m__law_trim_k19, c__law_trim_k19, hr, e]
theorem mulk_ok {a b : List Int} {s t : Nat} (ha : SzP s a) (hb : SzP t b) (hst : s + t ≤ 134217728) (hla : a.length ≤ 40000) (hlb : b.length ≤ 40000) (ta : Tr a) (tb : Tr b) : m__law_mul_k19 [pD a, pD b] = .ok (.ow ((mulP a b).map .int)) := by
  obtain ⟨L, hL⟩ : ∃ L, L = a.length + b.length := ⟨_, rfl⟩
  have r1 := range1_ok (x := (a.length : Nat)) (by omega) (by omega)
  have r2 := range1_ok (x := (b.length : Nat)) (by omega) (by omega)
  have rp := rep_ok (n := L) (z := (a.length : Int) + (b.length : Int)) (by omega) (by omega)
  have eb : b__law_mul_k19_2 = b__law_multiply_2 := rfl
  obtain ⟨ρ', e, y3, y4, rfl⟩ := forO_inv (F := gTo (gSet 3) b__law_mul_k19_2) (l := rngL 0 1 a.length)
    (fun i ρ => ∃ y3 y4, ρ = [.sh (pD a), .sh (pD b), .ow ((fl L fun k => sumN i (tm a b k)).map .int), y3, y4])
    (ρ := [.sh (pD a), .sh (pD b), .ow ((fl L fun _ => 0).map .int), .no, .no])
    ⟨_, _, rfl⟩
    (fun i d ρ hd hi => by
      obtain ⟨hj, rfl⟩ := rng0_get hd
      obtain ⟨y3, y4, rfl⟩ := hi
      obtain ⟨z4, e⟩ := lmul_inner (φ := fun k => sumN i (tm a b k)) (i := i) (L := L) ha hb hst hj (by omega) y4
      exact ⟨_, .inl (by rw [eb]; simp [b__law_multiply_2, r2, e, -Out.nx.injEq]; rfl), _, _, rfl⟩)
  rw [rngL_length] at e
  have ht := trimk_ok (fl L fun k => sumN a.length (tm a b k)) (by simp; omega)
  have he : trimP (fl L fun k => sumN a.length (tm a b k)) = mulP a b := trim_eq (tr_mul ta tb) fun k => by
    rw [cf_fl, cf_mul]
    split
    · rfl
    · exact (cv_out (by omega)).symm
  rw [he] at ht
  simp [m__law_mul_k19, c__law_mul_k19, rp, r1, e, ht]
/-! bounds -/
theorem maxI_ge : ∀ (r : List Int) (m : Int), m ≤ maxI m r ∧ (∀ x ∈ r, x ≤ maxI m r) ∧ (maxI m r = m ∨ maxI m r ∈ r)
  | [], m => ⟨Int.le_refl _, by simp, .inl rfl⟩
  | x :: r, m => by
    unfold maxI
    split
    · rename_i h
      obtain ⟨h1, h2, h3⟩ := maxI_ge r x
      exact ⟨by omega, fun y hy => by
        rcases List.mem_cons.mp hy with rfl | hy
        · exact h1
        · exact h2 y hy, by
        rcases h3 with h3 | h3
        · right; rw [h3]; simp
        · right; simp [h3]⟩
    · rename_i h
      obtain ⟨h1, h2, h3⟩ := maxI_ge r m
      exact ⟨h1, fun y hy => by
        rcases List.mem_cons.mp hy with rfl | hy
        · omega
        · exact h2 y hy, by
        rcases h3 with h3 | h3
        · left; exact h3
        · right; simp [h3]⟩
end W

set_option Elab.async false
set_option linter.all false
set_option maxRecDepth 100000
set_option maxHeartbeats 1000000
set_option autoImplicit false
namespace VL
open PySem PySem.Spec PySem.Calls PyProof.Rows L2

/-! ### an own exception over ValueError whose __init__ says super().__init__(text) -/
abbrev supBody (txt : Str) (p0 p1 p2 p3 p4 pos : Pos) (k0 : Nat) : List Stmt := [.Expr (.Call (.Attribute (.Call (.Name "super" p0) [] [] p1) "__init__" p2) [.Constant (.str txt) k0 p3] [] p4) pos]
section
open PySem.W
variable {prog : Program} {w : World} {M : Model} {A : Around} {E : Value → Shared → Prop} {h : Heap} {g : Array GenState} {d : Drawn} {t : Nat} {os : OsState}
/-- the bound __init__, called -/
theorem call_mw {K : Frag} {C u x t0 : Addr} {rest : List Value} {Q : Value → Shared → Prop} (X : K.In h) (q : excInitIn K C PySem.HandSPX.veTail "ValueError.__new__" = true)
    (hu : h.get? u = some (kxs_mw "ValueError.__init__" x)) (he : h.get? x = some (PySem.HandSPX.excO C t0)) (hz : rest.length ≤ sizeLine)
    (hq : ∀ h' t1, (∀ b o, b ≠ x → h.get? b = some o → h'.get? b = some o) → h'.get? x = some (PySem.HandSPX.excO C t1) → Q .none ⟨h', g, d, t, os⟩) :
    wpAny (model prog w) A (call (.ref u) rest) Q E ⟨h, g, d, t, os⟩ := by
  obtain ⟨nm, N', qn, bs, bm, hdct, sn, sub, ab, col, dd, k0, k1, k2, k3, k5, hC, hT⟩ := excInit_of X q
  refine wpAny_call (codeAny_of_tree ?_)
  show wpAny _ A.in1 (callAny (.ref u) ⟨rest, []⟩) _ _ _
  simp only [callAny]
  refine wpAny_bind (wpAny_load hu ?_)
  simp only [kxs_mw, show (Value.type "method-wrapper" == Value.type "method" || Value.type "method-wrapper" == Value.type "builtin_function_or_method" || Value.type "method-wrapper" == Value.type "method-wrapper") = true by decide, if_true]
  refine KFB.if_so (by decide) ?_
  refine wpAny_bind (check_bound_init F.excBase_ValueError.toExcCallFacts hC he rfl ?_)
  refine wpAny_bind (wpAny_pure (wpAny_pure ?_))
  refine ⟨plainId_quiet F.excBase_ValueError.init.plain _, codeAny_builtin F.excBase_ValueError.initEntry ?_⟩
  rw [Around.under_plainId F.excBase_ValueError.init.plain _]
  wp_walk
  refine hq _ h.objs.size (fun b o hb ho => ?_) ?_
  · rw [Heap.get?_update_other _ _ (Ne.symm hb)]
    exact Heap.get?_push_of_some _ ho
  · rw [Heap.get?_update_self _ (Heap.get?_push_of_some _ he) rfl]
    rfl
theorem boot_super : bootBuiltins "super" = some (.type "super") := by decide +kernel
/-- how the call reads, its places known -/
abbrev SupCall (txt : Str) (p0 p1 p2 p3 p4 : Pos) (k0 : Nat) : Prop := ∀ env : Env, ∃ pl : Sem Bool, eval (.Call (.Attribute (.Call (.Name "super" p0) [] [] p1) "__init__" p2) [.Constant (.str txt) k0 p3] [] p4) env = (do
      let ov ← attributeBase (.Call (.Name "super" p0) [] [] p1) "__init__" env (eval (.Call (.Name "super" p0) [] [] p1) env)
      standAt p2.atName
      let (f, first) ← holding [ov] (getMethod ov "__init__" pl)
      callWith p4 f first (backTo p4 (starEach [.Constant (.str txt) k0 p3] env)) [])
/-- the own __init__, run -/
theorem super_run {K : Frag} {mg : Str → Option Value} {C fI cc cda e t0 : Addr} {name qual : Str} {ar : Arg} {params : Arguments} {scope : Scope} {dV kV doc pm ct oc ccl cl : Value} {an od cdd cld : Option Addr} {osl ccs csl : Array (Option Value)} {txt : Str} {p0 p1 p2 p3 p4 pos : Pos} {k0 : Nat}
    {vs : Array Value} {file : Str} {tf : Tok} {cd : ClassData} {R : Result → Shared → Prop} (X : K.In h) (glob : h.Ns mainGlobals mg) (hsup : mg "super" = none) (blt : ∃ mb, h.Ns builtinsNs mb ∧ ∀ x : Str, x ≠ "__name__" → mb x = bootBuiltins x) (lim : h.NoLimit) (hroom : A.depth < recursionLimit)
    (q : excInitIn K C PySem.HandSPX.veTail "ValueError.__new__" = true) (lk : K.lookup fI = some ⟨oc, od, .func (ksFn name qual params (supBody txt p0 p1 p2 p3 p4 pos k0) scope dV kV doc pm an (.ref cda) ct cc), osl⟩) (hcd : codeIn K (.ref cda) qual = true)
    (hp : (params.posonlyargs ++ params.args).head? = some ar) (hb : ∀ s : Shared, BindsTo s (ksFn name qual params (supBody txt p0 p1 p2 p3 p4 pos k0) scope dV kV doc pm an (.ref cda) ct cc) ⟨[.ref e], []⟩ [(ar.arg, .ref e)])
    (hcode : K.lookup cda = some ⟨ccl, cdd, .fields vs, ccs⟩) (hvs : vs[2]? = some (.str file tf)) (hfile : ((prog.main.file : Str) == file) = true)
    (hcell : K.lookup cc = some ⟨cl, cld, .cell (some (.ref C)), csl⟩) (hC : clsIn K C = some cd) (hsub : mroIn K C (.ref C) = some true) (hm : ks_superIn K C C "__init__" = some (some (.builtin "ValueError.__init__"))) (hB : subIn K (.ref C) (.type "ValueError") = some true)
    (hop : nsIn K cStatics "thirdparty.any" = some none) (hks : scope.names.lookup ("super" : Str) = some .globalImplicit) (hkc : scope.names.lookup ("__class__" : Str) = some .free) (hka : scope.names.lookup ar.arg = some .local) (hk : scope.kind = .function)
    (hco : scope.isCoroutine = false) (hgen : scope.isGenerator = false) (hnc : ∀ x ∈ scope.names, x.2 ≠ .cell) (htop : (prog.main.scope.names.lookup ("super" : Str)).isSome = false)
    (he : h.get? e = some (PySem.HandSPX.excO C t0)) (eC : e ≠ C) (hev : SupCall txt p0 p1 p2 p3 p4 k0)
    (hR : ∀ h' t1 tk, (∀ b o, b ≠ e → h.get? b = some o → h'.get? b = some o) → h'.get? e = some (PySem.HandSPX.excO C t1) → R (.ok (.ret .none)) ⟨h', g, d, tk, os⟩) :
    codeAny (model prog w) A (.call (.ref fI) ⟨[.ref e], []⟩) R ⟨h, g, d, t, os⟩ := by
  refine ks_codeAny_call_defAt hroom (X _ _ lk) rfl lim (codeRec_of X hcd) rfl (hb _) hnc (fun x hx => ?_) (fun h₀ hns k => ?_) hco hgen hk
  · simp at hx
    subst hx
    exact hka
  · have X₀ : K.In h₀ := X.keeps k
    show PySem.wpAt (model prog w) (A.deeper (ksEnv qual scope h.objs.size fI (.ref cda) cc)) (.func (supBody txt p0 p1 p2 p3 p4 pos k0) (ksEnv qual scope h.objs.size fI (.ref cda) cc)) (execs (supBody txt p0 p1 p2 p3 p4 pos k0) (ksEnv qual scope h.objs.size fI (.ref cda) cc)) _ _ _
    obtain ⟨pl, hev⟩ := hev (ksEnv qual scope h.objs.size fI (.ref cda) cc)
    have hi : interactive (ksEnv qual scope h.objs.size fI (.ref cda) cc) = false := by
      show (scope.kind == .module && _) = false
      rw [hk]; rfl
    obtain ⟨mb, b1, b2⟩ := blt
    obtain ⟨oC, hC1, hC2⟩ : ∃ oC, h₀.get? C = some oC ∧ oC.data = .cls cd := by
      have hC := hC
      unfold clsIn at hC
      split at hC
      · rename_i c d cd' sl ho
        cases hC
        exact ⟨_, X₀ _ _ ho, rfl⟩
      · cases hC
    have he0 := k _ _ he
    refine ks_wpAt_execs_cons (ks_wpAt_Expr_any (ks_wpAt_MethodCall ?_ hev) hi)
    refine ks_wpAt_super_base (env := ksEnv qual scope h.objs.size fI (.ref cda) cc) hks hkc (by decide) rfl (X₀ _ _ lk) rfl hp rfl (X₀ _ _ hcode) rfl hvs hfile htop ?_
    refine ks_loadName_global hk hks (loadGlobal_builtin (env := ksEnv qual scope h.objs.size fI (.ref cda) cc) (glob.keeps k) hsup (b1.keeps k) ((b2 _ (by decide +kernel)).trans boot_super) ⟨rfl, ?_⟩)
    refine wpAny_loadName_free hk hkc rfl ⟨_, X₀ _ _ hcell, rfl⟩ ?_
    have hv : (fun x => ([(ar.arg, Value.ref e)] : List (Str × Value)).reverse.lookup x) ar.arg = some (.ref e) := by simp
    refine wpAny_loadName_local hk hka hns hv ?_
    refine ks_wpAny_isType_cls hC1 hC2 ⟨rfl, ?_⟩
    refine ks_wpAny_call_super hC1 hC2 he0 rfl (fun c z => by cases z) (looks_mroIn X₀ hsub) (fun h1 e1' k1 => ?_)
    have X1 : K.In h1 := X₀.keeps k1
    have KC : ∃ cd', clsIn K C = some cd' := ⟨_, hC⟩
    have hm' : alongIn K "__init__" ((cd.mro.dropWhile (· != .ref C)).drop 1) = some (some (.builtin "ValueError.__init__")) := by
      unfold ks_superIn at hm
      rw [hC] at hm
      exact hm
    have TI : ∀ hh : Heap, hh.get? e = some (PySem.HandSPX.excO C t0) → K.In hh → Looks (model prog w) hh (isInstance (.ref e) (.type "ValueError")) true := fun hh z zX =>
      (InstAt.type (⟨z, rfl, rfl, trivial⟩ : InstAt hh e (PySem.HandSPX.excO C t0) C none)).andThen (looks_subIn zX hB)
    refine kxs_getMethod kxs_ValueError e1' (looks_opaque X1 hop) (l₀ := cd.mro) ?_ rfl X1 hm' (TI h1 (k1 _ _ he0) X1) eC (by decide) ?_
    · exact fun A Q E s k q => wpAny_bind ((looks_clsIn X1 hC) A _ E s k (wpAny_pure q))
    · have k2 : ∀ b o, h1.get? b = some o → (h1.push (kxs_mw "ValueError.__init__" e)).get? b = some o := fun b o z => Heap.get?_push_of_some _ z
      have hu : (h1.push (kxs_mw "ValueError.__init__" e)).get? h1.objs.size = some (kxs_mw "ValueError.__init__" e) := Heap.get?_push_at rfl rfl
      have X2 : K.In (h1.push (kxs_mw "ValueError.__init__" e)) := X1.keeps k2
      have he2 := k2 _ _ (k1 _ _ he0)
      show wpAny (model prog w) _ (callWith p4 (.ref h1.objs.size) [] (backTo p4 (starEach [.Constant (.str txt) k0 p3] _)) []) _ _ _
      refine kxs_callWith (i := "ValueError.__init__") (x := e) rfl (evalArgs_plain (spliced_more (Constant_str (spliced_none ⟨hu, ?_⟩))))
      refine call_mw X2 q hu he2 (by show 1 ≤ sizeLine; decide) fun h' t1 kk ee => ?_
      refine wpAt_of_wpAny (wpAny_execs_nil ?_)
      exact hR h' t1 _ (fun b o hb z => kk b o hb (k2 _ _ (k1 _ _ (k _ _ z)))) ee
end
/-- what the written part says of such a class -/
structure SupC (P : Program) (K : Fg) (C fI cc cda : Addr) (name qual : Str) (params : Arguments) (scope : Scope) (txt : Str) (p0 p1 p2 p3 p4 pos : Pos) (k0 : Nat) : Prop where
  ini : PySem.W.excInitIn K C PySem.HandSPX.veTail "ValueError.__new__" = true
  fun_ : ∃ (oc kV doc pm ct : Value) (od an : Option Addr) (osl : Array (Option Value)), K.lookup fI = some ⟨oc, od, .func (PySem.W.ksFn name qual params (supBody txt p0 p1 p2 p3 p4 pos k0) scope .none kV doc pm an (.ref cda) ct cc), osl⟩
  code : PySem.W.codeIn K (.ref cda) qual = true
  par : (params.posonlyargs ++ params.args).head?.map (·.arg) = some "self"
  binds : ∀ (kV doc pm ct : Value) (an : Option Addr) (e : Addr) (s : Shared), BindsTo s (PySem.W.ksFn name qual params (supBody txt p0 p1 p2 p3 p4 pos k0) scope .none kV doc pm an (.ref cda) ct cc) ⟨[.ref e], []⟩ [("self", .ref e)]
  file : ∃ (ccl : Value) (cdd : Option Addr) (vs : Array Value) (ccs : Array (Option Value)) (file : Str) (tf : Tok), K.lookup cda = some ⟨ccl, cdd, .fields vs, ccs⟩ ∧ vs[2]? = some (.str file tf) ∧ ((P.main.file : Str) == file) = true
  cell : ∃ (cl : Value) (cld : Option Addr) (csl : Array (Option Value)), K.lookup cc = some ⟨cl, cld, .cell (some (.ref C)), csl⟩
  cls : ∃ cd, PySem.W.clsIn K C = some cd
  sub : PySem.W.mroIn K C (.ref C) = some true
  sup : PySem.W.ks_superIn K C C "__init__" = some (some (.builtin "ValueError.__init__"))
  subB : PySem.W.subIn K (.ref C) (.type "ValueError") = some true
  exC : PySem.W.subIn K (.ref C) (.type "BaseException") = some true
  tyC : PySem.W.typeIn K (.ref C) = some (.type "type")
  iC : PySem.W.findIn K (.ref C) "__init__" = some (some (.ref fI))
  tI : PySem.W.typeIn K (.ref fI) = some (.type "function")
  kC : PySem.W.keepIn K (.ref C) = true
  op : PySem.W.nsIn K cStatics "thirdparty.any" = some none
  ks : scope.names.lookup ("super" : Str) = some .globalImplicit
  kc : scope.names.lookup ("__class__" : Str) = some .free
  ka : scope.names.lookup ("self" : Str) = some .local
  kind : scope.kind = .function
  co : scope.isCoroutine = false
  gen : scope.isGenerator = false
  nc : ∀ x ∈ scope.names, x.2 ≠ .cell
  top : (P.main.scope.names.lookup ("super" : Str)).isSome = false
  ev : SupCall txt p0 p1 p2 p3 p4 k0
section
variable {X : Cx} {x : Str} {C fI cc cda : Addr} {name qual : Str} {params : Arguments} {scope : Scope} {txt : Str} {p0 p1 p2 p3 p4 pos p cpos : Pos} {k0 : Nat}
/-- C() -/
theorem pmk_sup (S : SupC X.prog X.K C fI cc cda name qual params scope txt p0 p1 p2 p3 p4 pos k0) (hr : Room 1 X.A) (hg : Gl X x) (hm : X.mg x = some (.ref C)) (hsup : X.mg "super" = none) (hdb : (x == ("__debug__" : Str)) = false := by decide) :
    L2N.PMk X (.Call (.Name x p) [] [] cpos) (fun σ H Q => Q (.ref C) none H) := by
  intro pins s σ H Q I h
  refine wpAny_Call_Name_kw (ld_glob I hg hm ?_ hdb)
  refine PySem.W.callWith_K0 I.kIn S.kC ?_
  show wpAny _ _ (call (.ref C) []) _ _ _
  obtain ⟨hp, g, dr, tk, os⟩ := s
  obtain ⟨nm, N', qn, bs, bm, hdct, sn, sub, ab, col, dd, k0', k1, k2, k3, k5, hC, hT⟩ := PySem.W.excInit_of I.kIn S.ini
  refine wpAny_call (PySem.HandSPX.call_own F.excBase_ValueError hT hC (PySem.W.looks_findIn I.kIn S.iC) (fun self => PySem.W.bind_fn I.kIn self S.tI) (by show 0 ≤ sizeLine; exact Nat.zero_le _) ?_)
  obtain ⟨oc, kV, doc, pm, ct, od, an, osl, lk⟩ := S.fun_
  obtain ⟨ccl, cdd, vs, ccs, file, tf, f1, f2, f3⟩ := S.file
  obtain ⟨cl, cld, csl, c1⟩ := S.cell
  obtain ⟨cd, hcd⟩ := S.cls
  obtain ⟨ar, ha, har⟩ := Option.map_eq_some_iff.mp S.par
  have kk0 : ∀ b o, hp.get? b = some o → ((hp.push (PySem.W.kdv_tup [])).push (PySem.HandSPX.excO C hp.objs.size)).get? b = some o := fun b o e => Heap.get?_push_of_some _ (Heap.get?_push_of_some _ e)
  have hget : ((hp.push (PySem.W.kdv_tup [])).push (PySem.HandSPX.excO C hp.objs.size)).get? (hp.objs.size + 1) = some (PySem.HandSPX.excO C hp.objs.size) := by heap_get
  have lt : ∀ b o, hp.get? b = some o → b ≠ hp.objs.size + 1 := fun b o e z => by
    have h1 : b < hp.objs.size := Heap.lt_size e
    rw [z] at h1
    exact absurd h1 (Nat.not_lt.mpr (Nat.le_succ _))
  obtain ⟨mb, b1, b2⟩ := I.mod.blt
  refine super_run (K := X.K) (mg := X.mg) (C := C) (ar := ar) (I.kIn.keeps kk0) ((I.mod.glob.keeps I.bk).keeps kk0) hsup ⟨mb, (b1.keeps I.bk).keeps kk0, b2⟩ ((I.nolimit).keeps kk0) (hr.make C [] []).depth S.ini lk S.code ha (fun s => by rw [har]; exact S.binds _ _ _ _ _ _ s) f1 f2 f3 c1 hcd S.sub S.sup S.subB S.op S.ks S.kc (by rw [har]; exact S.ka) S.kind S.co S.gen S.nc S.top hget (fun z => lt C _ hC z.symm) S.ev fun h' t1 tk' kk ee => ?_
  refine ⟨rfl, ?_⟩
  exact ⟨hp.objs.size + 1, _, _, ⟨hp, g, dr, tk, os⟩, H, .ref C, none, rfl, I, fun b o e => kk b o (lt b o e) (kk0 b o e), by
    cases z : hp.get? (hp.objs.size + 1) with
    | none => rfl
    | some o => exact absurd rfl (lt _ _ z), ee, ⟨rfl, rfl, fun vs e => by cases e; rfl⟩, rfl, rfl, I.hok.fresh (Nat.le_succ _), rfl, I.bare, raises_own S.exC S.tyC, h⟩
end
end VL

set_option Elab.async false
set_option linter.all false
set_option maxRecDepth 100000
set_option maxHeartbeats 1000000
set_option autoImplicit false
namespace VL
open PySem PySem.Spec PyProof.Rows L2

/-! ### raise C() -/
def sRaise (n : Str) : Ev → Out := fun ρ => .ex ⟨n, []⟩ ρ
theorem vs_raise {X : Cx} {W : WX} {e : Expr} {n : Str} {C : Addr} {pos : Pos} (hc : X.calm = true) (tk : L2N.Takes X W) (hm : X.mg n = some (.ref C)) (mk : L2N.PMk X e (fun σ H Q => Q (.ref C) none H)) :
    VS X W (.Raise (some e) none pos) (sRaise n) :=
  PS.imp (L2N.ps_raise hc tk mk) fun D σ H ⟨S, G, Hs, ρ, r, h⟩ => h Hs H σ (.ref C) none (.refl _) r ⟨hm, .inl ⟨rfl, rfl⟩⟩

/-! ### try: .. except K as e: .. -/
/-- the slot of the caught error is forgotten at the suite's end -/
def offO (i : Nat) : Out → Out
  | .nx ρ => .nx (ρ.set i .no)
  | .bk ρ => .bk (ρ.set i .no)
  | .ct ρ => .ct (ρ.set i .no)
  | .rt r => .rt r
  | _ => .bad
theorem offO_ok {K : Fg} {mg : Str → Option Value} {W : WX} {S Hs : Hp} {G : Gx} {D : Ends} {i : Nat} {o : Out} (h : OutOk K mg W S G Hs D (offO i o)) :
    OutOk K mg WF S G Hs { nx := fun σ' H' => D.nx (σ'.set i none) H', rt := D.rt, bk := fun σ' H' => D.bk (σ'.set i none) H', ct := fun σ' H' => D.ct (σ'.set i none) H' } o := by
  cases o with
  | nx ρ => exact fun Hs' H' σ' g r => h Hs' H' _ g r.setNo
  | bk ρ => exact fun Hs' H' σ' g r => h Hs' H' _ g r.setNo
  | ct ρ => exact fun Hs' H' σ' g r => h Hs' H' _ g r.setNo
  | rt r => exact h
  | rtB r ρ => exact h.elim
  | ex x ρ => exact h.elim
  | bad => exact h.elim
open Classical in
/-- the suite's end, which must not depend on where the error lies -/
noncomputable def anyA (g : Addr → Out) : Out := if (∀ a, g a = g 0) then g 0 else .bad
theorem anyA_const (o : Out) : anyA (fun _ => o) = o := if_pos fun _ => rfl
theorem anyA_eq {g : Addr → Out} {o : Out} (h : ∀ a, g a = o) : anyA g = o := by
  have e : g = fun _ => o := funext h
  rw [e]; exact anyA_const o
/-- F the body; Sx n a the suite at an error of the class n that lies at a (all that F raises are caught) -/
noncomputable def sTry (ens : List Str) (i : Nat) (F : Ev → Out) (Sx : Str → Addr → Ev → Out) : Ev → Out := fun ρ => match F ρ with
  | .ex ⟨n, []⟩ ρ' => if n ∈ ens then anyA (fun a => offO i (Sx n a (ρ'.set i (.sh (exD n a))))) else .bad
  | .ex _ _ => .bad
  | q => q
theorem vs_try {X : Cx} {W : WX} {x n : Str} {c : Value} {i : Nat} {body suite : List Stmt} {b0 : Stmt} {np pos pos' : Pos} (ens : List (Str × Addr)) {F : Ev → Out} {Sx : Str → Addr → Ev → Out}
    (hs : X.stack = X.env :: X.outer) (hf : X.env.frame = some X.env.locals) (hN : X.N.Nodup) (hi : X.N[i]? = some n) (hln : X.env.kindOf n = some .local) (hc : Names X x c) (tk : L2N.Takes X W)
    (hE : ∀ p ∈ ens, X.mg p.1 = some (.ref p.2) ∧ PySem.W.exmOne X.K (.ref p.2) c = some true)
    (hb : ∀ (W : WX) (pn : List (Addr × Obj)) (xe : Value → Shared → Prop), L2N.Takes (X.tr pn xe) W → PassesOwn (model X.prog X.w) X.A X.env xe → VSs (X.tr pn xe) W body F)
    (hsu : ∀ p ∈ ens, ∀ (a : Addr) (oe : Obj) (pn : List (Addr × Obj)), L2N.Zn (.ref p.2) none oe → (∃ vs, oe.data = .fields vs) → VSs (X.suite a ((a, oe) :: pn)) WF (b0 :: suite) (Sx p.1 a)) :
    VS X W (.Try body [.ExceptHandler (some (.Name x np)) (some n) (b0 :: suite) pos'] [] [] pos) (sTry (ens.map (·.1)) i F Sx) := by
  refine PS.imp (L2N.ps_try_as (tb := fun W' => tS X.K X.mg W' F) (ts := fun a cls d => fun D σ H => ∃ p ∈ ens, cls = .ref p.2 ∧ d = none ∧ tS X.K X.mg WF (Sx p.1 a) D σ H) hs hf hN hi hln hc tk (fun W' pn xe t p => hb W' pn xe t p)
    (fun a oe cls d pn hz hv => ⟨fun pins s σ H D I q => ?_⟩)) fun D σ H ⟨S, G, Hs, ρ, r, h⟩ => ?_
  · obtain ⟨p, hp, rfl, rfl, q⟩ := q
    exact (hsu p hp a oe pn hz hv).run pins s σ H D I q
  · refine ⟨S, G, Hs, ρ, r, ?_⟩
    unfold sTry at h
    cases z : F ρ with
    | nx ρ' => rw [z] at h; exact h
    | bk ρ' => rw [z] at h; exact h
    | ct ρ' => rw [z] at h; exact h
    | rt r' => rw [z] at h; exact h
    | rtB r' ρ' => rw [z] at h; exact h
    | bad => rw [z] at h; exact h
    | ex x ρ' =>
      rw [z] at h
      obtain ⟨nm, fl⟩ := x
      cases fl with
      | cons _ _ => exact h.elim
      | nil =>
        replace h : OutOk X.K X.mg W S G Hs D (if nm ∈ ens.map (·.1) then anyA (fun a => offO i (Sx nm a (ρ'.set i (.sh (exD nm a))))) else .bad) := h
        by_cases hn : nm ∈ ens.map (·.1)
        · rw [if_pos hn] at h
          obtain ⟨p, hp, rfl⟩ := List.mem_map.mp hn
          obtain ⟨m1, m2⟩ := hE p hp
          have ha : ∀ a, OutOk X.K X.mg W S G Hs D (offO i (Sx p.1 a (ρ'.set i (.sh (exD p.1 a))))) := fun a => by
            unfold anyA at h
            split at h
            · rename_i hh
              have q := hh a
              dsimp only at q
              rw [q]; exact h
            · exact h.elim
          intro Hs' H' σ' cls dd g r' hx
          obtain ⟨x1, x2⟩ := hx
          have x1 : X.mg p.1 = some cls := x1
          rw [m1] at x1
          cases x1
          rcases x2 with ⟨_, rfl⟩ | ⟨q0, _⟩
          · refine ⟨true, m2, fun _ a hna => ⟨p, hp, rfl, rfl, S, G, Hs', ρ'.set i (.sh (exD p.1 a)), r'.set (.exn a p.1), ?_⟩, fun w => by cases w⟩
            exact offO_ok ((ha a).up g)
          · exact (q0 rfl).elim
        · rw [if_neg hn] at h
          exact h.elim
theorem hot_suite {X : Cx} {a : Addr} {oe : Obj} {pn : List (Addr × Obj)} {cls : Value} {d : Option Addr} (hz : L2N.Zn cls d oe) (hf : ∃ vs, oe.data = .fields vs) : L2H.HotC (X.suite a ((a, oe) :: pn)) := by
  obtain ⟨vs, hv⟩ := hf
  exact ⟨(a, oe), ⟨rfl, vs, hv, hz.2.2 vs hv⟩, List.mem_cons_self⟩

theorem Inn.tr {X : Cx} {W W1 : WX} {k : Nat} {pn : List (Addr × Obj)} {xe : Value → Shared → Prop} (I : Inn X W k) (tk : L2N.Takes (X.tr pn xe) W1) (hp : PassesOwn (model X.prog X.w) X.A X.env xe) : Inn (X.tr pn xe) W1 k := ⟨I.hr, I.gd, tk, hp⟩
/-- what an except suite knows -/
structure InnH (X : Cx) (W : WX) (k : Nat) : Prop where
  hr : L2H.RoomH k X.A
  gd : X.A.guards = some []
  tk : L2N.Takes X W
  hp : PassesOwn (model X.prog X.w) X.A X.env X.xe
theorem takesN {X : Cx} : L2N.Takes X WF := fun _ _ ⟨_, _, _, _, _, _, _, _, _, _, _, _, _, _, _, _, w⟩ => w.elim
theorem Inn.suite {X : Cx} {W : WX} {k : Nat} (I : Inn X W k) (a : Addr) (oe : Obj) (pn : List (Addr × Obj)) : InnH (X.suite a ((a, oe) :: pn)) WF k := ⟨⟨I.hr.dp, I.hr.un⟩, I.gd, takesN, .never⟩
theorem unitsH {k : Nat} {A : Around} (r : L2H.RoomH k A) : A.units + 64 < cLine := by have := r.un; omega
/-! ### isinstance(e, C) in the suite -/
def isEx (n : Str) (a : Addr) : D → Bool
  | .dict [(.int 2, .str m), (.int 3, .int c)] => decide (m = n) && decide (c = (a : Int))
  | _ => false
theorem isEx_eq {n : Str} {a : Addr} : ∀ {d : D}, isEx n a d = true → d = exD n a := by
  intro d h
  unfold isEx at h
  split at h
  · rw [Bool.and_eq_true, decide_eq_true_eq, decide_eq_true_eq] at h
    rw [h.1, h.2]; rfl
  · cases h
theorem isEx_self (n : Str) (a : Addr) : isEx n a (exD n a) = true := by simp [isEx, exD]
def eIsE (n : Str) (a : Addr) (b : Bool) (f : Ev → R D) : Ev → R D := fun ρ => (f ρ).bind fun d => if isEx n a d = true then .ok (.bool b) else .bad
theorem v_isE {X : Cx} {W : WX} {a D : Addr} {n : Str} {oe : Obj} {pn : List (Addr × Obj)} {xi : Str} {e c : Expr} {p1 pos : Pos} {f : Ev → R VL.D} {cV : V} {cv : Value} {b : Bool} (C : ExcC X.K D) (hz : L2N.Zn (.ref D) none oe) (hf : ∃ vs, oe.data = .fields vs)
    (hg : Gl (X.suite a ((a, oe) :: pn)) xi) (hm : X.mg xi = none) (hv : bootBuiltins xi = some (.builtin "isinstance"))
    (ha : VP (X.suite a ((a, oe) :: pn)) W e f) (hc : PE (X.suite a ((a, oe) :: pn)) c (tC cV)) (hcv : ∀ u, RelV cV u → u = cv) (hk : PySem.W.kitOne X.K (.ref D) cv = some b)
    (hn : xi ≠ "__name__" := by decide) (hdb : (xi == ("__debug__" : Str)) = false := by decide)
    (he : starEach [e, c] X.env = (false, eval e X.env) :: starEach [c] X.env := by rfl) (hpl : (backTo pos (starEach [c] X.env)).any (·.1) = false := by rfl) (he2 : starEach [c] X.env = (false, eval c X.env) :: starEach [] X.env := by rfl) :
    VE (X.suite a ((a, oe) :: pn)) W (.Call (.Name xi p1) [e, c] [] pos) (eIsE n a b f) := by
  refine PE.imp (pe_callB (call_isE C hz.zc hf) hg hm hv (pa_cons ha (pa_cons hc pa_nil he2) he) hn hdb he hpl) fun σ H Q ⟨S, G, Hs, ρ, r, p⟩ => ?_
  refine ⟨S, G, Hs, ρ, r, (Post.bind p).imp fun d Hs1 H1 e q u hu => ?_⟩
  by_cases z : isEx n a d = true
  · rw [if_pos z] at q
    have z := isEx_eq z
    subst z
    have hu' : u = .ref a := by
      rcases hu with hu | ⟨l, _, _, w, _⟩
      · generalize w : exD n a = dd at hu
        cases hu <;> simp [exD, tg, tf, dkD] at w
        rw [Int.ofNat.inj w.2]
      · exact absurd w (by simp [exD])
    subst hu'
    exact ⟨cV, cv, b, rfl, hcv, hk, q.now e.sub _ (.bl b)⟩
  · rw [if_neg z] at q
    exact q.elim
/-- the classes of an error of that name -/
def isaX (t : List (Str × List Str)) (n c : Str) : Bool := t.any fun p => decide (p.1 = n) && decide (c ∈ p.2)
/-- what the written part says of an own class that is raised -/
structure ExK (P : Program) (K : Fg) (C : Addr) : Prop where
  sup : ∃ (fI cc cda : Addr) (name qual : Str) (params : Arguments) (scope : Scope) (txt : Str) (p0 p1 p2 p3 p4 pos : Pos) (k0 : Nat), SupC P K C fI cc cda name qual params scope txt p0 p1 p2 p3 p4 pos k0
  exc : ExcC K C
theorem vs_raiseC {X : Cx} {W : WX} {n : Str} {C : Addr} {p cpos pos : Pos} {k : Nat} (S : ExK X.prog X.K C) (hm : X.mg n = some (.ref C)) (hsup : X.mg "super" = none) (tk : L2N.Takes X W) (hr : Room k X.A) (hc : X.calm = true := by rfl) (hk : 1 ≤ k := by decide) (hg : Gl X n := by rfl) (hdb : (n == ("__debug__" : Str)) = false := by decide) :
    VS X W (.Raise (some (.Call (.Name n p) [] [] cpos)) none pos) (sRaise n) := by
  obtain ⟨_, _, _, _, _, _, _, _, _, _, _, _, _, _, _, s⟩ := S.sup
  exact vs_raise hc tk hm (pmk_sup s (hr.mono hk) hg hm hsup hdb)
end VL

set_option Elab.async false
set_option linter.all false
set_option maxRecDepth 100000
set_option maxHeartbeats 1000000
set_option autoImplicit false
namespace VL
open PySem PySem.Spec PyProof.Rows L2 L2H

/-! ### a list comprehension while an exception is handled -/
/-- the block's context, the handled exception still in sight -/
abbrev HBlk (X : Cx) (s : Shared) (H : Hp) (sc : Scope) (en : Env) (fp : List Addr) : Cx := { X.blk s H sc en fp with pn := X.pn }
theorem hblk_of {X : Cx} {pins : List (Addr × Obj)} {σ σ' : Sg} {H : Hp} {s s' : Shared} {sc : Scope} {en : Env} {fp : List Addr} (I : Inv X pins σ H s) (J : Inv (X.blk s H sc en fp) [] σ' H s') (hL : s.heap.objs.size ≤ en.locals)
    (kp : ∀ b o, s.heap.get? b = some o → s'.heap.get? b = some o) : Inv (HBlk X s H sc en fp) [] σ' H s' := by
  have o := J.ok
  refine ⟨⟨o.mod, o.kind, o.glob, o.blt, o.above, o.inj, o.has, o.cab, o.hd, o.frames, o.stk, o.exf, o.bs, o.bsz, o.noex, o.exfs, o.funs, o.frf⟩, J.os, J.bare, J.base, J.loc, J.cell, J.free, J.freeC, fun p hp => ?_, J.hok, J.len⟩
  have hp : p ∈ X.pn ++ [] := hp
  rw [List.append_nil] at hp
  obtain ⟨g1, g2, g3, g4, g5⟩ := I.pin p (List.mem_append_left _ hp)
  refine ⟨kp _ _ g1, g2, fun z => ?_, fun z => ?_, g5⟩
  · have h1 := Heap.lt_size g1
    have z : p.1 = en.locals := z
    rw [z] at h1
    exact Nat.lt_irrefl _ (Nat.lt_of_lt_of_le h1 hL)
  · rcases List.mem_cons.mp (I.stkSub _ z) with z | z
    · exact g3 z
    · exact g4 z

section
variable {X : Cx} {elt tg iter : Expr} {ifs : List Expr} {scope : Scope} {own : List (Str × Nat)} {pos pos' : Pos} {wi : TI} {g : TG} {tt : TT} {te : TE}
theorem lc_hot {pins : List (Addr × Obj)} {s : Shared} {σ : Sg} {H : Hp} {Q : VK} {use : Option (Value → Sem Unit)} {Qf : Value → Shared → Prop} (hot : HotC X) (nd : X.N.Nodup) (I : Inv X pins σ H s) (pi : PIH X tg iter wi) (bk : BlkOk X.N X.env.scope scope own)
    (pg : ∀ (s : Shared) (H : Hp) (C : Addr) (cl : List (Str × Addr)) (fp : List Addr), PG (HBlk X s H scope (compEnvC scope cl C X.env) fp) tg g)
    (pt : ∀ (s : Shared) (H : Hp) (C : Addr) (cl : List (Str × Addr)) (fp : List Addr), PTs (HBlk X s H scope (compEnvC scope cl C X.env) fp) ifs tt)
    (pe : ∀ (s : Shared) (H : Hp) (C : Addr) (cl : List (Str × Addr)) (fp : List Addr), PE (HBlk X s H scope (compEnvC scope cl C X.env) fp) elt te) (fs : ∀ x, foldedSetIterable iter X.env x = pure x)
    (want : tLc wi g tt te (own.map (·.2)) σ H Q)
    (fin : ∀ D C s' m H', Inv X pins σ H' s' → Q (.ref D) H' → s'.heap.Ns C m → FpOk X pins H' C → compPost (model X.prog X.w) X.A X.xe use Qf (.ref D) C (.ok .next) s') :
    wpAny (model X.prog X.w) X.A (comprehension (.ListComp elt [⟨tg, iter, ifs, 0⟩] scope pos) scope X.env pos' (newList []) false (eval iter X.env) use) Qf X.xe s := by
  have clo : ∀ y ∈ scope.names, y.2 = .free → ∃ c, X.env.cells.lookup y.1 = some c := fun y my fy => (bk.free y my fy).elim (fun k => I.ok.has _ (.inl k)) fun k => I.ok.has _ (.inr k)
  refine wpAny_comprehension_free (use := use) rfl fs (closure_ok clo) bk.kind (fun y my ly => (bk.uniq y my).trans (congrArg some ly)) ?_
  refine thn (pi.run pins s σ H _ I want) fun v1 t1 w1 => thn w1 fun v2 t2 w2 => ?_
  obtain ⟨it, fp, tn, J, Ha, rfl, Ia, T, ta, fa, w⟩ := w2
  refine wpAny_newObj_type (newEnv_comp ?_) (by show 0 ≤ sizeLine; decide)
  obtain ⟨D, hD⟩ : ∃ D, t2.heap.objs.size = D := ⟨_, rfl⟩
  have freeD : Ha D = none := Ia.hok.fresh (Nat.le_of_eq hD)
  obtain ⟨W, ⟨m0, wm⟩, turn⟩ := w D freeD
  obtain ⟨t3, ht3⟩ : ∃ t3 : Shared, t3 = { t2 with heap := t2.heap.push { cls := .type "list", data := .seq ([] : List Value).toArray } } := ⟨_, rfl⟩
  have hp3 : t3.heap = t2.heap.push { cls := .type "list", data := .seq ([] : List Value).toArray } := congrArg Shared.heap ht3
  have Ib : Inv X pins σ (upd Ha D (.lst [])) t3 := by
    subst ht3
    refine Ia.laid (t' := t2.toks) (fun b o e => Heap.get?_push_of_some _ e) (Nat.le_of_eq hD) ⟨Nat.zero_le _, [], 0, .nil, ?_⟩
    subst hD
    exact Heap.get?_push_size _ rfl
  have small : ∀ b ∈ fp, b < t2.heap.objs.size := fun b mb => (T.obj _ _ ta b mb).elim fun o q => Heap.lt_size q.1
  have fb : ∀ b ∈ fp, FpOk X pins (upd Ha D (.lst [])) b ∧ b < t3.heap.objs.size := fun b mb => by
    have l := small b mb
    constructor
    · refine ⟨?_, (fa b mb).2⟩
      rw [upd_ne (fun z => by rw [z, ← hD] at l; exact Nat.lt_irrefl _ l)]
      exact (fa b mb).1
    · rw [hp3, Heap.size_push]
      exact Nat.lt_succ_of_lt l
  have tb : tn 0 t3.heap := T.keep _ _ _ ta fun b _ o e => by rw [hp3]; exact Heap.get?_push_of_some _ e
  have Ic := block_start Ib bk nd fb
  obtain ⟨ce, hce⟩ : ∃ ce, ce = compEnvC scope (cellsFrom (t3.heap.objs.size + 1) scope.names (cloFrom X.env.cells scope.names [])) t3.heap.objs.size X.env := ⟨_, rfl⟩
  have hL : ce.locals = t3.heap.objs.size := by rw [hce]; rfl
  obtain ⟨t4, ht4⟩ : ∃ t4 : Shared, t4 = { t3 with heap := pushCells (t3.heap.push { cls := .type "dict", data := .dict #[] }) scope.names } := ⟨_, rfl⟩
  have k4 : ∀ b o, t3.heap.get? b = some o → t4.heap.get? b = some o := fun b o e => by rw [ht4]; exact pushCells_keeps _ _ _ _ (Heap.get?_push_of_some _ e)
  have goal : codeAny (model X.prog X.w) X.A (.compStart (.ListComp elt [⟨tg, iter, ifs, 0⟩] scope pos) 0 (.ref it) (.ref D) ce) (compPost (model X.prog X.w) X.A X.xe use Qf (.ref D) t3.heap.objs.size) t4 := by
    have Pg := pg t3 (upd Ha D (.lst [])) t3.heap.objs.size (cellsFrom (t3.heap.objs.size + 1) scope.names (cloFrom X.env.cells scope.names [])) fp
    have Pt := pt t3 (upd Ha D (.lst [])) t3.heap.objs.size (cellsFrom (t3.heap.objs.size + 1) scope.names (cloFrom X.env.cells scope.names [])) fp
    have Pe := pe t3 (upd Ha D (.lst [])) t3.heap.objs.size (cellsFrom (t3.heap.objs.size + 1) scope.names (cloFrom X.env.cells scope.names [])) fp
    rw [← hce] at Ic Pg Pt Pe
    rw [← ht4] at Ic
    have Id := hblk_of Ib Ic (Nat.le_of_eq hL.symm) k4
    have td := T.keep _ _ _ tb fun b _ o e => k4 b o e
    generalize upd Ha D (.lst []) = Hb at *
    -- the iterator stands apart in the block
    have apart : ∀ {H' : Hp}, (∀ b ∈ fp, H' b = none) → ∀ b ∈ fp, FpOk (HBlk X t3 Hb scope ce fp) [] H' b := fun {H'} z b mb =>
      ⟨z b mb, (Id.ok.exf b mb).1, Id.ok.exfs b mb, .inl mb, (Id.ok.exf b mb).2, fun p mp q => by
        have mp : p ∈ X.pn ++ [] := mp
        rw [List.append_nil] at mp
        exact (fb b mb).1.2.2.2.2.2 p (List.mem_append_left _ mp) q⟩
    refine codeAny_compStart_list ?_ (T.self X.A 0 _ _ _ td ?_) <;>
    · refine compLoop_any (fun n u => ∃ i H', Inv (HBlk X t3 Hb scope ce fp) [] (wipe σ (own.map (·.2))) H' u ∧ tn i u.heap ∧ (∀ b ∈ fp, H' b = none) ∧ W i n H') (fun n u hu => ?_) m0 ⟨0, Hb, Id, td, fun b mb => (fb b mb).1.1, wm⟩
      obtain ⟨i, Hc, Ie, te', fe, we⟩ := hu
      rcases turn i n Hc we with ⟨stop, q⟩ | ⟨go, Nx, less, step⟩
      · refine thnF (T.done (HBlk X t3 Hb scope ce fp) rfl rfl rfl hot i [] u _ Hc (fun _ _ => False) Ie (apart fe) te' stop) fun r u' ⟨hr, If⟩ => ?_
        subst hr
        have none_ : Hc t3.heap.objs.size = none := by have z : Hc ce.locals = none := If.free; rwa [hL] at z
        obtain ⟨m, ns, _⟩ := id If.loc
        have ns : u'.heap.Ns ce.locals m := ns
        rw [hL] at ns
        exact fin D t3.heap.objs.size u' m Hc (Ib.call' (ch := fp) If.os If.base If.hok If.bare fun b mb => ⟨(fb b mb).1.2.2.2.1, (fb b mb).1.2.1, (fb b mb).1.2.2.2.2.1, (fb b mb).1.2.2.2.2.2⟩) q ns (Ib.fpOk (Nat.le_refl _) none_)
      · refine thnF (T.item (HBlk X t3 Hb scope ce fp) rfl rfl rfl hot i [] u _ Hc (fun _ _ => False) Ie (apart fe) te' go) fun r u1 ⟨v, hr, w3⟩ => ?_
        subst hr
        refine thnF w3 fun _ u2 ⟨x, Hd, If, rx, yx, tf', ff⟩ => ?_
        refine thnF (Pg.run _ u2 _ Hd x v _ (If.pinned (apart ff) (T.obj _ _ tf')) rx (step x Hd yx)) fun _ u3 ⟨σ3, He, Ig, same, q3⟩ => ?_
        refine thnF (Pt.run _ u3 σ3 He _ Ig q3) fun b u4 ⟨Hf, Ih, q4⟩ => ?_
        have next : ∀ {u' : Shared} {H' : Hp}, Inv (HBlk X t3 Hb scope ce fp) ([] ++ pinsAt fp u2.heap) σ3 H' u' → Nx H' → ∃ m, m < n ∧ ∃ i H', Inv (HBlk X t3 Hb scope ce fp) [] (wipe σ (own.map (·.2))) H' u' ∧ tn i u'.heap ∧ (∀ b ∈ fp, H' b = none) ∧ W i m H' := fun {u' H'} Iz nz => by
          obtain ⟨k, lk, wk⟩ := less H' nz
          have at_ : ∀ b ∈ fp, ∀ o, u2.heap.get? b = some o → u'.heap.get? b = some o ∧ H' b = none := fun b mb o eo => by
            have z := Iz.pin (b, o) (List.mem_append_right _ (List.mem_append_right _ (mem_pinsAt mb eo)))
            exact ⟨z.1, z.2.1⟩
          refine ⟨k, lk, i + 1, H', (Iz.unpinned (pins := [])).weak ((wipe_length σ _).trans ((wipe_length σ _).symm.trans ((congrArg List.length same).symm.trans (wipe_length σ3 _)))) (fun j y e => ?_), T.keep _ _ _ tf' fun b mb o eo => (at_ b mb o eo).1, fun b mb => ?_, wk⟩
          · rw [← same] at e
            exact (wipe_some e).1
          · exact (T.obj _ _ tf' b mb).elim fun o eo => (at_ b mb o eo.1).2
        cases b
        · simp only [Bool.false_eq_true, if_false] at q4 ⊢
          exact next Ih q4
        · simp only [if_true] at q4 ⊢
          refine thnF (Pe.run _ u4 σ3 Hf _ Ih q4) fun y u5 ⟨yv, Hg, Ii, ry, acc, l1, l2, nz⟩ => ?_
          exact app_ok (X := HBlk X t3 Hb scope ce fp) Ii l1 l2 ry fun u6 Ij => next Ij nz
  subst ht4 hce
  subst hD
  subst ht3
  exact goal
/-- as the value of a local, on one line -/
theorem ps_setLc_hot {i : Nat} {y : Str} {py spos : Pos} (hot : HotC X) (nd : X.N.Nodup) (hy : X.N[i]? = some y) (hyl : X.env.scope.names.lookup y = some .local)
    (hsw : swapsWith (.ListComp elt [⟨tg, iter, ifs, 0⟩] scope pos) (some (.Name y py)) spos.line X.env = pure true) (pi : PIH X tg iter wi) (bk : BlkOk X.N X.env.scope scope own)
    (pg : ∀ (s : Shared) (H : Hp) (C : Addr) (cl : List (Str × Addr)) (fp : List Addr), PG (HBlk X s H scope (compEnvC scope cl C X.env) fp) tg g)
    (pt : ∀ (s : Shared) (H : Hp) (C : Addr) (cl : List (Str × Addr)) (fp : List Addr), PTs (HBlk X s H scope (compEnvC scope cl C X.env) fp) ifs tt)
    (pe : ∀ (s : Shared) (H : Hp) (C : Addr) (cl : List (Str × Addr)) (fp : List Addr), PE (HBlk X s H scope (compEnvC scope cl C X.env) fp) elt te) (fs : ∀ x, foldedSetIterable iter X.env x = pure x := by intro _; rfl) :
    PS X (.Assign [.Name y py] (.ListComp elt [⟨tg, iter, ifs, 0⟩] scope pos) spos) (tAsg (tLc wi g tt te (own.map (·.2))) (gName i)) := by
  constructor
  intro pins s σ H D I want
  rw [exec_Assign_Name_used _ _ _ _ hsw]
  refine wpAny_bind (wpAny_standAt (wpAny_bind (wpAny_bind (thn (lc_hot (use := some (assign (.Name y py) X.env)) (Qf := fun _ u => SP X pins D .next u) (Q := fun x H1 => gName i x σ H1 D.nx) hot nd I pi bk pg pt pe fs want
    fun L C u m H' J q ns away => ?_) fun _ u hq => wpAny_pure (wpAny_pure hq)))))
  refine wpAny_assign_Name (store_ok2 (v := V.ref L) J nd hy (.inl hyl) rfl (fun u2 J2 ⟨a, sb, ha⟩ => ?_) (.inr hyl))
  have ne : C ≠ a := by
    rcases ha with z | z
    · rw [z]; exact away.2.1
    · exact fun q => away.2.2.2.2.1 y a z q.symm
  exact ⟨m, ns.sameBut sb ne, fun hp sb' => ⟨_, H', J2.turned (t' := u2.toks) (fun b o nb e => (sb'.2 b nb).trans e) away.1 away.2.1 away.2.2.2.1 away.2.2.2.2.1 away.2.2.2.2.2, q⟩⟩
end

/-! ### in the value layer -/
def VIH (X : Cx) (W : WX) (tg iter : Expr) (f : Ev → R (List D)) : Prop := PIH X tg iter (tIt X.K X.mg W f)
section
variable {X : Cx} {W : WX} {elt tg iter a : Expr} {ifs : List Expr} {scope : Scope} {own : List (Str × Nat)} {pos p : Pos} {ts : List Nat} {fi fl : Ev → R (List D)} {g : D → Ev → Option Ev} {ft : Ev → R Bool} {fe : Ev → R D}
theorem vih_range1 (hg : Gl X "range") (hm : X.mg "range" = none) (ha : VAp X W [a] fl) (hs : starEach [a] X.env = [(false, eval a X.env)] := by rfl) : VIH X W tg (.Call (.Name "range" p) [a] [] pos) (e1 range1D fl) :=
  ⟨fun pins s σ H Rr I ⟨S, G, Hs, ρ, r, q⟩ => (pi_range1H hg hm ha hs).run pins s σ H Rr I (by
    refine ⟨S, G, Hs, ρ, r, (Post.bind q).imp fun ds Hs1 H1 e q vs hv => ?_⟩
    cases z : range1D ds with
    | none => rw [z] at q; exact q.elim
    | some l =>
      rw [z] at q
      have q' := q.now e.sub
      unfold range1D at z
      split at z
      · split at z
        · rename_i hz
          cases z
          obtain ⟨v, rfl, h⟩ := hv.one
          have hz' := of_decide_eq_true hz
          exact ⟨_, congrArg (fun x => [x]) h.int, hz'.1, hz'.2, q' _ it_rng⟩
        · cases z
      · cases z)⟩
theorem vs_compOH {i : Nat} {y : Str} {py spos : Pos} (hot : HotC X) (hN : X.N.Nodup) (hy : X.N[i]? = some y) (hyl : X.env.scope.names.lookup y = some .local)
    (hsw : swapsWith (.ListComp elt [⟨tg, iter, ifs, 0⟩] scope pos) (some (.Name y py)) spos.line X.env = pure true) (hi : VIH X W tg iter fi) (ok : BlkOk X.N X.env.scope scope own)
    (hg : ∀ (s : Shared) (H : Hp) (C : Addr) (cl : List (Str × Addr)) (fp : List Addr), VG (HBlk X s H scope (compEnvC scope cl C X.env) fp) tg ts g)
    (ht : ∀ (s : Shared) (H : Hp) (C : Addr) (cl : List (Str × Addr)) (fp : List Addr), VTs (HBlk X s H scope (compEnvC scope cl C X.env) fp) WF ifs ft)
    (he : ∀ (s : Shared) (H : Hp) (C : Addr) (cl : List (Str × Addr)) (fp : List Addr), VE (HBlk X s H scope (compEnvC scope cl C X.env) fp) WF elt fe)
    (hts : ∀ t ∈ ts, t ∈ own.map (·.2) := by decide) (hs : ∀ x, foldedSetIterable iter X.env x = pure x := by intro _; rfl) :
    VS X W (.Assign [.Name y py] (.ListComp elt [⟨tg, iter, ifs, 0⟩] scope pos) spos) (sSetO i (eComp (own.map (·.2)) fi g ft fe)) := PS.imp (ps_setLc_hot (g := tGt X.K ts g) (tt := tT X.K X.mg WF ft) (te := tE X.K X.mg WF fe) hot hN hy hyl hsw hi ok hg ht he hs) (sim_asgO (sim_comp hts))
end
end VL

set_option Elab.async false
set_option linter.all false
set_option maxRecDepth 100000
set_option maxHeartbeats 1000000
set_option autoImplicit false
namespace VL
open PySem PySem.Spec PyProof.Rows L2
theorem b_ValueError : bootBuiltins "ValueError" = some (.type "ValueError") := by decide +kernel
section
variable {P : Program} {K : Fg} {C fI cc cda : Addr} {name qual : Str} {params : Arguments} {scope : Scope} {txt : Str} {p0 p1 p2 p3 p4 pos : Pos} {k0 : Nat}
  {oc kV doc pm ct ccl ccv : Value} {od an cdd cld : Option Addr} {osl ccs csl : Array (Option Value)} {vs : Array Value} {file : Str} {tf : Tok} {cd : ClassData}
/-- an own class, fact by fact -/
theorem exK_mk (iC : PySem.W.findIn K (.ref C) "__init__" = some (some (.ref fI))) (tI : PySem.W.typeIn K (.ref fI) = some (.type "function"))
    (lk : K.lookup fI = some ⟨oc, od, .func (PySem.W.ksFn name qual params (supBody txt p0 p1 p2 p3 p4 pos k0) scope .none kV doc pm an (.ref cda) ct cc), osl⟩) (code : PySem.W.codeIn K (.ref cda) qual = true)
    (lc : K.lookup cda = some ⟨ccl, cdd, .fields vs, ccs⟩) (fil : vs[2]? = some (.str file tf)) (fe : ((P.main.file : Str) == file) = true) (lcell : K.lookup cc = some ⟨ccv, cld, .cell (some (.ref C)), csl⟩)
    (ini : PySem.W.excInitIn K C PySem.HandSPX.veTail "ValueError.__new__" = true) (cl : PySem.W.clsIn K C = some cd) (sub : PySem.W.mroIn K C (.ref C) = some true) (sup : PySem.W.ks_superIn K C C "__init__" = some (some (.builtin "ValueError.__init__")))
    (subB : PySem.W.subIn K (.ref C) (.type "ValueError") = some true) (exC : PySem.W.subIn K (.ref C) (.type "BaseException") = some true) (tyC : PySem.W.typeIn K (.ref C) = some (.type "type")) (kC : PySem.W.keepIn K (.ref C) = true)
    (op : PySem.W.nsIn K cStatics "thirdparty.any" = some none)
    (hg : PySem.W.findIn K (.ref C) "__getattribute__" = some (some (.builtin "BaseException.__getattribute__"))) (hk : PySem.W.findIn K (.ref C) "__getattr__" = some none) (hd : PySem.W.hasDictIn K C = true)
    (ha : PySem.W.findIn K (.ref C) "__class__" = some (some (.builtin "object.__class__"))) (hn : PySem.W.specialIn K (.builtin "object.__class__") "__get__" = some (some (.builtin "getset_descriptor.__get__")))
    (ht : PySem.W.takesIn K (.builtin "object.__class__") = some true) (hm : PySem.W.mroIn K C (.type "object") = some true)
    (par : (params.posonlyargs ++ params.args).head?.map (·.arg) = some "self")
    (binds : ∀ (kV doc pm ct : Value) (an : Option Addr) (e : Addr) (s : Shared), BindsTo s (PySem.W.ksFn name qual params (supBody txt p0 p1 p2 p3 p4 pos k0) scope .none kV doc pm an (.ref cda) ct cc) ⟨[.ref e], []⟩ [("self", .ref e)])
    (ks : scope.names.lookup ("super" : Str) = some .globalImplicit) (kc : scope.names.lookup ("__class__" : Str) = some .free) (ka : scope.names.lookup ("self" : Str) = some .local) (kind : scope.kind = .function) (co : scope.isCoroutine = false) (gen : scope.isGenerator = false)
    (nc : ∀ x ∈ scope.names, x.2 ≠ .cell) (top : (P.main.scope.names.lookup ("super" : Str)).isSome = false) (ev : SupCall txt p0 p1 p2 p3 p4 k0) : ExK P K C :=
  ⟨⟨_, _, _, _, _, _, _, _, _, _, _, _, _, _, _, ⟨ini, ⟨_, _, _, _, _, _, _, _, lk⟩, code, par, binds, ⟨_, _, _, _, _, _, lc, fil, fe⟩, ⟨_, _, _, lcell⟩, ⟨_, cl⟩, sub, sup, subB, exC, tyC, iC, tI, kC, op, ks, kc, ka, kind, co, gen, nc, top, ev⟩⟩, ⟨hg, hk, exC, hd, ha, hn, ht, hm⟩⟩
end

theorem kit_self {K : Fg} {t : Value} (h : (t == t) = true) : PySem.W.kitOne K t t = some true := if_pos h
theorem kit_ref {K : Fg} {t : Value} {C : Addr} {b : Bool} (hd : PySem.W.hasDictIn K C = true) (ht : PySem.W.typeIn K (.ref C) = some (.type "type")) (hs : PySem.W.subIn K t (.ref C) = some b) (hn : (t == .ref C) = false) : PySem.W.kitOne K t (.ref C) = some b := by
  obtain ⟨cd, hc, _⟩ := PySem.W.any_some hd
  have e2 : ((PySem.W.clsIn K C).isSome && PySem.W.typeIn K (.ref C) == some (.type "type")) = true := by rw [hc, ht] <;> rfl
  show (if (t == Value.ref C) = true then some true else (if ((PySem.W.clsIn K C).isSome && PySem.W.typeIn K (.ref C) == some (.type "type")) = true then PySem.W.subIn K t (.ref C) else none)) = some b
  rw [hn, if_neg Bool.false_ne_true, if_pos e2]
  exact hs
theorem kit_type {K : Fg} {a : Addr} {T : String} {b : Bool} (hm : PySem.W.kitMeta T = true) (hs : PySem.W.subIn K (.ref a) (.type T) = some b) : PySem.W.kitOne K (.ref a) (.type T) = some b := by
  show (if (Value.ref a == Value.type T) = true then some true else (if PySem.W.kitMeta T = true then PySem.W.subIn K (.ref a) (.type T) else none)) = some b
  rw [if_neg (show ¬ (Value.ref a == Value.type T) = true from fun q => by cases eq_of_beq q), if_pos hm]
  exact hs

/-! ### rows -/
@[simp] theorem r_raise (n : Str) (ρ : Ev) : sRaise n ρ = .ex ⟨n, []⟩ ρ := rfl
@[simp] theorem r_anyA (o : Out) : anyA (fun _ => o) = o := anyA_const o
@[simp] theorem r_offR (i : Nat) (r : SD) : offO i (.rt r) = .rt r := rfl
@[simp] theorem r_offN (i : Nat) (ρ : Ev) : offO i (.nx ρ) = .nx (ρ.set i .no) := rfl
@[simp] theorem r_isEx (n : Str) (a : Addr) : isEx n a (exD n a) = true := isEx_self n a
@[simp] theorem r_eIsE (n : Str) (a : Addr) (b : Bool) (f : Ev → R D) (ρ : Ev) : eIsE n a b f ρ = (f ρ).bind fun d => if isEx n a d = true then .ok (.bool b) else .bad := rfl
theorem try_nx {ens : List Str} {i : Nat} {F : Ev → Out} {Sx : Str → Addr → Ev → Out} {ρ ρ' : Ev} (h : F ρ = .nx ρ') : sTry ens i F Sx ρ = .nx ρ' := by unfold sTry; rw [h]
theorem try_ex {ens : List Str} {i : Nat} {F : Ev → Out} {Sx : Str → Addr → Ev → Out} {ρ ρ' : Ev} {n : Str} {o : Out} (h : F ρ = .ex ⟨n, []⟩ ρ') (hn : n ∈ ens) (hs : ∀ a, offO i (Sx n a (ρ'.set i (.sh (exD n a)))) = o) : sTry ens i F Sx ρ = o := by
  unfold sTry
  rw [h]
  show (if n ∈ ens then _ else _) = _
  rw [if_pos hn]
  exact anyA_eq hs
@[simp] theorem r_eAppX (n k : Nat) (f g : Ev → R (List D)) (ρ : Ev) : eApp n k f g ρ = (f ρ).bind fun a => (g ρ).bind fun b => if a.length = n ∧ b.length = k then .ok (a ++ b) else .bad := id rfl
@[simp] theorem r_is_nn : isD .none .none = some (.bool true) := id rfl
end VL

set_option Elab.async false
set_option linter.all false
set_option maxRecDepth 100000
set_option autoImplicit false
set_option maxHeartbeats 4000000
namespace W
open PySem PySem.Spec PyProof.Rows L2 VL
noncomputable def b_check_polynomial_1 : Ev → Out := sIf (eOr (eNot (e1 truD (eCall m__law_is_whole (eCons (eVar 3) (cst []))))) (eNot (e1 bOf (eChain ltD ltD (e1 negD (eOwn 2)) (eOwn 3) (eOwn 2))))) (sRaise "BadNumber") (sNil)
noncomputable def c_check_polynomial : Ev → Out := sSeq (sIf (e1 bOf (e2 gtD (e1 lenD (eCons (eOwn 0) (cst []))) (e2 addD (eOwn 1) (cst (.int 1))))) (sRaise "BadSize") (sNil)) (sSeq (sFor (e1 seqD (eVar 0)) (gSet 3) b_check_polynomial_1) (sIf (eAnd (e1 truD (eOwn 0)) (e1 bOf (e2 eqD (e2 ixD (eOwn 0) (e1 negD (cst (.int 1)))) (cst (.int 0))))) (sRaise "BadNumber") (sNil)))
noncomputable def m_check_polynomial : List D → R SD := runD 3 4 c_check_polynomial
/-- a number that lies within the bound -/
def okV (b : Int) : D → Bool
  | .int z => decide (-b < z) && decide (z < b)
  | _ => false
def IsVal (d : D) : Prop := (∃ z, d = .int z ∧ Sz 10 z) ∨ d = .bool true ∨ d = .bool false ∨ d = .none ∨ d = .str "1" ∨ d = .tuple [.int 1, .int 1]
def lastZ (l : List D) : Bool := match l.getLast? with
  | some (.int z) => decide (z = 0)
  | _ => false
def dueS (l : List D) (most b : Int) : Str := if most + 1 < l.length then "size" else if l.all (okV b) = true then (if lastZ l = true then "number" else "good") else "number"
theorem check_step {b : Int} {r m y : SD} {d : D} (h : IsVal d) : gTo (gSet 3) b_check_polynomial_1 d [r, m, .sh (.int b), y] = if okV b d = true then .nx [r, m, .sh (.int b), .sh d] else .ex ⟨"BadNumber", []⟩ [r, m, .sh (.int b), .sh d] := by
  rcases h with ⟨z, rfl, _⟩ | rfl | rfl | rfl | rfl | rfl
  · by_cases h1 : -b < z
    · by_cases h2 : z < b
      · simp [b_check_polynomial_1, m__law_is_whole, c__law_is_whole, okV, h1, h2]
      · simp [b_check_polynomial_1, m__law_is_whole, c__law_is_whole, okV, h1, h2]
    · simp [b_check_polynomial_1, m__law_is_whole, c__law_is_whole, okV, h1]
  all_goals simp [b_check_polynomial_1, m__law_is_whole, c__law_is_whole, okV]
theorem stop_loop {F : D → Ev → Out} {ok : D → Bool} {A : SD → Ev} {o : D → Out} (ho : ∀ d l ρ, F d ρ = o d → forO F (d :: l) ρ = o d) : ∀ (l : List D) (y : SD), (∀ d ∈ l, ∀ y, F d (A y) = if ok d = true then .nx (A (.sh d)) else o d) →
    (l.all ok = true → ∃ y', forO F l (A y) = .nx (A y')) ∧ (l.all ok = false → ∃ d, forO F l (A y) = o d)
  | [], y, _ => ⟨fun _ => ⟨y, rfl⟩, fun h => by simp at h⟩
  | d :: l, y, h => by
    have h1 := h d (by simp) y
    cases z : ok d with
    | false =>
      rw [z, if_neg (by simp)] at h1
      exact ⟨fun q => by simp [z] at q, fun _ => ⟨d, ho d l _ h1⟩⟩
    | true =>
      rw [z, if_pos rfl] at h1
      have e : forO F (d :: l) (A y) = forO F l (A (.sh d)) := by rw [forO, h1]
      obtain ⟨i1, i2⟩ := stop_loop ho l (.sh d) fun x hx => h x (by simp [hx])
      rw [e]
      exact ⟨fun q => i1 (by simpa [z] using q), fun q => i2 (by simpa [z] using q)⟩
theorem last_cases {l : List D} {b : Int} (h : l.all (okV b) = true) : l = [] ∨ ∃ l' z, l = l' ++ [.int z] := by
  rcases List.eq_nil_or_concat l with rfl | ⟨l', d, rfl⟩
  · exact .inl rfl
  · right
    rw [List.concat_eq_append] at h ⊢
    simp only [List.all_append, List.all_cons, List.all_nil, Bool.and_true, Bool.and_eq_true] at h
    cases d with
    | int z => exact ⟨l', z, rfl⟩
    | _ => simp [okV] at h
theorem lastZ_app (l : List D) (z : Int) : lastZ (l ++ [.int z]) = decide (z = 0) := by simp [lastZ]
theorem ix_m1 (l : List D) (d : D) (h : (l ++ [d]).length ≤ 100000) : ixD (.list (l ++ [d])) (.int (-1)) = some d := by rw [r_ix_l]; exact r_at_last
theorem check_ok {l : List D} {most b : Int} (hl : l.length ≤ 1000) (hv : ∀ d ∈ l, IsVal d) : m_check_polynomial [.list l, .int most, .int b] =
    if most + 1 < l.length then .ex ⟨"BadSize", []⟩ else if l.all (okV b) = true then (if lastZ l = true then .ex ⟨"BadNumber", []⟩ else .ok (.sh .none)) else .ex ⟨"BadNumber", []⟩ := by
  have ls : l.length ≤ sizeLine := slB (by omega)
  by_cases h1 : most + 1 < (l.length : Int)
  · rw [if_pos h1]
    simp [m_check_polynomial, c_check_polynomial, ls, h1]
  · rw [if_neg h1]
    obtain ⟨g1, g2⟩ := stop_loop (F := gTo (gSet 3) b_check_polynomial_1) (ok := okV b) (A := fun y => [.sh (.list l), .sh (.int most), .sh (.int b), y]) (o := fun d => .ex ⟨"BadNumber", []⟩ [.sh (.list l), .sh (.int most), .sh (.int b), .sh d]) (fun d l ρ h => by rw [forO, h]) l .no fun d hd y => check_step (hv d hd)
    by_cases h2 : l.all (okV b) = true
    · rw [if_pos h2]
      obtain ⟨y', e⟩ := g1 h2
      rcases last_cases h2 with rfl | ⟨l', z, rfl⟩
      · simp at h1
        have h1' : ¬ (most + 1 < 0) := by omega
        simp [m_check_polynomial, c_check_polynomial, h1', lastZ]
      · have ix := ix_m1 l' (.int z) (by omega)
        rw [lastZ_app]
        have h1' : ¬ (most + 1 < (l'.length : Int) + 1) := by simp at h1; omega
        simp only [List.length_append, List.length_cons, List.length_nil, List.append_assoc] at ls
        by_cases hz : z = 0
        · subst hz
          simp [m_check_polynomial, c_check_polynomial, ls, h1', e, ix, -r_ix_l]
        · simp [m_check_polynomial, c_check_polynomial, ls, h1', e, ix, hz, -r_ix_l]
    · rw [if_neg h2]
      obtain ⟨d, e⟩ := g2 (by simpa using h2)
      simp [m_check_polynomial, c_check_polynomial, ls, h1, e]
abbrev tabP : List (Str × List Str) := [("BadNumber", ["BadNumber", "WhereError", "ValueError", "Exception", "BaseException", "object"]), ("BadSize", ["BadSize", "WhereError", "ValueError", "Exception", "BaseException", "object"])]
theorem tab_ns : isaX tabP "BadNumber" "BadSize" = false := by decide +kernel
theorem tab_nn : isaX tabP "BadNumber" "BadNumber" = true := by decide +kernel
theorem tab_nv : isaX tabP "BadNumber" "ValueError" = true := by decide +kernel
theorem tab_ss : isaX tabP "BadSize" "BadSize" = true := by decide +kernel
theorem tab_sn : isaX tabP "BadSize" "BadNumber" = false := by decide +kernel
theorem tab_sv : isaX tabP "BadSize" "ValueError" = true := by decide +kernel
theorem rg2 : range1D [.int 2] = some [.int 0, .int 1] := by rw [range1_ok (by omega) (by decide)]; rfl
theorem IsVal.okD {d : D} (h : IsVal d) : okD 63 d = true := by
  rcases h with ⟨z, rfl, _⟩ | rfl | rfl | rfl | rfl | rfl <;> simp [VL.okD] <;> decide +kernel
theorem IsVal.sw {d : D} (h : IsVal d) : Sw 20 d := by
  rcases h with ⟨z, rfl, hz⟩ | rfl | rfl | rfl | rfl | rfl
  · exact (sw_int hz (by decide) (by decide)).mono (by decide)
  all_goals exact ⟨rfl, by decide +kernel⟩
theorem IsVal.int {z : Int} (h : -1000 < z) (h' : z < 1000) : IsVal (.int z) := .inl ⟨z, rfl, .of 1000 (by omega) (by omega) (by decide +kernel)⟩
theorem dr_ix {c : Nat} {xs : List Int} (h : IsDraws c xs) {z : Int} (i : Nat) (hz : z = i) (hi : i < c) : ixD (pD xs) (.int z) = some (.int (gI xs i)) := by
  subst hz
  exact p_ixc (l := xs) (by rw [h.len]; exact hi)
theorem ix_lit {l : List D} {z : Int} (h0 : 0 ≤ z) (h1 : z < l.length) : ∃ d, ixD (.list l) (.int z) = some d ∧ d ∈ l := by
  obtain ⟨n, rfl⟩ : ∃ n : Nat, z = n := ⟨z.toNat, by omega⟩
  have hn : n < l.length := by omega
  refine ⟨l[n], ?_, List.getElem_mem hn⟩
  rw [r_ix_l]
  unfold atI
  rw [show ixN l.length (n : Int) = some n from by unfold ixN; simp; omega]
  simp [hn]

/-! ### the first that is not good -/
def fstBad : List Str → Str
  | [] => "good"
  | s :: l => if s = "good" then fstBad l else s
theorem fstBad_mem : ∀ (l : List Str), fstBad l = "good" ∨ fstBad l ∈ l
  | [] => .inl rfl
  | s :: l => by
    show (if s = "good" then fstBad l else s) = "good" ∨ (if s = "good" then fstBad l else s) ∈ s :: l
    by_cases h : s = "good"
    · simp only [if_pos h]
      rcases fstBad_mem l with q | q
      · exact .inl q
      · exact .inr (List.mem_cons_of_mem _ q)
    · simp only [if_neg h]
      exact .inr List.mem_cons_self
theorem fstBad_good {l : List Str} (h : ∀ s ∈ l, s = "good") : fstBad l = "good" := by
  rcases fstBad_mem l with q | q
  · exact q
  · exact h _ q
/-- a loop that ends at the first item that is not good -/
theorem bad_loop {F : D → Ev → Out} {g : D → Str} {I : Ev → Prop} {B : Str → Out → Prop} (hB : ∀ s o, B s o → (∃ r, o = .rt r) ∨ ∃ x ρ, o = .ex x ρ) : ∀ (l : List D) (ρ : Ev), I ρ →
    (∀ d ∈ l, ∀ ρ, I ρ → (g d = "good" → ∃ ρ', F d ρ = .nx ρ' ∧ I ρ') ∧ (g d ≠ "good" → B (g d) (F d ρ))) →
    (fstBad (l.map g) = "good" ∧ ∃ ρ', forO F l ρ = .nx ρ' ∧ I ρ') ∨ (fstBad (l.map g) ≠ "good" ∧ B (fstBad (l.map g)) (forO F l ρ))
  | [], ρ, hi, _ => .inl ⟨rfl, ρ, rfl, hi⟩
  | d :: l, ρ, hi, st => by
    obtain ⟨s1, s2⟩ := st d (by simp) ρ hi
    show ((if g d = "good" then fstBad (l.map g) else g d) = "good" ∧ _) ∨ ((if g d = "good" then fstBad (l.map g) else g d) ≠ "good" ∧ B (if g d = "good" then fstBad (l.map g) else g d) _)
    by_cases h : g d = "good"
    · simp only [if_pos h]
      obtain ⟨ρ', e, hi'⟩ := s1 h
      have e2 : forO F (d :: l) ρ = forO F l ρ' := by rw [forO, e]
      rw [e2]
      exact bad_loop hB l ρ' hi' fun x hx => st x (by simp [hx])
    · simp only [if_neg h]
      right
      refine ⟨h, ?_⟩
      have b := s2 h
      have e2 : forO F (d :: l) ρ = F d ρ := by
        rcases hB _ _ b with ⟨r, e⟩ | ⟨x, ρ', e⟩ <;> rw [forO, e]
      rw [e2]; exact b
theorem dueS_cases (l : List D) (most b : Int) : dueS l most b = "size" ∨ dueS l most b = "number" ∨ dueS l most b = "good" := by
  unfold dueS
  split
  · simp
  · split
    · split <;> simp
    · simp
/-- the class that is raised for a word -/
def exn2 (s : Str) : Str := if s = "size" then "BadSize" else "BadNumber"
theorem check_due {l : List D} {most b : Int} (hl : l.length ≤ 1000) (hv : ∀ d ∈ l, IsVal d) : m_check_polynomial [.list l, .int most, .int b] = if dueS l most b = "good" then .ok (.sh .none) else .ex ⟨exn2 (dueS l most b), []⟩ := by
  rw [check_ok hl hv]
  unfold dueS
  have q1 : ¬ (("size" : Str) = "good") := by decide +kernel
  have q2 : ¬ (("number" : Str) = "good") := by decide +kernel
  have q3 : ¬ (("number" : Str) = "size") := by decide +kernel
  split
  · rw [exn2, if_pos rfl]
  · split
    · split
      · rw [exn2, if_neg q3]
      · rfl
    · rw [exn2, if_neg q3]
end W

set_option Elab.async false
set_option linter.all false
set_option maxRecDepth 100000
set_option autoImplicit false
set_option maxHeartbeats 4000000
namespace W
open PySem PySem.Spec PyProof.Rows L2 VL
noncomputable def c__law_coefficient : Ev → Out := sSeq (sSet 1 (e2 ixD (eLst (e1 lim (eCons (cst (.int 1)) (eCons (cst (.int 2)) (eCons (cst (.int 1)) (eCons (cst (.int 2)) (eCons (cst (.int 3)) (eCons (cst (.int 0)) (cst []))))))))) (e2 modD (e1 intD (eCons (e2 ixD (eOwn 0) (cst (.int 0))) (cst []))) (cst (.int 6))))) (sRetO (eCallO m__law_trim_k19 (eCons (eLst (eComp [2] (e1 range1D (eCons (eOwn 1) (cst []))) (gSet 2) (cst true) (e2 subD (e2 modD (e1 intD (eCons (e2 ixD (eOwn 0) (e2 addD (cst (.int 1)) (eOwn 2))) (cst []))) (cst (.int 7))) (cst (.int 3))))) (cst []))))
noncomputable def m__law_coefficient : List D → R SD := runD 1 3 c__law_coefficient
noncomputable def b__law_family_1 : Ev → Out := sSeq (sSet 10 (e2 ixD (eLst (e1 lim (eCons (eCall m__law_mul_k19 (eCons (eVar 7) (eCons (e2 ixD (eOwn 8) (cst (.int 1))) (cst [])))) (eCons (eCall m__law_coefficient (eCons (e3 sliceD (eOwn 4) (e1 intOf (cst (.int 12))) (e1 intOf (cst (.int 16)))) (cst []))) (cst []))))) (e2 modD (e1 intD (eCons (e2 ixD (eOwn 4) (cst (.int 15))) (cst []))) (cst (.int 2))))) (sIf (e1 bOf (e2 ltD (e1 maxD (eCons (eLst (eComp [9] (e1 seqD (e2 addD (eOwn 5) (eLst (e1 lim (eCons (eVar 10) (cst [])))))) (gSet 9) (cst true) (e1 lenD (eCons (eOwn 9) (cst []))))) (cst []))) (cst (.int 4)))) (sStore 2 (e1 negD (cst (.int 1))) (e1 tupD (eCons (eVar 5) (eCons (eVar 10) (cst []))))) (sNil))
noncomputable def b__law_family_2 : Ev → Out := sSeq (sSet 4 (e3 sliceD (eOwn 0) (e1 intOf (e2 addD (cst (.int 2)) (e2 mulD (cst (.int 16)) (eOwn 3)))) (e1 intOf (e2 addD (cst (.int 18)) (e2 mulD (cst (.int 16)) (eOwn 3)))))) (sSeq (sSetO 5 (eComp [6] (e1 range1D (eCons (eOwn 1) (cst []))) (gSet 6) (cst true) (eCall m__law_coefficient (eCons (e3 sliceD (eOwn 4) (e1 intOf (e2 mulD (cst (.int 4)) (eOwn 6))) (e1 intOf (e2 addD (e2 mulD (cst (.int 4)) (eOwn 6)) (cst (.int 4))))) (cst []))))) (sFz 5 (sSeq (sApp 2 (e1 tupD (eCons (eVar 5) (eCons (eCall m__law_coefficient (eCons (e3 sliceD (eOwn 4) (e1 intOf (cst (.int 12))) (e1 intOf (cst (.int 16)))) (cst []))) (cst []))))) (sIf (eAnd (e1 bOf (e2 gtD (eOwn 3) (cst (.int 0)))) (e1 bOf (e2 eqD (e2 modD (e1 intD (eCons (e2 ixD (eOwn 4) (cst (.int 3))) (cst []))) (cst (.int 4))) (cst (.int 0))))) (sSeq (sSet 7 (e2 ixD (eLst (e1 lim (eCons (eLst (e1 lim (eCons (cst (.int 2)) (cst [])))) (eCons (eLst (e1 lim (eCons (cst (.int 0)) (eCons (cst (.int 1)) (cst []))))) (eCons (eLst (e1 lim (eCons (e1 negD (cst (.int 1))) (cst [])))) (eCons (eLst (e1 lim (eCons (cst (.int 1)) (eCons (cst (.int 1)) (cst []))))) (cst []))))))) (e2 modD (e1 intD (eCons (e2 ixD (eOwn 4) (cst (.int 7))) (cst []))) (cst (.int 4))))) (sSeq (sSet 8 (e2 ixD (eOwn 2) (e2 modD (e1 intD (eCons (e2 ixD (eOwn 4) (cst (.int 11))) (cst []))) (eOwn 3)))) (sSeq (sSetO 5 (eComp [9] (e1 seqD (e2 ixD (eOwn 8) (cst (.int 0)))) (gSet 9) (cst true) (eCall m__law_mul_k19 (eCons (eVar 7) (eCons (eVar 9) (cst [])))))) (sFz 5 (b__law_family_1))))) (sNil)))))
noncomputable def c__law_family : Ev → Out := sSeq (sSet 1 (e2 addD (cst (.int 1)) (e2 modD (e1 intD (eCons (e2 ixD (eOwn 0) (cst (.int 0))) (cst []))) (cst (.int 3))))) (sSeq (sSetO 2 (e1 lim (cst []))) (sSeq (sFor (e1 range1D (eCons (e2 ixD (eLst (e1 lim (eCons (cst (.int 1)) (eCons (cst (.int 2)) (eCons (cst (.int 2)) (eCons (cst (.int 3)) (eCons (cst (.int 0)) (cst [])))))))) (e2 modD (e1 intD (eCons (e2 ixD (eOwn 0) (cst (.int 1))) (cst []))) (cst (.int 5)))) (cst []))) (gSet 3) b__law_family_2) (sFz 2 (sRet (e1 tupD (eCons (eVar 1) (eCons (eVar 2) (cst []))))))))
noncomputable def m__law_family : List D → R SD := runD 1 11 c__law_family
noncomputable def c__law_odd : Ev → Out := sSeq (sSet 1 (eLst (e1 lim (eCons (eLst (e1 lim (eCons (cst (.int 1)) (eCons (cst (.int 2)) (eCons (cst (.int 3)) (eCons (cst (.int 4)) (cst []))))))) (eCons (eLst (e1 lim (eCons (cst (.int 20)) (cst [])))) (eCons (eLst (e1 lim (eCons (cst (.int 1)) (eCons (e1 negD (cst (.int 20))) (cst []))))) (eCons (eLst (e1 lim (eCons (cst (.int 0)) (cst [])))) (eCons (eLst (e1 lim (eCons (cst (.int 1)) (eCons (cst (.int 0)) (cst []))))) (eCons (eLst (e1 lim (eCons (cst (.bool true)) (cst [])))) (eCons (eLst (e1 lim (eCons (cst (.int 1)) (eCons (cst .none) (cst []))))) (eCons (eLst (e1 lim (eCons (cst (.str "1")) (cst [])))) (eCons (eLst (e1 lim (eCons (cst (.int 1)) (eCons (cst (.int 2)) (eCons (cst (.int 3)) (eCons (cst (.int 0)) (cst []))))))) (eCons (eLst (e1 lim (eCons (cst (.int 0)) (eCons (cst (.int 0)) (eCons (cst (.int 19)) (eCons (cst (.int 0)) (cst []))))))) (eCons (eLst (e1 lim (eCons (e1 tupD (eCons (cst (.int 1)) (eCons (cst (.int 1)) (cst [])))) (cst [])))) (eCons (eLst (e1 lim (eCons (e1 negD (cst (.int 25))) (eCons (cst (.int 1)) (cst []))))) (cst [])))))))))))))))) (sRet (e2 ixD (eOwn 1) (e2 modD (e1 intD (eCons (eOwn 0) (cst []))) (cst (.int 12)))))
noncomputable def m__law_odd : List D → R SD := runD 1 2 c__law_odd
noncomputable def b__law_spoilt_1 : Ev → Out := sApp 2 (e2 ixD (eOwn 2) (cst (.int 0)))
noncomputable def b__law_spoilt_2 : Ev → Out := sSeq (sSet 6 (e2 modD (e1 intD (eCons (e2 ixD (eOwn 1) (cst (.int 2))) (cst []))) (cst (.int 5)))) (sSeq (sIf (e1 bOf (e2 eqD (eOwn 6) (cst (.int 0)))) (sStore 2 (eVar 3) (e1 tupD (eCons (e2 addD (eOwn 4) (eLst (e1 lim (eCons (eLst (e1 lim (eCons (cst (.int 1)) (cst [])))) (cst []))))) (eCons (eVar 5) (cst []))))) (sIf (e1 bOf (e2 eqD (eOwn 6) (cst (.int 1)))) (sStore 2 (eVar 3) (e1 tupD (eCons (e3 sliceD (eOwn 4) (e1 intOf (cst (.int 1))) (pNo)) (eCons (eVar 5) (cst []))))) (sIf (eAnd (e1 bOf (e2 eqD (eOwn 6) (cst (.int 2)))) (e1 bOf (e2 gtD (e1 lenD (eCons (eOwn 4) (cst []))) (cst (.int 0))))) (sSeq (sSet 7 (e2 modD (e1 intD (eCons (e2 ixD (eOwn 1) (cst (.int 3))) (cst []))) (e1 lenD (eCons (eOwn 4) (cst []))))) (sStore 2 (eVar 3) (e1 tupD (eCons (e2 addD (e2 addD (e3 sliceD (eOwn 4) (pNo) (e1 intOf (eVar 7))) (eLst (e1 lim (eCons (eCall m__law_odd (eCons (e2 ixD (eOwn 1) (cst (.int 4))) (cst []))) (cst []))))) (e3 sliceD (eOwn 4) (e1 intOf (e2 addD (eOwn 7) (cst (.int 1)))) (pNo))) (eCons (eVar 5) (cst [])))))) (sIf (e1 bOf (e2 eqD (eOwn 6) (cst (.int 3)))) (sStore 2 (eVar 3) (e1 tupD (eCons (eVar 4) (eCons (eCall m__law_odd (eCons (e2 ixD (eOwn 1) (cst (.int 4))) (cst []))) (cst []))))) (sIf (e1 bOf (e2 eqD (eOwn 6) (cst (.int 4)))) (sFor (e1 range1D (eCons (e2 subD (cst (.int 4)) (e1 lenD (eCons (eOwn 2) (cst [])))) (cst []))) (gSet 7) b__law_spoilt_1) (sNil)))))) (sRetV 2))
noncomputable def c__law_spoilt : Ev → Out := sSeq (sSetO 2 (e1 listO (eCons (eOwn 0) (cst [])))) (sSeq (sIf (eOr (e1 bOf (e2 eqD (e1 lenD (eCons (eOwn 2) (cst []))) (cst (.int 0)))) (e1 bOf (e2 eqD (e2 modD (e1 intD (eCons (e2 ixD (eOwn 1) (cst (.int 0))) (cst []))) (cst (.int 4))) (cst (.int 0))))) (sRetV 2) (sNil)) (sSeq (sSet 3 (e2 modD (e1 intD (eCons (e2 ixD (eOwn 1) (cst (.int 1))) (cst []))) (e1 lenD (eCons (eOwn 2) (cst []))))) (sSeq (sAsg (e2 ixD (eOwn 2) (eOwn 3)) (gTupD 2 (gsCons (gSet 4) (gsCons (gSet 5) (gsNil))))) (b__law_spoilt_2))))
noncomputable def m__law_spoilt : List D → R SD := runD 2 8 c__law_spoilt
noncomputable def b_check_family_1 : Ev → Out := sDrop (eCall m_check_polynomial (eApp 1 2 (eCons (eVar 5) (cst [])) (eCons (cst (.int 2)) (eCons (cst (.int 20)) (cst [])))))
noncomputable def b_check_family_2 : Ev → Out := sSeq (sIf (e1 bOf (e2 neD (e1 lenD (eCons (eOwn 3) (cst []))) (eOwn 1))) (sRaise "BadSize") (sNil)) (sFor (e1 seqD (e2 addD (eOwn 3) (eLst (e1 lim (eCons (eVar 4) (cst [])))))) (gSet 5) b_check_family_1)
noncomputable def c_check_family : Ev → Out := sSeq (sAsg (eVar 0) (gTupD 2 (gsCons (gSet 1) (gsCons (gSet 2) (gsNil))))) (sSeq (sIf (eOr (eNot (e1 truD (eCall m__law_is_whole (eCons (eVar 1) (cst []))))) (eOr (eNot (e1 bOf (eChain leD leD (cst (.int 1)) (eOwn 1) (cst (.int 3))))) (e1 bOf (e2 gtD (e1 lenD (eCons (eOwn 2) (cst []))) (cst (.int 3)))))) (sRaise "BadSize") (sNil)) (sFor (e1 seqD (eVar 2)) (gTupD 2 (gsCons (gSet 3) (gsCons (gSet 4) (gsNil)))) b_check_family_2))
noncomputable def m_check_family : List D → R SD := runD 1 6 c_check_family
noncomputable def c__law_told : Ev → Out := sSeq (sTry ["BadNumber", "BadSize"] 3 (sSet 2 (eCall m_check_family (eCons (e1 tupD (eCons (eVar 0) (eCons (eVar 1) (cst [])))) (cst [])))) (fun n a => sSeq (sSet 4 (eLst (e1 lim (eCons (eIsE n a (isaX [("BadNumber", ["BadNumber", "WhereError", "ValueError", "Exception", "BaseException", "object"]), ("BadSize", ["BadSize", "WhereError", "ValueError", "Exception", "BaseException", "object"])] n "BadSize") (eOwn 3)) (eCons (eIsE n a (isaX [("BadNumber", ["BadNumber", "WhereError", "ValueError", "Exception", "BaseException", "object"]), ("BadSize", ["BadSize", "WhereError", "ValueError", "Exception", "BaseException", "object"])] n "BadNumber") (eOwn 3)) (cst [])))))) (sSeq (sSetO 5 (eComp [6] (e1 range1D (eCons (cst (.int 2)) (cst []))) (gSet 6) (e1 truD (e2 ixD (eOwn 4) (eOwn 6))) (e2 ixD (eLst (e1 lim (eCons (cst (.str "size")) (eCons (cst (.str "number")) (cst []))))) (eOwn 6)))) (sFz 5 (sSeq (sIf (eOr (e1 bOf (e2 neD (e1 lenD (eCons (eOwn 5) (cst []))) (cst (.int 1)))) (eNot (e1 truD (eIsE n a (isaX [("BadNumber", ["BadNumber", "WhereError", "ValueError", "Exception", "BaseException", "object"]), ("BadSize", ["BadSize", "WhereError", "ValueError", "Exception", "BaseException", "object"])] n "ValueError") (eOwn 3))))) (sRet (e1 tupD (eCons (cst (.str "refused")) (cst [])))) (sNil)) (sRet (e1 tupD (eCons (cst (.str "told")) (eCons (e2 ixD (eOwn 5) (cst (.int 0))) (cst [])))))))))) (sSeq (sIf (e1 bOf (e2 isD (eOwn 2) (cst .none))) (sRet (e1 tupD (eCons (cst (.str "told")) (eCons (cst (.str "good")) (cst []))))) (sNil)) (sRet (e1 tupD (eCons (cst (.str "refused")) (cst [])))))
noncomputable def m__law_told : List D → R SD := runD 2 7 c__law_told
noncomputable def b__law_polynomial_due_1 : Ev → Out := sIf (eOr (eNot (e1 truD (eCall m__law_is_whole (eCons (eVar 1) (cst []))))) (e1 bOf (e2 geD (e1 absD (eCons (eOwn 1) (cst []))) (cst (.int 20))))) (sRet (cst (.str "number"))) (sNil)
noncomputable def c__law_polynomial_due : Ev → Out := sSeq (sIf (e1 bOf (e2 gtD (e1 lenD (eCons (eOwn 0) (cst []))) (cst (.int 3)))) (sRet (cst (.str "size"))) (sNil)) (sSeq (sFor (e1 seqD (eVar 0)) (gSet 1) b__law_polynomial_due_1) (sSeq (sIf (eAnd (e1 bOf (e2 gtD (e1 lenD (eCons (eOwn 0) (cst []))) (cst (.int 0)))) (e1 bOf (e2 eqD (e2 ixD (eOwn 0) (e1 negD (cst (.int 1)))) (cst (.int 0))))) (sRet (cst (.str "number"))) (sNil)) (sRet (cst (.str "good")))))
noncomputable def m__law_polynomial_due : List D → R SD := runD 1 2 c__law_polynomial_due
noncomputable def b__law_due_1 : Ev → Out := sIf (e1 bOf (e2 neD (eCall m__law_polynomial_due (eCons (eVar 4) (cst []))) (cst (.str "good")))) (sRet (eCall m__law_polynomial_due (eCons (eVar 4) (cst [])))) (sNil)
noncomputable def b__law_due_2 : Ev → Out := sSeq (sIf (e1 bOf (e2 neD (e1 lenD (eCons (eOwn 2) (cst []))) (eOwn 0))) (sRet (cst (.str "size"))) (sNil)) (sFor (e1 seqD (e2 addD (eOwn 2) (eLst (e1 lim (eCons (eVar 3) (cst [])))))) (gSet 4) b__law_due_1)
noncomputable def c__law_due : Ev → Out := sSeq (sIf (eOr (eNot (e1 truD (eCall m__law_is_whole (eCons (eVar 0) (cst []))))) (eOr (e1 bOf (e2 ltD (eOwn 0) (cst (.int 1)))) (eOr (e1 bOf (e2 gtD (eOwn 0) (cst (.int 3)))) (e1 bOf (e2 gtD (e1 lenD (eCons (eOwn 1) (cst []))) (cst (.int 3))))))) (sRet (cst (.str "size"))) (sNil)) (sSeq (sFor (e1 seqD (eVar 1)) (gTupD 2 (gsCons (gSet 2) (gsCons (gSet 3) (gsNil)))) b__law_due_2) (sRet (cst (.str "good"))))
noncomputable def m__law_due : List D → R SD := runD 2 5 c__law_due
noncomputable def b_law_1 : Ev → Out := sIf (e1 bOf (e2 neD (eCall m__law_told (eCons (eVar 5) (eCons (eVar 3) (cst [])))) (e1 tupD (eCons (cst (.str "told")) (eCons (eCall m__law_due (eCons (eVar 5) (eCons (eVar 3) (cst [])))) (cst [])))))) (sRet (cst (.bool false))) (sNil)
noncomputable def b_law_2 : Ev → Out := sSeq (sIf (e1 bOf (e2 gtD (e1 lenD (eCons (eOwn 4) (cst []))) (cst (.int 0)))) (sSeq (sSet 8 (e2 addD (eLst (e1 lim (eCons (e1 tupD (eCons (e2 ixD (e2 ixD (eOwn 4) (cst (.int 0))) (cst (.int 0))) (eCons (eLst (e1 lim (eCons (cst (.int 19)) (eCons (e1 negD (cst (.int 19))) (cst []))))) (cst [])))) (cst [])))) (e3 sliceD (eOwn 4) (e1 intOf (cst (.int 1))) (pNo)))) (sIf (e1 bOf (e2 neD (eCall m__law_told (eCons (eVar 2) (eCons (eVar 8) (cst [])))) (e1 tupD (eCons (cst (.str "told")) (eCons (cst (.str "good")) (cst [])))))) (sRet (cst (.bool false))) (sNil))) (sNil)) (sRet (eAndV (e2 eqD (eCall m__law_told (eCons (eVar 2) (eCons (eVar 4) (cst [])))) (e1 tupD (eCons (cst (.str "told")) (eCons (cst (.str "good")) (cst []))))) (e2 eqD (e1 reprL (eCons (e1 tupD (eCons (eVar 3) (eCons (eVar 4) (cst [])))) (cst []))) (eOwn 6))))
noncomputable def b_law_3 : Ev → Out := sSeq (sSet 6 (e1 reprL (eCons (e1 tupD (eCons (eVar 3) (eCons (eVar 4) (cst [])))) (cst [])))) (sSeq (sFor (e1 range1D (eCons (cst (.int 2)) (cst []))) (gSet 7) b_law_1) (b_law_2))
noncomputable def b_law_4 : Ev → Out := sSeq (sSet 5 (eVar 2)) (sSeq (sIf (e1 bOf (e2 eqD (e2 modD (e1 intD (eCons (e2 ixD (eOwn 1) (cst (.int 70))) (cst []))) (cst (.int 6))) (cst (.int 0)))) (sSet 5 (e2 ixD (eLst (e1 lim (eCons (cst (.int 0)) (eCons (cst (.int 4)) (eCons (cst (.bool true)) (eCons (e1 negD (cst (.int 1))) (eCons (cst .none) (eCons (cst (.str "2")) (cst []))))))))) (e2 modD (e1 intD (eCons (e2 ixD (eOwn 1) (cst (.int 71))) (cst []))) (cst (.int 6))))) (sNil)) (b_law_3))
noncomputable def c_law : Ev → Out := sSeq (sSet 1 (eCall m__law_draws (eCons (eVar 0) (eCons (cst (.int 80)) (cst []))))) (sSeq (sAsg (eCall m__law_family (eCons (eVar 1) (cst []))) (gTupD 2 (gsCons (gSet 2) (gsCons (gSet 3) (gsNil))))) (sSeq (sSet 4 (eLst (e1 listO (eCons (eOwn 3) (cst []))))) (sSeq (sSet 3 (eCall m__law_spoilt (eCons (eCall m__law_spoilt (eCons (eVar 3) (eCons (e3 sliceD (eOwn 1) (e1 intOf (cst (.int 60))) (e1 intOf (cst (.int 65)))) (cst [])))) (eCons (e3 sliceD (eOwn 1) (e1 intOf (cst (.int 65))) (e1 intOf (cst (.int 70)))) (cst []))))) (b_law_4))))
noncomputable def m_law : List D → R SD := runD 1 9 c_law
theorem whole_int (z : Int) : m__law_is_whole [.int z] = .ok (.sh (.bool true)) := by simp [m__law_is_whole, c__law_is_whole]
theorem whole_not {d : D} (h : d = .bool true ∨ d = .none ∨ d = .str "2") : m__law_is_whole [d] = .ok (.sh (.bool false)) := by
  rcases h with rfl | rfl | rfl <;> simp [m__law_is_whole, c__law_is_whole]
def ManyV (d : D) : Prop := (∃ z : Int, d = .int z) ∨ d = .bool true ∨ d = .none ∨ d = .str "2"
def PolyV (d : D) : Prop := ∃ l, d = .list l ∧ l.length ≤ 9 ∧ ∀ x ∈ l, IsVal x
def FamR (d : D) : Prop := ∃ cs c, d = .tuple [.list cs, c] ∧ cs.length ≤ 9 ∧ (∀ p ∈ cs, PolyV p) ∧ PolyV c
def polyDue : D → Str
  | .list l => dueS l 2 20
  | _ => "bad"
def rowDue (m : Int) : D → Str
  | .tuple [.list cs, c] => if (cs.length : Int) = m then fstBad ((cs ++ [c]).map polyDue) else "size"
  | _ => "bad"
def famDue (d : D) (rows : List D) : Str := match d with
  | .int m => if m < 1 ∨ 3 < m ∨ 3 < rows.length then ("size" : Str) else fstBad (rows.map (rowDue m))
  | _ => "size"
theorem pd_step {d : D} {x y : SD} (h : IsVal d) : gTo (gSet 1) b__law_polynomial_due_1 d [x, y] = if okV 20 d = true then .nx [x, .sh d] else .rt (.sh (.str "number")) := by
  rcases h with ⟨z, rfl, _⟩ | rfl | rfl | rfl | rfl | rfl
  · by_cases h1 : -20 < z
    · by_cases h2 : z < 20
      · have q : (if z < 0 then -z else z) < 20 := by split <;> omega
        simp [b__law_polynomial_due_1, whole_int, okV, h1, h2, q]
      · have q : 20 ≤ (if z < 0 then -z else z) := by split <;> omega
        simp [b__law_polynomial_due_1, whole_int, okV, h1, h2, q]
    · have q : 20 ≤ (if z < 0 then -z else z) := by split <;> omega
      simp [b__law_polynomial_due_1, whole_int, okV, h1, q]
  all_goals simp [b__law_polynomial_due_1, m__law_is_whole, c__law_is_whole, okV]
theorem pdue_ok {l : List D} (hl : l.length ≤ 1000) (hv : ∀ d ∈ l, IsVal d) : m__law_polynomial_due [.list l] = .ok (.sh (.str (dueS l 2 20))) := by
  have ls : l.length ≤ sizeLine := slB (by omega)
  unfold dueS
  by_cases h1 : (2 : Int) + 1 < (l.length : Int)
  · rw [if_pos h1]
    have h1' : 3 < (l.length : Int) := by omega
    have h1'' : 3 < l.length := by omega
    simp [m__law_polynomial_due, c__law_polynomial_due, ls, h1', h1'']
  · rw [if_neg h1]
    obtain ⟨g1, g2⟩ := stop_loop (F := gTo (gSet 1) b__law_polynomial_due_1) (ok := okV 20) (A := fun y => [.sh (.list l), y]) (o := fun _ => .rt (.sh (.str "number"))) (fun d l ρ h => by rw [forO, h]) l .no fun d hd y => pd_step (hv d hd)
    have h1' : ¬ 3 < (l.length : Int) := by omega
    have h1'' : ¬ 3 < l.length := by omega
    by_cases h2 : l.all (okV 20) = true
    · rw [if_pos h2]
      obtain ⟨y', e⟩ := g1 h2
      rcases last_cases h2 with rfl | ⟨l', z, rfl⟩
      · simp [m__law_polynomial_due, c__law_polynomial_due, lastZ]
      · have ix := ix_m1 l' (.int z) (by omega)
        rw [lastZ_app]
        simp only [List.length_append, List.length_cons, List.length_nil] at ls h1' h1''
        have p0 : 0 < l'.length + 1 := by omega
        have p1 : ¬ 3 < l'.length + 1 := by omega
        have p2 : (0 : Int) < (l'.length : Int) + 1 := by omega
        have p3 : ¬ (3 < (l'.length : Int) + 1) := by omega
        by_cases hz : z = 0
        · subst hz
          simp [m__law_polynomial_due, c__law_polynomial_due, ls, p0, p1, p2, p3, e, ix, -r_ix_l]
        · simp [m__law_polynomial_due, c__law_polynomial_due, ls, p0, p1, p2, p3, e, ix, hz, -r_ix_l]
    · rw [if_neg h2]
      obtain ⟨d, e⟩ := g2 (by simpa using h2)
      simp [m__law_polynomial_due, c__law_polynomial_due, ls, h1', h1'', e]
theorem lin_step {d : D} {a b c e y : SD} (h : PolyV d) : gTo (gSet 4) b__law_due_1 d [a, b, c, e, y] = if polyDue d = "good" then .nx [a, b, c, e, .sh d] else .rt (.sh (.str (polyDue d))) := by
  obtain ⟨l, rfl, h1, h2⟩ := h
  have p := pdue_ok (by omega) h2
  show _ = if dueS l 2 20 = "good" then _ else Out.rt (.sh (.str (dueS l 2 20)))
  by_cases q : dueS l 2 20 = "good"
  · simp [b__law_due_1, p, q]
  · simp [b__law_due_1, p, q]
theorem cin_step {d : D} {a b c e f y : SD} (h : PolyV d) : gTo (gSet 5) b_check_family_1 d [a, b, c, e, f, y] = if polyDue d = "good" then .nx [a, b, c, e, f, .sh d] else .ex ⟨exn2 (polyDue d), []⟩ [a, b, c, e, f, .sh d] := by
  obtain ⟨l, rfl, h1, h2⟩ := h
  have p := check_due (most := 2) (b := 20) (by omega) h2
  show _ = if dueS l 2 20 = "good" then _ else Out.ex ⟨exn2 (dueS l 2 20), []⟩ _
  by_cases q : dueS l 2 20 = "good"
  · rw [if_pos q] at p ⊢
    simp [b_check_family_1, p]
  · rw [if_neg q] at p ⊢
    simp [b_check_family_1, p]
abbrev Lrt (s : Str) (o : Out) : Prop := o = .rt (.sh (.str s))
abbrev Cex (s : Str) (o : Out) : Prop := ∃ ρ, o = .ex ⟨exn2 s, []⟩ ρ
theorem lrt_out (s : Str) (o : Out) (h : Lrt s o) : (∃ r, o = .rt r) ∨ ∃ x ρ, o = .ex x ρ := .inl ⟨_, h⟩
theorem cex_out (s : Str) (o : Out) (h : Cex s o) : (∃ r, o = .rt r) ∨ ∃ x ρ, o = .ex x ρ := by
  obtain ⟨ρ, h⟩ := h
  exact .inr ⟨_, ρ, h⟩
theorem lrow_step {d : D} {m : Int} {b y2 y3 y4 : SD} (h : FamR d) : (rowDue m d = "good" → ∃ z2 z3 z4, gTo (gTupD 2 (gsCons (gSet 2) (gsCons (gSet 3) gsNil))) b__law_due_2 d [.sh (.int m), b, y2, y3, y4] = .nx [.sh (.int m), b, z2, z3, z4]) ∧
    (rowDue m d ≠ "good" → Lrt (rowDue m d) (gTo (gTupD 2 (gsCons (gSet 2) (gsCons (gSet 3) gsNil))) b__law_due_2 d [.sh (.int m), b, y2, y3, y4])) := by
  obtain ⟨cs, c, rfl, h1, h2, h3⟩ := h
  have ls : cs.length ≤ sizeLine := slB (by omega)
  show ((if (cs.length : Int) = m then fstBad ((cs ++ [c]).map polyDue) else "size") = "good" → _) ∧ ((if (cs.length : Int) = m then fstBad ((cs ++ [c]).map polyDue) else "size") ≠ "good" → Lrt (if (cs.length : Int) = m then fstBad ((cs ++ [c]).map polyDue) else "size") _)
  by_cases q : (cs.length : Int) = m
  · simp only [if_pos q]
    have ca : catD cs [c] = some (cs ++ [c]) := r_cat (slB (by simp; omega))
    have ll : (cs ++ [c]).length ≤ sizeLine := slB (by simp; omega)
    rcases bad_loop (F := gTo (gSet 4) b__law_due_1) (g := polyDue) (I := fun ρ => ∃ y, ρ = [.sh (.int m), b, .sh (.list cs), .sh c, y]) (B := Lrt) lrt_out (cs ++ [c]) [.sh (.int m), b, .sh (.list cs), .sh c, y4] ⟨_, rfl⟩ (fun d hd ρ ⟨y, hy⟩ => by
      subst hy
      have v : PolyV d := by
        rcases List.mem_append.mp hd with hd | hd
        · exact h2 d hd
        · rw [List.mem_singleton.mp hd]; exact h3
      rw [lin_step v]
      exact ⟨fun z => ⟨_, if_pos z, _, rfl⟩, fun z => if_neg z⟩) with ⟨e1', ρ', e2', y, rfl⟩ | ⟨e1', e2'⟩
    · refine ⟨fun _ => ⟨.sh (.list cs), .sh c, y, ?_⟩, fun z => absurd e1' z⟩
      simp [b__law_due_2, ls, q, ca, e2']
    · refine ⟨fun z => absurd z e1', fun _ => ?_⟩
      have e3 : forO (gTo (gSet 4) b__law_due_1) (cs ++ [c]) [.sh (.int m), b, .sh (.list cs), .sh c, y4] = .rt (.sh (.str (fstBad ((cs ++ [c]).map polyDue)))) := e2'
      show _ = _
      simp [b__law_due_2, ls, q, ca, e3]
  · simp only [if_neg q]
    refine ⟨fun z => absurd z (by decide +kernel), fun _ => ?_⟩
    show _ = _
    simp [b__law_due_2, ls, q]
theorem crow_step {d : D} {m : Int} {a b y3 y4 y5 : SD} (h : FamR d) : (rowDue m d = "good" → ∃ z3 z4 z5, gTo (gTupD 2 (gsCons (gSet 3) (gsCons (gSet 4) gsNil))) b_check_family_2 d [a, .sh (.int m), b, y3, y4, y5] = .nx [a, .sh (.int m), b, z3, z4, z5]) ∧
    (rowDue m d ≠ "good" → Cex (rowDue m d) (gTo (gTupD 2 (gsCons (gSet 3) (gsCons (gSet 4) gsNil))) b_check_family_2 d [a, .sh (.int m), b, y3, y4, y5])) := by
  obtain ⟨cs, c, rfl, h1, h2, h3⟩ := h
  have ls : cs.length ≤ sizeLine := slB (by omega)
  show ((if (cs.length : Int) = m then fstBad ((cs ++ [c]).map polyDue) else "size") = "good" → _) ∧ ((if (cs.length : Int) = m then fstBad ((cs ++ [c]).map polyDue) else "size") ≠ "good" → Cex (if (cs.length : Int) = m then fstBad ((cs ++ [c]).map polyDue) else "size") _)
  by_cases q : (cs.length : Int) = m
  · simp only [if_pos q]
    have ca : catD cs [c] = some (cs ++ [c]) := r_cat (slB (by simp; omega))
    rcases bad_loop (F := gTo (gSet 5) b_check_family_1) (g := polyDue) (I := fun ρ => ∃ y, ρ = [a, .sh (.int m), b, .sh (.list cs), .sh c, y]) (B := Cex) cex_out (cs ++ [c]) [a, .sh (.int m), b, .sh (.list cs), .sh c, y5] ⟨_, rfl⟩ (fun d hd ρ ⟨y, hy⟩ => by
      subst hy
      have v : PolyV d := by
        rcases List.mem_append.mp hd with hd | hd
        · exact h2 d hd
        · rw [List.mem_singleton.mp hd]; exact h3
      rw [cin_step v]
      exact ⟨fun z => ⟨_, if_pos z, _, rfl⟩, fun z => ⟨_, if_neg z⟩⟩) with ⟨e1', ρ', e2', y, rfl⟩ | ⟨e1', ρ', e2'⟩
    · refine ⟨fun _ => ⟨.sh (.list cs), .sh c, y, ?_⟩, fun z => absurd e1' z⟩
      simp [b_check_family_2, ls, q, ca, e2']
    · refine ⟨fun z => absurd z e1', fun _ => ⟨ρ', ?_⟩⟩
      simp [b_check_family_2, ls, q, ca, e2']
  · simp only [if_neg q]
    refine ⟨fun z => absurd z (by decide +kernel), fun _ => ⟨[a, .sh (.int m), b, .sh (.list cs), .sh c, y5], ?_⟩⟩
    simp [b_check_family_2, ls, q, exn2]
theorem fdue_ok {d : D} {rows : List D} (hd : ManyV d) (hl : rows.length ≤ 9) (hr : ∀ r ∈ rows, FamR r) : m__law_due [d, .list rows] = .ok (.sh (.str (famDue d rows))) := by
  have ls : rows.length ≤ sizeLine := slB (by omega)
  rcases hd with ⟨m, rfl⟩ | hd
  · show _ = R.ok (SD.sh (PyData.str (if m < 1 ∨ 3 < m ∨ 3 < rows.length then ("size" : Str) else fstBad (rows.map (rowDue m)))))
    by_cases q : m < 1 ∨ 3 < m ∨ 3 < rows.length
    · rw [if_pos q]
      rcases q with q | q | q
      · simp [m__law_due, c__law_due, whole_int, q]
      · have q' : ¬ m < 1 := by omega
        simp [m__law_due, c__law_due, whole_int, q, q']
      · by_cases q1 : m < 1
        · simp [m__law_due, c__law_due, whole_int, q1]
        · by_cases q2 : 3 < m
          · simp [m__law_due, c__law_due, whole_int, q1, q2]
          · have q' : (3 : Int) < rows.length := by omega
            simp [m__law_due, c__law_due, whole_int, q1, q2, q, q', ls]
    · rw [if_neg q]
      have q1 : ¬ m < 1 := by omega
      have q2 : ¬ 3 < m := by omega
      have q3 : ¬ 3 < rows.length := by omega
      have q4 : ¬ (3 : Int) < rows.length := by omega
      rcases bad_loop (F := gTo (gTupD 2 (gsCons (gSet 2) (gsCons (gSet 3) gsNil))) b__law_due_2) (g := rowDue m) (I := fun ρ => ∃ y2 y3 y4, ρ = [.sh (.int m), .sh (.list rows), y2, y3, y4]) (B := Lrt) lrt_out rows [.sh (.int m), .sh (.list rows), .no, .no, .no] ⟨_, _, _, rfl⟩ (fun d hd ρ ⟨y2, y3, y4, hy⟩ => by
        subst hy
        obtain ⟨s1, s2⟩ := lrow_step (m := m) (b := .sh (.list rows)) (y2 := y2) (y3 := y3) (y4 := y4) (hr d hd)
        exact ⟨fun z => by obtain ⟨z2, z3, z4, e⟩ := s1 z; exact ⟨_, e, _, _, _, rfl⟩, s2⟩) with ⟨e1', ρ', e2', y2, y3, y4, rfl⟩ | ⟨e1', e2'⟩
      · rw [e1']
        simp [m__law_due, c__law_due, whole_int, q1, q2, q3, q4, ls, e2']
      · have e3 : forO (gTo (gTupD 2 (gsCons (gSet 2) (gsCons (gSet 3) gsNil))) b__law_due_2) rows [.sh (.int m), .sh (.list rows), .no, .no, .no] = .rt (.sh (.str (fstBad (rows.map (rowDue m))))) := e2'
        simp [m__law_due, c__law_due, whole_int, q1, q2, q3, q4, ls, e3]
  · have w := whole_not hd
    have e : famDue d rows = "size" := by rcases hd with rfl | rfl | rfl <;> rfl
    rw [e]
    simp [m__law_due, c__law_due, w]
theorem fchk_ok {d : D} {rows : List D} (hd : ManyV d) (hl : rows.length ≤ 9) (hr : ∀ r ∈ rows, FamR r) : m_check_family [.tuple [d, .list rows]] = if famDue d rows = "good" then .ok (.sh .none) else .ex ⟨exn2 (famDue d rows), []⟩ := by
  have ls : rows.length ≤ sizeLine := slB (by omega)
  have q0 : ¬ (("size" : Str) = "good") := by decide +kernel
  rcases hd with ⟨m, rfl⟩ | hd
  · show _ = if (if m < 1 ∨ 3 < m ∨ 3 < rows.length then ("size" : Str) else fstBad (rows.map (rowDue m))) = "good" then _ else R.ex ⟨exn2 (if m < 1 ∨ 3 < m ∨ 3 < rows.length then ("size" : Str) else fstBad (rows.map (rowDue m))), []⟩
    by_cases q : m < 1 ∨ 3 < m ∨ 3 < rows.length
    · simp only [if_pos q]
      rw [if_neg q0, exn2, if_pos rfl]
      rcases q with q | q | q
      · have q' : ¬ 1 ≤ m := by omega
        simp [m_check_family, c_check_family, whole_int, q']
      · have q1 : 1 ≤ m := by omega
        have q' : ¬ m ≤ 3 := by omega
        simp [m_check_family, c_check_family, whole_int, q1, q']
      · by_cases q1 : 1 ≤ m
        · by_cases q2 : m ≤ 3
          · have q' : (3 : Int) < rows.length := by omega
            simp [m_check_family, c_check_family, whole_int, q1, q2, q, q', ls]
          · simp [m_check_family, c_check_family, whole_int, q1, q2]
        · simp [m_check_family, c_check_family, whole_int, q1]
    · simp only [if_neg q]
      have q1 : 1 ≤ m := by omega
      have q2 : m ≤ 3 := by omega
      have q3 : ¬ 3 < rows.length := by omega
      have q4 : ¬ (3 : Int) < rows.length := by omega
      rcases bad_loop (F := gTo (gTupD 2 (gsCons (gSet 3) (gsCons (gSet 4) gsNil))) b_check_family_2) (g := rowDue m) (I := fun ρ => ∃ y3 y4 y5, ρ = [.sh (.tuple [.int m, .list rows]), .sh (.int m), .sh (.list rows), y3, y4, y5]) (B := Cex) cex_out rows [.sh (.tuple [.int m, .list rows]), .sh (.int m), .sh (.list rows), .no, .no, .no] ⟨_, _, _, rfl⟩ (fun d hd ρ ⟨y3, y4, y5, hy⟩ => by
        subst hy
        obtain ⟨s1, s2⟩ := crow_step (m := m) (a := .sh (.tuple [.int m, .list rows])) (b := .sh (.list rows)) (y3 := y3) (y4 := y4) (y5 := y5) (hr d hd)
        exact ⟨fun z => by obtain ⟨z2, z3, z4, e⟩ := s1 z; exact ⟨_, e, _, _, _, rfl⟩, s2⟩) with ⟨e1', ρ', e2', y3, y4, y5, rfl⟩ | ⟨e1', ρ', e2'⟩
      · rw [if_pos e1']
        simp [m_check_family, c_check_family, whole_int, q1, q2, q3, q4, ls, e2']
      · rw [if_neg e1']
        simp [m_check_family, c_check_family, whole_int, q1, q2, q3, q4, ls, e2']
  · have w := whole_not hd
    have e : famDue d rows = "size" := by rcases hd with rfl | rfl | rfl <;> rfl
    rw [e, if_neg q0, exn2, if_pos rfl]
    simp [m_check_family, c_check_family, w]
theorem row_cases {m : Int} {d : D} (h : FamR d) : rowDue m d = "size" ∨ rowDue m d = "number" ∨ rowDue m d = "good" := by
  obtain ⟨cs, c, rfl, h1, h2, h3⟩ := h
  show (if (cs.length : Int) = m then fstBad ((cs ++ [c]).map polyDue) else ("size" : Str)) = _ ∨ (if (cs.length : Int) = m then fstBad ((cs ++ [c]).map polyDue) else ("size" : Str)) = _ ∨ (if (cs.length : Int) = m then fstBad ((cs ++ [c]).map polyDue) else ("size" : Str)) = _
  split
  · rcases fstBad_mem ((cs ++ [c]).map polyDue) with q | q
    · exact .inr (.inr q)
    · obtain ⟨p, hp, e⟩ := List.mem_map.mp q
      have v : PolyV p := by
        rcases List.mem_append.mp hp with hp | hp
        · exact h2 p hp
        · rw [List.mem_singleton.mp hp]; exact h3
      obtain ⟨l, rfl, _, _⟩ := v
      rw [← e]
      exact dueS_cases l 2 20
  · exact .inl rfl
theorem fam_cases {d : D} {rows : List D} (hr : ∀ r ∈ rows, FamR r) : famDue d rows = "size" ∨ famDue d rows = "number" ∨ famDue d rows = "good" := by
  unfold famDue
  split
  · split
    · exact .inl rfl
    · rename_i m _
      rcases fstBad_mem (rows.map (rowDue m)) with q | q
      · exact .inr (.inr q)
      · obtain ⟨p, hp, e⟩ := List.mem_map.mp q
        rw [← e]
        exact row_cases (hr p hp)
  · exact .inl rfl
theorem told_ok {d : D} {rows : List D} (hd : ManyV d) (hl : rows.length ≤ 9) (hr : ∀ r ∈ rows, FamR r) : m__law_told [d, .list rows] = .ok (.sh (.tuple [.str "told", .str (famDue d rows)])) := by
  have ck := fchk_ok hd hl hr
  have st : m__law_told [d, .list rows] = fin (c__law_told [.sh d, .sh (.list rows), .no, .no, .no, .no, .no]) := rfl
  have thrown : ∀ s : Str, s = "size" ∨ s = "number" → m_check_family [.tuple [d, .list rows]] = .ex ⟨exn2 s, []⟩ → m__law_told [d, .list rows] = .ok (.sh (.tuple [.str "told", .str s])) := fun s hs e => by
    rw [st, c__law_told]
    have q1 : exn2 "size" = "BadSize" := if_pos rfl
    have q2 : exn2 "number" = "BadNumber" := if_neg (by decide +kernel)
    have t := try_ex (ens := ["BadNumber", "BadSize"]) (i := 3) (F := sSet 2 (eCall m_check_family (eCons (e1 tupD (eCons (eVar 0) (eCons (eVar 1) (cst [])))) (cst [])))) (ρ := [.sh d, .sh (.list rows), .no, .no, .no, .no, .no]) (n := exn2 s) (ρ' := [.sh d, .sh (.list rows), .no, .no, .no, .no, .no]) (o := .rt (.sh (.tuple [.str "told", .str s]))) (Sx := fun n a => sSeq (sSet 4 (eLst (e1 lim (eCons (eIsE n a (isaX tabP n "BadSize") (eOwn 3)) (eCons (eIsE n a (isaX tabP n "BadNumber") (eOwn 3)) (cst [])))))) (sSeq (sSetO 5 (eComp [6] (e1 range1D (eCons (cst (.int 2)) (cst []))) (gSet 6) (e1 truD (e2 ixD (eOwn 4) (eOwn 6))) (e2 ixD (eLst (e1 lim (eCons (cst (.str "size")) (eCons (cst (.str "number")) (cst []))))) (eOwn 6)))) (sFz 5 (sSeq (sIf (eOr (e1 bOf (e2 neD (e1 lenD (eCons (eOwn 5) (cst []))) (cst (.int 1)))) (eNot (e1 truD (eIsE n a (isaX tabP n "ValueError") (eOwn 3))))) (sRet (e1 tupD (eCons (cst (.str "refused")) (cst [])))) (sNil)) (sRet (e1 tupD (eCons (cst (.str "told")) (eCons (e2 ixD (eOwn 5) (cst (.int 0))) (cst []))))))))) (by simp [e]) (by rcases hs with rfl | rfl <;> simp [q1, q2]) fun a => by
      rcases hs with rfl | rfl
      · rw [q1]; simp [tab_ss, tab_sn, tab_sv, rg2, compR, compS, s2]
      · rw [q2]; simp [tab_ns, tab_nn, tab_nv, rg2, compR, compS, s2]
    show fin (seqO (sTry _ _ _ _ _) _) = _
    rw [t]
    rfl
  rcases fam_cases (d := d) hr with q | q | q
  · rw [q, if_neg (by decide +kernel)] at ck
    rw [q]
    exact thrown _ (.inl rfl) ck
  · rw [q, if_neg (by decide +kernel)] at ck
    rw [q]
    exact thrown _ (.inr rfl) ck
  · rw [q, if_pos rfl] at ck
    rw [q, st, c__law_told]
    show fin (seqO (sTry _ _ _ _ _) _) = _
    rw [try_nx (ρ' := [.sh d, .sh (.list rows), .sh .none, .no, .no, .no, .no]) (by simp [ck])]
    simp
/-! ### what is drawn -/
theorem compR_all {step : D → R (Option D)} {P : D → Prop} : ∀ (l : List D), (∀ a ∈ l, ∃ d, step a = .ok (some d) ∧ P d) → ∃ ds, compR step l = .ok ds ∧ ds.length = l.length ∧ ∀ d ∈ ds, P d
  | [], _ => ⟨[], rfl, rfl, by simp⟩
  | a :: l, h => by
    obtain ⟨d, e, hd⟩ := h a (by simp)
    obtain ⟨ds, e2, hl, hds⟩ := compR_all l fun x hx => h x (by simp [hx])
    refine ⟨d :: ds, ?_, by simp [hl], fun x hx => ?_⟩
    · unfold compR
      rw [e, e2]; rfl
    · rcases List.mem_cons.mp hx with rfl | hx
      · exact hd
      · exact hds x hx
def GP (B : Int) (p : List Int) : Prop := Tr p ∧ ∀ i, -B ≤ cf p i ∧ cf p i ≤ B
def GoodP (B : Int) (d : D) : Prop := ∃ p : List Int, d = pD p ∧ p.length ≤ 3 ∧ GP B p
def GoodR (B : Int) (m : Nat) (d : D) : Prop := ∃ cs c, d = .tuple [.list cs, c] ∧ cs.length = m ∧ (∀ p ∈ cs, GoodP B p) ∧ GoodP B c
theorem GP.mono {B C : Int} {p : List Int} (h : GP B p) (e : B ≤ C) : GP C p := ⟨h.1, fun i => ⟨by have := (h.2 i).1; omega, by have := (h.2 i).2; omega⟩⟩
theorem GoodP.mono {B C : Int} {d : D} (h : GoodP B d) (e : B ≤ C) : GoodP C d := by
  obtain ⟨p, h1, h2, h3⟩ := h
  exact ⟨p, h1, h2, h3.mono e⟩
theorem GoodR.mono {B C : Int} {m : Nat} {d : D} (h : GoodR B m d) (e : B ≤ C) : GoodR C m d := by
  obtain ⟨cs, c, h1, h2, h3, h4⟩ := h
  exact ⟨cs, c, h1, h2, fun p hp => (h3 p hp).mono e, h4.mono e⟩
theorem coef_ok {zs : List Int} (h : IsDraws 4 zs) : ∃ p, m__law_coefficient [pD zs] = .ok (.ow (p.map .int)) ∧ GP 3 p ∧ p.length ≤ 3 := by
  have i0 := dr_ix h (z := 0) 0 rfl (by decide)
  obtain ⟨q0, q1⟩ := fmod_rng (a := gI zs 0) (b := 6) (by decide)
  obtain ⟨d, e, hd⟩ := ix_lit (l := [.int 1, .int 2, .int 1, .int 2, .int 3, .int 0]) q0 (by simpa using q1)
  obtain ⟨k, rfl, hk⟩ : ∃ k : Nat, d = .int k ∧ k ≤ 3 := by
    simp only [List.mem_cons, List.not_mem_nil, or_false] at hd
    rcases hd with rfl | rfl | rfl | rfl | rfl | rfl
    · exact ⟨1, rfl, by decide⟩
    · exact ⟨2, rfl, by decide⟩
    · exact ⟨1, rfl, by decide⟩
    · exact ⟨2, rfl, by decide⟩
    · exact ⟨3, rfl, by decide⟩
    · exact ⟨0, rfl, by decide⟩
  have rg := range1_ok (x := (k : Int)) (by omega) (by omega)
  rw [Int.toNat_natCast, rng0] at rg
  have lm : lim [PyData.int 1, .int 2, .int 1, .int 2, .int 3, .int 0] = some [PyData.int 1, .int 2, .int 1, .int 2, .int 3, .int 0] := if_pos (slB (by simp))
  have cp : compR (compS [2] (gSet 2) (cst true) (e2 subD (e2 modD (e1 intD (eCons (e2 ixD (eOwn 0) (e2 addD (cst (.int 1)) (eOwn 2))) (cst []))) (cst (.int 7))) (cst (.int 3))) [.sh (pD zs), .sh (.int k), .no]) ((List.range k).map fun i => .int (i : Nat)) = .ok ((fl k fun i => (gI zs (i + 1)).fmod 7 - 3).map .int) := by
    rw [fl, List.map_map]
    exact compR_map' fun i hi => by
      have hi := List.mem_range.mp hi
      have ii := dr_ix h (z := 1 + (i : Int)) (i + 1) (by omega) (by omega)
      simp [compS, ii, -r_ix_l]
  have kl : k ≤ sizeLine := slB (by omega)
  refine ⟨trimP (fl k fun i => (gI zs (i + 1)).fmod 7 - 3), ?_, ⟨tr_trim _, fun i => ?_⟩, Nat.le_trans (trim_le _) (by simpa using hk)⟩
  · have tk := trimk_ok (fl k fun i => (gI zs (i + 1)).fmod 7 - 3) (by simp; omega)
    simp [m__law_coefficient, c__law_coefficient, i0, lm, e, rg, cp, kl, tk, s2, -r_ix_l]
  · rw [cf_trim, cf_fl]
    split
    · obtain ⟨a, b⟩ := fmod_rng (a := gI zs (i + 1)) (b := 7) (by decide)
      omega
    · omega
/-- the four things that a row may be multiplied with -/
def IsBy (b : List Int) : Prop := b = [2] ∨ b = [0, 1] ∨ b = [-1] ∨ b = [1, 1]
theorem by_mul {b p : List Int} {B : Int} (hb : IsBy b) (h : GP B p) (B0 : 0 ≤ B) : GP (2 * B) (mulP b p) := by
  have tb : Tr b := by
    intro m hm
    rcases hb with rfl | rfl | rfl | rfl <;> simp at hm <;> subst hm <;> simp
  refine ⟨tr_mul tb h.1, fun i => ?_⟩
  have a1 := h.2 i
  have a2 := h.2 (i - 1)
  rw [cf_mul]
  rcases hb with rfl | rfl | rfl | rfl <;> simp only [cv, List.length_cons, List.length_nil, sumN, tm, cf_zero, cf_succ, cf_nil]
  all_goals (try split) <;> (try split) <;> (try simp only [Nat.sub_zero]) <;> omega
theorem lmul_by {b p : List Int} {B : Int} (hb : IsBy b) (h : GP B p) (B1 : B ≤ 100) (hl : p.length ≤ 9) : m__law_mul_k19 [pD b, pD p] = .ok (.ow ((mulP b p).map .int)) := by
  have tb : Tr b := by
    intro m hm
    rcases hb with rfl | rfl | rfl | rfl <;> simp at hm <;> subst hm <;> simp
  refine mulk_ok (s := 20) (t := 20) (fun c hc => ?_) (fun c hc => ?_) (by decide) ?_ (by omega) tb h.1
  · rcases hb with rfl | rfl | rfl | rfl <;> simp at hc
    · subst hc; exact .lit (by decide)
    · rcases hc with rfl | rfl <;> exact .lit (by decide)
    · subst hc; exact .lit (by decide)
    · subst hc; exact .lit (by decide)
  · obtain ⟨i, hi, rfl⟩ := List.getElem_of_mem hc
    rw [cf_elem hi]
    have := h.2 i
    exact .of 1000 (by omega) (by omega) (by decide +kernel)
  · rcases hb with rfl | rfl | rfl | rfl <;> decide
theorem max_lens {l : List Int} (h : l ≠ []) : ∃ M, maxD [.list (l.map .int)] = some (.int M) ∧ ∀ x ∈ l, x ≤ M := by
  cases l with
  | nil => exact absurd rfl h
  | cons a l =>
    obtain ⟨h1, h2, _⟩ := maxI_ge l a
    refine ⟨maxI a l, ?_, fun x hx => ?_⟩
    · show (intsD ((a :: l).map .int)).bind _ = _
      rw [r_ints]; rfl
    · rcases List.mem_cons.mp hx with rfl | hx
      · exact h1
      · exact h2 x hx
theorem goodP_of {B : Int} {p : List Int} (h : GP B p) (hl : p.length ≤ 3) : GoodP B (pD p) := ⟨p, rfl, hl, h⟩
/-- a product that may be too long -/
def MulP' (B : Int) (d : D) : Prop := ∃ p : List Int, d = pD p ∧ p.length ≤ 9 ∧ GP B p
theorem dr_cut {c : Nat} {xs : List Int} (h : IsDraws c xs) {a b : Int} (m : Nat) (h0 : 0 ≤ a) (h1 : b ≤ c) (h2 : b = a + m) : IsDraws m (cutI xs (some a) (some b)) := by
  have q := h.sub a.toNat b.toNat (by omega) (by omega)
  rw [show b.toNat - a.toNat = m by omega] at q
  unfold cutI
  rw [h.len, sIx_in h0 (by omega), sIx_in (by omega) h1, show b.toNat - a.toNat = m by omega]
  exact q
def lenI : D → Int
  | .list l => l.length
  | _ => 0
theorem lenI_pD (p : List Int) : lenI (pD p) = p.length := by
  show ((p.map PyData.int).length : Int) = _
  rw [List.length_map]
theorem len_pD {p : List Int} (h : p.length ≤ 1000) : lenD [pD p] = some (.int p.length) := by
  have : p.length ≤ sizeLine := slB (by omega)
  simp [pD, -pD_fold, this]
theorem fam_tail {x0 x6 x9 x10 : SD} {m k : Nat} {rs : List D} {r0 : D} {ys by_ : List Int} {cs os : List D} {oc : D} {B : Int} (h : IsDraws 16 ys) (hb : IsBy by_) (B0 : 0 ≤ B) (B1 : B ≤ 20) (B3 : 3 ≤ 2 * B) (hm : cs.length = m) (hm3 : m ≤ 3)
    (hc : ∀ p ∈ cs, MulP' (2 * B) p) (ho : GoodP B oc) (hr0 : GoodR (2 * B) m r0) :
    ∃ r y10 y9, b__law_family_1 [x0, .sh (.int m), .ow (rs ++ [r0]), .sh (.int k), .sh (pD ys), .sh (.list cs), x6, .sh (pD by_), .sh (.tuple [.list os, oc]), x9, x10] =
      .nx [x0, .sh (.int m), .ow (rs ++ [r]), .sh (.int k), .sh (pD ys), .sh (.list cs), x6, .sh (pD by_), .sh (.tuple [.list os, oc]), y9, y10] ∧ GoodR (2 * B) m r := by
  obtain ⟨op, rfl, ol, og⟩ := ho
  have i15 := dr_ix h (z := 15) 15 rfl (by decide)
  have hz := dr_cut h (a := 12) (b := 16) 4 (by decide) (by decide) (by decide)
  obtain ⟨p4, e4, g4, l4⟩ := coef_ok hz
  have ml := lmul_by hb og (by omega) (by omega)
  obtain ⟨q0, q1⟩ := fmod_rng (a := gI ys 15) (b := 2) (by decide)
  obtain ⟨d, e, hd⟩ := ix_lit (l := [pD (mulP by_ op), pD p4]) q0 (by simpa using q1)
  have bl : by_.length ≤ 2 := by rcases hb with rfl | rfl | rfl | rfl <;> simp
  obtain ⟨cp, rfl, cl, cg⟩ : ∃ p : List Int, d = pD p ∧ p.length ≤ 9 ∧ GP (2 * B) p := by
    simp only [List.mem_cons, List.not_mem_nil, or_false] at hd
    rcases hd with rfl | rfl
    · exact ⟨_, rfl, Nat.le_trans (mul_len _ _) (by omega), by_mul hb og B0⟩
    · exact ⟨_, rfl, by omega, g4.mono (by omega)⟩
  have lm : lim [pD (mulP by_ op), pD p4] = some [pD (mulP by_ op), pD p4] := if_pos (slB (by simp))
  have ca : catD cs [pD cp] = some (cs ++ [pD cp]) := r_cat (slB (by simp; omega))
  have mp : ∀ d ∈ cs ++ [pD cp], MulP' (2 * B) d := fun d hd => by
    rcases List.mem_append.mp hd with hd | hd
    · exact hc d hd
    · rw [List.mem_singleton.mp hd]; exact ⟨cp, rfl, cl, cg⟩
  have cc : ∀ ρ : Ev, 9 < ρ.length → compR (compS [9] (gSet 9) (cst true) (e1 lenD (eCons (eOwn 9) (cst []))) ρ) (cs ++ [pD cp]) = .ok (((cs ++ [pD cp]).map lenI).map .int) := fun ρ hρ => by
    have := compR_map' (step := compS [9] (gSet 9) (cst true) (e1 lenD (eCons (eOwn 9) (cst []))) ρ) (F := id) (φ := fun d : D => .int (lenI d)) (l := cs ++ [pD cp]) fun d hd => by
      obtain ⟨p, rfl, pl, _⟩ := mp d hd
      simp [compS, hρ, len_pD (p := p) (by omega), lenI_pD]
    rw [List.map_id] at this
    rw [this, List.map_map]; rfl
  obtain ⟨ls, hls, lsn, lsm⟩ : ∃ ls : List Int, (cs ++ [pD cp]).map lenI = ls ∧ ls.length = (cs ++ [pD cp]).length ∧ ∀ p : List Int, pD p ∈ cs ++ [pD cp] → (p.length : Int) ∈ ls :=
    ⟨_, rfl, by simp, fun p hp => List.mem_map.mpr ⟨pD p, hp, lenI_pD p⟩⟩
  rw [hls] at cc
  obtain ⟨M, eM, hM⟩ := max_lens (l := ls) (by intro z; rw [z] at lsn; simp at lsn)
  have eM : maxD [pD ls] = some (.int M) := eM
  have ll : (cs ++ [pD cp]).length ≤ sizeLine := slB (by simp; omega)
  have l2 : cs.length + 1 ≤ sizeLine := slB (by omega)
  have n1 : ixN (rs.length + 1) (-1) = some rs.length := by unfold ixN; simp; omega
  have st : ∀ d : D, (rs ++ [r0]).set rs.length d = rs ++ [d] := fun d => by simp
  by_cases hq : M < 4
  · refine ⟨.tuple [.list cs, pD cp], .sh (pD cp), x9, ?_, cs, pD cp, rfl, hm, fun p hp => ?_, goodP_of cg (by have := hM _ (lsm cp (by simp)); omega)⟩
    · simp [b__law_family_1, ml, i15, e4, lm, e, ca, cc, l2, eM, hq, s2, n1, -r_ix_l, -List.map_append]
    · obtain ⟨q, rfl, _, qg⟩ := hc p hp
      exact goodP_of qg (by have := hM _ (lsm q (by simp [hp])); omega)
  · refine ⟨r0, .sh (pD cp), x9, ?_, hr0⟩
    simp [b__law_family_1, ml, i15, e4, lm, e, ca, cc, l2, eM, hq, s2, -r_ix_l, -List.map_append]

def bnd : Nat → Int
  | 0 => 3
  | 1 => 3
  | 2 => 6
  | _ => 12
theorem fam_step {xs : List Int} {m k : Nat} {rs : List D} {y3 y4 y5 y6 y7 y8 y9 y10 : SD} (h : IsDraws 80 xs) (hm : m ≤ 3) (hk : k ≤ 2) (hl : rs.length = k) (hr : ∀ r ∈ rs, GoodR (bnd k) m r) :
    ∃ rs' z4 z5 z6 z7 z8 z9 z10, gTo (gSet 3) b__law_family_2 (.int k) [.sh (pD xs), .sh (.int m), .ow rs, y3, y4, y5, y6, y7, y8, y9, y10] = .nx [.sh (pD xs), .sh (.int m), .ow rs', .sh (.int k), z4, z5, z6, z7, z8, z9, z10] ∧ rs'.length = k + 1 ∧ ∀ r ∈ rs', GoodR (bnd (k + 1)) m r := by
  have hy := dr_cut h (a := 2 + 16 * (k : Int)) (b := 18 + 16 * (k : Int)) 16 (by omega) (by omega) (by omega)
  obtain ⟨ys, hys⟩ : ∃ ys, cutI xs (some (2 + 16 * (k : Int))) (some (18 + 16 * (k : Int))) = ys := ⟨_, rfl⟩
  rw [hys] at hy
  have m16 : mulD (.int 16) (.int (k : Int)) = some (.int (16 * (k : Int))) := r_mulS (by omega) (by omega) (by omega) (by omega)
  have rg := range1_ok (x := (m : Int)) (by omega) (by omega)
  rw [Int.toNat_natCast, rng0] at rg
  obtain ⟨cs, ecs, lcs, gcs⟩ := compR_all (P := GoodP 3) (step := compS [6] (gSet 6) (cst true) (eCall m__law_coefficient (eCons (e3 sliceD (eOwn 4) (e1 intOf (e2 mulD (cst (.int 4)) (eOwn 6))) (e1 intOf (e2 addD (e2 mulD (cst (.int 4)) (eOwn 6)) (cst (.int 4))))) (cst [])))
    [.sh (pD xs), .sh (.int m), .ow rs, .sh (.int k), .sh (pD ys), y5, y6, y7, y8, y9, y10]) ((List.range m).map fun i => .int (i : Nat)) (fun a ha => by
      obtain ⟨i, hi, rfl⟩ := List.mem_map.mp ha
      have hi := List.mem_range.mp hi
      have m4 : mulD (.int 4) (.int (i : Int)) = some (.int (4 * (i : Int))) := r_mulS (by omega) (by omega) (by omega) (by omega)
      obtain ⟨p, e, g, l⟩ := coef_ok (dr_cut hy (a := 4 * (i : Int)) (b := 4 * (i : Int) + 4) 4 (by omega) (by omega) (by omega))
      exact ⟨pD p, by simp [compS, m4, e], goodP_of g l⟩)
  rw [List.length_map, List.length_range] at lcs
  obtain ⟨p4, e4, g4, l4⟩ := coef_ok (dr_cut hy (a := 12) (b := 16) 4 (by decide) (by decide) (by decide))
  have ml : m ≤ sizeLine := slB (by omega)
  have rl : rs.length < sizeLine := Nat.lt_of_lt_of_le (by omega : rs.length < 100) (by decide)
  have i3 := dr_ix hy (z := 3) 3 rfl (by decide)
  have B0 : 3 ≤ bnd k ∧ bnd k ≤ bnd (k + 1) ∧ bnd k ≤ 20 := by
    have : k = 0 ∨ k = 1 ∨ k = 2 := by omega
    rcases this with rfl | rfl | rfl <;> decide
  have r0g : GoodR 3 m (.tuple [.list cs, pD p4]) := ⟨cs, pD p4, rfl, lcs, gcs, goodP_of g4 l4⟩
  have old : ∀ r ∈ rs, GoodR (bnd (k + 1)) m r := fun r h => (hr r h).mono B0.2.1
  have keep : ∀ r, GoodR (bnd (k + 1)) m r → (rs ++ [r]).length = k + 1 ∧ ∀ x ∈ rs ++ [r], GoodR (bnd (k + 1)) m x := fun r g => ⟨by simp [hl], fun x hx => by
    rcases List.mem_append.mp hx with hx | hx
    · exact old x hx
    · rw [List.mem_singleton.mp hx]; exact g⟩
  by_cases h1 : 0 < k
  · by_cases h2 : (gI ys 3).fmod 4 = 0
    · have k2 : 2 * bnd k = bnd (k + 1) := by
        have : k = 1 ∨ k = 2 := by omega
        rcases this with rfl | rfl <;> decide
      have i7 := dr_ix hy (z := 7) 7 rfl (by decide)
      have i11 := dr_ix hy (z := 11) 11 rfl (by decide)
      obtain ⟨q0, q1⟩ := fmod_rng (a := gI ys 7) (b := 4) (by decide)
      obtain ⟨bd, eb, hbd⟩ := ix_lit (l := [pD [2], pD [0, 1], pD [-1], pD [1, 1]]) q0 (by simpa using q1)
      obtain ⟨b, rfl, hb⟩ : ∃ b, bd = pD b ∧ IsBy b := by
        simp only [List.mem_cons, List.not_mem_nil, or_false] at hbd
        rcases hbd with rfl | rfl | rfl | rfl
        · exact ⟨_, rfl, .inl rfl⟩
        · exact ⟨_, rfl, .inr (.inl rfl)⟩
        · exact ⟨_, rfl, .inr (.inr (.inl rfl))⟩
        · exact ⟨_, rfl, .inr (.inr (.inr rfl))⟩
      obtain ⟨w0, w1⟩ := fmod_rng (a := gI ys 11) (b := (k : Int)) (by omega)
      obtain ⟨old1, eo, ho⟩ := ix_lit (l := rs ++ [.tuple [.list cs, pD p4]]) w0 (by simp [hl]; omega)
      obtain ⟨os, oc, rfl, ol, og, oo⟩ : ∃ os oc, old1 = .tuple [.list os, oc] ∧ os.length = m ∧ (∀ p ∈ os, GoodP (bnd k) p) ∧ GoodP (bnd k) oc := by
        rcases List.mem_append.mp ho with ho | ho
        · exact hr _ ho
        · rw [List.mem_singleton.mp ho]; exact r0g.mono B0.1
      have md : modD (.int (gI ys 11)) (.int (k : Int)) = some (.int ((gI ys 11).fmod (k : Int))) := r_mod (by omega)
      obtain ⟨ds, eds, lds, gds⟩ := compR_all (P := MulP' (2 * bnd k)) (step := compS [9] (gSet 9) (cst true) (eCall m__law_mul_k19 (eCons (eVar 7) (eCons (eVar 9) (cst []))))
        [.sh (pD xs), .sh (.int m), .ow (rs ++ [.tuple [.list cs, pD p4]]), .sh (.int k), .sh (pD ys), .sh (.list cs), y6, .sh (pD b), .sh (.tuple [.list os, oc]), y9, y10]) os (fun d hd => by
          obtain ⟨p, rfl, pl, pg⟩ := og d hd
          have := lmul_by hb pg (by omega) (by omega)
          refine ⟨pD (mulP b p), by simp [compS, this], _, rfl, Nat.le_trans (mul_len _ _) ?_, by_mul hb pg (by omega)⟩
          have bl : b.length ≤ 2 := by rcases hb with rfl | rfl | rfl | rfl <;> simp
          omega)
      have ol' : os.length ≤ sizeLine := slB (by omega)
      obtain ⟨r, z10, z9, et, gr⟩ := fam_tail (x0 := .sh (pD xs)) (x6 := y6) (x9 := y9) (x10 := y10) (m := m) (k := k) (rs := rs) (r0 := .tuple [.list cs, pD p4]) (os := os) hy hb (B := bnd k) (by omega) (by omega) (by omega) (lds.trans ol) hm gds oo (r0g.mono (by omega))
      rw [k2] at gr
      obtain ⟨k1, k2'⟩ := keep r gr
      have l4' : lim [pD [2], pD [0, 1], pD [-1], pD [1, 1]] = some [pD [2], pD [0, 1], pD [-1], pD [1, 1]] := if_pos (slB (by simp))
      have f1 : (PyData.list [.int 2] : D) = pD [2] := rfl
      have f2 : (PyData.list [.int 0, .int 1] : D) = pD [0, 1] := rfl
      have f3 : (PyData.list [.int (-1)] : D) = pD [-1] := rfl
      have f4 : (PyData.list [.int 1, .int 1] : D) = pD [1, 1] := rfl
      have one : 1 ≤ sizeLine := by decide
      refine ⟨rs ++ [r], .sh (pD ys), .sh (.list ds), y6, .sh (pD b), .sh (.tuple [.list os, oc]), z9, z10, ?_, k1, k2'⟩
      simp [b__law_family_2, m16, hys, rg, ecs, ml, e4, rl, i3, h1, h2, i7, i11, f1, f2, f3, f4, l4', eb, eo, md, eds, ol', s2, one, -r_ix_l]
      exact et
    · obtain ⟨k1, k2'⟩ := keep _ (r0g.mono (by omega))
      refine ⟨rs ++ [.tuple [.list cs, pD p4]], .sh (pD ys), .sh (.list cs), y6, y7, y8, y9, y10, ?_, k1, k2'⟩
      simp [b__law_family_2, m16, hys, rg, ecs, ml, e4, rl, i3, h1, h2, -r_ix_l]
  · obtain ⟨k1, k2'⟩ := keep _ (r0g.mono (by omega))
    refine ⟨rs ++ [.tuple [.list cs, pD p4]], .sh (pD ys), .sh (.list cs), y6, y7, y8, y9, y10, ?_, k1, k2'⟩
    simp [b__law_family_2, m16, hys, rg, ecs, ml, e4, rl, h1, -r_ix_l]

theorem family_ok {xs : List Int} (h : IsDraws 80 xs) : ∃ (m : Nat) (rs : List D), m__law_family [pD xs] = .ok (.sh (.tuple [.int m, .list rs])) ∧ 1 ≤ m ∧ m ≤ 3 ∧ rs.length ≤ 3 ∧ ∀ r ∈ rs, GoodR 12 m r := by
  have i0 := dr_ix h (z := 0) 0 rfl (by decide)
  have i1 := dr_ix h (z := 1) 1 rfl (by decide)
  obtain ⟨p0, p1⟩ := fmod_rng (a := gI xs 0) (b := 3) (by decide)
  obtain ⟨m, hm⟩ : ∃ m : Nat, 1 + (gI xs 0).fmod 3 = m := ⟨(1 + (gI xs 0).fmod 3).toNat, by omega⟩
  obtain ⟨q0, q1⟩ := fmod_rng (a := gI xs 1) (b := 5) (by decide)
  obtain ⟨d, e, hd⟩ := ix_lit (l := [.int 1, .int 2, .int 2, .int 3, .int 0]) q0 (by simpa using q1)
  obtain ⟨k, rfl, hk⟩ : ∃ k : Nat, d = .int k ∧ k ≤ 3 := by
    simp only [List.mem_cons, List.not_mem_nil, or_false] at hd
    rcases hd with rfl | rfl | rfl | rfl | rfl
    · exact ⟨1, rfl, by decide⟩
    · exact ⟨2, rfl, by decide⟩
    · exact ⟨2, rfl, by decide⟩
    · exact ⟨3, rfl, by decide⟩
    · exact ⟨0, rfl, by decide⟩
  have lm : lim [PyData.int 1, .int 2, .int 2, .int 3, .int 0] = some [PyData.int 1, .int 2, .int 2, .int 3, .int 0] := if_pos (slB (by simp))
  have rg := range1_ok (x := (k : Int)) (by omega) (by omega)
  rw [Int.toNat_natCast] at rg
  obtain ⟨ρ', eF, rs, y3, y4, y5, y6, y7, y8, y9, y10, rfl, hl, hr⟩ := forO_inv (F := gTo (gSet 3) b__law_family_2) (l := rngL 0 1 k)
    (fun i ρ => ∃ (rs : List D) (y3 y4 y5 y6 y7 y8 y9 y10 : SD), ρ = [.sh (pD xs), .sh (.int m), .ow rs, y3, y4, y5, y6, y7, y8, y9, y10] ∧ rs.length = i ∧ ∀ r ∈ rs, GoodR (bnd i) m r)
    (ρ := [.sh (pD xs), .sh (.int m), .ow [], .no, .no, .no, .no, .no, .no, .no, .no]) ⟨[], _, _, _, _, _, _, _, _, rfl, rfl, by simp⟩
    (fun i d ρ hd ⟨rs, y3, y4, y5, y6, y7, y8, y9, y10, e, hl, hr⟩ => by
      obtain ⟨hi, rfl⟩ := rng0_get hd
      subst e
      obtain ⟨rs', z4, z5, z6, z7, z8, z9, z10, e2, h1, h2⟩ := fam_step (y3 := y3) (y4 := y4) (y5 := y5) (y6 := y6) (y7 := y7) (y8 := y8) (y9 := y9) (y10 := y10) h (m := m) (by omega) (by omega) hl hr
      exact ⟨_, .inl e2, rs', _, _, _, _, _, _, _, _, rfl, h1, h2⟩)
  rw [rngL_length] at hl hr
  refine ⟨m, rs, ?_, by omega, by omega, by omega, fun r hr' => (hr r hr').mono ?_⟩
  · simp [m__law_family, c__law_family, i0, hm, i1, lm, e, rg, eF, s2, -r_ix_l]
  · have : k = 0 ∨ k = 1 ∨ k = 2 ∨ k = 3 := by omega
    rcases this with rfl | rfl | rfl | rfl <;> decide
/-! #### spoilt -/
def FamK (n : Nat) (d : D) : Prop := ∃ cs c, d = .tuple [.list cs, c] ∧ cs.length ≤ n ∧ (∀ p ∈ cs, PolyV p) ∧ PolyV c
theorem FamK.fam {n : Nat} {d : D} (h : FamK n d) (hn : n ≤ 9) : FamR d := by
  obtain ⟨cs, c, h1, h2, h3, h4⟩ := h
  exact ⟨cs, c, h1, by omega, h3, h4⟩
theorem FamK.mono {n k : Nat} {d : D} (h : FamK n d) (hn : n ≤ k) : FamK k d := by
  obtain ⟨cs, c, h1, h2, h3, h4⟩ := h
  exact ⟨cs, c, h1, by omega, h3, h4⟩
theorem GoodP.poly {B : Int} {d : D} (h : GoodP B d) (hB : B ≤ 500) : PolyV d := by
  obtain ⟨p, rfl, h1, h2, h3⟩ := h
  refine ⟨p.map .int, rfl, by simp; omega, fun x hx => ?_⟩
  obtain ⟨z, hz, rfl⟩ := List.mem_map.mp hx
  obtain ⟨i, hi, rfl⟩ := List.getElem_of_mem hz
  rw [cf_elem hi]
  have := h3 i
  exact .int (by omega) (by omega)
theorem GoodR.fam {B : Int} {m : Nat} {d : D} (h : GoodR B m d) (hB : B ≤ 500) (hm : m ≤ 3) : FamK 3 d := by
  obtain ⟨cs, c, h1, h2, h3, h4⟩ := h
  exact ⟨cs, c, h1, by omega, fun p hp => (h3 p hp).poly hB, h4.poly hB⟩
theorem odd_ok {z : Int} : ∃ d, m__law_odd [.int z] = .ok (.sh d) ∧ PolyV d := by
  obtain ⟨q0, q1⟩ := fmod_rng (a := z) (b := 12) (by decide)
  obtain ⟨L, hL⟩ : ∃ L : List D, L = [.list [.int 1, .int 2, .int 3, .int 4], .list [.int 20], .list [.int 1, .int (-20)], .list [.int 0], .list [.int 1, .int 0], .list [.bool true], .list [.int 1, .none], .list [.str "1"], .list [.int 1, .int 2, .int 3, .int 0], .list [.int 0, .int 0, .int 19, .int 0], .list [.tuple [.int 1, .int 1]], .list [.int (-25), .int 1]] := ⟨_, rfl⟩
  obtain ⟨d, e, hd⟩ := ix_lit (l := L) q0 (by rw [hL]; simpa using q1)
  have pv : ∀ l : List D, l.length ≤ 9 → (∀ x ∈ l, IsVal x) → PolyV (.list l) := fun l h1 h2 => ⟨l, rfl, h1, h2⟩
  have iv : ∀ z : Int, -1000 < z → z < 1000 → IsVal (.int z) := fun z a b => .int a b
  refine ⟨d, ?_, ?_⟩
  · rw [hL] at e
    have s4 : 4 ≤ sizeLine := by decide
    have s12 : 12 ≤ sizeLine := by decide
    have s1 : 1 ≤ sizeLine := by decide
    simp [m__law_odd, c__law_odd, s4, s12, s1, s2, -r_ix_l] at e ⊢
    simp [e, -r_ix_l]
  · rw [hL] at hd
    simp only [List.mem_cons, List.not_mem_nil, or_false] at hd
    rcases hd with rfl | rfl | rfl | rfl | rfl | rfl | rfl | rfl | rfl | rfl | rfl | rfl
    all_goals refine pv _ (by decide) fun x hx => ?_
    all_goals simp only [List.mem_cons, List.not_mem_nil, or_false] at hx
    · rcases hx with rfl | rfl | rfl | rfl <;> exact iv _ (by decide) (by decide)
    · rcases hx with rfl; exact iv _ (by decide) (by decide)
    · rcases hx with rfl | rfl <;> exact iv _ (by decide) (by decide)
    · rcases hx with rfl; exact iv _ (by decide) (by decide)
    · rcases hx with rfl | rfl <;> exact iv _ (by decide) (by decide)
    · rcases hx with rfl; exact .inr (.inl rfl)
    · rcases hx with rfl | rfl
      · exact iv _ (by decide) (by decide)
      · exact .inr (.inr (.inr (.inl rfl)))
    · rcases hx with rfl; exact .inr (.inr (.inr (.inr (.inl rfl))))
    · rcases hx with rfl | rfl | rfl | rfl <;> exact iv _ (by decide) (by decide)
    · rcases hx with rfl | rfl | rfl | rfl <;> exact iv _ (by decide) (by decide)
    · rcases hx with rfl; exact .inr (.inr (.inr (.inr (.inr rfl))))
    · rcases hx with rfl | rfl <;> exact iv _ (by decide) (by decide)

theorem cut_sub {l : List D} {a b : Option Int} : (cutL l a b).length ≤ l.length ∧ ∀ x ∈ cutL l a b, x ∈ l := by
  unfold cutL
  refine ⟨?_, fun x hx => List.mem_of_mem_drop (List.mem_of_mem_take hx)⟩
  rw [List.length_take, List.length_drop]; omega
theorem spoil_tail {zs : List Int} (h : IsDraws 5 zs) {x0 y6 y7 : SD} {rows cs : List D} {c : D} {j n : Nat} (hl : rows.length ≤ 4) (hj : j < rows.length) (hr : ∀ r ∈ rows, FamK n r) (hc : cs.length ≤ n) (hn : n ≤ 8) (hp : ∀ p ∈ cs, PolyV p) (hq : PolyV c) :
    ∃ rows', b__law_spoilt_2 [x0, .sh (pD zs), .ow rows, .sh (.int j), .sh (.list cs), .sh c, y6, y7] = .rt (.ow rows') ∧ rows'.length ≤ 4 ∧ ∀ r ∈ rows', FamK (n + 1) r := by
  have i2 := dr_ix h (z := 2) 2 rfl (by decide)
  have i3 := dr_ix h (z := 3) 3 rfl (by decide)
  have i4 := dr_ix h (z := 4) 4 rfl (by decide)
  obtain ⟨k0, k1⟩ := fmod_rng (a := gI zs 2) (b := 5) (by decide)
  obtain ⟨k, hk⟩ : ∃ k, (gI zs 2).fmod 5 = k := ⟨_, rfl⟩
  rw [hk] at k0 k1
  have st : ixN rows.length (j : Int) = some j := by unfold ixN; simp; omega
  have s1 : 1 ≤ sizeLine := by decide
  have put : ∀ d, FamK (n + 1) d → (rows.set j d).length ≤ 4 ∧ ∀ r ∈ rows.set j d, FamK (n + 1) r := fun d hd => ⟨by simpa using hl, fun r hr' => by
    rcases List.mem_or_eq_of_mem_set hr' with hr' | rfl
    · exact (hr r hr').mono (by omega)
    · exact hd⟩
  obtain ⟨od, eo, vo⟩ := odd_ok (z := gI zs 4)
  have cl : cs.length ≤ sizeLine := slB (by omega)
  have c1 : cs.length + 1 ≤ sizeLine := slB (by omega)
  by_cases h0 : k = 0
  · subst h0
    obtain ⟨a, b⟩ := put (.tuple [.list (cs ++ [.list [.int 1]]), c]) ⟨_, _, rfl, by simp; omega, fun p hp' => by
      rcases List.mem_append.mp hp' with hp' | hp'
      · exact hp p hp'
      · rw [List.mem_singleton.mp hp']; exact ⟨_, rfl, by simp, fun x hx => by rw [List.mem_singleton.mp hx]; exact .int (by decide) (by decide)⟩, hq⟩
    exact ⟨_, by simp [b__law_spoilt_2, i2, hk, st, s1, s2, c1, -r_ix_l], a, b⟩
  · by_cases h1 : k = 1
    · subst h1
      obtain ⟨u, v⟩ := cut_sub (l := cs) (a := some 1) (b := none)
      obtain ⟨a, b⟩ := put (.tuple [.list (cutL cs (some 1) none), c]) ⟨_, _, rfl, by omega, fun p hp' => hp p (v p hp'), hq⟩
      exact ⟨_, by simp [b__law_spoilt_2, i2, hk, st, s1, s2, -r_ix_l], a, b⟩
    · by_cases h2 : k = 2 ∧ 0 < cs.length
      · obtain ⟨rfl, h2⟩ := h2
        obtain ⟨t0, t1⟩ := fmod_rng (a := gI zs 3) (b := (cs.length : Int)) (by omega)
        obtain ⟨t, ht⟩ : ∃ t, (gI zs 3).fmod (cs.length : Int) = t := ⟨_, rfl⟩
        have md : modD (.int (gI zs 3)) (.int (cs.length : Int)) = some (.int t) := by rw [r_mod (by omega), ht]
        rw [ht] at t0 t1
        have u1 : cutL cs none (some t) = cs.take t.toNat := by
          unfold cutL
          rw [HT.sIx_none, sIx_in (by omega) (by omega)]; simp
        have u2 : cutL cs (some (t + 1)) none = cs.drop (t.toNat + 1) := by
          unfold cutL
          rw [HT.sIx_none, sIx_in (by omega) (by omega), show (t + 1).toNat = t.toNat + 1 by omega]
          exact List.take_of_length_le (by simp)
        have ca : catD (cs.take t.toNat) [od] = some (cs.take t.toNat ++ [od]) := r_cat (slB (by simp; omega))
        have cb : catD (cs.take t.toNat ++ [od]) (cs.drop (t.toNat + 1)) = some ((cs.take t.toNat ++ [od]) ++ cs.drop (t.toNat + 1)) := r_cat (slB (by simp; omega))
        obtain ⟨a, b⟩ := put (.tuple [.list ((cs.take t.toNat ++ [od]) ++ cs.drop (t.toNat + 1)), c]) ⟨_, _, rfl, by simp; omega, fun p hp' => by
          rcases List.mem_append.mp hp' with hp' | hp'
          · rcases List.mem_append.mp hp' with hp' | hp'
            · exact hp p (List.mem_of_mem_take hp')
            · rw [List.mem_singleton.mp hp']; exact vo
          · exact hp p (List.mem_of_mem_drop hp'), hq⟩
        exact ⟨_, by simp [b__law_spoilt_2, i2, i3, i4, hk, st, s1, s2, cl, h2, md, u1, u2, eo, ca, cb, -r_ix_l, -r_cat, -List.append_assoc], a, b⟩
      · by_cases h3 : k = 3
        · subst h3
          obtain ⟨a, b⟩ := put (.tuple [.list cs, od]) ⟨_, _, rfl, by omega, hp, vo⟩
          exact ⟨_, by simp [b__law_spoilt_2, i2, i4, hk, st, s1, s2, eo, -r_ix_l], a, b⟩
        · have keep : ∀ r ∈ rows, FamK (n + 1) r := fun r hr' => (hr r hr').mono (by omega)
          by_cases h4 : k = 4
          · subst h4
            have rl : rows.length ≤ sizeLine := slB (by omega)
            obtain ⟨w, hw⟩ : ∃ w : Nat, (4 : Int) - (rows.length : Int) = w := ⟨((4 : Int) - (rows.length : Int)).toNat, by omega⟩
            have rg := range1_ok (x := (w : Int)) (by omega) (by omega)
            rw [Int.toNat_natCast] at rg
            obtain ⟨ρ', eF, rs, y7', rfl, hl', hr'⟩ := forO_inv (F := gTo (gSet 7) b__law_spoilt_1) (l := rngL 0 1 w)
              (fun i ρ => ∃ (rs : List D) (y7 : SD), ρ = [x0, .sh (pD zs), .ow rs, .sh (.int j), .sh (.list cs), .sh c, .sh (.int 4), y7] ∧ rs.length = rows.length + i ∧ ∀ r ∈ rs, FamK (n + 1) r)
              (ρ := [x0, .sh (pD zs), .ow rows, .sh (.int j), .sh (.list cs), .sh c, .sh (.int 4), y7]) ⟨rows, y7, rfl, rfl, keep⟩
              (fun i d ρ hd ⟨rs, y7, e, hl', hr'⟩ => by
                obtain ⟨hi, rfl⟩ := rng0_get hd
                subst e
                obtain ⟨r0, e0, m0⟩ := ix_lit (l := rs) (z := 0) (by decide) (by omega)
                have rl : rs.length < sizeLine := Nat.lt_of_lt_of_le (by omega : rs.length < 100) (by decide)
                refine ⟨_, .inl (by simp [b__law_spoilt_1, e0, rl, -r_ix_l]; rfl), rs ++ [r0], _, rfl, by simp; omega, fun r hr2 => ?_⟩
                rcases List.mem_append.mp hr2 with hr2 | hr2
                · exact hr' r hr2
                · rw [List.mem_singleton.mp hr2]; exact hr' r0 m0)
            rw [rngL_length] at hl'
            exact ⟨rs, by simp [b__law_spoilt_2, i2, hk, rl, hw, rg, eF, -r_ix_l], by omega, hr'⟩
          · have k2 : k = 2 := by omega
            subst k2
            have z0 : ¬ 0 < cs.length := fun z => h2 ⟨rfl, z⟩
            exact ⟨rows, by simp [b__law_spoilt_2, i2, hk, cl, z0, -r_ix_l], hl, keep⟩
theorem spoilt_ok {zs : List Int} (h : IsDraws 5 zs) {rows : List D} {n : Nat} (hl : rows.length ≤ 4) (hr : ∀ r ∈ rows, FamK n r) (hn : n ≤ 8) : ∃ rows', m__law_spoilt [.list rows, pD zs] = .ok (.ow rows') ∧ rows'.length ≤ 4 ∧ ∀ r ∈ rows', FamK (n + 1) r := by
  have i0 := dr_ix h (z := 0) 0 rfl (by decide)
  have i1 := dr_ix h (z := 1) 1 rfl (by decide)
  have rl : rows.length ≤ sizeLine := slB (by omega)
  have keep : ∀ r ∈ rows, FamK (n + 1) r := fun r hr' => (hr r hr').mono (by omega)
  have lo : listO [.list rows] = some rows := rfl
  by_cases h0 : rows.length = 0
  · exact ⟨rows, by simp [m__law_spoilt, c__law_spoilt, lo, rl, h0], hl, keep⟩
  · by_cases h1 : (gI zs 0).fmod 4 = 0
    · have h0' : ¬ rows = [] := fun z => h0 (by rw [z]; rfl)
      exact ⟨rows, by simp [m__law_spoilt, c__law_spoilt, lo, rl, h0, h0', i0, h1, -r_ix_l], hl, keep⟩
    · obtain ⟨t0, t1⟩ := fmod_rng (a := gI zs 1) (b := (rows.length : Int)) (by omega)
      obtain ⟨j, hj⟩ : ∃ j : Nat, (gI zs 1).fmod (rows.length : Int) = j := ⟨((gI zs 1).fmod (rows.length : Int)).toNat, by omega⟩
      have md : modD (.int (gI zs 1)) (.int (rows.length : Int)) = some (.int (j : Int)) := by rw [r_mod (by omega), hj]
      obtain ⟨d, e, hd⟩ := ix_lit (l := rows) (z := (j : Int)) (by omega) (by omega)
      obtain ⟨cs, c, rfl, g1, g2, g3⟩ := hr d hd
      obtain ⟨rows', e', a, b⟩ := spoil_tail h (x0 := .sh (.list rows)) (y6 := .no) (y7 := .no) (rows := rows) (j := j) (by omega) (by omega) hr g1 hn g2 g3
      have h0' : ¬ rows = [] := fun z => h0 (by rw [z]; rfl)
      exact ⟨rows', by simp [m__law_spoilt, c__law_spoilt, lo, rl, h0, h0', i0, h1, i1, md, e, e', -r_ix_l], a, b⟩
/-! #### the law -/
theorem polyV_ok {d : D} (h : PolyV d) : okD 60 d = true ∧ Sw 500 d := by
  obtain ⟨l, rfl, h1, h2⟩ := h
  refine ⟨?_, (sw_list (w := 20) fun x hx => (h2 x hx).sw).mono (by omega)⟩
  rw [okD_list, okL_iff]
  intro x hx
  rcases h2 x hx with ⟨z, rfl, _⟩ | rfl | rfl | rfl | rfl | rfl <;> simp [VL.okD] <;> decide +kernel
theorem famR_ok {d : D} (h : FamR d) : okD 62 d = true ∧ Sw 20000 d := by
  obtain ⟨cs, c, rfl, h1, h2, h3⟩ := h
  refine ⟨?_, ((sw_tup (l := [.list cs, c]) (w := 5000) fun x hx => ?_)).mono (by simp)⟩
  · have e2 := (polyV_ok h3).1
    have e3 : okL 60 cs = true := okL_iff.mpr fun x hx => (polyV_ok (h2 x hx)).1
    have e4 : okD 61 c = true := by
      obtain ⟨l, rfl, g1, g2⟩ := h3
      rw [okD_list, okL_iff]
      intro x hx
      rcases g2 x hx with ⟨z, rfl, _⟩ | rfl | rfl | rfl | rfl | rfl <;> simp [VL.okD] <;> decide +kernel
    simp [okL, e3, e4]
  · simp only [List.mem_cons, List.not_mem_nil, or_false] at hx
    rcases hx with rfl | rfl
    · exact (sw_list (w := 500) fun x hx => (polyV_ok (h2 x hx)).2).mono (by omega)
    · exact (polyV_ok h3).2.mono (by decide)

theorem good_poly {B : Int} {d : D} (h : GoodP B d) (hB : B < 20) : polyDue d = "good" := by
  obtain ⟨p, rfl, h1, h2, h3⟩ := h
  show dueS (p.map .int) 2 20 = "good"
  unfold dueS
  rw [if_neg (by simp; omega), if_pos, if_neg]
  · rcases List.eq_nil_or_concat p with rfl | ⟨l, z, rfl⟩
    · simp [lastZ]
    · rw [List.concat_eq_append, List.map_append]
      show ¬ lastZ (l.map PyData.int ++ [.int z]) = true
      rw [lastZ_app]
      have q := h2 l.length (by simp)
      have e : cf (l ++ [z]) l.length = z := by unfold cf; simp
      rw [List.concat_eq_append, e] at q
      simpa using q
  · rw [List.all_eq_true]
    intro x hx
    obtain ⟨z, hz, rfl⟩ := List.mem_map.mp hx
    obtain ⟨i, hi, rfl⟩ := List.getElem_of_mem hz
    rw [cf_elem hi]
    have := h3 i
    simp [okV]; omega
theorem good_row {B : Int} {m : Nat} {d : D} (h : GoodR B m d) (hB : B < 20) : rowDue m d = "good" := by
  obtain ⟨cs, c, rfl, h1, h2, h3⟩ := h
  show (if (cs.length : Int) = (m : Int) then fstBad ((cs ++ [c]).map polyDue) else ("size" : Str)) = "good"
  rw [if_pos (by omega)]
  refine fstBad_good fun s hs => ?_
  obtain ⟨p, hp, rfl⟩ := List.mem_map.mp hs
  rcases List.mem_append.mp hp with hp | hp
  · exact good_poly (h2 p hp) hB
  · rw [List.mem_singleton.mp hp]; exact good_poly h3 hB
theorem good_fam {B : Int} {m : Nat} {rs : List D} (h : ∀ r ∈ rs, GoodR B m r) (hB : B < 20) (m1 : 1 ≤ m) (m3 : m ≤ 3) (hl : rs.length ≤ 3) : famDue (.int m) rs = "good" := by
  show (if (m : Int) < 1 ∨ 3 < (m : Int) ∨ 3 < rs.length then ("size" : Str) else fstBad (rs.map (rowDue m))) = "good"
  rw [if_neg (by omega)]
  refine fstBad_good fun s hs => ?_
  obtain ⟨r, hr, rfl⟩ := List.mem_map.mp hs
  exact good_row (h r hr) hB
theorem told_good {B : Int} {m : Nat} {rs : List D} (h : ∀ r ∈ rs, GoodR B m r) (hB : B < 20) (m1 : 1 ≤ m) (m3 : m ≤ 3) (hl : rs.length ≤ 3) : m__law_told [.int m, .list rs] = .ok (.sh (.tuple [.str "told", .str "good"])) := by
  have t := told_ok (d := .int m) (rows := rs) (.inl ⟨_, rfl⟩) (by omega) fun r hr => ((h r hr).fam (by omega) m3).fam (by decide)
  rw [good_fam h hB m1 m3 hl] at t
  exact t
theorem tok_ok {s : Str} (h : s = "size" ∨ s = "number" ∨ s = "good") : okD 64 (.tuple [.str "told", .str s]) = true := by
  rcases h with rfl | rfl | rfl <;> decide +kernel
theorem end_ok {x0 x1 y5 y7 : SD} {m : Nat} {rs rows : List D} (h : ∀ r ∈ rs, GoodR 12 m r) (m1 : 1 ≤ m) (m3 : m ≤ 3) (hl : rs.length ≤ 3) (rp : reprL [.tuple [.list rows, .list rs]] = some (.str (PyData.shown (.tuple [.list rows, .list rs])))) :
    b_law_2 [x0, x1, .sh (.int m), .sh (.list rows), .sh (.list rs), y5, .sh (.str (PyData.shown (.tuple [.list rows, .list rs]))), y7, .no] = .rt (.sh (.bool true)) := by
  have tg := told_good h (by decide) m1 m3 hl
  have eqt := r_eq_self (d := .tuple [.str "told", .str "good"]) (by decide +kernel)
  have nqt := r_ne_self (d := .tuple [.str "told", .str "good"]) (by decide +kernel)
  have rl : rs.length ≤ sizeLine := slB (by omega)
  by_cases h0 : 0 < rs.length
  · obtain ⟨r0, rs', rfl⟩ : ∃ r0 rs', rs = r0 :: rs' := by
      cases rs with
      | nil => simp at h0
      | cons a b => exact ⟨a, b, rfl⟩
    obtain ⟨cs, c, rfl, g1, g2, g3⟩ := h r0 (by simp)
    have cu : cutL (PyData.tuple [.list cs, c] :: rs') (some 1) none = rs' := by
      unfold cutL
      rw [HT.sIx_none, sIx_in (by decide) (by simp; omega)]; simp
    have w := told_good (B := 19) (m := m) (rs := .tuple [.list cs, .list [.int 19, .int (-19)]] :: rs') (fun r hr => by
      rcases List.mem_cons.mp hr with rfl | hr
      · refine ⟨cs, _, rfl, g1, fun p hp => (g2 p hp).mono (by decide), [19, -19], rfl, by decide, fun k hk => ?_, fun i => ?_⟩
        · simp at hk; subst hk; decide
        · match i with
          | 0 => decide
          | 1 => decide
          | i + 2 => simp
      · exact (h r (by simp [hr])).mono (by decide)) (by decide) m1 m3 (by simpa using hl)
    have rl' : rs'.length + 1 ≤ sizeLine := by simpa using rl
    have ca : ∀ d : D, catD [d] rs' = some (d :: rs') := fun d => by
      have := r_cat (l := [d]) (m := rs') (by simpa [Nat.add_comm] using rl')
      simpa using this
    have i0 : ixD (.list (PyData.tuple [.list cs, c] :: rs')) (.int 0) = some (.tuple [.list cs, c]) := by simp
    have i00 : ixD (.tuple [.list cs, c]) (.int 0) = some (.list cs) := by simp
    have s1 : 1 ≤ sizeLine := by decide
    simp [b_law_2, rl', i0, i00, s2, s1, cu, ca, w, tg, nqt, eqt, rp, -r_ix_l, -r_cat]
  · simp [b_law_2, rl, h0, tg, eqt, rp]

theorem mid_ok {x0 x1 : SD} {d : D} {m : Nat} {rs rows : List D} (hd : ManyV d) (h : ∀ r ∈ rs, GoodR 12 m r) (m1 : 1 ≤ m) (m3 : m ≤ 3) (hl : rs.length ≤ 3) (hr : ∀ r ∈ rows, FamR r) (hl2 : rows.length ≤ 4) :
    b_law_3 [x0, x1, .sh (.int m), .sh (.list rows), .sh (.list rs), .sh d, .no, .no, .no] = .rt (.sh (.bool true)) := by
  have rsf : ∀ r ∈ rs, FamR r := fun r hr => ((h r hr).fam (by omega) m3).fam (by decide)
  have rp : reprL [.tuple [.list rows, .list rs]] = some (.str (PyData.shown (.tuple [.list rows, .list rs]))) := by
    refine r_repr_t (w := 200000) ?_ (fun x hx => ?_) (Nat.le_trans (by simp : _ ≤ 1000000) (by decide))
    · have a : okL 62 rows = true := okL_iff.mpr fun r hr' => (famR_ok (hr r hr')).1
      have b : okL 62 rs = true := okL_iff.mpr fun r hr' => (famR_ok (rsf r hr')).1
      simp [okL, a, b]
    · simp only [List.mem_cons, List.not_mem_nil, or_false] at hx
      rcases hx with rfl | rfl
      · exact (sw_list fun r hr' => (famR_ok (hr r hr')).2).mono (by omega)
      · exact (sw_list fun r hr' => (famR_ok (rsf r hr')).2).mono (by omega)
  have du := fdue_ok hd (rows := rows) (by omega) hr
  have tl := told_ok hd (rows := rows) (by omega) hr
  have ne := r_ne_self (tok_ok (fam_cases (d := d) hr))
  obtain ⟨S, hS⟩ : ∃ S, PyData.shown (.tuple [.list rows, .list rs]) = S := ⟨_, rfl⟩
  have en := fun y7 => end_ok (x0 := x0) (x1 := x1) (y5 := .sh d) (y7 := y7) h m1 m3 hl rp
  rw [hS] at rp en
  have step : ∀ d7 y7, gTo (gSet 7) b_law_1 d7 [x0, x1, .sh (.int m), .sh (.list rows), .sh (.list rs), .sh d, .sh (.str S), y7, .no] = .nx [x0, x1, .sh (.int m), .sh (.list rows), .sh (.list rs), .sh d, .sh (.str S), .sh d7, .no] := fun d7 y7 => by
    simp [b_law_1, du, tl, ne]
  have lp : forO (gTo (gSet 7) b_law_1) [.int 0, .int 1] [x0, x1, .sh (.int m), .sh (.list rows), .sh (.list rs), .sh d, .sh (.str S), .no, .no] = .nx [x0, x1, .sh (.int m), .sh (.list rows), .sh (.list rs), .sh d, .sh (.str S), .sh (.int 1), .no] := by
    rw [forO, step]
    show forO _ [.int 1] _ = _
    rw [forO, step]
    rfl
  simp [b_law_3, rp, rg2, lp, en, s2]
theorem law_true (ns : List Int) (hn : ns.length ≤ 63) (hb : ∀ z ∈ ns, Builtin.Int.intBits z ≤ 1048576) : m_law [.list (ns.map .int)] = .ok (.sh (.bool true)) := by
  obtain ⟨xs, u0, h⟩ := draws_ok ns hn hb 80 80 rfl (by decide)
  obtain ⟨m, rs, ef, m1, m3, hl, hg⟩ := family_ok h
  have rsk : ∀ r ∈ rs, FamK 3 r := fun r hr => (hg r hr).fam (by decide) m3
  obtain ⟨r1, e1', l1, k1⟩ := spoilt_ok (dr_cut h (a := 60) (b := 65) 5 (by decide) (by decide) (by decide)) (by omega) rsk (by decide)
  obtain ⟨r2, e2', l2, k2⟩ := spoilt_ok (dr_cut h (a := 65) (b := 70) 5 (by decide) (by decide) (by decide)) l1 k1 (by decide)
  have hr2 : ∀ r ∈ r2, FamR r := fun r hr => (k2 r hr).fam (by decide)
  have i70 := dr_ix h (z := 70) 70 rfl (by decide)
  have i71 := dr_ix h (z := 71) 71 rfl (by decide)
  obtain ⟨q0, q1⟩ := fmod_rng (a := gI xs 71) (b := 6) (by decide)
  obtain ⟨d, e, hd⟩ := ix_lit (l := [.int 0, .int 4, .bool true, .int (-1), .none, .str "2"]) q0 (by simpa using q1)
  have vd : ManyV d := by
    simp only [List.mem_cons, List.not_mem_nil, or_false] at hd
    rcases hd with rfl | rfl | rfl | rfl | rfl | rfl
    · exact .inl ⟨_, rfl⟩
    · exact .inl ⟨_, rfl⟩
    · exact .inr (.inl rfl)
    · exact .inl ⟨_, rfl⟩
    · exact .inr (.inr (.inl rfl))
    · exact .inr (.inr (.inr rfl))
  have lm : lim [PyData.int 0, .int 4, .bool true, .int (-1), .none, .str "2"] = some [PyData.int 0, .int 4, .bool true, .int (-1), .none, .str "2"] := if_pos (slB (by simp))
  have lo : ∀ l : List D, listO [.list l] = some l := fun l => rfl
  have u0' : m__law_draws [pD ns, .int 80] = .ok (.ow (xs.map .int)) := u0
  show m_law [pD ns] = _
  by_cases h0 : (gI xs 70).fmod 6 = 0
  · have md := mid_ok (x0 := .sh (pD ns)) (x1 := .sh (pD xs)) vd hg m1 m3 hl hr2 l2
    simp [m_law, c_law, b_law_4, u0', ef, lo, e1', e2', i70, i71, h0, lm, e, md, -r_ix_l]
  · have md := mid_ok (x0 := .sh (pD ns)) (x1 := .sh (pD xs)) (d := .int m) (.inl ⟨_, rfl⟩) hg m1 m3 hl hr2 l2
    simp [m_law, c_law, b_law_4, u0', ef, lo, e1', e2', i70, h0, md, -r_ix_l]
end W

namespace W
open PySem PySem.Spec PyProof.Rows L2 VL
def topS (i : Nat) : Stmt := PySem.Challenge.pw_wheretrue_k76_checks_of_families.main.body.getD i (.Pass ⟨0, 0, 0, 0⟩)
/-! _law_draws -/
abbrev ws__law_draws : Stmt := topS 11
abbrev wN__law_draws : List Str := ["_law_script", "_law_count", "_law_rests", "_law_cell", "_law_draws_here", "_law_k", "_law_value", "_law_at_here", "_law_mixed"]
theorem wsc__law_draws : FnScope wN__law_draws ["_law_script", "_law_count"] (defScope ws__law_draws) := ⟨rfl, rfl, rfl, by decide +kernel, rfl, by decide +kernel, by decide +kernel⟩
theorem wd__law_draws {P : Program} {w : World} {K : Fg} {mg : Str → Option Value} {base : Heap} (Fn : Df K mg "_law_draws" ws__law_draws ["_law_script", "_law_count"]) (z_range : mg "range" = none) (z_len : mg "len" = none) (z_int : mg "int" = none) : Cl P w K mg base 1 "_law_draws" ["_law_script", "_law_count"] m__law_draws :=
  cl_ok Fn wsc__law_draws fun f cdv A outer s H E I => by
    unfold c__law_draws b__law_draws_1
    exact (vss_cons (vs_compO (own := [("_law_cell", 3)]) (ts := [3]) (i := 2) rfl wsc__law_draws.nd rfl rfl (sw_true rfl rfl rfl (by decide +kernel)) (vi_seq (ve_var 0 (pv 0))) (blkOk_by (N := wN__law_draws) (sc := defScope ws__law_draws) (by decide +kernel)) (fun _ _ _ _ _ => vg_name (pg_name (i := 3) wsc__law_draws.nd rfl (by first | exact Or.inl rfl | exact Or.inr rfl))) (fun _ _ _ _ _ => vts_nil) (fun _ _ _ _ _ => ve_var 3 (pv 3))) (vss_cons (vs_setO (i := 4) wsc__law_draws.nd rfl (by first | exact Or.inl rfl | exact Or.inr rfl) (vo_lst (va_nil))) (vss_cons (vs_for I.hp rfl (vi_range1 rfl z_range (vap_cons (vp_var 1 (pv 1)) (vap_nil))) (vg_name (pg_name (i := 5) wsc__law_draws.nd rfl (by first | exact Or.inl rfl | exact Or.inr rfl))) (vss_cons (vs_set (i := 6) wsc__law_draws.nd rfl (by first | exact Or.inl rfl | exact Or.inr rfl) (ve_int)) (vss_cons (vs_if (t_cmp d_gt (VE.vp (v_blt c_len rfl z_len b_len (vap_cons (vp_var 2 (pv 2)) (vap_nil)))) (VE.vp (ve_int))) (vss_cons (vs_set (i := 7) wsc__law_draws.nd rfl (by first | exact Or.inl rfl | exact Or.inr rfl) (v_op d_mod (VE.vp (v_typ c_int rfl z_int b_int (vap_cons (vp_var 5 (pv 5)) (vap_nil)))) (VE.vp (v_blt c_len rfl z_len b_len (vap_cons (vp_var 2 (pv 2)) (vap_nil)))))) (vss_one (vs_if (t_cmp d_ge (VE.vp (v_ix d_ix (vp_var 2 (pv 2)) (vp_var 7 (pv 7)))) (VE.vp (v_op d_pow (VE.vp (ve_int)) (VE.vp (ve_int))))) (vss_cons (vs_set (i := 6) wsc__law_draws.nd rfl (by first | exact Or.inl rfl | exact Or.inr rfl) (v_op d_mod (VE.vp (v_typ c_int rfl z_int b_int (vap_cons (VE.vp (v_ix d_ix (vp_var 2 (pv 2)) (vp_var 7 (pv 7)))) (vap_nil)))) (VE.vp (ve_int)))) (vss_one (vs_store 2 (pv 2) (ve_var 7 (pv 7)) (v_op d_fdiv (VE.vp (v_ix d_ix (vp_var 2 (pv 2)) (vp_var 7 (pv 7)))) (VE.vp (ve_int)))))) (vss_cons (vs_set (i := 8) wsc__law_draws.nd rfl (by first | exact Or.inl rfl | exact Or.inr rfl) (v_op d_mod (VE.vp (v_typ c_int rfl z_int b_int (vap_cons (VE.vp (v_op d_add (VE.vp (v_op d_add (VE.vp (v_op d_mul (VE.vp (v_ix d_ix (vp_var 2 (pv 2)) (vp_var 7 (pv 7)))) (VE.vp (ve_int)))) (VE.vp (v_op d_mul (vp_var 5 (pv 5)) (VE.vp (ve_int)))))) (VE.vp (ve_int)))) (vap_nil)))) (VE.vp (ve_int)))) (vss_cons (vs_set (i := 8) wsc__law_draws.nd rfl (by first | exact Or.inl rfl | exact Or.inr rfl) (v_op d_mod (VE.vp (v_typ c_int rfl z_int b_int (vap_cons (VE.vp (v_op d_add (VE.vp (v_op d_mul (vp_var 8 (pv 8)) (VE.vp (ve_int)))) (vp_var 7 (pv 7)))) (vap_nil)))) (VE.vp (ve_int)))) (vss_one (vs_set (i := 6) wsc__law_draws.nd rfl (by first | exact Or.inl rfl | exact Or.inr rfl) (v_op d_mod (VE.vp (v_typ c_int rfl z_int b_int (vap_cons (VE.vp (v_op d_fdiv (vp_var 8 (pv 8)) (VE.vp (ve_int)))) (vap_nil)))) (VE.vp (ve_int)))))))))) (vss_nil)) (vss_one (vs_app 4 (pv 4) (ve_var 6 (pv 6))))))) (vss_one (vs_retV 4 (pv 4))))))
/-! _law_trim -/
abbrev ws__law_trim : Stmt := topS 21
abbrev wN__law_trim : List Str := ["_law_a", "_law_found", "_law_turn"]
theorem wsc__law_trim : FnScope wN__law_trim ["_law_a"] (defScope ws__law_trim) := ⟨rfl, rfl, rfl, by decide +kernel, rfl, by decide +kernel, by decide +kernel⟩
theorem wd__law_trim {P : Program} {w : World} {K : Fg} {mg : Str → Option Value} {base : Heap} (Fn : Df K mg "_law_trim" ws__law_trim ["_law_a"]) (z_list : mg "list" = none) (z_range : mg "range" = none) (z_len : mg "len" = none) : Cl P w K mg base 1 "_law_trim" ["_law_a"] m__law_trim_k19 :=
  cl_ok Fn wsc__law_trim fun f cdv A outer s H E I => by
    unfold c__law_trim_k19 b__law_trim_k19_1
    exact (vss_cons (vs_setO (i := 1) wsc__law_trim.nd rfl (by first | exact Or.inl rfl | exact Or.inr rfl) (v_typO c_listO rfl z_list b_list (vap_cons (vp_var 0 (pv 0)) (vap_nil)))) (vss_cons (vs_for I.hp rfl (vi_range1 rfl z_range (vap_cons (VE.vp (v_blt c_len rfl z_len b_len (vap_cons (vp_var 0 (pv 0)) (vap_nil)))) (vap_nil))) (vg_name (pg_name (i := 2) wsc__law_trim.nd rfl (by first | exact Or.inl rfl | exact Or.inr rfl))) (vss_one (vs_if (VW.vt (vw_and (t_cmp d_gt (VE.vp (v_blt c_len rfl z_len b_len (vap_cons (vp_var 1 (pv 1)) (vap_nil)))) (VE.vp (ve_int))) (vw_and1 (t_cmp (d_eq I.hr.units) (VE.vp (v_ix d_ix (vp_var 1 (pv 1)) (VE.vp (v_un d_neg (VE.vp (ve_int)))))) (VE.vp (ve_int)))))) (vss_one (vs_popX 1 (pv 1))) (vss_nil)))) (vss_one (vs_retV 1 (pv 1)))))
/-! _law_coefficient -/
abbrev ws__law_coefficient : Stmt := topS 27
abbrev wN__law_coefficient : List Str := ["_law_draws_here", "_law_many", "_law_k"]
theorem wsc__law_coefficient : FnScope wN__law_coefficient ["_law_draws_here"] (defScope ws__law_coefficient) := ⟨rfl, rfl, rfl, by decide +kernel, rfl, by decide +kernel, by decide +kernel⟩
theorem wd__law_coefficient {P : Program} {w : World} {K : Fg} {mg : Str → Option Value} {base : Heap} (Fn : Df K mg "_law_coefficient" ws__law_coefficient ["_law_draws_here"]) (C__law_trim : Cl P w K mg base 1 "_law_trim" ["_law_a"] m__law_trim_k19) (z_int : mg "int" = none) (z_range : mg "range" = none) : Cl P w K mg base 2 "_law_coefficient" ["_law_draws_here"] m__law_coefficient :=
  cl_ok Fn wsc__law_coefficient fun f cdv A outer s H E I => by
    unfold c__law_coefficient
    exact (vss_cons (vs_set (i := 1) wsc__law_coefficient.nd rfl (by first | exact Or.inl rfl | exact Or.inr rfl) (v_ix d_ix (VE.vp (VO.ve (vo_lst (va_cons (ve_int) (va_cons (ve_int) (va_cons (ve_int) (va_cons (ve_int) (va_cons (ve_int) (va_cons (ve_int) (va_nil)))))))))) (VE.vp (v_op d_mod (VE.vp (v_typ c_int rfl z_int b_int (vap_cons (VE.vp (v_ix d_ix (vp_var 0 (pv 0)) (VE.vp (ve_int)))) (vap_nil)))) (VE.vp (ve_int)))))) (vss_one (vs_retO (v_calCO C__law_trim I.hr I.gd I.tk (va_cons (VO.ve (vo_comp (own := [("_law_k", 2)]) (ts := [2]) rfl wsc__law_coefficient.nd (vi_range1 rfl z_range (vap_cons (vp_var 1 (pv 1)) (vap_nil))) (blkOk_by (N := wN__law_coefficient) (sc := defScope ws__law_coefficient) (by decide +kernel)) (fun _ _ _ _ _ => vg_name (pg_name (i := 2) wsc__law_coefficient.nd rfl (by first | exact Or.inl rfl | exact Or.inr rfl))) (fun _ _ _ _ _ => vts_nil) (fun _ _ _ _ _ => v_op d_sub (VE.vp (v_op d_mod (VE.vp (v_typ c_int rfl z_int b_int (vap_cons (VE.vp (v_ix d_ix (vp_var 0 (pv 0)) (VE.vp (v_op d_add (VE.vp (ve_int)) (vp_var 2 (pv 2)))))) (vap_nil)))) (VE.vp (ve_int)))) (VE.vp (ve_int))))) (va_nil))))))
/-! _law_mul -/
abbrev ws__law_mul : Stmt := topS 23
abbrev wN__law_mul : List Str := ["_law_a", "_law_b", "_law_found", "_law_i", "_law_j"]
theorem wsc__law_mul : FnScope wN__law_mul ["_law_a", "_law_b"] (defScope ws__law_mul) := ⟨rfl, rfl, rfl, by decide +kernel, rfl, by decide +kernel, by decide +kernel⟩
theorem wd__law_mul {P : Program} {w : World} {K : Fg} {mg : Str → Option Value} {base : Heap} (Fn : Df K mg "_law_mul" ws__law_mul ["_law_a", "_law_b"]) (C__law_trim : Cl P w K mg base 1 "_law_trim" ["_law_a"] m__law_trim_k19) (z_len : mg "len" = none) (z_range : mg "range" = none) : Cl P w K mg base 2 "_law_mul" ["_law_a", "_law_b"] m__law_mul_k19 :=
  cl_ok Fn wsc__law_mul fun f cdv A outer s H E I => by
    unfold c__law_mul_k19 b__law_mul_k19_2 b__law_mul_k19_1
    exact (vss_cons (vs_setO (i := 2) wsc__law_mul.nd rfl (by first | exact Or.inl rfl | exact Or.inr rfl) (v_opO d_mulO (VE.vp (VO.ve (vo_lst (va_cons (ve_int) (va_nil))))) (VE.vp (v_op d_add (VE.vp (v_blt c_len rfl z_len b_len (vap_cons (vp_var 0 (pv 0)) (vap_nil)))) (VE.vp (v_blt c_len rfl z_len b_len (vap_cons (vp_var 1 (pv 1)) (vap_nil)))))))) (vss_cons (vs_for I.hp rfl (vi_range1 rfl z_range (vap_cons (VE.vp (v_blt c_len rfl z_len b_len (vap_cons (vp_var 0 (pv 0)) (vap_nil)))) (vap_nil))) (vg_name (pg_name (i := 3) wsc__law_mul.nd rfl (by first | exact Or.inl rfl | exact Or.inr rfl))) (vss_one (vs_for I.hp rfl (vi_range1 rfl z_range (vap_cons (VE.vp (v_blt c_len rfl z_len b_len (vap_cons (vp_var 1 (pv 1)) (vap_nil)))) (vap_nil))) (vg_name (pg_name (i := 4) wsc__law_mul.nd rfl (by first | exact Or.inl rfl | exact Or.inr rfl))) (vss_one (vs_store 2 (pv 2) (v_op d_add (vp_var 3 (pv 3)) (vp_var 4 (pv 4))) (v_op d_add (VE.vp (v_ix d_ix (vp_var 2 (pv 2)) (VE.vp (v_op d_add (vp_var 3 (pv 3)) (vp_var 4 (pv 4)))))) (VE.vp (v_op d_mul (VE.vp (v_ix d_ix (vp_var 0 (pv 0)) (vp_var 3 (pv 3)))) (VE.vp (v_ix d_ix (vp_var 1 (pv 1)) (vp_var 4 (pv 4)))))))))))) (vss_one (vs_fz 2 (vs_retO (v_calCO C__law_trim I.hr I.gd I.tk (va_cons (ve_var 2 (pv 2)) (va_nil))))))))
/-! _law_family -/
abbrev ws__law_family : Stmt := topS 28
abbrev wN__law_family : List Str := ["_law_draws_here", "_law_many", "_law_rows", "_law_k", "_law_part", "_law_coefficients", "_law_n", "_law_by", "_law_old", "_law_one", "_law_constant"]
theorem wsc__law_family : FnScope wN__law_family ["_law_draws_here"] (defScope ws__law_family) := ⟨rfl, rfl, rfl, by decide +kernel, rfl, by decide +kernel, by decide +kernel⟩
theorem wd__law_family {P : Program} {w : World} {K : Fg} {mg : Str → Option Value} {base : Heap} (Fn : Df K mg "_law_family" ws__law_family ["_law_draws_here"]) (C__law_coefficient : Cl P w K mg base 2 "_law_coefficient" ["_law_draws_here"] m__law_coefficient) (C__law_mul : Cl P w K mg base 2 "_law_mul" ["_law_a", "_law_b"] m__law_mul_k19) (z_int : mg "int" = none) (z_range : mg "range" = none) (z_max : mg "max" = none) (z_len : mg "len" = none) : Cl P w K mg base 3 "_law_family" ["_law_draws_here"] m__law_family :=
  cl_ok Fn wsc__law_family fun f cdv A outer s H E I => by
    unfold c__law_family b__law_family_2 b__law_family_1
    exact (vss_cons (vs_set (i := 1) wsc__law_family.nd rfl (by first | exact Or.inl rfl | exact Or.inr rfl) (v_op d_add (VE.vp (ve_int)) (VE.vp (v_op d_mod (VE.vp (v_typ c_int rfl z_int b_int (vap_cons (VE.vp (v_ix d_ix (vp_var 0 (pv 0)) (VE.vp (ve_int)))) (vap_nil)))) (VE.vp (ve_int)))))) (vss_cons (vs_setO (i := 2) wsc__law_family.nd rfl (by first | exact Or.inl rfl | exact Or.inr rfl) (vo_lst (va_nil))) (vss_cons (vs_for I.hp rfl (vi_range1 rfl z_range (vap_cons (VE.vp (v_ix d_ix (VE.vp (VO.ve (vo_lst (va_cons (ve_int) (va_cons (ve_int) (va_cons (ve_int) (va_cons (ve_int) (va_cons (ve_int) (va_nil))))))))) (VE.vp (v_op d_mod (VE.vp (v_typ c_int rfl z_int b_int (vap_cons (VE.vp (v_ix d_ix (vp_var 0 (pv 0)) (VE.vp (ve_int)))) (vap_nil)))) (VE.vp (ve_int)))))) (vap_nil))) (vg_name (pg_name (i := 3) wsc__law_family.nd rfl (by first | exact Or.inl rfl | exact Or.inr rfl))) (vss_cons (vs_set (i := 4) wsc__law_family.nd rfl (by first | exact Or.inl rfl | exact Or.inr rfl) (v_slice (vp_var 0 (pv 0)) (vpo_some (v_op d_add (VE.vp (ve_int)) (VE.vp (v_op d_mul (VE.vp (ve_int)) (vp_var 3 (pv 3)))))) (vpo_some (v_op d_add (VE.vp (ve_int)) (VE.vp (v_op d_mul (VE.vp (ve_int)) (vp_var 3 (pv 3)))))))) (vss_cons (vs_compO (own := [("_law_n", 6)]) (ts := [6]) (i := 5) rfl wsc__law_family.nd rfl rfl (sw_true rfl rfl rfl (by decide +kernel)) (vi_range1 rfl z_range (vap_cons (vp_var 1 (pv 1)) (vap_nil))) (blkOk_by (N := wN__law_family) (sc := defScope ws__law_family) (by decide +kernel)) (fun _ _ _ _ _ => vg_name (pg_name (i := 6) wsc__law_family.nd rfl (by first | exact Or.inl rfl | exact Or.inr rfl))) (fun _ _ _ _ _ => vts_nil) (fun _ _ _ _ _ => v_calC C__law_coefficient I.hr I.gd (fun _ _ ⟨_, _, _, _, _, _, _, _, _, _, _, _, _, _, _, _, w⟩ => w.elim) (va_cons (v_slice (vp_var 4 (pv 4)) (vpo_some (v_op d_mul (VE.vp (ve_int)) (vp_var 6 (pv 6)))) (vpo_some (v_op d_add (VE.vp (v_op d_mul (VE.vp (ve_int)) (vp_var 6 (pv 6)))) (VE.vp (ve_int))))) (va_nil)))) (vss_fz 5 (vss_cons (vs_app 2 (pv 2) (ve_tup (va_cons (ve_var 5 (pv 5)) (va_cons (v_calC C__law_coefficient I.hr I.gd I.tk (va_cons (v_slice (vp_var 4 (pv 4)) (vpo_some (ve_int)) (vpo_some (ve_int))) (va_nil))) (va_nil))))) (vss_one (vs_if (VW.vt (vw_and (t_cmp d_gt (vp_var 3 (pv 3)) (VE.vp (ve_int))) (vw_and1 (t_cmp (d_eq I.hr.units) (VE.vp (v_op d_mod (VE.vp (v_typ c_int rfl z_int b_int (vap_cons (VE.vp (v_ix d_ix (vp_var 4 (pv 4)) (VE.vp (ve_int)))) (vap_nil)))) (VE.vp (ve_int)))) (VE.vp (ve_int)))))) (vss_cons (vs_set (i := 7) wsc__law_family.nd rfl (by first | exact Or.inl rfl | exact Or.inr rfl) (v_ix d_ix (VE.vp (VO.ve (vo_lst (va_cons (VO.ve (vo_lst (va_cons (ve_int) (va_nil)))) (va_cons (VO.ve (vo_lst (va_cons (ve_int) (va_cons (ve_int) (va_nil))))) (va_cons (VO.ve (vo_lst (va_cons (v_un d_neg (VE.vp (ve_int))) (va_nil)))) (va_cons (VO.ve (vo_lst (va_cons (ve_int) (va_cons (ve_int) (va_nil))))) (va_nil)))))))) (VE.vp (v_op d_mod (VE.vp (v_typ c_int rfl z_int b_int (vap_cons (VE.vp (v_ix d_ix (vp_var 4 (pv 4)) (VE.vp (ve_int)))) (vap_nil)))) (VE.vp (ve_int)))))) (vss_cons (vs_set (i := 8) wsc__law_family.nd rfl (by first | exact Or.inl rfl | exact Or.inr rfl) (v_ix d_ix (vp_var 2 (pv 2)) (VE.vp (v_op d_mod (VE.vp (v_typ c_int rfl z_int b_int (vap_cons (VE.vp (v_ix d_ix (vp_var 4 (pv 4)) (VE.vp (ve_int)))) (vap_nil)))) (vp_var 3 (pv 3)))))) (vss_cons (vs_compO (own := [("_law_one", 9)]) (ts := [9]) (i := 5) rfl wsc__law_family.nd rfl rfl (sw_true rfl rfl rfl (by decide +kernel)) (vi_seq (v_ix d_ix (vp_var 8 (pv 8)) (VE.vp (ve_int)))) (blkOk_by (N := wN__law_family) (sc := defScope ws__law_family) (by decide +kernel)) (fun _ _ _ _ _ => vg_name (pg_name (i := 9) wsc__law_family.nd rfl (by first | exact Or.inl rfl | exact Or.inr rfl))) (fun _ _ _ _ _ => vts_nil) (fun _ _ _ _ _ => v_calC C__law_mul I.hr I.gd (fun _ _ ⟨_, _, _, _, _, _, _, _, _, _, _, _, _, _, _, _, w⟩ => w.elim) (va_cons (ve_var 7 (pv 7)) (va_cons (ve_var 9 (pv 9)) (va_nil))))) (vss_fz 5 (vss_cons (vs_set (i := 10) wsc__law_family.nd rfl (by first | exact Or.inl rfl | exact Or.inr rfl) (v_ix d_ix (VE.vp (VO.ve (vo_lst (va_cons (v_calC C__law_mul I.hr I.gd I.tk (va_cons (ve_var 7 (pv 7)) (va_cons (v_ix d_ix (vp_var 8 (pv 8)) (VE.vp (ve_int))) (va_nil)))) (va_cons (v_calC C__law_coefficient I.hr I.gd I.tk (va_cons (v_slice (vp_var 4 (pv 4)) (vpo_some (ve_int)) (vpo_some (ve_int))) (va_nil))) (va_nil)))))) (VE.vp (v_op d_mod (VE.vp (v_typ c_int rfl z_int b_int (vap_cons (VE.vp (v_ix d_ix (vp_var 4 (pv 4)) (VE.vp (ve_int)))) (vap_nil)))) (VE.vp (ve_int)))))) (vss_one (vs_if (t_cmp d_lt (VE.vp (v_blt (c_max rfl) rfl z_max b_max (vap_cons (VE.vp (VO.ve (vo_comp (own := [("_law_one", 9)]) (ts := [9]) rfl wsc__law_family.nd (vi_seq (v_op d_add (vp_var 5 (pv 5)) (VE.vp (VO.ve (vo_lst (va_cons (ve_var 10 (pv 10)) (va_nil))))))) (blkOk_by (N := wN__law_family) (sc := defScope ws__law_family) (by decide +kernel)) (fun _ _ _ _ _ => vg_name (pg_name (i := 9) wsc__law_family.nd rfl (by first | exact Or.inl rfl | exact Or.inr rfl))) (fun _ _ _ _ _ => vts_nil) (fun _ _ _ _ _ => v_blt c_len rfl z_len b_len (vap_cons (vp_var 9 (pv 9)) (vap_nil)))))) (vap_nil)))) (VE.vp (ve_int))) (vss_one (vs_store 2 (pv 2) (v_un d_neg (VE.vp (ve_int))) (ve_tup (va_cons (ve_var 5 (pv 5)) (va_cons (ve_var 10 (pv 10)) (va_nil)))))) (vss_nil)))))))) (vss_nil)))))))) (vss_one (vs_fz 2 (vs_ret (ve_tup (va_cons (ve_var 1 (pv 1)) (va_cons (ve_var 2 (pv 2)) (va_nil))))))))))
/-! _law_odd -/
abbrev ws__law_odd : Stmt := topS 29
abbrev wN__law_odd : List Str := ["_law_draw", "_law_odd_here"]
theorem wsc__law_odd : FnScope wN__law_odd ["_law_draw"] (defScope ws__law_odd) := ⟨rfl, rfl, rfl, by decide +kernel, rfl, by decide +kernel, by decide +kernel⟩
theorem wd__law_odd {P : Program} {w : World} {K : Fg} {mg : Str → Option Value} {base : Heap} (Fn : Df K mg "_law_odd" ws__law_odd ["_law_draw"]) (z_int : mg "int" = none) : Cl P w K mg base 1 "_law_odd" ["_law_draw"] m__law_odd :=
  cl_ok Fn wsc__law_odd fun f cdv A outer s H E I => by
    unfold c__law_odd
    exact (vss_cons (vs_set (i := 1) wsc__law_odd.nd rfl (by first | exact Or.inl rfl | exact Or.inr rfl) (VO.ve (vo_lst (va_cons (VO.ve (vo_lst (va_cons (ve_int) (va_cons (ve_int) (va_cons (ve_int) (va_cons (ve_int) (va_nil))))))) (va_cons (VO.ve (vo_lst (va_cons (ve_int) (va_nil)))) (va_cons (VO.ve (vo_lst (va_cons (ve_int) (va_cons (v_un d_neg (VE.vp (ve_int))) (va_nil))))) (va_cons (VO.ve (vo_lst (va_cons (ve_int) (va_nil)))) (va_cons (VO.ve (vo_lst (va_cons (ve_int) (va_cons (ve_int) (va_nil))))) (va_cons (VO.ve (vo_lst (va_cons (ve_bl) (va_nil)))) (va_cons (VO.ve (vo_lst (va_cons (ve_int) (va_cons (ve_non) (va_nil))))) (va_cons (VO.ve (vo_lst (va_cons (ve_str) (va_nil)))) (va_cons (VO.ve (vo_lst (va_cons (ve_int) (va_cons (ve_int) (va_cons (ve_int) (va_cons (ve_int) (va_nil))))))) (va_cons (VO.ve (vo_lst (va_cons (ve_int) (va_cons (ve_int) (va_cons (ve_int) (va_cons (ve_int) (va_nil))))))) (va_cons (VO.ve (vo_lst (va_cons (ve_tup (va_cons (ve_int) (va_cons (ve_int) (va_nil)))) (va_nil)))) (va_cons (VO.ve (vo_lst (va_cons (v_un d_neg (VE.vp (ve_int))) (va_cons (ve_int) (va_nil))))) (va_nil)))))))))))))))) (vss_one (vs_ret (v_ix d_ix (vp_var 1 (pv 1)) (VE.vp (v_op d_mod (VE.vp (v_typ c_int rfl z_int b_int (vap_cons (vp_var 0 (pv 0)) (vap_nil)))) (VE.vp (ve_int))))))))
/-! _law_spoilt -/
abbrev ws__law_spoilt : Stmt := topS 30
abbrev wN__law_spoilt : List Str := ["_law_rows", "_law_draws_here", "_law_found", "_law_at_here", "_law_coefficients", "_law_constant", "_law_kind", "_law_k"]
theorem wsc__law_spoilt : FnScope wN__law_spoilt ["_law_rows", "_law_draws_here"] (defScope ws__law_spoilt) := ⟨rfl, rfl, rfl, by decide +kernel, rfl, by decide +kernel, by decide +kernel⟩
theorem wd__law_spoilt {P : Program} {w : World} {K : Fg} {mg : Str → Option Value} {base : Heap} (Fn : Df K mg "_law_spoilt" ws__law_spoilt ["_law_rows", "_law_draws_here"]) (C__law_odd : Cl P w K mg base 1 "_law_odd" ["_law_draw"] m__law_odd) (z_list : mg "list" = none) (z_int : mg "int" = none) (z_len : mg "len" = none) (z_range : mg "range" = none) : Cl P w K mg base 2 "_law_spoilt" ["_law_rows", "_law_draws_here"] m__law_spoilt :=
  cl_ok Fn wsc__law_spoilt fun f cdv A outer s H E I => by
    unfold c__law_spoilt b__law_spoilt_2 b__law_spoilt_1
    exact (vss_cons (vs_setO (i := 2) wsc__law_spoilt.nd rfl (by first | exact Or.inl rfl | exact Or.inr rfl) (v_typO c_listO rfl z_list b_list (vap_cons (vp_var 0 (pv 0)) (vap_nil)))) (vss_cons (vs_if (VW.vt (vw_or (t_cmp (d_eq I.hr.units) (VE.vp (v_blt c_len rfl z_len b_len (vap_cons (vp_var 2 (pv 2)) (vap_nil)))) (VE.vp (ve_int))) (vw_or1 (t_cmp (d_eq I.hr.units) (VE.vp (v_op d_mod (VE.vp (v_typ c_int rfl z_int b_int (vap_cons (VE.vp (v_ix d_ix (vp_var 1 (pv 1)) (VE.vp (ve_int)))) (vap_nil)))) (VE.vp (ve_int)))) (VE.vp (ve_int)))))) (vss_one (vs_retV 2 (pv 2))) (vss_nil)) (vss_cons (vs_set (i := 3) wsc__law_spoilt.nd rfl (by first | exact Or.inl rfl | exact Or.inr rfl) (v_op d_mod (VE.vp (v_typ c_int rfl z_int b_int (vap_cons (VE.vp (v_ix d_ix (vp_var 1 (pv 1)) (VE.vp (ve_int)))) (vap_nil)))) (VE.vp (v_blt c_len rfl z_len b_len (vap_cons (vp_var 2 (pv 2)) (vap_nil)))))) (vss_cons (vs_asg (v_ix d_ix (vp_var 2 (pv 2)) (vp_var 3 (pv 3))) (vg_tup rfl (vgs_cons (vg_name (pg_name (i := 4) wsc__law_spoilt.nd rfl (by first | exact Or.inl rfl | exact Or.inr rfl))) (vgs_cons (vg_name (pg_name (i := 5) wsc__law_spoilt.nd rfl (by first | exact Or.inl rfl | exact Or.inr rfl))) (vgs_nil))))) (vss_cons (vs_set (i := 6) wsc__law_spoilt.nd rfl (by first | exact Or.inl rfl | exact Or.inr rfl) (v_op d_mod (VE.vp (v_typ c_int rfl z_int b_int (vap_cons (VE.vp (v_ix d_ix (vp_var 1 (pv 1)) (VE.vp (ve_int)))) (vap_nil)))) (VE.vp (ve_int)))) (vss_cons (vs_if (t_cmp (d_eq I.hr.units) (vp_var 6 (pv 6)) (VE.vp (ve_int))) (vss_one (vs_store 2 (pv 2) (ve_var 3 (pv 3)) (ve_tup (va_cons (v_op d_add (vp_var 4 (pv 4)) (VE.vp (VO.ve (vo_lst (va_cons (VO.ve (vo_lst (va_cons (ve_int) (va_nil)))) (va_nil)))))) (va_cons (ve_var 5 (pv 5)) (va_nil)))))) (vss_one (vs_if (t_cmp (d_eq I.hr.units) (vp_var 6 (pv 6)) (VE.vp (ve_int))) (vss_one (vs_store 2 (pv 2) (ve_var 3 (pv 3)) (ve_tup (va_cons (v_slice (vp_var 4 (pv 4)) (vpo_some (ve_int)) (vpo_none)) (va_cons (ve_var 5 (pv 5)) (va_nil)))))) (vss_one (vs_if (VW.vt (vw_and (t_cmp (d_eq I.hr.units) (vp_var 6 (pv 6)) (VE.vp (ve_int))) (vw_and1 (t_cmp d_gt (VE.vp (v_blt c_len rfl z_len b_len (vap_cons (vp_var 4 (pv 4)) (vap_nil)))) (VE.vp (ve_int)))))) (vss_cons (vs_set (i := 7) wsc__law_spoilt.nd rfl (by first | exact Or.inl rfl | exact Or.inr rfl) (v_op d_mod (VE.vp (v_typ c_int rfl z_int b_int (vap_cons (VE.vp (v_ix d_ix (vp_var 1 (pv 1)) (VE.vp (ve_int)))) (vap_nil)))) (VE.vp (v_blt c_len rfl z_len b_len (vap_cons (vp_var 4 (pv 4)) (vap_nil)))))) (vss_one (vs_store 2 (pv 2) (ve_var 3 (pv 3)) (ve_tup (va_cons (v_op d_add (VE.vp (v_op d_add (VE.vp (v_slice (vp_var 4 (pv 4)) (vpo_none) (vpo_some (ve_var 7 (pv 7))))) (VE.vp (VO.ve (vo_lst (va_cons (v_calC C__law_odd I.hr I.gd I.tk (va_cons (v_ix d_ix (vp_var 1 (pv 1)) (VE.vp (ve_int))) (va_nil))) (va_nil))))))) (VE.vp (v_slice (vp_var 4 (pv 4)) (vpo_some (v_op d_add (vp_var 7 (pv 7)) (VE.vp (ve_int)))) (vpo_none)))) (va_cons (ve_var 5 (pv 5)) (va_nil))))))) (vss_one (vs_if (t_cmp (d_eq I.hr.units) (vp_var 6 (pv 6)) (VE.vp (ve_int))) (vss_one (vs_store 2 (pv 2) (ve_var 3 (pv 3)) (ve_tup (va_cons (ve_var 4 (pv 4)) (va_cons (v_calC C__law_odd I.hr I.gd I.tk (va_cons (v_ix d_ix (vp_var 1 (pv 1)) (VE.vp (ve_int))) (va_nil))) (va_nil)))))) (vss_one (vs_if (t_cmp (d_eq I.hr.units) (vp_var 6 (pv 6)) (VE.vp (ve_int))) (vss_one (vs_for I.hp rfl (vi_range1 rfl z_range (vap_cons (VE.vp (v_op d_sub (VE.vp (ve_int)) (VE.vp (v_blt c_len rfl z_len b_len (vap_cons (vp_var 2 (pv 2)) (vap_nil)))))) (vap_nil))) (vg_name (pg_name (i := 7) wsc__law_spoilt.nd rfl (by first | exact Or.inl rfl | exact Or.inr rfl))) (vss_one (vs_app 2 (pv 2) (v_ix d_ix (vp_var 2 (pv 2)) (VE.vp (ve_int))))))) (vss_nil)))))))))) (vss_one (vs_retV 2 (pv 2)))))))))
/-! is_whole -/
abbrev ws_is_whole : Stmt := topS 5
abbrev wN_is_whole : List Str := ["value"]
theorem wsc_is_whole : FnScope wN_is_whole ["value"] (defScope ws_is_whole) := ⟨rfl, rfl, rfl, by decide +kernel, rfl, by decide +kernel, by decide +kernel⟩
theorem wd_is_whole {P : Program} {w : World} {K : Fg} {mg : Str → Option Value} {base : Heap} (Fn : Df K mg "is_whole" ws_is_whole ["value"]) (z_isinstance : mg "isinstance" = none) (z_bool : mg "bool" = none) (z_int : mg "int" = none) : Cl P w K mg base 1 "is_whole" ["value"] m__law_is_whole :=
  cl_ok Fn wsc_is_whole fun f cdv A outer s H E I => by
    unfold c__law_is_whole
    exact (vss_one (vs_ret (v_and (v_isi rfl z_isinstance b_isinstance (vp_var 0 (pv 0)) (pe_bltn rfl z_int b_int rfl)) (v_and1 (v_not (VE.vp (v_isi rfl z_isinstance b_isinstance (vp_var 0 (pv 0)) (pe_bltn rfl z_bool b_bool rfl))))))))
/-! check_polynomial -/
abbrev ws_check_polynomial : Stmt := topS 7
abbrev wN_check_polynomial : List Str := ["polynomial", "most", "bound", "coefficient"]
theorem wsc_check_polynomial : FnScope wN_check_polynomial ["polynomial", "most", "bound"] (defScope ws_check_polynomial) := ⟨rfl, rfl, rfl, by decide +kernel, rfl, by decide +kernel, by decide +kernel⟩
theorem wd_check_polynomial {P : Program} {w : World} {K : Fg} {mg : Str → Option Value} {base : Heap} (Fn : DfK K mg "check_polynomial" ws_check_polynomial ["polynomial", "most", "bound"] ["most", "bound"] 1) (C_is_whole : Cl P w K mg base 1 "is_whole" ["value"] m__law_is_whole) {a_BadSize : Addr} (m_BadSize : mg "BadSize" = some (.ref a_BadSize)) {a_BadNumber : Addr} (m_BadNumber : mg "BadNumber" = some (.ref a_BadNumber)) (S_BadSize : ExK P K a_BadSize) (S_BadNumber : ExK P K a_BadNumber) (z_len : mg "len" = none) (z_super : mg "super" = none) : ClK P w K mg base 2 "check_polynomial" ["polynomial", "most", "bound"] ["most", "bound"] 1 m_check_polynomial :=
  clK_ok Fn wsc_check_polynomial fun f cdv A outer s H E I => by
    unfold c_check_polynomial b_check_polynomial_1
    exact (vss_cons (vs_if (t_cmp d_gt (VE.vp (v_blt c_len rfl z_len b_len (vap_cons (vp_var 0 (pv 0)) (vap_nil)))) (VE.vp (v_op d_add (vp_var 1 (pv 1)) (VE.vp (ve_int))))) (vss_one (vs_raiseC S_BadSize m_BadSize z_super I.tk I.hr)) (vss_nil)) (vss_cons (vs_for I.hp rfl (vi_seq (ve_var 0 (pv 0))) (vg_name (pg_name (i := 3) wsc_check_polynomial.nd rfl (by first | exact Or.inl rfl | exact Or.inr rfl))) (vss_one (vs_if (VW.vt (vw_or (vt_not (t_tru (VE.vp (v_calC C_is_whole I.hr I.gd I.tk (va_cons (ve_var 3 (pv 3)) (va_nil)))))) (vw_or1 (vt_not (t_chain d_lt d_lt (VE.vp (v_un d_neg (vp_var 2 (pv 2)))) (vp_var 3 (pv 3)) (vp_var 2 (pv 2))))))) (vss_one (vs_raiseC S_BadNumber m_BadNumber z_super I.tk I.hr)) (vss_nil)))) (vss_one (vs_if (VW.vt (vw_and (t_tru (vp_var 0 (pv 0))) (vw_and1 (t_cmp (d_eq I.hr.units) (VE.vp (v_ix d_ix (vp_var 0 (pv 0)) (VE.vp (v_un d_neg (VE.vp (ve_int)))))) (VE.vp (ve_int)))))) (vss_one (vs_raiseC S_BadNumber m_BadNumber z_super I.tk I.hr)) (vss_nil)))))
/-! check_family -/
abbrev ws_check_family : Stmt := topS 9
abbrev wN_check_family : List Str := ["family", "many", "rows", "coefficients", "constant", "a"]
theorem wsc_check_family : FnScope wN_check_family ["family"] (defScope ws_check_family) := ⟨rfl, rfl, rfl, by decide +kernel, rfl, by decide +kernel, by decide +kernel⟩
theorem wd_check_family {P : Program} {w : World} {K : Fg} {mg : Str → Option Value} {base : Heap} (Fn : Df K mg "check_family" ws_check_family ["family"]) (C_is_whole : Cl P w K mg base 1 "is_whole" ["value"] m__law_is_whole) (C_check_polynomial : ClK P w K mg base 2 "check_polynomial" ["polynomial", "most", "bound"] ["most", "bound"] 1 m_check_polynomial) {a_BadSize : Addr} (m_BadSize : mg "BadSize" = some (.ref a_BadSize)) (S_BadSize : ExK P K a_BadSize) (z_len : mg "len" = none) (z_super : mg "super" = none) : Cl P w K mg base 3 "check_family" ["family"] m_check_family :=
  cl_ok Fn wsc_check_family fun f cdv A outer s H E I => by
    unfold c_check_family b_check_family_2 b_check_family_1
    exact (vss_cons (vs_asg (ve_var 0 (pv 0)) (vg_tup rfl (vgs_cons (vg_name (pg_name (i := 1) wsc_check_family.nd rfl (by first | exact Or.inl rfl | exact Or.inr rfl))) (vgs_cons (vg_name (pg_name (i := 2) wsc_check_family.nd rfl (by first | exact Or.inl rfl | exact Or.inr rfl))) (vgs_nil))))) (vss_cons (vs_if (VW.vt (vw_or (vt_not (t_tru (VE.vp (v_calC C_is_whole I.hr I.gd I.tk (va_cons (ve_var 1 (pv 1)) (va_nil)))))) (vw_or (vt_not (t_chain d_le d_le (VE.vp (ve_int)) (vp_var 1 (pv 1)) (VE.vp (ve_int)))) (vw_or1 (t_cmp d_gt (VE.vp (v_blt c_len rfl z_len b_len (vap_cons (vp_var 2 (pv 2)) (vap_nil)))) (VE.vp (ve_int))))))) (vss_one (vs_raiseC S_BadSize m_BadSize z_super I.tk I.hr)) (vss_nil)) (vss_one (vs_for I.hp rfl (vi_seq (ve_var 2 (pv 2))) (vg_tup rfl (vgs_cons (vg_name (pg_name (i := 3) wsc_check_family.nd rfl (by first | exact Or.inl rfl | exact Or.inr rfl))) (vgs_cons (vg_name (pg_name (i := 4) wsc_check_family.nd rfl (by first | exact Or.inl rfl | exact Or.inr rfl))) (vgs_nil)))) (vss_cons (vs_if (t_cmp (d_ne I.hr.units) (VE.vp (v_blt c_len rfl z_len b_len (vap_cons (vp_var 3 (pv 3)) (vap_nil)))) (vp_var 1 (pv 1))) (vss_one (vs_raiseC S_BadSize m_BadSize z_super I.tk I.hr)) (vss_nil)) (vss_one (vs_for I.hp rfl (vi_seq (v_op d_add (vp_var 3 (pv 3)) (VE.vp (VO.ve (vo_lst (va_cons (ve_var 4 (pv 4)) (va_nil))))))) (vg_name (pg_name (i := 5) wsc_check_family.nd rfl (by first | exact Or.inl rfl | exact Or.inr rfl))) (vss_one (vs_expr (v_calK C_check_polynomial I.hr I.gd I.tk (va_cons (ve_var 5 (pv 5)) (va_nil)) (vk_cons (ve_int) (vk_cons (ve_int) (vk_nil)))))))))))))
/-! _law_told -/
abbrev ws__law_told : Stmt := topS 34
abbrev wN__law_told : List Str := ["_law_many", "_law_rows", "_law_answer", "e", "_law_marks", "_law_names", "_law_k"]
theorem wsc__law_told : FnScope wN__law_told ["_law_many", "_law_rows"] (defScope ws__law_told) := ⟨rfl, rfl, rfl, by decide +kernel, rfl, by decide +kernel, by decide +kernel⟩
theorem wd__law_told {P : Program} {w : World} {K : Fg} {mg : Str → Option Value} {base : Heap} (Fn : Df K mg "_law_told" ws__law_told ["_law_many", "_law_rows"]) (C_check_family : Cl P w K mg base 3 "check_family" ["family"] m_check_family) {a_WhereError : Addr} (m_WhereError : mg "WhereError" = some (.ref a_WhereError)) {a_BadNumber : Addr} (m_BadNumber : mg "BadNumber" = some (.ref a_BadNumber)) {a_BadSize : Addr} (m_BadSize : mg "BadSize" = some (.ref a_BadSize)) (E0__law_told : ∀ p ∈ ([("BadNumber", a_BadNumber), ("BadSize", a_BadSize)] : List (Str × Addr)), mg p.1 = some (.ref p.2) ∧ PySem.W.exmOne K (.ref p.2) (.ref a_WhereError) = some true) (X0__law_told : ∀ p ∈ ([("BadNumber", a_BadNumber), ("BadSize", a_BadSize)] : List (Str × Addr)), ExcC K p.2) (T0__law_told : ∀ p ∈ ([("BadNumber", a_BadNumber), ("BadSize", a_BadSize)] : List (Str × Addr)), ∀ q ∈ ([("BadNumber", .ref a_BadNumber), ("BadSize", .ref a_BadSize), ("ValueError", .type "ValueError")] : List (Str × Value)), PySem.W.kitOne K (.ref p.2) q.2 = some (isaX [("BadNumber", ["BadNumber", "WhereError", "ValueError", "Exception", "BaseException", "object"]), ("BadSize", ["BadSize", "WhereError", "ValueError", "Exception", "BaseException", "object"])] p.1 q.1)) (z_isinstance : mg "isinstance" = none) (z_range : mg "range" = none) (z_ValueError : mg "ValueError" = none) (z_len : mg "len" = none) : Cl P w K mg base 4 "_law_told" ["_law_many", "_law_rows"] m__law_told :=
  cl_ok Fn wsc__law_told fun f cdv A outer s H E I => by
    unfold c__law_told
    exact (vss_cons (vs_try (i := 3) (Sx := fun n a => sSeq (sSet 4 (eLst (e1 lim (eCons (eIsE n a (isaX [("BadNumber", ["BadNumber", "WhereError", "ValueError", "Exception", "BaseException", "object"]), ("BadSize", ["BadSize", "WhereError", "ValueError", "Exception", "BaseException", "object"])] n "BadSize") (eOwn 3)) (eCons (eIsE n a (isaX [("BadNumber", ["BadNumber", "WhereError", "ValueError", "Exception", "BaseException", "object"]), ("BadSize", ["BadSize", "WhereError", "ValueError", "Exception", "BaseException", "object"])] n "BadNumber") (eOwn 3)) (cst [])))))) (sSeq (sSetO 5 (eComp [6] (e1 range1D (eCons (cst (.int 2)) (cst []))) (gSet 6) (e1 truD (e2 ixD (eOwn 4) (eOwn 6))) (e2 ixD (eLst (e1 lim (eCons (cst (.str "size")) (eCons (cst (.str "number")) (cst []))))) (eOwn 6)))) (sFz 5 (sSeq (sIf (eOr (e1 bOf (e2 neD (e1 lenD (eCons (eOwn 5) (cst []))) (cst (.int 1)))) (eNot (e1 truD (eIsE n a (isaX [("BadNumber", ["BadNumber", "WhereError", "ValueError", "Exception", "BaseException", "object"]), ("BadSize", ["BadSize", "WhereError", "ValueError", "Exception", "BaseException", "object"])] n "ValueError") (eOwn 3))))) (sRet (e1 tupD (eCons (cst (.str "refused")) (cst [])))) (sNil)) (sRet (e1 tupD (eCons (cst (.str "told")) (eCons (e2 ixD (eOwn 5) (cst (.int 0))) (cst []))))))))) [("BadNumber", a_BadNumber), ("BadSize", a_BadSize)] rfl rfl wsc__law_told.nd rfl rfl ⟨rfl, by decide, Or.inl m_WhereError⟩ I.tk E0__law_told (fun W1 pn1 xe1 tk1 hp1 => have I := Inn.tr I tk1 hp1; vss_one (vs_set (i := 2) wsc__law_told.nd rfl (by first | exact Or.inl rfl | exact Or.inr rfl) (v_calC C_check_family I.hr I.gd I.tk (va_cons (ve_tup (va_cons (ve_var 0 (pv 0)) (va_cons (ve_var 1 (pv 1)) (va_nil)))) (va_nil))))) (fun p hp a oe pn hz hf => have I := Inn.suite I a oe pn; vss_cons (vs_set (i := 4) wsc__law_told.nd rfl (by first | exact Or.inl rfl | exact Or.inr rfl) (VO.ve (vo_lst (va_cons (v_isE (cV := .ref a_BadSize) (cv := .ref a_BadSize) (X0__law_told p hp) hz hf rfl z_isinstance b_isinstance (vp_var 3 (pv 3)) (pe_glob rfl m_BadSize rfl) (fun _ h => h) (T0__law_told p hp ("BadSize", _) (.tail _ (.head _)))) (va_cons (v_isE (cV := .ref a_BadNumber) (cv := .ref a_BadNumber) (X0__law_told p hp) hz hf rfl z_isinstance b_isinstance (vp_var 3 (pv 3)) (pe_glob rfl m_BadNumber rfl) (fun _ h => h) (T0__law_told p hp ("BadNumber", _) (.head _))) (va_nil)))))) (vss_cons (vs_compOH (own := [("_law_k", 6)]) (ts := [6]) (i := 5) (hot_suite hz hf) wsc__law_told.nd rfl rfl (sw_true rfl rfl rfl (by decide +kernel)) (vih_range1 rfl z_range (vap_cons (VE.vp (ve_int)) (vap_nil))) (blkOk_by (N := wN__law_told) (sc := defScope ws__law_told) (by decide +kernel)) (fun _ _ _ _ _ => vg_name (pg_name (i := 6) wsc__law_told.nd rfl (by first | exact Or.inl rfl | exact Or.inr rfl))) (fun _ _ _ _ _ => vts_one (t_tru (VE.vp (v_ix d_ix (vp_var 4 (pv 4)) (vp_var 6 (pv 6)))))) (fun _ _ _ _ _ => v_ix d_ix (VE.vp (VO.ve (vo_lst (va_cons (ve_str) (va_cons (ve_str) (va_nil)))))) (vp_var 6 (pv 6)))) (vss_fz 5 (vss_cons (vs_if (VW.vt (vw_or (t_cmp (d_ne (unitsH I.hr)) (VE.vp (v_blt c_len rfl z_len b_len (vap_cons (vp_var 5 (pv 5)) (vap_nil)))) (VE.vp (ve_int))) (vw_or1 (vt_not (t_tru (VE.vp (v_isE (cV := .ty "ValueError") (cv := .type "ValueError") (X0__law_told p hp) hz hf rfl z_isinstance b_isinstance (vp_var 3 (pv 3)) (pe_bltn rfl z_ValueError b_ValueError rfl) (fun _ h => h) (T0__law_told p hp ("ValueError", _) (.tail _ (.tail _ (.head _))))))))))) (vss_one (vs_ret (ve_tup (va_cons (ve_str) (va_nil))))) (vss_nil)) (vss_one (vs_ret (ve_tup (va_cons (ve_str) (va_cons (v_ix d_ix (vp_var 5 (pv 5)) (VE.vp (ve_int))) (va_nil))))))))))) (vss_cons (vs_if (t_cmp d_is (vp_var 2 (pv 2)) (VE.vp (ve_non))) (vss_one (vs_ret (ve_tup (va_cons (ve_str) (va_cons (ve_str) (va_nil)))))) (vss_nil)) (vss_one (vs_ret (ve_tup (va_cons (ve_str) (va_nil)))))))
/-! _law_is_whole -/
abbrev ws__law_is_whole : Stmt := topS 31
abbrev wN__law_is_whole : List Str := ["_law_value"]
theorem wsc__law_is_whole : FnScope wN__law_is_whole ["_law_value"] (defScope ws__law_is_whole) := ⟨rfl, rfl, rfl, by decide +kernel, rfl, by decide +kernel, by decide +kernel⟩
theorem wd__law_is_whole {P : Program} {w : World} {K : Fg} {mg : Str → Option Value} {base : Heap} (Fn : Df K mg "_law_is_whole" ws__law_is_whole ["_law_value"]) (z_isinstance : mg "isinstance" = none) (z_bool : mg "bool" = none) (z_int : mg "int" = none) : Cl P w K mg base 1 "_law_is_whole" ["_law_value"] m__law_is_whole :=
  cl_ok Fn wsc__law_is_whole fun f cdv A outer s H E I => by
    unfold c__law_is_whole
    exact (vss_one (vs_ret (v_and (v_isi rfl z_isinstance b_isinstance (vp_var 0 (pv 0)) (pe_bltn rfl z_int b_int rfl)) (v_and1 (v_not (VE.vp (v_isi rfl z_isinstance b_isinstance (vp_var 0 (pv 0)) (pe_bltn rfl z_bool b_bool rfl))))))))
/-! _law_polynomial_due -/
abbrev ws__law_polynomial_due : Stmt := topS 32
abbrev wN__law_polynomial_due : List Str := ["_law_a", "_law_one"]
theorem wsc__law_polynomial_due : FnScope wN__law_polynomial_due ["_law_a"] (defScope ws__law_polynomial_due) := ⟨rfl, rfl, rfl, by decide +kernel, rfl, by decide +kernel, by decide +kernel⟩
theorem wd__law_polynomial_due {P : Program} {w : World} {K : Fg} {mg : Str → Option Value} {base : Heap} (Fn : Df K mg "_law_polynomial_due" ws__law_polynomial_due ["_law_a"]) (C__law_is_whole : Cl P w K mg base 1 "_law_is_whole" ["_law_value"] m__law_is_whole) (z_len : mg "len" = none) (z_abs : mg "abs" = none) : Cl P w K mg base 2 "_law_polynomial_due" ["_law_a"] m__law_polynomial_due :=
  cl_ok Fn wsc__law_polynomial_due fun f cdv A outer s H E I => by
    unfold c__law_polynomial_due b__law_polynomial_due_1
    exact (vss_cons (vs_if (t_cmp d_gt (VE.vp (v_blt c_len rfl z_len b_len (vap_cons (vp_var 0 (pv 0)) (vap_nil)))) (VE.vp (ve_int))) (vss_one (vs_ret (ve_str))) (vss_nil)) (vss_cons (vs_for I.hp rfl (vi_seq (ve_var 0 (pv 0))) (vg_name (pg_name (i := 1) wsc__law_polynomial_due.nd rfl (by first | exact Or.inl rfl | exact Or.inr rfl))) (vss_one (vs_if (VW.vt (vw_or (vt_not (t_tru (VE.vp (v_calC C__law_is_whole I.hr I.gd I.tk (va_cons (ve_var 1 (pv 1)) (va_nil)))))) (vw_or1 (t_cmp d_ge (VE.vp (v_blt c_abs rfl z_abs b_abs (vap_cons (vp_var 1 (pv 1)) (vap_nil)))) (VE.vp (ve_int)))))) (vss_one (vs_ret (ve_str))) (vss_nil)))) (vss_cons (vs_if (VW.vt (vw_and (t_cmp d_gt (VE.vp (v_blt c_len rfl z_len b_len (vap_cons (vp_var 0 (pv 0)) (vap_nil)))) (VE.vp (ve_int))) (vw_and1 (t_cmp (d_eq I.hr.units) (VE.vp (v_ix d_ix (vp_var 0 (pv 0)) (VE.vp (v_un d_neg (VE.vp (ve_int)))))) (VE.vp (ve_int)))))) (vss_one (vs_ret (ve_str))) (vss_nil)) (vss_one (vs_ret (ve_str))))))
/-! _law_due -/
abbrev ws__law_due : Stmt := topS 33
abbrev wN__law_due : List Str := ["_law_many", "_law_rows", "_law_coefficients", "_law_constant", "_law_a"]
theorem wsc__law_due : FnScope wN__law_due ["_law_many", "_law_rows"] (defScope ws__law_due) := ⟨rfl, rfl, rfl, by decide +kernel, rfl, by decide +kernel, by decide +kernel⟩
theorem wd__law_due {P : Program} {w : World} {K : Fg} {mg : Str → Option Value} {base : Heap} (Fn : Df K mg "_law_due" ws__law_due ["_law_many", "_law_rows"]) (C__law_is_whole : Cl P w K mg base 1 "_law_is_whole" ["_law_value"] m__law_is_whole) (C__law_polynomial_due : Cl P w K mg base 2 "_law_polynomial_due" ["_law_a"] m__law_polynomial_due) (z_len : mg "len" = none) : Cl P w K mg base 3 "_law_due" ["_law_many", "_law_rows"] m__law_due :=
  cl_ok Fn wsc__law_due fun f cdv A outer s H E I => by
    unfold c__law_due b__law_due_2 b__law_due_1
    exact (vss_cons (vs_if (VW.vt (vw_or (vt_not (t_tru (VE.vp (v_calC C__law_is_whole I.hr I.gd I.tk (va_cons (ve_var 0 (pv 0)) (va_nil)))))) (vw_or (t_cmp d_lt (vp_var 0 (pv 0)) (VE.vp (ve_int))) (vw_or (t_cmp d_gt (vp_var 0 (pv 0)) (VE.vp (ve_int))) (vw_or1 (t_cmp d_gt (VE.vp (v_blt c_len rfl z_len b_len (vap_cons (vp_var 1 (pv 1)) (vap_nil)))) (VE.vp (ve_int)))))))) (vss_one (vs_ret (ve_str))) (vss_nil)) (vss_cons (vs_for I.hp rfl (vi_seq (ve_var 1 (pv 1))) (vg_tup rfl (vgs_cons (vg_name (pg_name (i := 2) wsc__law_due.nd rfl (by first | exact Or.inl rfl | exact Or.inr rfl))) (vgs_cons (vg_name (pg_name (i := 3) wsc__law_due.nd rfl (by first | exact Or.inl rfl | exact Or.inr rfl))) (vgs_nil)))) (vss_cons (vs_if (t_cmp (d_ne I.hr.units) (VE.vp (v_blt c_len rfl z_len b_len (vap_cons (vp_var 2 (pv 2)) (vap_nil)))) (vp_var 0 (pv 0))) (vss_one (vs_ret (ve_str))) (vss_nil)) (vss_one (vs_for I.hp rfl (vi_seq (v_op d_add (vp_var 2 (pv 2)) (VE.vp (VO.ve (vo_lst (va_cons (ve_var 3 (pv 3)) (va_nil))))))) (vg_name (pg_name (i := 4) wsc__law_due.nd rfl (by first | exact Or.inl rfl | exact Or.inr rfl))) (vss_one (vs_if (t_cmp (d_ne I.hr.units) (VE.vp (v_calC C__law_polynomial_due I.hr I.gd I.tk (va_cons (ve_var 4 (pv 4)) (va_nil)))) (VE.vp (ve_str))) (vss_one (vs_ret (v_calC C__law_polynomial_due I.hr I.gd I.tk (va_cons (ve_var 4 (pv 4)) (va_nil))))) (vss_nil))))))) (vss_one (vs_ret (ve_str)))))
/-! law -/
abbrev ws_law : Stmt := topS 35
abbrev wN_law : List Str := ["_law_script", "_law_draws_here", "_law_many", "_law_rows", "_law_good", "_law_told_here", "_law_kept", "_law_turn", "_law_wide"]
theorem wsc_law : FnScope wN_law ["_law_script"] (defScope ws_law) := ⟨rfl, rfl, rfl, by decide +kernel, rfl, by decide +kernel, by decide +kernel⟩
theorem wd_law {P : Program} {w : World} {K : Fg} {mg : Str → Option Value} {base : Heap} {f : Addr} {fd : FuncData} (Fn : Fun K "law" "law" ws_law f fd) (C__law_draws : Cl P w K mg base 1 "_law_draws" ["_law_script", "_law_count"] m__law_draws) (C__law_family : Cl P w K mg base 3 "_law_family" ["_law_draws_here"] m__law_family) (C__law_spoilt : Cl P w K mg base 2 "_law_spoilt" ["_law_rows", "_law_draws_here"] m__law_spoilt) (C__law_told : Cl P w K mg base 4 "_law_told" ["_law_many", "_law_rows"] m__law_told) (C__law_due : Cl P w K mg base 3 "_law_due" ["_law_many", "_law_rows"] m__law_due) (z_list : mg "list" = none) (z_int : mg "int" = none) (z_repr : mg "repr" = none) (z_range : mg "range" = none) (z_len : mg "len" = none) : DOk P w K mg base 5 f fd ["_law_script"] m_law :=
  def_ok Fn wsc_law fun cdv A outer s H E I => by
    unfold c_law b_law_4 b_law_3 b_law_2 b_law_1
    exact (vss_cons (vs_set (i := 1) wsc_law.nd rfl (by first | exact Or.inl rfl | exact Or.inr rfl) (v_calC C__law_draws I.hr I.gd I.tk (va_cons (ve_var 0 (pv 0)) (va_cons (ve_int) (va_nil))))) (vss_cons (vs_asg (v_calC C__law_family I.hr I.gd I.tk (va_cons (ve_var 1 (pv 1)) (va_nil))) (vg_tup rfl (vgs_cons (vg_name (pg_name (i := 2) wsc_law.nd rfl (by first | exact Or.inl rfl | exact Or.inr rfl))) (vgs_cons (vg_name (pg_name (i := 3) wsc_law.nd rfl (by first | exact Or.inl rfl | exact Or.inr rfl))) (vgs_nil))))) (vss_cons (vs_set (i := 4) wsc_law.nd rfl (by first | exact Or.inl rfl | exact Or.inr rfl) (VO.ve (v_typO c_listO rfl z_list b_list (vap_cons (vp_var 3 (pv 3)) (vap_nil))))) (vss_cons (vs_set (i := 3) wsc_law.nd rfl (by first | exact Or.inl rfl | exact Or.inr rfl) (v_calC C__law_spoilt I.hr I.gd I.tk (va_cons (v_calC C__law_spoilt I.hr I.gd I.tk (va_cons (ve_var 3 (pv 3)) (va_cons (v_slice (vp_var 1 (pv 1)) (vpo_some (ve_int)) (vpo_some (ve_int))) (va_nil)))) (va_cons (v_slice (vp_var 1 (pv 1)) (vpo_some (ve_int)) (vpo_some (ve_int))) (va_nil))))) (vss_cons (vs_set (i := 5) wsc_law.nd rfl (by first | exact Or.inl rfl | exact Or.inr rfl) (ve_var 2 (pv 2))) (vss_cons (vs_if (t_cmp (d_eq I.hr.units) (VE.vp (v_op d_mod (VE.vp (v_typ c_int rfl z_int b_int (vap_cons (VE.vp (v_ix d_ix (vp_var 1 (pv 1)) (VE.vp (ve_int)))) (vap_nil)))) (VE.vp (ve_int)))) (VE.vp (ve_int))) (vss_one (vs_set (i := 5) wsc_law.nd rfl (by first | exact Or.inl rfl | exact Or.inr rfl) (v_ix d_ix (VE.vp (VO.ve (vo_lst (va_cons (ve_int) (va_cons (ve_int) (va_cons (ve_bl) (va_cons (v_un d_neg (VE.vp (ve_int))) (va_cons (ve_non) (va_cons (ve_str) (va_nil)))))))))) (VE.vp (v_op d_mod (VE.vp (v_typ c_int rfl z_int b_int (vap_cons (VE.vp (v_ix d_ix (vp_var 1 (pv 1)) (VE.vp (ve_int)))) (vap_nil)))) (VE.vp (ve_int))))))) (vss_nil)) (vss_cons (vs_set (i := 6) wsc_law.nd rfl (by first | exact Or.inl rfl | exact Or.inr rfl) (v_blt (c_repr I.gd (u65 I.hr)) rfl z_repr b_repr (vap_cons (VE.vp (ve_tup (va_cons (ve_var 3 (pv 3)) (va_cons (ve_var 4 (pv 4)) (va_nil))))) (vap_nil)))) (vss_cons (vs_for I.hp rfl (vi_range1 rfl z_range (vap_cons (VE.vp (ve_int)) (vap_nil))) (vg_name (pg_name (i := 7) wsc_law.nd rfl (by first | exact Or.inl rfl | exact Or.inr rfl))) (vss_one (vs_if (t_cmp (d_ne I.hr.units) (VE.vp (v_calC C__law_told I.hr I.gd I.tk (va_cons (ve_var 5 (pv 5)) (va_cons (ve_var 3 (pv 3)) (va_nil))))) (VE.vp (ve_tup (va_cons (ve_str) (va_cons (v_calC C__law_due I.hr I.gd I.tk (va_cons (ve_var 5 (pv 5)) (va_cons (ve_var 3 (pv 3)) (va_nil)))) (va_nil)))))) (vss_one (vs_ret (ve_bl))) (vss_nil)))) (vss_cons (vs_if (t_cmp d_gt (VE.vp (v_blt c_len rfl z_len b_len (vap_cons (vp_var 4 (pv 4)) (vap_nil)))) (VE.vp (ve_int))) (vss_cons (vs_set (i := 8) wsc_law.nd rfl (by first | exact Or.inl rfl | exact Or.inr rfl) (v_op d_add (VE.vp (VO.ve (vo_lst (va_cons (ve_tup (va_cons (v_ix d_ix (VE.vp (v_ix d_ix (vp_var 4 (pv 4)) (VE.vp (ve_int)))) (VE.vp (ve_int))) (va_cons (VO.ve (vo_lst (va_cons (ve_int) (va_cons (v_un d_neg (VE.vp (ve_int))) (va_nil))))) (va_nil)))) (va_nil))))) (VE.vp (v_slice (vp_var 4 (pv 4)) (vpo_some (ve_int)) (vpo_none))))) (vss_one (vs_if (t_cmp (d_ne I.hr.units) (VE.vp (v_calC C__law_told I.hr I.gd I.tk (va_cons (ve_var 2 (pv 2)) (va_cons (ve_var 8 (pv 8)) (va_nil))))) (VE.vp (ve_tup (va_cons (ve_str) (va_cons (ve_str) (va_nil)))))) (vss_one (vs_ret (ve_bl))) (vss_nil)))) (vss_nil)) (vss_one (vs_ret (v_and (v_cmp (d_eq I.hr.units) (VE.vp (v_calC C__law_told I.hr I.gd I.tk (va_cons (ve_var 2 (pv 2)) (va_cons (ve_var 4 (pv 4)) (va_nil))))) (VE.vp (ve_tup (va_cons (ve_str) (va_cons (ve_str) (va_nil)))))) (v_and1 (v_cmp (d_eq I.hr.units) (VE.vp (v_blt (c_repr I.gd (u65 I.hr)) rfl z_repr b_repr (vap_cons (VE.vp (ve_tup (va_cons (ve_var 3 (pv 3)) (va_cons (ve_var 4 (pv 4)) (va_nil))))) (vap_nil)))) (vp_var 6 (pv 6))))))))))))))))
/-! the end -/
theorem all_mk {P : Program} {w : World} {K : Fg} {h : Heap} {mg : Str → Option Value} {fa : Addr} (X : K.In h) (G : h.Ns mainGlobals mg) (hfa : mg "law" = some (.ref fa))
    {f0 : Addr} {od0 an0 : Option Addr} {sl0 : Array (Option Value)} {oc0 kV0 dc0 pm0 cd0 ct0 : Value}
    (a0 : PySem.W.nsIn K mainGlobals "_law_draws" = some (some (.ref f0))) (l0 : K.lookup f0 = some ⟨oc0, od0, .func (PySem.W.fnOf "_law_draws" "_law_draws" (defArgs ws__law_draws) (defBody ws__law_draws) (defScope ws__law_draws) .none kV0 dc0 pm0 an0 cd0 ct0), sl0⟩) (c0 : PySem.W.codeIn K cd0 "_law_draws" = true) (k0 : PySem.W.keepIn K (.ref f0) = true)
    {f1 : Addr} {od1 an1 : Option Addr} {sl1 : Array (Option Value)} {oc1 kV1 dc1 pm1 cd1 ct1 : Value}
    (a1 : PySem.W.nsIn K mainGlobals "_law_trim" = some (some (.ref f1))) (l1 : K.lookup f1 = some ⟨oc1, od1, .func (PySem.W.fnOf "_law_trim" "_law_trim" (defArgs ws__law_trim) (defBody ws__law_trim) (defScope ws__law_trim) .none kV1 dc1 pm1 an1 cd1 ct1), sl1⟩) (c1 : PySem.W.codeIn K cd1 "_law_trim" = true) (k1 : PySem.W.keepIn K (.ref f1) = true)
    {f2 : Addr} {od2 an2 : Option Addr} {sl2 : Array (Option Value)} {oc2 kV2 dc2 pm2 cd2 ct2 : Value}
    (a2 : PySem.W.nsIn K mainGlobals "_law_coefficient" = some (some (.ref f2))) (l2 : K.lookup f2 = some ⟨oc2, od2, .func (PySem.W.fnOf "_law_coefficient" "_law_coefficient" (defArgs ws__law_coefficient) (defBody ws__law_coefficient) (defScope ws__law_coefficient) .none kV2 dc2 pm2 an2 cd2 ct2), sl2⟩) (c2 : PySem.W.codeIn K cd2 "_law_coefficient" = true) (k2 : PySem.W.keepIn K (.ref f2) = true)
    {f3 : Addr} {od3 an3 : Option Addr} {sl3 : Array (Option Value)} {oc3 kV3 dc3 pm3 cd3 ct3 : Value}
    (a3 : PySem.W.nsIn K mainGlobals "_law_mul" = some (some (.ref f3))) (l3 : K.lookup f3 = some ⟨oc3, od3, .func (PySem.W.fnOf "_law_mul" "_law_mul" (defArgs ws__law_mul) (defBody ws__law_mul) (defScope ws__law_mul) .none kV3 dc3 pm3 an3 cd3 ct3), sl3⟩) (c3 : PySem.W.codeIn K cd3 "_law_mul" = true) (k3 : PySem.W.keepIn K (.ref f3) = true)
    {f4 : Addr} {od4 an4 : Option Addr} {sl4 : Array (Option Value)} {oc4 kV4 dc4 pm4 cd4 ct4 : Value}
    (a4 : PySem.W.nsIn K mainGlobals "_law_family" = some (some (.ref f4))) (l4 : K.lookup f4 = some ⟨oc4, od4, .func (PySem.W.fnOf "_law_family" "_law_family" (defArgs ws__law_family) (defBody ws__law_family) (defScope ws__law_family) .none kV4 dc4 pm4 an4 cd4 ct4), sl4⟩) (c4 : PySem.W.codeIn K cd4 "_law_family" = true) (k4 : PySem.W.keepIn K (.ref f4) = true)
    {f5 : Addr} {od5 an5 : Option Addr} {sl5 : Array (Option Value)} {oc5 kV5 dc5 pm5 cd5 ct5 : Value}
    (a5 : PySem.W.nsIn K mainGlobals "_law_odd" = some (some (.ref f5))) (l5 : K.lookup f5 = some ⟨oc5, od5, .func (PySem.W.fnOf "_law_odd" "_law_odd" (defArgs ws__law_odd) (defBody ws__law_odd) (defScope ws__law_odd) .none kV5 dc5 pm5 an5 cd5 ct5), sl5⟩) (c5 : PySem.W.codeIn K cd5 "_law_odd" = true) (k5 : PySem.W.keepIn K (.ref f5) = true)
    {f6 : Addr} {od6 an6 : Option Addr} {sl6 : Array (Option Value)} {oc6 kV6 dc6 pm6 cd6 ct6 : Value}
    (a6 : PySem.W.nsIn K mainGlobals "_law_spoilt" = some (some (.ref f6))) (l6 : K.lookup f6 = some ⟨oc6, od6, .func (PySem.W.fnOf "_law_spoilt" "_law_spoilt" (defArgs ws__law_spoilt) (defBody ws__law_spoilt) (defScope ws__law_spoilt) .none kV6 dc6 pm6 an6 cd6 ct6), sl6⟩) (c6 : PySem.W.codeIn K cd6 "_law_spoilt" = true) (k6 : PySem.W.keepIn K (.ref f6) = true)
    {f7 : Addr} {od7 an7 : Option Addr} {sl7 : Array (Option Value)} {oc7 kV7 dc7 pm7 cd7 ct7 : Value}
    (a7 : PySem.W.nsIn K mainGlobals "is_whole" = some (some (.ref f7))) (l7 : K.lookup f7 = some ⟨oc7, od7, .func (PySem.W.fnOf "is_whole" "is_whole" (defArgs ws_is_whole) (defBody ws_is_whole) (defScope ws_is_whole) .none kV7 dc7 pm7 an7 cd7 ct7), sl7⟩) (c7 : PySem.W.codeIn K cd7 "is_whole" = true) (k7 : PySem.W.keepIn K (.ref f7) = true)
    {f8 : Addr} {od8 an8 : Option Addr} {sl8 : Array (Option Value)} {oc8 kV8 dc8 pm8 cd8 ct8 : Value}
    (a8 : PySem.W.nsIn K mainGlobals "check_polynomial" = some (some (.ref f8))) (l8 : K.lookup f8 = some ⟨oc8, od8, .func (PySem.W.fnOf "check_polynomial" "check_polynomial" (defArgs ws_check_polynomial) (defBody ws_check_polynomial) (defScope ws_check_polynomial) .none kV8 dc8 pm8 an8 cd8 ct8), sl8⟩) (c8 : PySem.W.codeIn K cd8 "check_polynomial" = true) (k8 : PySem.W.keepIn K (.ref f8) = true)
    {f9 : Addr} {od9 an9 : Option Addr} {sl9 : Array (Option Value)} {oc9 kV9 dc9 pm9 cd9 ct9 : Value}
    (a9 : PySem.W.nsIn K mainGlobals "check_family" = some (some (.ref f9))) (l9 : K.lookup f9 = some ⟨oc9, od9, .func (PySem.W.fnOf "check_family" "check_family" (defArgs ws_check_family) (defBody ws_check_family) (defScope ws_check_family) .none kV9 dc9 pm9 an9 cd9 ct9), sl9⟩) (c9 : PySem.W.codeIn K cd9 "check_family" = true) (k9 : PySem.W.keepIn K (.ref f9) = true)
    {f10 : Addr} {od10 an10 : Option Addr} {sl10 : Array (Option Value)} {oc10 kV10 dc10 pm10 cd10 ct10 : Value}
    (a10 : PySem.W.nsIn K mainGlobals "_law_told" = some (some (.ref f10))) (l10 : K.lookup f10 = some ⟨oc10, od10, .func (PySem.W.fnOf "_law_told" "_law_told" (defArgs ws__law_told) (defBody ws__law_told) (defScope ws__law_told) .none kV10 dc10 pm10 an10 cd10 ct10), sl10⟩) (c10 : PySem.W.codeIn K cd10 "_law_told" = true) (k10 : PySem.W.keepIn K (.ref f10) = true)
    {f11 : Addr} {od11 an11 : Option Addr} {sl11 : Array (Option Value)} {oc11 kV11 dc11 pm11 cd11 ct11 : Value}
    (a11 : PySem.W.nsIn K mainGlobals "_law_is_whole" = some (some (.ref f11))) (l11 : K.lookup f11 = some ⟨oc11, od11, .func (PySem.W.fnOf "_law_is_whole" "_law_is_whole" (defArgs ws__law_is_whole) (defBody ws__law_is_whole) (defScope ws__law_is_whole) .none kV11 dc11 pm11 an11 cd11 ct11), sl11⟩) (c11 : PySem.W.codeIn K cd11 "_law_is_whole" = true) (k11 : PySem.W.keepIn K (.ref f11) = true)
    {f12 : Addr} {od12 an12 : Option Addr} {sl12 : Array (Option Value)} {oc12 kV12 dc12 pm12 cd12 ct12 : Value}
    (a12 : PySem.W.nsIn K mainGlobals "_law_polynomial_due" = some (some (.ref f12))) (l12 : K.lookup f12 = some ⟨oc12, od12, .func (PySem.W.fnOf "_law_polynomial_due" "_law_polynomial_due" (defArgs ws__law_polynomial_due) (defBody ws__law_polynomial_due) (defScope ws__law_polynomial_due) .none kV12 dc12 pm12 an12 cd12 ct12), sl12⟩) (c12 : PySem.W.codeIn K cd12 "_law_polynomial_due" = true) (k12 : PySem.W.keepIn K (.ref f12) = true)
    {f13 : Addr} {od13 an13 : Option Addr} {sl13 : Array (Option Value)} {oc13 kV13 dc13 pm13 cd13 ct13 : Value}
    (a13 : PySem.W.nsIn K mainGlobals "_law_due" = some (some (.ref f13))) (l13 : K.lookup f13 = some ⟨oc13, od13, .func (PySem.W.fnOf "_law_due" "_law_due" (defArgs ws__law_due) (defBody ws__law_due) (defScope ws__law_due) .none kV13 dc13 pm13 an13 cd13 ct13), sl13⟩) (c13 : PySem.W.codeIn K cd13 "_law_due" = true) (k13 : PySem.W.keepIn K (.ref f13) = true)
    {f14 : Addr} {od14 an14 : Option Addr} {sl14 : Array (Option Value)} {oc14 kV14 dc14 pm14 cd14 ct14 : Value}
    (a14 : PySem.W.nsIn K mainGlobals "law" = some (some (.ref f14))) (l14 : K.lookup f14 = some ⟨oc14, od14, .func (PySem.W.fnOf "law" "law" (defArgs ws_law) (defBody ws_law) (defScope ws_law) .none kV14 dc14 pm14 an14 cd14 ct14), sl14⟩) (c14 : PySem.W.codeIn K cd14 "law" = true) (k14 : PySem.W.keepIn K (.ref f14) = true)
    {a_BadSize : Addr} (ac_BadSize : PySem.W.nsIn K mainGlobals "BadSize" = some (some (.ref a_BadSize)))
    {a_BadNumber : Addr} (ac_BadNumber : PySem.W.nsIn K mainGlobals "BadNumber" = some (some (.ref a_BadNumber)))
    {a_WhereError : Addr} (ac_WhereError : PySem.W.nsIn K mainGlobals "WhereError" = some (some (.ref a_WhereError)))
    (S_BadSize : ExK P K a_BadSize)
    (S_BadNumber : ExK P K a_BadNumber)
    (bs_WhereError : PySem.W.subIn K (.ref a_WhereError) (.type "BaseException") = some true)
    (bd_WhereError : PySem.W.hasDictIn K a_WhereError = true)
    (bt_WhereError : PySem.W.typeIn K (.ref a_WhereError) = some (.type "type"))
    (su_BadNumber_WhereError : PySem.W.subIn K (.ref a_BadNumber) (.ref a_WhereError) = some true)
    (su_BadSize_WhereError : PySem.W.subIn K (.ref a_BadSize) (.ref a_WhereError) = some true)
    (bd_BadSize : PySem.W.hasDictIn K a_BadSize = true)
    (bt_BadSize : PySem.W.typeIn K (.ref a_BadSize) = some (.type "type"))
    (bd_BadNumber : PySem.W.hasDictIn K a_BadNumber = true)
    (bt_BadNumber : PySem.W.typeIn K (.ref a_BadNumber) = some (.type "type"))
    (su_BadNumber_BadSize : PySem.W.subIn K (.ref a_BadNumber) (.ref a_BadSize) = some false)
    (ne_BadNumber_BadSize : (Value.ref a_BadNumber == Value.ref a_BadSize) = false)
    (su_BadNumber_ValueError : PySem.W.subIn K (.ref a_BadNumber) (.type "ValueError") = some true)
    (su_BadSize_BadNumber : PySem.W.subIn K (.ref a_BadSize) (.ref a_BadNumber) = some false)
    (ne_BadSize_BadNumber : (Value.ref a_BadSize == Value.ref a_BadNumber) = false)
    (su_BadSize_ValueError : PySem.W.subIn K (.ref a_BadSize) (.type "ValueError") = some true)
    (zz_range : PySem.W.nsIn K mainGlobals "range" = some none)
    (zz_len : PySem.W.nsIn K mainGlobals "len" = some none)
    (zz_int : PySem.W.nsIn K mainGlobals "int" = some none)
    (zz_list : PySem.W.nsIn K mainGlobals "list" = some none)
    (zz_max : PySem.W.nsIn K mainGlobals "max" = some none)
    (zz_isinstance : PySem.W.nsIn K mainGlobals "isinstance" = some none)
    (zz_bool : PySem.W.nsIn K mainGlobals "bool" = some none)
    (zz_super : PySem.W.nsIn K mainGlobals "super" = some none)
    (zz_ValueError : PySem.W.nsIn K mainGlobals "ValueError" = some none)
    (zz_abs : PySem.W.nsIn K mainGlobals "abs" = some none)
    (zz_repr : PySem.W.nsIn K mainGlobals "repr" = some none) :
    ∃ fd : FuncData, (∀ (s : Shared) (u : Value), BindsTo s fd ⟨[u], []⟩ [("_law_script", u)]) ∧ ∀ base, DOk P w K mg base 5 fa fd ["_law_script"] m_law := by
  have F0 := fun_mk (st := ws__law_draws) l0 c0 k0
  have D__law_draws : Df K mg "_law_draws" ws__law_draws ["_law_script", "_law_count"] := ⟨_, _, F0, PySem.W.mg_of X G a0, F0.binds (ps := ["_law_script", "_law_count"]) fun _ _ _ _ _ _ us hl => match us, hl with | [_, _], _ => rfl⟩
  have F1 := fun_mk (st := ws__law_trim) l1 c1 k1
  have D__law_trim : Df K mg "_law_trim" ws__law_trim ["_law_a"] := ⟨_, _, F1, PySem.W.mg_of X G a1, F1.binds (ps := ["_law_a"]) fun _ _ _ _ _ _ us hl => match us, hl with | [_], _ => rfl⟩
  have F2 := fun_mk (st := ws__law_coefficient) l2 c2 k2
  have D__law_coefficient : Df K mg "_law_coefficient" ws__law_coefficient ["_law_draws_here"] := ⟨_, _, F2, PySem.W.mg_of X G a2, F2.binds (ps := ["_law_draws_here"]) fun _ _ _ _ _ _ us hl => match us, hl with | [_], _ => rfl⟩
  have F3 := fun_mk (st := ws__law_mul) l3 c3 k3
  have D__law_mul : Df K mg "_law_mul" ws__law_mul ["_law_a", "_law_b"] := ⟨_, _, F3, PySem.W.mg_of X G a3, F3.binds (ps := ["_law_a", "_law_b"]) fun _ _ _ _ _ _ us hl => match us, hl with | [_, _], _ => rfl⟩
  have F4 := fun_mk (st := ws__law_family) l4 c4 k4
  have D__law_family : Df K mg "_law_family" ws__law_family ["_law_draws_here"] := ⟨_, _, F4, PySem.W.mg_of X G a4, F4.binds (ps := ["_law_draws_here"]) fun _ _ _ _ _ _ us hl => match us, hl with | [_], _ => rfl⟩
  have F5 := fun_mk (st := ws__law_odd) l5 c5 k5
  have D__law_odd : Df K mg "_law_odd" ws__law_odd ["_law_draw"] := ⟨_, _, F5, PySem.W.mg_of X G a5, F5.binds (ps := ["_law_draw"]) fun _ _ _ _ _ _ us hl => match us, hl with | [_], _ => rfl⟩
  have F6 := fun_mk (st := ws__law_spoilt) l6 c6 k6
  have D__law_spoilt : Df K mg "_law_spoilt" ws__law_spoilt ["_law_rows", "_law_draws_here"] := ⟨_, _, F6, PySem.W.mg_of X G a6, F6.binds (ps := ["_law_rows", "_law_draws_here"]) fun _ _ _ _ _ _ us hl => match us, hl with | [_, _], _ => rfl⟩
  have F7 := fun_mk (st := ws_is_whole) l7 c7 k7
  have D_is_whole : Df K mg "is_whole" ws_is_whole ["value"] := ⟨_, _, F7, PySem.W.mg_of X G a7, F7.binds (ps := ["value"]) fun _ _ _ _ _ _ us hl => match us, hl with | [_], _ => rfl⟩
  have F8 := fun_mk (st := ws_check_polynomial) l8 c8 k8
  have D_check_polynomial : DfK K mg "check_polynomial" ws_check_polynomial ["polynomial", "most", "bound"] ["most", "bound"] 1 := ⟨_, _, F8, PySem.W.mg_of X G a8, kb_of (ps := ["polynomial", "most", "bound"]) F8 fun _ _ _ _ _ _ us vs hl hm => match us, vs, hl, hm with | [_], [_, _], _, _ => rfl⟩
  have F9 := fun_mk (st := ws_check_family) l9 c9 k9
  have D_check_family : Df K mg "check_family" ws_check_family ["family"] := ⟨_, _, F9, PySem.W.mg_of X G a9, F9.binds (ps := ["family"]) fun _ _ _ _ _ _ us hl => match us, hl with | [_], _ => rfl⟩
  have F10 := fun_mk (st := ws__law_told) l10 c10 k10
  have D__law_told : Df K mg "_law_told" ws__law_told ["_law_many", "_law_rows"] := ⟨_, _, F10, PySem.W.mg_of X G a10, F10.binds (ps := ["_law_many", "_law_rows"]) fun _ _ _ _ _ _ us hl => match us, hl with | [_, _], _ => rfl⟩
  have F11 := fun_mk (st := ws__law_is_whole) l11 c11 k11
  have D__law_is_whole : Df K mg "_law_is_whole" ws__law_is_whole ["_law_value"] := ⟨_, _, F11, PySem.W.mg_of X G a11, F11.binds (ps := ["_law_value"]) fun _ _ _ _ _ _ us hl => match us, hl with | [_], _ => rfl⟩
  have F12 := fun_mk (st := ws__law_polynomial_due) l12 c12 k12
  have D__law_polynomial_due : Df K mg "_law_polynomial_due" ws__law_polynomial_due ["_law_a"] := ⟨_, _, F12, PySem.W.mg_of X G a12, F12.binds (ps := ["_law_a"]) fun _ _ _ _ _ _ us hl => match us, hl with | [_], _ => rfl⟩
  have F13 := fun_mk (st := ws__law_due) l13 c13 k13
  have D__law_due : Df K mg "_law_due" ws__law_due ["_law_many", "_law_rows"] := ⟨_, _, F13, PySem.W.mg_of X G a13, F13.binds (ps := ["_law_many", "_law_rows"]) fun _ _ _ _ _ _ us hl => match us, hl with | [_, _], _ => rfl⟩
  have F14 := fun_mk (st := ws_law) l14 c14 k14
  have e := hfa.symm.trans (PySem.W.mg_of X G a14)
  cases e
  have m_BadSize : mg "BadSize" = some (.ref a_BadSize) := PySem.W.mg_of X G ac_BadSize
  have m_BadNumber : mg "BadNumber" = some (.ref a_BadNumber) := PySem.W.mg_of X G ac_BadNumber
  have m_WhereError : mg "WhereError" = some (.ref a_WhereError) := PySem.W.mg_of X G ac_WhereError
  have ex_BadNumber_WhereError : PySem.W.exmOne K (.ref a_BadNumber) (.ref a_WhereError) = some true := PySem.W.exm_ref bs_WhereError bd_WhereError bt_WhereError su_BadNumber_WhereError
  have ex_BadSize_WhereError : PySem.W.exmOne K (.ref a_BadSize) (.ref a_WhereError) = some true := PySem.W.exm_ref bs_WhereError bd_WhereError bt_WhereError su_BadSize_WhereError
  have kt_BadNumber_BadNumber : PySem.W.kitOne K (.ref a_BadNumber) (.ref a_BadNumber) = some true := VL.kit_self (beq_self_eq_true _)
  have kt_BadNumber_BadSize : PySem.W.kitOne K (.ref a_BadNumber) (.ref a_BadSize) = some false := VL.kit_ref bd_BadSize bt_BadSize su_BadNumber_BadSize ne_BadNumber_BadSize
  have kt_BadNumber_ValueError : PySem.W.kitOne K (.ref a_BadNumber) (.type "ValueError") = some true := VL.kit_type (by decide +kernel) su_BadNumber_ValueError
  have kt_BadSize_BadNumber : PySem.W.kitOne K (.ref a_BadSize) (.ref a_BadNumber) = some false := VL.kit_ref bd_BadNumber bt_BadNumber su_BadSize_BadNumber ne_BadSize_BadNumber
  have kt_BadSize_BadSize : PySem.W.kitOne K (.ref a_BadSize) (.ref a_BadSize) = some true := VL.kit_self (beq_self_eq_true _)
  have kt_BadSize_ValueError : PySem.W.kitOne K (.ref a_BadSize) (.type "ValueError") = some true := VL.kit_type (by decide +kernel) su_BadSize_ValueError
  have E0__law_told : ∀ p ∈ ([("BadNumber", a_BadNumber), ("BadSize", a_BadSize)] : List (Str × Addr)), mg p.1 = some (.ref p.2) ∧ PySem.W.exmOne K (.ref p.2) (.ref a_WhereError) = some true := (by simp only [List.forall_mem_cons, List.not_mem_nil, false_implies, implies_true, and_true]; exact ⟨⟨m_BadNumber, ex_BadNumber_WhereError⟩, ⟨m_BadSize, ex_BadSize_WhereError⟩⟩)
  have X0__law_told : ∀ p ∈ ([("BadNumber", a_BadNumber), ("BadSize", a_BadSize)] : List (Str × Addr)), ExcC K p.2 := (by simp only [List.forall_mem_cons, List.not_mem_nil, false_implies, implies_true, and_true]; exact ⟨S_BadNumber.exc, S_BadSize.exc⟩)
  have T0__law_told : ∀ p ∈ ([("BadNumber", a_BadNumber), ("BadSize", a_BadSize)] : List (Str × Addr)), ∀ q ∈ ([("BadNumber", .ref a_BadNumber), ("BadSize", .ref a_BadSize), ("ValueError", .type "ValueError")] : List (Str × Value)), PySem.W.kitOne K (.ref p.2) q.2 = some (isaX [("BadNumber", ["BadNumber", "WhereError", "ValueError", "Exception", "BaseException", "object"]), ("BadSize", ["BadSize", "WhereError", "ValueError", "Exception", "BaseException", "object"])] p.1 q.1) := (by simp only [List.forall_mem_cons, List.not_mem_nil, false_implies, implies_true, and_true]; exact ⟨⟨kt_BadNumber_BadNumber, kt_BadNumber_BadSize, kt_BadNumber_ValueError⟩, ⟨kt_BadSize_BadNumber, kt_BadSize_BadSize, kt_BadSize_ValueError⟩⟩)
  have z_range : mg "range" = none := PySem.W.mg_none_of X G zz_range
  have z_len : mg "len" = none := PySem.W.mg_none_of X G zz_len
  have z_int : mg "int" = none := PySem.W.mg_none_of X G zz_int
  have z_list : mg "list" = none := PySem.W.mg_none_of X G zz_list
  have z_max : mg "max" = none := PySem.W.mg_none_of X G zz_max
  have z_isinstance : mg "isinstance" = none := PySem.W.mg_none_of X G zz_isinstance
  have z_bool : mg "bool" = none := PySem.W.mg_none_of X G zz_bool
  have z_super : mg "super" = none := PySem.W.mg_none_of X G zz_super
  have z_ValueError : mg "ValueError" = none := PySem.W.mg_none_of X G zz_ValueError
  have z_abs : mg "abs" = none := PySem.W.mg_none_of X G zz_abs
  have z_repr : mg "repr" = none := PySem.W.mg_none_of X G zz_repr
  have C__law_draws := fun base => wd__law_draws (P := P) (w := w) (base := base) D__law_draws z_range z_len z_int
  have C__law_trim := fun base => wd__law_trim (P := P) (w := w) (base := base) D__law_trim z_list z_range z_len
  have C__law_coefficient := fun base => wd__law_coefficient (P := P) (w := w) (base := base) D__law_coefficient (C__law_trim base) z_int z_range
  have C__law_mul := fun base => wd__law_mul (P := P) (w := w) (base := base) D__law_mul (C__law_trim base) z_len z_range
  have C__law_family := fun base => wd__law_family (P := P) (w := w) (base := base) D__law_family (C__law_coefficient base) (C__law_mul base) z_int z_range z_max z_len
  have C__law_odd := fun base => wd__law_odd (P := P) (w := w) (base := base) D__law_odd z_int
  have C__law_spoilt := fun base => wd__law_spoilt (P := P) (w := w) (base := base) D__law_spoilt (C__law_odd base) z_list z_int z_len z_range
  have C_is_whole := fun base => wd_is_whole (P := P) (w := w) (base := base) D_is_whole z_isinstance z_bool z_int
  have C_check_polynomial := fun base => wd_check_polynomial (P := P) (w := w) (base := base) D_check_polynomial (C_is_whole base) m_BadSize m_BadNumber S_BadSize S_BadNumber z_len z_super
  have C_check_family := fun base => wd_check_family (P := P) (w := w) (base := base) D_check_family (C_is_whole base) (C_check_polynomial base) m_BadSize S_BadSize z_len z_super
  have C__law_told := fun base => wd__law_told (P := P) (w := w) (base := base) D__law_told (C_check_family base) m_WhereError m_BadNumber m_BadSize E0__law_told X0__law_told T0__law_told z_isinstance z_range z_ValueError z_len
  have C__law_is_whole := fun base => wd__law_is_whole (P := P) (w := w) (base := base) D__law_is_whole z_isinstance z_bool z_int
  have C__law_polynomial_due := fun base => wd__law_polynomial_due (P := P) (w := w) (base := base) D__law_polynomial_due (C__law_is_whole base) z_len z_abs
  have C__law_due := fun base => wd__law_due (P := P) (w := w) (base := base) D__law_due (C__law_is_whole base) (C__law_polynomial_due base) z_len
  have C_law := fun base => wd_law (P := P) (w := w) (base := base) F14 (C__law_draws base) (C__law_family base) (C__law_spoilt base) (C__law_told base) (C__law_due base) z_list z_int z_repr z_range z_len
  exact ⟨PySem.W.fnOf "law" "law" (defArgs ws_law) (defBody ws_law) (defScope ws_law) .none kV14 dc14 pm14 an14 cd14 ct14, fun s u => .of_eq rfl, C_law⟩
end W
open PySem PySem.W PyProof.Rows VL
set_option maxHeartbeats 0 in
theorem PySem.Challenge.cw_wheretrue_k76_checks_of_families_holds : PySem.Challenge.rw_wheretrue_k76_checks_of_families.Holds := by
  w_on; o_law; k_head; (case hw => w_witness2)
  k_fill
  refine VL.law_end (l := PySem.Challenge.rw_wheretrue_k76_checks_of_families) (k := 5) (x := "_law_script") (m := W.m_law) rfl rfl ⟨rfl, by decide, by decide⟩ (fun w h Y => PySem.W.kIn_of Y) W.law_true ?F
  case F =>
    intro w mg fa h KX G hmg
    refine' W.all_mk KX G hmg ?a0 ?l0 ?c0 ?k0 ?a1 ?l1 ?c1 ?k1 ?a2 ?l2 ?c2 ?k2 ?a3 ?l3 ?c3 ?k3 ?a4 ?l4 ?c4 ?k4 ?a5 ?l5 ?c5 ?k5 ?a6 ?l6 ?c6 ?k6 ?a7 ?l7 ?c7 ?k7 ?a8 ?l8 ?c8 ?k8 ?a9 ?l9 ?c9 ?k9 ?a10 ?l10 ?c10 ?k10 ?a11 ?l11 ?c11 ?k11 ?a12 ?l12 ?c12 ?k12 ?a13 ?l13 ?c13 ?k13 ?a14 ?l14 ?c14 ?k14 ?ac_BadSize ?ac_BadNumber ?ac_WhereError ?S_BadSize ?S_BadNumber ?bs_WhereError ?bd_WhereError ?bt_WhereError ?su_BadNumber_WhereError ?su_BadSize_WhereError ?bd_BadSize ?bt_BadSize ?bd_BadNumber ?bt_BadNumber ?su_BadNumber_BadSize ?ne_BadNumber_BadSize ?su_BadNumber_ValueError ?su_BadSize_BadNumber ?ne_BadSize_BadNumber ?su_BadSize_ValueError ?zz_range ?zz_len ?zz_int ?zz_list ?zz_max ?zz_isinstance ?zz_bool ?zz_super ?zz_ValueError ?zz_abs ?zz_repr
    (case a0 => k_is); (case l0 => k_is); (case c0 => k_is); (case k0 => k_is); (case a1 => k_is); (case l1 => k_is); (case c1 => k_is); (case k1 => k_is); (case a2 => k_is); (case l2 => k_is); (case c2 => k_is); (case k2 => k_is); (case a3 => k_is); (case l3 => k_is); (case c3 => k_is); (case k3 => k_is); (case a4 => k_is); (case l4 => k_is); (case c4 => k_is); (case k4 => k_is); (case a5 => k_is); (case l5 => k_is); (case c5 => k_is); (case k5 => k_is); (case a6 => k_is); (case l6 => k_is); (case c6 => k_is); (case k6 => k_is); (case a7 => k_is); (case l7 => k_is); (case c7 => k_is); (case k7 => k_is); (case a8 => k_is); (case l8 => k_is); (case c8 => k_is); (case k8 => k_is); (case a9 => k_is); (case l9 => k_is); (case c9 => k_is); (case k9 => k_is); (case a10 => k_is); (case l10 => k_is); (case c10 => k_is); (case k10 => k_is); (case a11 => k_is); (case l11 => k_is); (case c11 => k_is); (case k11 => k_is); (case a12 => k_is); (case l12 => k_is); (case c12 => k_is); (case k12 => k_is); (case a13 => k_is); (case l13 => k_is); (case c13 => k_is); (case k13 => k_is); (case a14 => k_is); (case l14 => k_is); (case c14 => k_is); (case k14 => k_is); (case ac_BadSize => k_is); (case ac_BadNumber => k_is); (case ac_WhereError => k_is); (case S_BadSize => (refine' VL.exK_mk ?iC ?tI ?lk ?code ?lc ?fil ?fe ?lcell ?ini ?cl ?sub ?sup ?subB ?exC ?tyC ?kC ?op ?hg ?hk ?hd ?ha ?hn ?ht ?hm ?par ?binds ?ks ?kc ?ka ?kind ?co ?gen ?nc ?top ?ev; (case iC => k_is); (case tI => k_is); (case lk => k_is); (case code => k_is); (case lc => k_is); (case fil => rfl); (case fe => decide); (case lcell => k_is); (case ini => kx_is); (case cl => k_is); (case sub => k_is); (case sup => ks_is); (case subB => k_is); (case exC => k_is); (case tyC => k_is); (case kC => k_is); (case op => k_is); (case hg => k_is); (case hk => k_is); (case hd => k_is); (case ha => k_is); (case hn => k_is); (case ht => k_is); (case hm => k_is); (case par => rfl); (case binds => exact fun _ _ _ _ _ _ _ => .of_eq rfl); (case ks => rfl); (case kc => rfl); (case ka => rfl); (case kind => rfl); (case co => rfl); (case gen => rfl); (case nc => decide); (case top => decide +kernel); (case ev => exact fun _ => ⟨_, rfl⟩))); (case S_BadNumber => (refine' VL.exK_mk ?iC ?tI ?lk ?code ?lc ?fil ?fe ?lcell ?ini ?cl ?sub ?sup ?subB ?exC ?tyC ?kC ?op ?hg ?hk ?hd ?ha ?hn ?ht ?hm ?par ?binds ?ks ?kc ?ka ?kind ?co ?gen ?nc ?top ?ev; (case iC => k_is); (case tI => k_is); (case lk => k_is); (case code => k_is); (case lc => k_is); (case fil => rfl); (case fe => decide); (case lcell => k_is); (case ini => kx_is); (case cl => k_is); (case sub => k_is); (case sup => ks_is); (case subB => k_is); (case exC => k_is); (case tyC => k_is); (case kC => k_is); (case op => k_is); (case hg => k_is); (case hk => k_is); (case hd => k_is); (case ha => k_is); (case hn => k_is); (case ht => k_is); (case hm => k_is); (case par => rfl); (case binds => exact fun _ _ _ _ _ _ _ => .of_eq rfl); (case ks => rfl); (case kc => rfl); (case ka => rfl); (case kind => rfl); (case co => rfl); (case gen => rfl); (case nc => decide); (case top => decide +kernel); (case ev => exact fun _ => ⟨_, rfl⟩))); (case bs_WhereError => k_is); (case bd_WhereError => k_is); (case bt_WhereError => k_is); (case su_BadNumber_WhereError => first | rfl | k_is); (case su_BadSize_WhereError => first | rfl | k_is); (case bd_BadSize => k_is); (case bt_BadSize => k_is); (case bd_BadNumber => k_is); (case bt_BadNumber => k_is); (case su_BadNumber_BadSize => first | rfl | k_is); (case ne_BadNumber_BadSize => first | rfl | decide); (case su_BadNumber_ValueError => first | rfl | k_is); (case su_BadSize_BadNumber => first | rfl | k_is); (case ne_BadSize_BadNumber => first | rfl | decide); (case su_BadSize_ValueError => first | rfl | k_is); (case zz_range => k_is); (case zz_len => k_is); (case zz_int => k_is); (case zz_list => k_is); (case zz_max => k_is); (case zz_isinstance => k_is); (case zz_bool => k_is); (case zz_super => k_is); (case zz_ValueError => k_is); (case zz_abs => k_is); (case zz_repr => k_is)
